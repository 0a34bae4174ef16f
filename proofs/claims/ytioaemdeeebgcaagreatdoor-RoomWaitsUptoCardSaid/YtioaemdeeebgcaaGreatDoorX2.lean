import Derived.Test.YtioaemdeeebgcaaGreatDoorX1
import Derived.Maps.RangeRun
import Derived.Laws.IdiomStrings
import Derived.MapKept
import Derived.WideKeyRuns
import Derived.Laws.OwnMore
import Derived.RangeFuncRecord
import Derived.Deep.LoopGhost
import Derived.KernelRfl
set_option linter.all false
namespace Go.af
open Go Go.RowKit
variable [aL]
section
variable {P:Program}{V:Env}{w0 w:World}{I0 I:aq}{m:Nat→Value}{l L:List AO}{nid:Nat}{o:Oper}{ρ:Operand→Value}{ρT:Operand→T}
theorem H7(base:Nat)(t ty e:TypeId)(i:TypeInfo)(size:Nat)(j:P.underlying t=some (.slice e))(hi:P.info? e=some i)(v:Value)(n:Nat)(xs:List Value)(B:w.ownsRow base e size v n xs)(c:Nat):(Builtin.append_ #[t,t] ty #[v,.slice none 0 c]).run P w=.ok v w:=by
 rcases B.2 with ⟨rfl,rfl⟩| ⟨g,F,cur,rfl,_,_,k,_⟩
 ·simp[Builtin.append_,run_underlying j,sizeOf,typeInfo,hi,Builtin.lenOf,Builtin.firstCells]
 simp[Builtin.append_,run_underlying j,sizeOf,typeInfo,hi,Builtin.lenOf,Builtin.firstCells,k,storeCells]
theorem H8(hE:bw P V.E)(ax:cw w I){t ty e:TypeId}{i:TI}(k:P.underlying t=some (.slice e))(hi:V.E e=some i)(ag:0<i.size){base:Nat}{v ar:Value}{n aq:Nat}{xs:List Value}{new:List D}(Z:w.ownsRow base e i.size v n xs)(ay:Rd I ar (.slice aq new))(hsz:aq=i.size∨new.isEmpty=true)(ae:(n+new.length)*i.bytes≤140737488355328)(al:n+new.length≤9223372036854775807)(af:base≤w.heap.size) :
  ∃B w' ao,(Builtin.append_ #[t,t] ty #[v,ar]).run P w=.ok B w'∧w'.ownsRow base e i.size B (n+new.length) (xs++ao)∧w.grownBy w' v.ownBlock∧(B.ownBlock=v.ownBlock∨B.ownBlock=some w.heap.size) ∧
   (∀d∈new,d.cells.length=i.size∧∀x∈d.cells,x.one=true)∧(∀(j:Nat) x y,ao[j]?=some x→(flat new)[j]?=some y→Rd I x y):=by
 obtain⟨x,ad,k1,k2,ai,aj,az,aE,aF,aG⟩:=dz (hE e i hi)
 have ah:ad.cells.size=i.size:=by have:=(lH I _ _ az).1;rw[Array.length_toList]at this;omega
 cases ay with
 |iz A c _ aD=>
  cases A with
  |none=>exact⟨v,w,[],H7 base t ty e x i.size k k1 v n xs Z c,by simpa using Z,World.grownBy.refl w _,.inl rfl,by simp,by simp⟩
  |some a=>
   obtain⟨B,w',G,M,O,_,U⟩:=run_append_own_at (P:=P) w base t ty e x ad i.size i.bytes k k1 aj k2 ai ah ag v n xs Z a 0 c [] (by simp) (by simp) (by simp) (by unfold maxLen;simp at al;omega) (by simpa using ae) af
   exact⟨B,w',[],G,by simpa using M,O,U,by simp,by simp⟩
 |slice b off aH c size els val aA aI aJ ab aB aC=>
  subst aA
  rcases hsz with hsz|hsz
  ·subst hsz
   have av:∀(j:Nat) u,((List.range (new.length*i.size)).map val)[j]?=some u→w.cell? ((⟨b,off,none⟩:Addr).add j)=some u:=by
    intro j u k
    rw[List.getElem?_map]at k
    by_cases F:j<new.length*i.size
    ·rw[List.getElem?_range F]at k
     simp at k
     rw[Addr.add_mid,ax.cell _ _ _ (aB j F),k]
    rw[List.getElem?_eq_none (by simp;omega)]at k;cases k
   have an:∀(j:Nat) x y,((List.range (new.length*i.size)).map val)[j]?=some x→(flat new)[j]?=some y→Rd I x y:=by
    intro j u y k aa
    have F:j<new.length*i.size:=by rw[←fD new (λd Y=>(ab d Y).1)];exact(List.getElem?_eq_some_iff.1 aa).1
    rw[List.getElem?_map,List.getElem?_range F]at k
    simp at k;subst k
    exact aC j y aa
   have aw:∀u∈(List.range (new.length*i.size)).map val,u.oneCell'=true:=by
    intro u k
    obtain⟨j,F,rfl⟩:=List.mem_iff_getElem.1 k
    have ak:j<(flat new).length:=by rw[fD new (λd Y=>(ab d Y).1)];simpa using F
    have aa:(flat new)[j]?=some (flat new)[j]:=List.getElem?_eq_getElem ak
    refine(an j _ _ (List.getElem?_eq_getElem F) aa).one ?_
    obtain⟨d,Y,au⟩:=List.mem_flatMap.1 (List.getElem_mem ak)
    exact(ab d Y).2 _ au
   obtain⟨B,w',G,M,O,_,U⟩:=run_append_own_at (P:=P) w base t ty e x ad i.size i.bytes k k1 aj k2 ai ah ag v n xs Z ⟨b,off,none⟩ new.length c ((List.range (new.length*i.size)).map val) (by simp) av aw (by unfold maxLen;omega) ae af
   exact⟨B,w',_,G,M,O,U,ab,an⟩
  have:new=[]:=by simpa using hsz
  subst this
  obtain⟨B,w',G,M,O,_,U⟩:=run_append_own_at (P:=P) w base t ty e x ad i.size i.bytes k k1 aj k2 ai ah ag v n xs Z ⟨b,off,none⟩ 0 c [] (by simp) (by simp) (by simp) (by unfold maxLen;simp at al;omega) (by simpa using ae) af
  exact⟨B,w',[],G,by simpa using M,O,U,by simp,by simp⟩
theorem zH(base:Nat)(t ty e:TypeId)(i:TypeInfo)(z:Value)(size bytes:Nat)(Z:P.underlying t=some (.slice e))(hi:P.info? e=some i)(ai:i.zero=some z)(ah:i.size=size)(ae:i.bytes=bytes)(au:z.cells.size=size)(ar:0<size)(v:Value)(n:Nat)(xs:List Value)(O:w.ownsRow base e size v n xs)(a:Addr)(m c:Nat)(F:List Value)(M:F.length=m*size)(Y:∀j u,F[j]?=some u→w.cell? (a.add j)=some u)(ab:∀u∈F,u.oneCell'=true)(ad:n+m≤maxLen)(af:(n+m)*bytes≤140737488355328)(ak:base≤w.heap.size) :
  ∃G w',(Builtin.append_ #[t,t] ty #[v,.slice (some a) m c]).run P w=.ok G w'∧w'.ownsRow base e size G (n+m) (xs++F)∧w.grownBy w' v.ownBlock∧(G.ownBlock=v.ownBlock∨(G.ownBlock=some w.heap.size∧w.grownBy w' none)):=by
 obtain⟨G,w',aa,av,aj,_,r5⟩:=run_append_own_at (P:=P) w base t ty e i z size bytes Z hi ai ah ae au ar v n xs O a m c F M Y ab ad af ak
 refine⟨G,w',aa,av,aj,?_⟩
 rcases r5 with r5|r5
 ·exact .inl r5
 subst ah;subst ae
 rcases O.2 with ⟨rfl,rfl⟩| ⟨g,U,cur,rfl,aw,ao,ay,ax,al,aA⟩
 ·exact .inr ⟨r5,aj⟩
 have az:n+m≤9223372036854775807:=by simp only[maxLen]at ad;omega
 by_cases ag:n+m≤U
 ·have an:n*i.size+F.length≤cur.size:=by rw[M,al,←Nat.add_mul];exact Nat.mul_le_mul_right _ ag
  have B:=run_append_room (P:=P) w t ty e i Z hi g n U cur ao a m c F M Y ab ag an
  rw[aa]at B
  injection B with B _
  subst B
  exact .inl rfl
 have holds:∀j u,xs[j]?=some u→w.cell? ((⟨g,0,none⟩:Addr).add j)=some u:=O.cells (g:=g) rfl
 have B:=run_append_grow (P:=P) w t ty e i z Z hi ai ⟨g,0,none⟩ n U xs O.1 holds a m c F M Y (by omega) (by omega) (growslice_fits (by omega) af)
 rw[aa]at B
 injection B with _ B
 subst B
 exact .inr ⟨r5,rfl,rfl,rfl,by simp,λk aq h=>(World.grownBy_alloc w.drew _ none).block k aq h⟩
theorem SE(hE:bw P V.E)(ax:cw w I){t ty e:TypeId}{i:TI}(k:P.underlying t=some (.slice e))(hi:V.E e=some i)(ag:0<i.size){base:Nat}{v ar:Value}{n aq:Nat}{xs:List Value}{new:List D}(Z:w.ownsRow base e i.size v n xs)(ay:Rd I ar (.slice aq new))(hsz:aq=i.size∨new.isEmpty=true)(ae:(n+new.length)*i.bytes≤140737488355328)(al:n+new.length≤9223372036854775807)(af:base≤w.heap.size) :
  ∃B w' ao,(Builtin.append_ #[t,t] ty #[v,ar]).run P w=.ok B w'∧w'.ownsRow base e i.size B (n+new.length) (xs++ao)∧w.grownBy w' v.ownBlock∧(B.ownBlock=v.ownBlock∨(B.ownBlock=some w.heap.size∧w.grownBy w' none)) ∧
   (∀d∈new,d.cells.length=i.size∧∀x∈d.cells,x.one=true)∧(∀(j:Nat) x y,ao[j]?=some x→(flat new)[j]?=some y→Rd I x y):=by
 obtain⟨x,ad,k1,k2,ai,aj,az,aE,aF,aG⟩:=dz (hE e i hi)
 have ah:ad.cells.size=i.size:=by have:=(lH I _ _ az).1;rw[Array.length_toList]at this;omega
 cases ay with
 |iz A c _ aD=>
  cases A with
  |none=>exact⟨v,w,[],H7 base t ty e x i.size k k1 v n xs Z c,by simpa using Z,World.grownBy.refl w _,.inl rfl,by simp,by simp⟩
  |some a=>
   obtain⟨B,w',G,M,O,U⟩:=zH (P:=P) base t ty e x ad i.size i.bytes k k1 aj k2 ai ah ag v n xs Z a 0 c [] (by simp) (by simp) (by simp) (by unfold maxLen;simp at al;omega) (by simpa using ae) af
   exact⟨B,w',[],G,by simpa using M,O,U,by simp,by simp⟩
 |slice b off aH c size els val aA aI aJ ab aB aC=>
  subst aA
  rcases hsz with hsz|hsz
  ·subst hsz
   have av:∀(j:Nat) u,((List.range (new.length*i.size)).map val)[j]?=some u→w.cell? ((⟨b,off,none⟩:Addr).add j)=some u:=by
    intro j u k
    rw[List.getElem?_map]at k
    by_cases F:j<new.length*i.size
    ·rw[List.getElem?_range F]at k
     simp at k
     rw[Addr.add_mid,ax.cell _ _ _ (aB j F),k]
    rw[List.getElem?_eq_none (by simp;omega)]at k;cases k
   have an:∀(j:Nat) x y,((List.range (new.length*i.size)).map val)[j]?=some x→(flat new)[j]?=some y→Rd I x y:=by
    intro j u y k aa
    have F:j<new.length*i.size:=by rw[←fD new (λd Y=>(ab d Y).1)];exact(List.getElem?_eq_some_iff.1 aa).1
    rw[List.getElem?_map,List.getElem?_range F]at k
    simp at k;subst k
    exact aC j y aa
   have aw:∀u∈(List.range (new.length*i.size)).map val,u.oneCell'=true:=by
    intro u k
    obtain⟨j,F,rfl⟩:=List.mem_iff_getElem.1 k
    have ak:j<(flat new).length:=by rw[fD new (λd Y=>(ab d Y).1)];simpa using F
    have aa:(flat new)[j]?=some (flat new)[j]:=List.getElem?_eq_getElem ak
    refine(an j _ _ (List.getElem?_eq_getElem F) aa).one ?_
    obtain⟨d,Y,au⟩:=List.mem_flatMap.1 (List.getElem_mem ak)
    exact(ab d Y).2 _ au
   obtain⟨B,w',G,M,O,U⟩:=zH (P:=P) base t ty e x ad i.size i.bytes k k1 aj k2 ai ah ag v n xs Z ⟨b,off,none⟩ new.length c ((List.range (new.length*i.size)).map val) (by simp) av aw (by unfold maxLen;omega) ae af
   exact⟨B,w',_,G,M,O,U,ab,an⟩
  have:new=[]:=by simpa using hsz
  subst this
  obtain⟨B,w',G,M,O,U⟩:=zH (P:=P) base t ty e x ad i.size i.bytes k k1 aj k2 ai ah ag v n xs Z ⟨b,off,none⟩ 0 c [] (by simp) (by simp) (by simp) (by unfold maxLen;simp at al;omega) (by simpa using ae) af
  exact⟨B,w',[],G,by simpa using M,O,U,by simp,by simp⟩
theorem o9{j:Nat}{e:TypeId}{size n:Nat}{v:Value}{xs:List Value}(h:w.ownsRow j e size v n xs):own v=v.ownBlock∧∃A n c,v=.slice A n c:=by
 rcases h.2 with ⟨rfl,_⟩| ⟨g,k,cur,rfl,_⟩
 ·exact⟨rfl,_,_,_,rfl⟩
 exact⟨rfl,_,_,_,rfl⟩
theorem JQ(hE:bw P V.E)(bx:av w0 I0 w I m l){t ty:TypeId}{vs bm:Value}{s x:T}(a1:ah I m l vs s)(bD:ah I m l bm x)(aL:nid=l.length)(G:(iG V.E t l nid s x).ob) :
  ∃l' M w' J m',(iG V.E t l nid s x).bM=.aC l'∧(Builtin.append_ #[t,t] ty #[vs,bm]).run P w=.ok M w'∧Le I m l J m' l'∧av w0 I0 w' J m' l'∧ah J m' l' M (iG V.E t l nid s x).t:=by
 subst aL
 unfold iG at G⊢
 split at G
 ·rename_i e bz
  split at G
  ·rename_i i hi
   have ax:=fV hE bz
   split at G
   ·rename_i bJ new l1 ag
    obtain⟨J,aA,F,bd,aJ⟩:=mB bx bD ag
    split at G
    ·rename_i aw
     rw[if_pos aw]
     split at G
     ·
      rename_i bI
      cases a1
      obtain⟨M,w',ae,ar,ak,ay,h4,aD,aE⟩:=H8 (ty:=ty) hE F.sat ax hi aw.2 (World.ownsRow_nil w w0.heap.size e i.size) bd (aw.1) (by simpa using G.1) (by simpa using G.2) F.below.size
      obtain⟨al,bb⟩:=o9 ak
      have aH:∀b,own M=some b→w0.heap.size≤b∧J.cM b∧∀k,alive l1 k=true→own (m k)≠some b:=by
       intro b hb
       have:b=w.heap.size:=by
        rw[al]at hb
        rcases h4 with h4|h4
        ·rw[h4]at hb;cases hb
        rw[h4]at hb;injection hb with hb;exact hb.symm
       subst this
       refine⟨F.below.size,F.sat.cM (Nat.le_refl _),λk O ai=>?_⟩
       obtain⟨a,B,ab⟩:=bg.1 O
       have:=((F.obj k a B).lt ab ai).1;omega
      obtain⟨af,aa,U⟩:=F.qY (v:=M) (lo:=l1) (e:=e) (size:=i.size) (els:=new) rfl (λk a B=>.inr B) (λ_ _ _ h=>h) ay (fk _ _ _ _ _ ar) (λb hb=>by simp[Value.ownBlock]at hb) (λb hb=>by simp[Value.ownBlock]at hb) aH (by simpa using ak) aD (by simpa using aE) bb
      rw[aJ]at af aa U
      exact⟨_,M,w',J,_,rfl,ar,aA.trans af,aa,U⟩
     ·
      rename_i id
      split at G
      ·rename_i aU size els Z
       split at G
       ·rename_i aX
        obtain⟨rfl,a7,_⟩:=aX
        subst a7
        rw[if_pos ⟨rfl,rfl,aJ.symm⟩]
        have a6:=a1.mono aA
        obtain⟨A,n,c,bC,au⟩:∃A n c,vs=.slice A n c∧m id=vs:=by
         cases a6 with
         |row A n c _ bF bc=>exact⟨A,n,c,rfl,bc (by simp[isRow,Z,AO.isRow])⟩
        obtain⟨xs,k1,k2,ba,aO⟩:=F.obj id _ Z
        rw[au]at k1 aO
        obtain⟨M,w',ae,ar,ak,ay,h4,aD,aE⟩:=H8 (ty:=ty) hE F.sat ax hi aw.2 k1 bd aw.1 G.1 G.2 F.below.size
        obtain⟨al,bb⟩:=o9 ak
        obtain⟨an,_⟩:=o9 k1
        have aY:id<l1.length:=(List.getElem?_eq_some_iff.1 Z).1
        have aK:∀(k:Nat) a,(l1.set id .dead)[k]?=some a→a=.dead∨l1[k]?=some a:=by
         intro k a B
         rw[List.getElem?_set]at B
         split at B
         ·first
           | (injection B with B;exact .inl B.symm)
           | (split at B<;>first| (injection B with B;exact .inl B.symm)|cases B)
         exact .inr B
        have aF:∀k,alive (l1.set id .dead) k=true→k≠id∧alive l1 k=true:=by
         intro k O
         obtain⟨a,B,ab⟩:=bg.1 O
         refine⟨?_,bg.2 ⟨a,(aK k a B).resolve_left ab,ab⟩⟩
         rintro rfl
         rw[List.getElem?_set,if_pos rfl,if_pos aY]at B
         injection B with B;exact ab B.symm
        have aN:∀b,own vs=some b→w0.heap.size≤b∧J.cM b∧∀k,alive (l1.set id .dead) k=true→own (m k)≠some b:=by
         intro b hb
         refine⟨((F.obj id _ Z).lt (by simp) (by rw[au];exact hb)).2,aO b hb,λk O ai=>?_⟩
         obtain⟨aM,aZ⟩:=aF k O
         exact F.sep k id b aM aZ (bg.2 ⟨_,Z,by simp⟩) ai (by rw[au];exact hb)
        have aH:∀b,own M=some b→w0.heap.size≤b∧J.cM b∧∀k,alive (l1.set id .dead) k=true→own (m k)≠some b:=by
         intro b hb
         rw[al]at hb
         rcases h4 with h4|h4
         ·rw[h4,←an]at hb;exact aN b hb
         rw[h4]at hb;injection hb with hb;subst hb
         refine⟨F.below.size,F.sat.cM (Nat.le_refl _),λk O ai=>?_⟩
         obtain⟨a,B,ab⟩:=bg.1 (aF k O).2
         have:=((F.obj k a B).lt ab ai).1;omega
        obtain⟨af,aa,U⟩:=F.qY (v:=M) (lo:=l1.set id .dead) (e:=aU) (size:=i.size) (els:=els++new) (xs:=xs++ae) (by simp) aK
         (
          λk a aW O=>by
          rw[List.getElem?_set,if_neg ?_];exact O
          rintro rfl;rw[Z]at O;cases O;cases aW)
         ay (fk _ _ _ _ _ ar) (λb hb=>aN b (by rw[an];exact hb)) (λb hb=>F.sat.tZ k1 (by rw[an];exact hb)) aH (by simpa using ak)
         (λd ag=>by rcases List.mem_append.1 ag with h|h;exact k2 d h;exact aD d h)
         (
          λj u y ad aj=>by
          rw[wW,List.getElem?_append]at aj
          rw[List.getElem?_append]at ad
          have:xs.length=(flat els).length:=by rw[fD els (λd ag=>(k2 d ag).1)];exact k1.1
          rw[this]at ad
          by_cases aI:j<(flat els).length
          ·rw[if_pos aI]at aj ad;exact ba j u y ad aj
          rw[if_neg aI]at aj ad;exact aE _ u y ad aj) bb
        rw[aJ]at af aa U
        exact⟨_,M,w',J,_,rfl,ar,aA.trans af,aa,U⟩
       exact G.elim
      exact G.elim
     ·
      rename_i id bK
      split at G
      ·rename_i aU size els Z
       split at G
       ·rename_i aX
        obtain⟨rfl,a7,_⟩:=aX
        subst a7
        rw[if_pos ⟨rfl,rfl,aJ.symm⟩]
        have a6:=a1.mono aA
        obtain⟨A,n,c,bC,au⟩:∃A n c,vs=.slice A n c∧m id=vs:=by
         cases a6 with
         |aQ A n c _ _ bF bc _=>exact⟨A,n,c,rfl,bc (by simp[isRow,Z,AO.isRow])⟩
        obtain⟨xs,k1,k2,ba,aO⟩:=F.obj id _ Z
        rw[au]at k1 aO
        obtain⟨M,w',ae,ar,ak,ay,h4,aD,aE⟩:=SE (ty:=ty) hE F.sat ax hi aw.2 k1 bd aw.1 G.1 G.2 F.below.size
        obtain⟨al,bn,bE,bo,bB⟩:=o9 ak
        obtain⟨an,_⟩:=o9 k1
        have aY:id<l1.length:=(List.getElem?_eq_some_iff.1 Z).1
        have aK:∀(k:Nat) a,(l1.set id .dead)[k]?=some a→a=.dead∨l1[k]?=some a:=by
         intro k a B
         rw[List.getElem?_set]at B
         split at B
         ·first
           | (injection B with B;exact .inl B.symm)
           | (split at B<;>first| (injection B with B;exact .inl B.symm)|cases B)
         exact .inr B
        have aF:∀k,alive (l1.set id .dead) k=true→k≠id∧alive l1 k=true:=by
         intro k O
         obtain⟨a,B,ab⟩:=bg.1 O
         refine⟨?_,bg.2 ⟨a,(aK k a B).resolve_left ab,ab⟩⟩
         rintro rfl
         rw[List.getElem?_set,if_pos rfl,if_pos aY]at B
         injection B with B;exact ab B.symm
        have aN:∀b,own vs=some b→w0.heap.size≤b∧∀k,alive (l1.set id .dead) k=true→own (m k)≠some b:=by
         intro b hb
         refine⟨((F.obj id _ Z).lt (by simp) (by rw[au];exact hb)).2,λk O ai=>?_⟩
         obtain⟨aM,aZ⟩:=aF k O
         exact F.sep k id b aM aZ (bg.2 ⟨_,Z,by simp⟩) ai (by rw[au];exact hb)
        have aH:∀b,own M=some b→w0.heap.size≤b∧∀k,alive (l1.set id .dead) k=true→own (m k)≠some b:=by
         intro b hb
         rw[al]at hb
         rcases h4 with h4| ⟨h4,_⟩
         ·rw[h4,←an]at hb;exact aN b hb
         rw[h4]at hb;injection hb with hb;subst hb
         refine⟨F.below.size,λk O ai=>?_⟩
         obtain⟨a,B,ab⟩:=bg.1 (aF k O).2
         have:=((F.obj k a B).lt ab ai).1;omega
        have bs:∀b,own M=some b→I.le J→(∀(o:Nat) u,J.cell b o=some u→(xs++ae)[o]?=some u)∧J.mp b=none∧∀o,(xs++ae).length≤o→J.cell b o=none:=by
         intro b hb _
         rw[al]at hb
         rcases h4 with h4| ⟨h4,_⟩
         ·rw[h4,←an]at hb
          obtain⟨af,aa,U⟩:=aO b hb
          refine⟨λo u hc=>?_,af,λo aS=>U o (by rw[List.length_append]at aS;omega)⟩
          rcases Nat.lt_or_ge o xs.length with ao|hge
          ·have:=aa o xs[o] (List.getElem?_eq_getElem ao)
           rw[hc]at this;injection this with this
           rw[List.getElem?_append_left ao,List.getElem?_eq_getElem ao,this]
          rw[U o hge]at hc;cases hc
         rw[h4]at hb;injection hb with hb;subst hb
         have aL:=F.sat.cM (Nat.le_refl _)
         exact⟨λo u hc=>(by rw[aL.1 o]at hc;cases hc),aL.2,λo _=>aL.1 o⟩
        obtain⟨Y,aP,bq,az,aV⟩:∃Y:aq,J.le Y∧(∀b,Y.df b↔J.df b)∧(∀b,own M=some b→Y.mp b=none∧(∀(o:Nat) u,(xs++ae)[o]?=some u→Y.cell b o=some u)∧∀o,(xs++ae).length≤o→Y.cell b o=none)∧∀b,own M≠some b→Y.cell b=J.cell b∧Y.mp b=J.mp b:=by
         cases bt:own M with
         |none=>exact⟨J,.refl J,λ_=>Iff.rfl,λ_ hb=>absurd hb (by simp),λ_ _=>⟨rfl,rfl⟩⟩
         |some b=>
          obtain⟨af,aa,U⟩:=bs b bt aA.cB
          refine⟨J.dq b (xs++ae),⟨λaT o u hc=>?_,λ_ _ h=>h,λ_ h=>h⟩,λ_=>Iff.rfl,λaT aG=>?_,λaT aG=>⟨?_,rfl⟩⟩
          ·by_cases bf:aT=b
           ·subst bf;simp only[aq.dq,if_true];rw[af o u hc]
           simp only[aq.dq,if_neg bf];exact hc
          ·injection aG with aG;subst aG
           refine⟨aa,λo u ax=>?_,λo aS=>?_⟩
           ·simp only[aq.dq,if_true];rw[ax]
           simp only[aq.dq,if_true];rw[List.getElem?_eq_none aS];exact U o aS
          funext o
          simp only[aq.dq]
          rw[if_neg (λe=>aG (by rw[e]))]
        have bA:cw w' Y:=by
         have bp:∀b,own M=some b→∀(o:Nat) u,(xs++ae)[o]?=some u→w'.cell? ⟨b,o,none⟩=some u:=by
          intro b hb o u ax
          have:=ak.cells (g:=b) (by rw[←al];exact hb) o u ax
          rwa [Addr.add_lit,Nat.zero_add]at this
         have a8:∀b,(∃o u,J.cell b o=some u)∨(∃aB,J.mp b=some aB)∨J.df b→own M≠some b→w'.heap[b]?=w.heap[b]?:=by
          intro b hb aM
          have ao:b<w.heap.size:=by
           rcases hb with ⟨o,u,hc⟩| ⟨aB,hc⟩|hc
           ·exact F.sat.lt hc
           ·exact F.sat.jv hc
           exact F.sat.gE hc
          rcases h4 with h4| ⟨_,h4⟩
          ·exact ay.block b ao (λai=>aM (by rw[al,h4];exact ai.symm))
          exact h4.block b ao (by simp)
         refine⟨λb o u hc=>?_,λb aB hc=>?_,λb ag=>?_,λg d br=>(F.sat.c9 g d br).mono aP⟩
         ·by_cases hb:own M=some b
          ·obtain⟨_,aa,U⟩:=az b hb
           rcases Nat.lt_or_ge o (xs++ae).length with ao|hge
           ·have:=aa o _ (List.getElem?_eq_getElem ao)
            rw[hc]at this;injection this with this
            exact bp b hb o u (by rw[List.getElem?_eq_getElem ao,this])
           rw[U o hge]at hc;cases hc
          rw[(aV b hb).1]at hc
          exact(World.cell?_of_block (w:=w) (a:=⟨b,o,none⟩) (a8 b (.inl ⟨o,u,hc⟩) hb)).trans (F.sat.cell b o u hc)
         ·by_cases hb:own M=some b
          ·rw[(az b hb).1]at hc;cases hc
          rw[(aV b hb).2]at hc
          exact MapAt.to (a8 b (.inr (.inl ⟨aB,hc⟩)) hb) (F.sat.mp b aB hc)
         have aR:J.df b:=by
          have:Y.df b→J.df b:=λh=>(bq b).1 h
          exact this ag
         by_cases hb:own M=some b
         ·exfalso
          rw[al]at hb
          rcases h4 with h4| ⟨h4,_⟩
          ·rw[h4,←an]at hb;exact F.sat.tZ k1 hb aR
          rw[h4]at hb;injection hb with hb;have:=F.sat.gE aR;omega
         exact(a8 b (.inr (.inr aR)) hb).trans (F.sat.df b aR)
        have bh:∀d∈els++new,d.cells.length=i.size∧∀x∈d.cells,x.one=true:=λd ag=>by rcases List.mem_append.1 ag with h|h;exact k2 d h;exact aD d h
        have bl:∀(j:Nat) u y,(xs++ae)[j]?=some u→(flat (els++new))[j]?=some y→Rd Y u y:=by
         intro j u y ad aj
         rw[wW,List.getElem?_append]at aj
         rw[List.getElem?_append]at ad
         have:xs.length=(flat els).length:=by rw[fD els (λd ag=>(k2 d ag).1)];exact k1.1
         rw[this]at ad
         by_cases aI:j<(flat els).length
         ·rw[if_pos aI]at aj ad;exact(ba j u y ad aj).mono aP
         rw[if_neg aI]at aj ad;exact(aE _ u y ad aj).mono aP
        obtain⟨af,aa,U⟩:=F.OM (v:=M) (row:=vs.ownBlock) (lo:=l1.set id .dead) (e:=aU) (size:=i.size) (els:=els++new) (J:=Y) (by simp) aK
         (
          λk a aW O=>by
          rw[List.getElem?_set,if_neg ?_];exact O
          rintro rfl;rw[Z]at O;cases O;cases aW)
         ay (
           fk _ _ _ _ _ ar) (λb hb=>aN b (by rw[an];exact hb)) (λb hb=>(by
          have bj:∀b,own vs=some b→J.cell b 0=none∨∃q,bO l1 q=true∧own (m q)=some b:=λb hb=>.inr ⟨id,by unfold bO;rw[Z];rfl,by rw[au];exact hb⟩
          rcases hb with hb|hb
          ·exact bj b (by rw[an];exact hb)
          rw[al]at hb
          rcases h4 with h4| ⟨h4,_⟩
          ·rw[h4,←an]at hb;exact bj b hb
          rw[h4]at hb;injection hb with hb;subst hb;exact .inl ((F.sat.cM (Nat.le_refl _)).1 0))) aP aV bA aH
         ⟨xs++ae,by simpa using ak,bh,bl,λb hb=>⟨(az b hb).1,(az b hb).2.1,(az b hb).2.2⟩⟩ ⟨bn,bE,bo,bB⟩
        rw[aJ]at af aa U
        refine⟨_,M,w',Y,_,rfl,ar,aA.trans af,aa,?_⟩
        have bu:Rd Y M (.slice i.size (els++new)):=pz (by simpa using ak) bh bl λb hb=>(az b hb).2.1
        cases U with
        |row A n c _ bG bH=>exact .aQ A n c _ _ bG bH bu
       exact G.elim
      exact G.elim
     exact G.elim
    exact G.elim
   exact G.elim
  exact G.elim
 exact G.elim
theorem vG{E:bN}{t:TypeId}{v:Value}{x:T}(h:ah I m L v x):ah I m L v (typed E t x):=by
 unfold typed
 split
 ·cases h;exact .aX _
 exact h
theorem vE{E:bN}:∀(ts:List TypeId)(vs:List Value)(xs:List T),(∀(i:Nat) v x,vs[i]?=some v→xs[i]?=some x→ah I m L v x)→(dZ E ts xs).length=xs.length∧∀(i:Nat) v x,vs[i]?=some v→(dZ E ts xs)[i]?=some x→ah I m L v x
 | [],vs,xs,h=>by simp[dZ];exact h
 |t::ts,vs,[],h=>by simp[dZ]
 |t::ts,vs,x::xs,h=>by
  match vs with
  | []=>simp[dZ];exact(vE (E:=E) ts [] xs (by simp)).1
  |v::vs=>
   obtain⟨B,F⟩:=vE (E:=E) ts vs xs (λi v x G M=>h (i+1) v x (by simpa using G) (by simpa using M))
   simp only[dZ]
   refine⟨by simp[B],λi u y j k=>?_⟩
   rcases i with _|i
   ·simp at j k;subst j;subst k;exact vG (h 0 v x rfl rfl)
   simp at j k;exact F i u y j k
def dj(E:bN)(ρ:Operand→T)(o:Oper):Option (FuncId×List T):=match o.op with
 |.call c=>(match c.callee with
  |.value f=>(match ρ f with
   |.ar g ts=>some (g,dZ E c.argTypes.toList (c.args.toList.map ρ)++ts)
   |.d (.fn g)=>some (g,dZ E c.argTypes.toList (c.args.toList.map ρ))
   |.d (.ar g ds)=>some (g,dZ E c.argTypes.toList (c.args.toList.map ρ)++ds.map .d)
   |.d (.aa g d)=>some (g,.d d::dZ E c.argTypes.toList (c.args.toList.map ρ))
   |_=>none)
  |_=>none)
 |_=>none
theorem mS{E:bN}{g:FuncId}{ts:List T}(ad:Enters P g)(an:∀x∈o.op.operands,ah I m L (ρ x) (ρT x))(h:dj E ρT o=some (g,ts)) :
  ∃af:Array Value,(execOp ρ o).run P w=.ok (.enter g af) w∧af.size=ts.length∧∀(i:Nat) v x,af[i]?=some v→ts[i]?=some x→ah I m L v x:=by
 unfold dj at h
 split at h
 ·rename_i c Y
  split at h
  ·rename_i f U
   have G:=an f (by simp[Y,Op.operands,Call.operands,U])
   have ao:∀(i:Nat) v x,(c.args.toList.map ρ)[i]?=some v→(c.args.toList.map ρT)[i]?=some x→ah I m L v x:=by
    intro i v x k j
    rw[List.getElem?_map]at k j
    cases ai:c.args.toList[i]? with
    |none=>simp[ai]at k
    |some a=>
     simp[ai]at k j
     subst k;subst j
     refine an a ?_
     simp only[Y,Op.operands,Call.operands,U]
     have:=List.mem_of_getElem? ai
     simp at this⊢
     exact .inr this
   obtain⟨F,ab⟩:=vE (E:=E) c.argTypes.toList _ _ ao
   generalize ae:ρ f=aq at G
   split at h
   ·rename_i ag cs O
    rw[O]at G
    injection h with h;injection h with M B;subst M
    cases G with
    |ar _ vs _ Z al=>
     refine⟨c.args.map ρ++vs,?_,?_,λi v x k j=>?_⟩
     ·unfold execOp
      simp only[Y,resolve,U,ae,Deferred.ofValue,Sem.run_bind,Sem.run_pure,Result.andThen_ok,invoke]
      simpa using ad (c.args.map ρ++vs) w
     ·rw[←B];simp[F,Z]
     rw[←B]at j
     by_cases hi:i<(c.args.map ρ).size
     ·rw[Array.getElem?_append_left hi]at k
      rw[List.getElem?_append_left (by rw[F];simpa using hi)]at j
      exact ab i v x (by simpa using k) j
     rw[Array.getElem?_append_right (by omega)]at k
     rw[List.getElem?_append_right (by rw[F];simpa using hi)]at j
     rw[F]at j
     simp at k j hi
     exact al _ v x k j
   ·rename_i ag O
    rw[O]at G
    injection h with h;injection h with M B;subst M
    have:=bn G
    cases this
    refine⟨c.args.map ρ,?_,by rw[←B,F];simp,λi v x k j=>ab i v x (by simpa using k) (by rw[B];exact j)⟩
    unfold execOp
    simp only[Y,resolve,U,ae,Deferred.ofValue,Sem.run_bind,Sem.run_pure,Result.andThen_ok,invoke]
    simpa using ad (c.args.map ρ) w
   ·rename_i ag cs O
    rw[O]at G
    injection h with h;injection h with M B;subst M
    have ak:=bn G
    cases ak with
    |ar _ vs _ Z al=>
     refine⟨c.args.map ρ++vs,?_,?_,λi v x k j=>?_⟩
     ·unfold execOp
      simp only[Y,resolve,U,ae,Deferred.ofValue,Sem.run_bind,Sem.run_pure,Result.andThen_ok,invoke]
      simpa using ad (c.args.map ρ++vs) w
     ·rw[←B];simp[F,Z]
     rw[←B]at j
     by_cases hi:i<(c.args.map ρ).size
     ·rw[Array.getElem?_append_left hi]at k
      rw[List.getElem?_append_left (by rw[F];simpa using hi)]at j
      exact ab i v x (by simpa using k) j
     rw[Array.getElem?_append_right (by omega)]at k
     rw[List.getElem?_append_right (by rw[F];simpa using hi)]at j
     rw[F,List.getElem?_map]at j
     simp only[List.length_map,Array.length_toList]at j
     simp only[Array.size_map]at k
     cases aj:cs[i-c.args.size]? with
     |none=>rw[aj]at j;simp at j
     |some d=>rw[aj]at j;simp at j;subst j;exact .d _ _ (al _ v d k aj)
   ·rename_i ag d O
    rw[O]at G
    injection h with h;injection h with M B;subst M
    have ak:=bn G
    cases ak with
    |aa _ u _ Z=>
     refine⟨#[u]++c.args.map ρ,?_,?_,λi v x k j=>?_⟩
     ·unfold execOp
      simp only[Y,resolve,U,ae,Deferred.ofValue,Sem.run_bind,Sem.run_pure,Result.andThen_ok,invoke]
      simpa using ad (#[u]++c.args.map ρ) w
     ·rw[←B];simp[F];omega
     rw[←B]at j
     cases i with
     |zero=>
      rw[Array.getElem?_append_left (by simp)]at k
      simp at k j
      subst k;subst j
      exact .d _ _ Z
     |succ i=>
      rw[Array.getElem?_append_right (by simp)]at k
      exact ab i v x (by simpa using k) (by simpa using j)
   cases h
  cases h
 cases h
theorem Ah{v:Value}{t:T}(h:ah I m L v t):ah I m L v (unbox t):=by
 unfold unbox
 split
 ·have:=bn h
  cases this with
  |box _ _ val B O U=>
   rename_i d b
   have:=ah.aS (I:=I) (m:=m) (l:=L) b 0 d.cells.length [d] 0 0 val (by simp) (λx k=>by simp at k;subst k;exact⟨rfl,B⟩) (λj F=>by rw[Nat.zero_add];exact O j (by simpa using F)) (λj x k=>U j x (by simpa [flat]using k))
   simpa using this
 ·rename_i f
  have:=bn h
  cases this with
  |self b _ B=>
   refine ah.aS b 0 1 [.ar f [.self f]] 0 0 (λ_=>.func (.func f) #[] #[.pointer (some ⟨b,0,none⟩)]) (by simp) (λx k=>by simp at k;subst k;simp[D.cells,D.one]) (λj F=>?_) (λj x k=>?_)
   ·have:j=0:=by simp at F;exact F
    subst this;exact B
   have k:([D.ar f [.self f]]:List D)[j]?=some x:=by simpa [flat,D.cells]using k
   cases j with
   |zero=>
    simp at k;subst k
    refine .ar f _ _ rfl λi v d M G=>?_
    cases i with
    |zero=>simp at M G;subst M;subst G;exact .self b f B
    |succ i=>simp at G
   |succ j=>simp at k
 exact h
theorem LI{t:T}{d:D}(h:dQ t=some d):t=.d d:=by
 unfold dQ at h;split at h
 ·injection h with h;subst h;rfl
 cases h
theorem qv:∀{ts:List T}{ds:List D},ts.mapM dQ=some ds→ts=ds.map .d
 | [],ds,h=>by simp at h;subst h;rfl
 |t::ts,ds,h=>by
  rw[List.mapM_cons]at h
  cases j:dQ t with
  |none=>simp[j]at h
  |some d=>
   cases k:ts.mapM dQ with
   |none=>simp[j,k]at h
   |some B=>
    simp[j,k]at h
    subst h
    rw[LI j,qv k];rfl
theorem Lu{v:Value}{g:FuncId}{ts:List T}(h:ah I m L v (.ar g ts)):ah I m L v (kS g ts):=by
 unfold kS
 split
 ·rename_i ds k
  have:=qv k
  subst this
  cases h with
  |ar _ vs _ F G=>
   exact .d _ _ (.ar _ _ _ (by simpa using F) λi v d B j=>bn (G i v (.d d) B (by simp[j])))
 exact h
theorem KS(aw:ga P V)(ai:av w0 I0 w I m L)(az:ep l L){g:FuncId}{ts:List T}(aH:∀x∈o.op.operands,ah I m L (ρ x) (ρT x))(aA:dj V.E ρT o=some (g,ts))(B:(sC V.C g l ts).ob):bA P w0 I0 o ρ w I m l L nid (sC V.C g l ts):=by
 unfold sC at B⊢
 split at B
 ·rename_i ds l' ae
  split at B
  ·rename_i x ob ar
   obtain⟨aD,aB⟩:=aw.C g ds x ob ar B
   obtain⟨k,aj,aG,ax⟩:=mS (P:=P) (w:=w) (ρ:=ρ) aD aH aA
   have af:k.toList.length=ts.length:=by simpa using aG
   have ad:∀(i:Nat) v x,k.toList[i]?=some v→ts[i]?=some x→ah I m L v x:=λi v x Y Z=>ax i v x (by simpa using Y) Z
   have ak:∀(j:List AO)(J:aq),Le I m L J m j→av w0 I0 w J m j→k.toList.length=ds.length→(∀(i:Nat) v d,k.toList[i]?=some v→ds[i]?=some d→Rd J v d) →
     Calls P g k w λe M=>∃v,e=.returned v∧∃J',Le I m L J' m j∧av w0 I0 M J' m j∧ah J' m j v (.d x):=by
    intro j J aF ag aE G
    refine(aB w J k ag.sat (by simpa using aE) (λi v d Y aC=>G i v d (by simpa using Y) aC)).mono ?_
    rintro e M ⟨v,J',F,ay,Z,aJ,aI⟩
    obtain⟨aK,aL⟩:=ag.call ay Z aJ
    exact⟨v,F,J',aF.trans aL,aK,.d _ _ aI⟩
   unfold bA
   by_cases U:ts.all (mg l)=true
   ·simp only[if_pos U,aj,bI]
    have au:=AT ts az U ae
    obtain⟨J,aa,ab,O,G,_⟩:=jk ts L I _ ds L ai af ad au
    exact(ak L J aa ab O G).mono λe M ⟨v,F,J',h⟩=>⟨v,F,J',h⟩
   simp only[if_neg U,aj,bI]
   rintro rfl aM
   obtain⟨J,aa,ab,O,G,_⟩:=jk ts L I _ ds l' ai af ad ae
   exact(ak l' J aa ab O G).mono λe M ⟨v,F,J',al,an,ao⟩=>⟨v,F,J',m,al,an,ao⟩
  exact B.elim
 exact B.elim
theorem Ba(k:ga P V)(M:av w0 I0 w I m L)(ad:ep l L){g:FuncId}{ts:List T}(G:∀x∈o.op.operands,ah I m L (ρ x) (ρT x))(B:dj V.E ρT o=some (g,ts))(j:(pV V g l ts).ob):bA P w0 I0 o ρ w I m l L nid (pV V g l ts):=by
 unfold pV at j⊢
 split at j
 ·rename_i t l' ob aa
  obtain⟨ag,ae⟩:=k.F g _ l _ aa j
  obtain⟨O,aj,ai,ab⟩:=mS (P:=P) (w:=w) (ρ:=ρ) ag G B
  unfold bA
  rintro rfl ak
  simp only[aj,bI]
  exact(ae w0 I0 w I m O M ai ab).mono λe w' ⟨v,af,J,m',U,Y,Z⟩=>⟨v,af,J,m',U,Y,Z⟩
 exact KS k M ad G B j
theorem Iy{I:aq}{v:Value}{s:Nat}{els:List D}(h:Rd I v (.slice s els)):∃A c,v=.slice A els.length c:=by
 generalize j:D.slice s els=B at h
 cases h<;>first| (cases j;done)|skip
 ·injection j with _ j;subst j;exact⟨_,_,rfl⟩
 rename_i k _ _ _ _ _
 injection j with _ j;subst j;exact⟨_,_,by rw[k]⟩
theorem Da(ae:av w0 I0 w I m L)(Z:ep l L){v:Value}{t:T}{ks vs:List D}(af:ah I m L v t)(k:mapOf l t=some (ks,vs)) :
  ∃j:Array MapEntry,j.size=ks.length∧j.size=vs.length∧(∀(i:Nat)(e:MapEntry)(d:D),j[i]?=some e→ks[i]?=some d→Rd I e.key d)∧(∀(i:Nat)(e:MapEntry)(d:D),j[i]?=some e→vs[i]?=some d→Rd I e.val d) ∧
   ((v=.map none∧j = #[])∨∃b an,v=.map (some b)∧w.heap[b]?=some (.map j an)):=by
 unfold mapOf at k
 split at k
 ·injection k with k;injection k with F G;subst F;subst G
  have:=bn af
  cases this with
  |oX=>exact⟨#[],rfl,rfl,by simp,by simp,.inl ⟨rfl,rfl⟩⟩
  |map b j _ _ M ag O U Y=>
   have ao:=ae.sat.mp b j M
   exact⟨j.1,ag,O,U,Y,.inr ⟨b,j.2,rfl,ao.1⟩⟩
 ·rename_i id
  split at k
  ·rename_i ai al B
   injection k with k;injection k with F G;subst F;subst G
   obtain⟨b,j,M,ag,O,U,Y,ab,ad,ak⟩:=ae.obj id _ (Z.get B)
   cases af with
   |map r _ aj aa=>
    have:=aa (by unfold isRow;rw[Z.get B];rfl)
    rw[M]at this
    exact⟨j.1,U,Y,ab,ad,.inr ⟨b,j.2,this.symm,O.1⟩⟩
  ·rename_i ai al B
   injection k with k;injection k with F G;subst F;subst G
   obtain⟨b,j,M,ag,O,U,Y,ab,ad,ak⟩:=ae.obj id _ (Z.get B)
   cases af with
   |map r _ aj aa=>
    have:=aa (by unfold isRow;rw[Z.get B];rfl)
    rw[M]at this
    exact⟨j.1,U,Y,ab,ad,.inr ⟨b,j.2,this.symm,O.1⟩⟩
  ·rename_i aq s' ai al op B
   injection k with k;injection k with F G;subst F;subst G
   obtain⟨b,j,M,ag,O,U,Y,ab,ad,ak,_⟩:=ae.obj id _ (Z.get B)
   cases af with
   |map r _ aj aa=>
    have:=aa (by unfold isRow;rw[Z.get B];rfl)
    rw[M]at this
    exact⟨j.1,U,Y,ab,ad,.inr ⟨b,j.2,this.symm,O.1⟩⟩
  cases k
 cases k
theorem NI(hE:bw P V.E)(Y:av w0 I0 w I m L)(U:ep l L){v:Value}{x:T}{ty t:TypeId}(G:ah I m L v x)(j:(iT V.E t l x).ob) :
  (iT V.E t l x).bM=.none∧∃u,(Builtin.len_ #[t] ty #[v]).run P w=.ok u w∧ah I m L u (iT V.E t l x).t:=by
 have M:∀(A:Option Addr)(n c:Nat)(e:TypeId),P.underlying t=some (.slice e)→(Builtin.len_ #[t] ty #[.slice A n c]).run P w=.ok (.int .i64 n) w:=by
  intro A n c e k
  simp[Builtin.len_,run_underlying k,goInt]
 unfold iT at j⊢
 split at j
 ·rename_i F
  have k:=vK hE F
  split at j
  ·have:=bn G;cases this
   exact⟨rfl,_,by simp[Builtin.len_,run_underlying k,goInt],.d _ _ (.int _ _)⟩
  exact j.elim
 ·rename_i e F
  have k:=fV hE F
  split at j
  ·rename_i s els
   obtain⟨A,c,rfl⟩:=Iy (bn G)
   exact⟨rfl,_,M _ _ _ _ k,.d _ _ (.int _ _)⟩
  ·cases G;exact⟨rfl,_,M _ _ _ _ k,.d _ _ (.int _ _)⟩
  ·rename_i id
   have go:∀e size els,l[id]?=some (.row e size els)∨l[id]?=some (.aM e size els)→∃A c,v=.slice A els.length c:=by
    intro e size els ho
    have ab:L[id]?=some (.row e size els)∨L[id]?=some (.aM e size els):=by rcases ho with ho|ho;exact .inl (U.get ho);exact .inr (U.get ho)
    cases G with
    |row A n c _ aw aj=>
     have O:=aj (by unfold isRow;rcases ab with h|h<;>simp[h,AO.isRow])
     have:∃xs,w.ownsRow w0.heap.size e size (m id) els.length xs:=by
      rcases ab with h|h
      ·obtain⟨xs,k1,_⟩:=Y.obj id _ h;exact⟨xs,k1⟩
      obtain⟨xs,k1,_⟩:=Y.obj id _ h;exact⟨xs,k1⟩
     obtain⟨xs,k1⟩:=this
     rw[O]at k1
     rcases k1.2 with ⟨q,ak⟩| ⟨g,ao,cur,q,_⟩
     ·injection q with al Z an;rw[ak,←Z];exact⟨_,_,rfl⟩
     injection q with al Z an;rw[←Z];exact⟨_,_,rfl⟩
   split at j
   ·rename_i e size els ho
    obtain⟨A,c,rfl⟩:=go e size els (.inl ho)
    exact⟨rfl,_,M _ _ _ _ k,.d _ _ (.int _ _)⟩
   ·rename_i e size els ho
    obtain⟨A,c,rfl⟩:=go e size els (.inr ho)
    exact⟨rfl,_,M _ _ _ _ k,.d _ _ (.int _ _)⟩
   exact j.elim
  exact j.elim
 ·rename_i ai e F
  have k:P.underlying t=some (.map ai e):=by
   obtain⟨x,ax,_,_,_,_,_,_,B,_⟩:=dz (hE t _ F)
   simp only[fC]at B
   split at B
   ·rename_i au ar af;simp at B;obtain⟨rfl,rfl⟩:=B;exact af
   cases B
  split at j
  ·rename_i ks vs O
   obtain⟨ad,aa,_,_,_,ae⟩:=Da Y U G O
   try simp only[O]
   rcases ae with ⟨rfl,rfl⟩| ⟨b,aq,rfl,ag⟩
   ·refine⟨rfl,_,by simp[Builtin.len_,run_underlying k,goInt];rfl,?_⟩
    have:ks.length=0:=by simpa using aa.symm
    rw[this];exact .d _ _ (.int _ _)
   refine⟨rfl,.int .i64 ad.size,by simp[Builtin.len_,run_underlying k,goInt,MapKept.run_getObj_map ag],?_⟩
   rw[aa];exact .d _ _ (.int _ _)
  exact j.elim
 exact j.elim
end
end Go.af
namespace Go.af
open Go Go.RowKit
variable [aL]
section
variable {P:Program}{V:Env}{w0 w w':World}{I0 I:aq}{m:Nat→Value}{l L:List AO}{nid:Nat}{o:Oper}{ρ:Operand→Value}{ρT:Operand→T}
theorem Le.setKind{id:Nat}{a j:AO}(h:l[id]?=some a)(U:j.isVar=a.isVar)(M:j.isRow=a.isRow)(O:∀e size els,j=.row e size els∨j=.aM e size els→∃els',a=.row e size els'∨a=.aM e size els'):Le I m l I m (l.set id j):=by
 refine⟨.refl I,by simp,λk _ F=>⟨(iS h U.symm k).trans F,rfl⟩,λk _ F=>⟨(iR h M.symm k).symm.trans F,rfl⟩,λk e size els F B=>?_⟩
 by_cases G:k=id
 ·subst G
  rw[List.getElem?_set,if_pos rfl,if_pos (List.getElem?_eq_some_iff.1 h).1]at B
  simp only[Option.some.injEq]at B
  obtain⟨els',q⟩:=O e size els B
  exact⟨els',by rw[h];rcases q with rfl|rfl<;>simp⟩
 rw[List.getElem?_set,if_neg (Ne.symm G)]at B;exact⟨els,B⟩
theorem av.je(F:av w0 I0 w I m l){id b:Nat}{a U:AO}(M:l[id]?=some a)(ad:a ≠ .dead)(ab:own (m id)=some b)(aa:I.cM b)(ak:U.isVar=a.isVar)(ai:U.isRow=a.isRow)(ay:Le I m l I m (l.set id U))(aA:w'.os=w.os)(aD:w'.tape=w.tape)(aB:w'.output=w.output)(ar:w.drawn≤w'.drawn)(aC:w.heap.size≤w'.heap.size)(Z:∀k,k≠b→w'.heap[k]?=w.heap[k]?)(az:dh w0.heap.size w' I m (l.set id U) (m id) U):av w0 I0 w' I m (l.set id U):=by
 have aF:=(F.obj id a M).lt ad ab
 have aw:id<l.length:=(List.getElem?_eq_some_iff.1 M).1
 have an:alive l id=true:=bg.2 ⟨_,M,ad⟩
 refine⟨F.below.trans ⟨aA,aD,aB,aC,λk aE=>Z k (by omega),λ_=>ar⟩,⟨λB q u O=>?_,λB al O=>?_,λB ah=>(Z B (λe=>by subst e;exact(F.obj id a M).ig F.sat ad ab ah)).trans (F.sat.df B ah),F.sat.c9⟩,F.ext,λj q G=>?_,λi j B ax hi G ao aq=>?_⟩
 ·have af:B≠b:=by rintro rfl;rw[aa.1]at O;cases O
  exact(World.cell?_of_block (w:=w) (a:=⟨B,q,none⟩) (Z B af)).trans (F.sat.cell B q u O)
 ·have af:B≠b:=by rintro rfl;rw[aa.2]at O;cases O
  have au:=F.sat.mp B al O
  exact MapAt.to (Z B af) au
 ·by_cases ae:j=id
  ·subst ae
   rw[List.getElem?_set,if_pos rfl,if_pos aw]at G
   injection G with G;subst G;exact az
  rw[List.getElem?_set,if_neg (Ne.symm ae)]at G
  by_cases ag:q=.dead
  ·subst ag;trivial
  refine(F.obj j q G).dD ay (λB Y=>Z B ?_) (λ_ _=>⟨rfl,rfl⟩) (.set (λB u aj=>Z B (λe=>by subst e;rw[aa.1]at aj;cases aj)) λ_ B Y=>by rw[ab]at Y;injection Y with Y;subst Y;exact aa.1 0)
  rintro rfl
  exact F.sep j id B ae (bg.2 ⟨q,G,ag⟩) an Y ab
 refine F.sep i j B ax ?_ ?_ ao aq
 ·unfold alive at hi⊢;rwa [iS M ak.symm,iR M ai.symm]at hi
 unfold alive at G⊢;rwa [iS M ak.symm,iR M ai.symm]at G
theorem Nb{t:T}{k:IntKind}{n:Int}{v:Value}(h:cL t=some (k,n))(F:ah I m L v t):v=.int k n:=by
 unfold cL at h
 split at h
 ·injection h with h;injection h with j B;subst j;subst B
  have:=bn F;cases this;rfl
 cases h
theorem LV{ds:List D}{j:Nat}{d:D}(h:ds[j]?=some d):dS ds j=d:=by simp[dS,h]
theorem US{z:Value}{i:TI}(F:eL z.cells.toList i.zero=true)(k:gY z=i.desc.agg):Rd I z (dY i.desc.agg i.zero):=by
 obtain⟨j,U,B⟩:=lH I _ _ F
 unfold dY
 cases z with
 |agg cs=>
  rw[←k]
  simp only[gY,if_true]
  exact .agg _ _ (by simpa [Value.cells]using j) U (λi v d M G=>B i v d (by simpa [Value.cells]using M) G)
 |_=>
  rw[←k]
  simp only[gY,Bool.false_eq_true,if_false]
  match O:i.zero,j with
  | [d],_=>exact B 0 _ d (by simp[Value.cells]) (by simp[O])
  | [],j=>simp[Value.cells]at j
  |_::_::_,j=>simp[Value.cells]at j
theorem M5(hE:bw P V.E){t:TypeId}{x i:Value}{F B:T}(Z:ah I m L x F)(hi:ah I m L i B)(j:(nc V.E t F B).ob) :
  (nc V.E t F B).bM=.none∧∃u,(Instr.index t x i).run P w=.ok u w∧ah I m L u (nc V.E t F B).t:=by
 unfold nc at j⊢
 split at j
 ·rename_i s k n U G
  have:=Nb G hi;subst this
  have Y:=vK hE U
  have:=bn Z;cases this
  have O:n.toNat<s.size:=by have:=j.2;omega
  have M:s[n.toNat]?=some s[n.toNat]:=by rw[getElem?_pos s n.toNat O]
  refine⟨rfl,.int .u8 (sy s n.toNat),?_,.d _ _ (.int _ _)⟩
  unfold Instr.index sy
  simp[asIntOf,run_underlying Y,j.1,M]
 exact j.elim
theorem av.Nw(F:av w0 I0 w I m L)(e:TypeId)(cs:Array Value)(size:Nat)(ds:List D)(n c:Nat)(Y:ds.length=n)(ab:∀d∈ds,d.cells.length=size∧∀x∈d.cells,x.one=true)(ah:n≤c)(an:n*size≤cs.size)(ag:c≤maxLen)(ai:∀(j:Nat) x y,cs[j]?=some x→(flat ds)[j]?=some y→Rd I x y) :
  ∃J,Le I m L J m L∧av w0 I0 (w.alloc (.cells cs e)) J m L∧Rd J (.slice (some ⟨w.heap.size,0,none⟩) n c) (.slice size ds):=by
 have Z:=F.sat.cM (Nat.le_refl w.heap.size)
 let J:=I.dq w.heap.size cs.toList
 have U:I.le J:=⟨λb o v B=>by
  have G:b≠w.heap.size:=by rintro rfl;rw[Z.1 o]at B;cases B
  simp[J,aq.dq,G,B],λ_ _ h=>h,λ_ h=>h⟩
 have aa:∀b,b≠w.heap.size→J.cell b=I.cell b:=λb G=>by funext o;simp[J,aq.dq,G]
 have aj:cw (w.alloc (.cells cs e)) J:=⟨λb o v B=>by
  by_cases G:b=w.heap.size
  ·subst G
   simp only[J,aq.dq,if_true]at B
   rw[World.cell?_alloc_new]
   cases M:cs[o]? with
   |none=>simp[M,Z.1 o]at B
   |some x=>simpa [M]using B
  ·rw[aa b G]at B
   rw[World.cell?_alloc_lt w _ _ (F.sat.lt B)];exact F.sat.cell b o v B,λb ad B=>by
  have ae:=F.sat.mp b ad B
  exact MapAt.to (Below.heap_alloc w _ b (F.sat.jv B)) ae,λb O=>(Below.heap_alloc w _ b (F.sat.gE O)).trans (F.sat.df b O),λg d h=>(F.sat.c9 g d h).mono U⟩
 obtain⟨ak,al⟩:=F.call (cm.alloc (cm.refl _ _) (Nat.le_refl _) _) (.of U (λb G=>aa b (by omega)) (λ_ _=>rfl)) aj
 refine⟨J,al,ak,.slice _ 0 n c size ds (λk=>(cs[k]?).getD undef) Y ah ag ab (λk af=>?_) (λk x M=>?_)⟩
 ·have:cs[k]?=some (cs[k]'(by omega)):=Array.getElem?_eq_getElem (by omega)
  simp[J,aq.dq,this]
 have af:k<n*size:=by rw[←Y,←fD ds (λd O=>(ab d O).1)];exact(List.getElem?_eq_some_iff.1 M).1
 have:cs[k]?=some (cs[k]'(by omega)):=Array.getElem?_eq_getElem (by omega)
 rw[this];exact(ai k _ x this M).mono U
theorem av.drew(h:av w0 I0 w I m L):av w0 I0 w.drew I m L:=⟨h.below.drew,⟨h.sat.cell,h.sat.mp,h.sat.df,h.sat.c9⟩,h.ext,λid o B=>(h.obj id o B).dD (Le.refl I m L) (λ_ _=>rfl) (λ_ _=>⟨rfl,rfl⟩) ⟨λ_ _ _ _=>⟨rfl,rfl,rfl⟩,λq b j k=>.inl ⟨q,j,k⟩⟩,h.sep⟩
theorem Ca:∀(ds:List D),(∀d∈ds,∃n,d=.int .i32 n)→flat ds=ds
 | [],_=>rfl
 |d::ds,h=>by
  obtain⟨n,rfl⟩:=h d (by simp)
  have j:=Ca ds (λx k=>h x (by simp[k]))
  unfold flat at j⊢
  rw[List.flatMap_cons,j];rfl
theorem wz(hE:bw P V.E)(aj:av w0 I0 w I m L){U t:TypeId}{x:Value}{Z:T}(O:ah I m L x Z)(F:(lQ V.E U t Z).ob) :
  (lQ V.E U t Z).bM=.none∧∃u w' J,(convert U t x).run P w=.ok u w'∧Le I m L J m L∧av w0 I0 w' J m L∧ah J m L u (lQ V.E U t Z).t:=by
 have ag:∀{t:TypeId}{s b:Nat}{z:List D}{k:IntKind},V.E t=some ⟨s,b,z,.cA k⟩→P.underlying t=some (.int k):=by
  intro t s b z k M
  obtain⟨x,aD,_,_,_,_,_,_,G,_⟩:=dz (hE t _ M)
  simp only[fC]at G
  split at G
  ·rename_i aw ad;simp at G;subst G;exact ad
  cases G
 unfold lQ at F⊢
 split at F
 ·rename_i aC k aw n ae M
  have af:=ag M
  have Y:=ag ae
  have:=bn O;cases this
  refine⟨rfl,.int k (k.wrap n),w,I,?_,.refl ..,aj,.d _ _ (.int _ _)⟩
  unfold convert
  simp[run_underlying Y,run_underlying af,Conv.intToInt]
 ·rename_i e s ae M
  split at F
  ·rename_i ad
   have af:=fV hE M
   have ar:=ag ad
   have:=bn O;cases this
   have aB:(Conv.runesFrom s s.size 0 #[]).size≤16777216:=by
    have:=size_runesFrom s s.size 0 #[];simp at this;have aA:s.size≤16777216:=F;omega
   have aq:=run_runes_of_string (P:=P) w U t e s (vK hE ae) af ar (by omega)
   have hint:=rF s s.size 0 #[] (by simp)
   generalize ao:Conv.runesFrom s s.size 0 #[]=rs at *
   have aa:mj s=rs.toList.map Ih:=by unfold mj;rw[ao]
   have Y:∀d∈mj s,∃n,d=.int .i32 n:=by
    rw[aa];intro d ab
    obtain⟨v,au,rfl⟩:=List.mem_map.1 ab
    obtain⟨n,rfl⟩:=hint v au
    exact⟨n,rfl⟩
   obtain⟨J,ax,ay,az⟩:=(aj.drew).Nw e (rs++Array.replicate (grownCap w rs.size 0 e-rs.size) (.int .i32 0)) 1 (mj s) rs.size (grownCap w rs.size 0 e) (by simp[aa]) (λd ab=>by obtain⟨n,rfl⟩:=Y d ab;simp[D.cells,D.one]) (grownCap_ge w rs.size 0 e) (by simp)
    (by
      have al:grownCap w rs.size 0 e=rs.size+w.tape w.drawn (.appendCap rs.size 0 e)%(2 ^ 63-rs.size):=rfl
      have:w.tape w.drawn (Question.appendCap rs.size 0 e)%(2 ^ 63-rs.size)<2 ^ 63-rs.size:=Nat.mod_lt _ (by omega)
      rw[al];unfold maxLen;omega)
    (
     λj x y O B=>by
     rw[Ca _ Y,aa]at B
     rw[List.getElem?_map]at B
     have an:j<rs.size:=by
      cases ai:rs.toList[j]? with
      |none=>rw[ai]at B;simp at B
      |some z=>have:=(List.getElem?_eq_some_iff.1 ai).1;simpa using this
     rw[Array.getElem?_append_left an]at O
     have ak:rs.toList[j]?=some x:=by simpa using O
     rw[ak]at B;simp at B;subst B
     obtain⟨n,rfl⟩:=hint x (List.mem_of_getElem? ak)
     exact .int _ _)
   exact⟨rfl,_,_,J,aq,ax,ay,.d _ _ az⟩
  exact F.elim
 exact F.elim
theorem av.qV{ob:AO}(B:av w0 I0 w I m l){w':World}{v:Value}{b0:Nat}(ao:own v=some b0)(aE:w.heap.size≤b0)(G:w.grownBy w' none)(aw:w.drawn≤w'.drawn)(az:∀e s els,ob ≠ .row e s els∧ob ≠ .aM e s els)(aA:dh w0.heap.size w' I (aC m l.length v) (l++[ob]) v ob) :
  Le I m l I (aC m l.length v) (l++[ob])∧av w0 I0 w' I (aC m l.length v) (l++[ob]):=by
 have aa:∀k,k<l.length→(l++[ob])[k]?=l[k]?:=λk af=>List.getElem?_append_left (by omega)
 have ay:(l++[ob])[l.length]?=some ob:=by simp
 have al:Le I m l I (aC m l.length v) (l++[ob]):=by
  refine⟨.refl I,by simp,λid Y aq=>⟨?_,bq m v (by omega)⟩,λid Y aj=>⟨?_,bq m v (by omega)⟩,λid aD s' els' Y ae=>⟨els',?_⟩⟩
  ·unfold isVar at aq⊢;rw[aa id Y];exact aq
  ·unfold isRow at aj⊢;rw[aa id Y]at aj;exact aj
  rw[aa id Y]at ae;exact ae
 have an:∀k,alive l k=true→∀b,own (m k)=some b→b<w.heap.size:=by
  intro k af b ai
  obtain⟨o,F,M⟩:=bg.1 af
  exact((B.obj k o F).lt M ai).1
 refine⟨al,⟨B.below.trans ⟨G.os,G.tape,G.output,G.size,λk af=>G.block k (by have:=B.below.size;omega) (by simp),λ_=>aw⟩,⟨λb o u Z=>?_,λb ar Z=>?_,λb M=>(G.block b (B.sat.gE M) (by simp)).trans (B.sat.df b M),B.sat.c9⟩,B.ext,λid o F=>?_,λi j b ab hi ak O U=>?_⟩⟩
 ·exact(World.cell?_of_block (w:=w) (a:=⟨b,o,none⟩) (G.block b (B.sat.lt Z) (by simp))).trans (B.sat.cell b o u Z)
 ·have ae:=B.sat.mp b ar Z
  exact MapAt.to (G.block b (B.sat.jv Z) (by simp)) ae
 ·by_cases Y:id<l.length
  ·rw[aa id Y]at F;rw[bq m v (by omega)]
   by_cases M:o=.dead
   ·subst M;trivial
   exact(B.obj id o F).dD al (λb ai=>G.block b ((B.obj id o F).lt M ai).1 (by simp)) (λ_ _=>⟨rfl,rfl⟩) (.push (λb u aB=>G.block b (B.sat.lt aB) (by simp)) (by cases ob<;>first|rfl|exact absurd rfl (az _ _ _).2))
  have:id=l.length:=by
   have:=(List.getElem?_eq_some_iff.1 F).1;simp at this;omega
  subst this
  rw[ay]at F;injection F with F;subst F
  rw[cD]
  exact aA
 have ad:∀k,k≠l.length→alive (l++[ob]) k=true→alive l k=true:=by
  intro k af au
  obtain⟨o,F,M⟩:=bg.1 au
  have ax:k<l.length:=by have:=(List.getElem?_eq_some_iff.1 F).1;simp at this;omega
  rw[aa k ax]at F
  exact bg.2 ⟨o,F,M⟩
 by_cases ag:i=l.length
 ·subst ag;rw[cD]at O;rw[bq m v (Ne.symm ab)]at U
  rw[ao]at O;injection O with O
  have:=an j (ad j (Ne.symm ab) ak) b U;omega
 by_cases ah:j=l.length
 ·subst ah;rw[cD]at U;rw[bq m v ab]at O
  rw[ao]at U;injection U with U
  have:=an i (ad i ab hi) b O;omega
 rw[bq m v ag]at O;rw[bq m v ah]at U
 exact B.sep i j b ab (ad i ag hi) (ad j ah ak) O U
theorem av.DO(M:av w0 I0 w I m l){w':World}{v:Value}{b0:Nat}(G:own v=some b0)(j:w.heap.size≤b0)(B:w.grownBy w' none)(k:w.drawn≤w'.drawn)(F:dh w0.heap.size w' I m l v (.map [] [])) :
  Le I m l I (aC m l.length v) (l++[.map [] []])∧av w0 I0 w' I (aC m l.length v) (l++[.map [] []]):=M.qV G j B k (by simp) F
theorem KH{j:ME}{i:Nat}{e:MapEntry}(h:j.1[i]?=some e):sw j i=e.born:=by simp[sw,h]
theorem zu{ar:T}(hE:bw P V.E)(M:av w0 I0 w I m L){t:TypeId}{x:Operand}(ak:o.op=.range t x)(ag:ah I m L (ρ x) ar)(Z:(u9 V.E t l nid ar).ob):bA P w0 I0 o ρ w I m l L nid (u9 V.E t l nid ar):=by
 unfold u9 at Z⊢
 split at Z
 ·rename_i O e id ao
  split at Z
  ·rename_i ks vs l' G
   try simp only[G]
   rintro rfl rfl
   have af:P.underlying t=some (.map O e):=by
    obtain⟨x,aF,_,_,_,_,_,_,k,_⟩:=dz (hE t _ ao)
    simp only[fC]at k
    split at k
    ·rename_i aD az ai;simp at k;obtain⟨rfl,rfl⟩:=k;exact ai
    cases k
   have aC:∃b,ρ x=.map (some b):=by
    generalize aq:ρ x=aE at ag
    cases ag with
    |map r _ aG ay=>
     simp only[cC,bY]at G
     split at G
     ·rename_i Y
      obtain⟨b,j,B,_⟩:=M.obj id _ Y
      have:=ay (by unfold isRow;rw[Y];rfl)
      rw[B]at this;injection this with this;exact⟨b,by rw[←this]⟩
     ·rename_i Y
      obtain⟨b,j,B,_⟩:=M.obj id _ Y
      have:=ay (by unfold isRow;rw[Y];rfl)
      rw[B]at this;injection this with this;exact⟨b,by rw[←this]⟩
     cases G
   obtain⟨b,ax⟩:=aC
   obtain⟨J,aA,al,aw,aB⟩:=mB M ag G
   rw[ax]at aw
   cases aw with
   |map _ j _ _ B aa ab ad ae=>
    have aj:=al.sat.mp b j B
    have an:=run_range_map (P:=P) w t O e b j.1 j.2 af aj.1
    have hex:(execOp ρ o).run P w=.ok (.value (.pointer (some ⟨w.heap.size,0,none⟩))) (w.alloc (.mapIter (some b) j.2 #[] j.2)):=by
     unfold execOp;simp[ak,ax,an]
    simp only[hex,bI]
    obtain⟨k1,k2⟩:=al.qV (ob:=.iter ks vs []) (w':=w.alloc (.mapIter (some b) j.2 #[] j.2)) (v:=.pointer (some ⟨w.heap.size,0,none⟩)) rfl (Nat.le_refl _) (World.grownBy_alloc w _ _) (Nat.le_refl _) (by simp)
     ⟨w.heap.size,some b,j,#[],rfl,M.below.size,heap_alloc_new w _,⟨λr F=>by injection F with F;subst F;exact B,λh=>by cases h⟩,aa,ab,ad,ae,⟨rfl,by simp⟩,al.sat.cM (Nat.le_refl _)⟩
    refine⟨J,_,aA.trans k1,k2,?_⟩
    rw[←aB]
    exact .ptr _ _ 0 (by unfold isVar;simp[AO.isVar]) (cD m _ _)
  exact Z.elim
 ·rename_i O e ks vs ao
  rintro rfl rfl
  have af:P.underlying t=some (.map O e):=by
   obtain⟨x,aF,_,_,_,_,_,_,k,_⟩:=dz (hE t _ ao)
   simp only[fC]at k
   split at k
   ·rename_i aD az ai;simp at k;obtain⟨rfl,rfl⟩:=k;exact ai
   cases k
  have G:=bn ag
  have au:∀(U:Option Nat)(j:ME),((∀r,U=some r→I.mp r=some j)∧(U=none→j.1 = #[]))→j.1.size=ks.length→j.1.size=vs.length→(∀(i:Nat)(e:MapEntry)(d:D),j.1[i]?=some e→ks[i]?=some d→Rd I e.key d)→(∀(i:Nat)(e:MapEntry)(d:D),j.1[i]?=some e→vs[i]?=some d→Rd I e.val d) →
    (execOp ρ o).run P w=.ok (.value (.pointer (some ⟨w.heap.size,0,none⟩))) (w.alloc (.mapIter U j.2 #[] j.2))→bI P ((execOp ρ o).run P w) λv w'=>∃J m',Le I m L J m' (L++[.iter ks vs []])∧av w0 I0 w' J m' (L++[.iter ks vs []])∧ah J m' (L++[.iter ks vs []]) v (.ptr L.length 0):=by
   intro U j B aa ab ad ae hex
   simp only[hex,bI]
   obtain⟨k1,k2⟩:=M.qV (ob:=.iter ks vs []) (w':=w.alloc (.mapIter U j.2 #[] j.2)) (v:=.pointer (some ⟨w.heap.size,0,none⟩)) rfl (Nat.le_refl _) (World.grownBy_alloc w _ _) (Nat.le_refl _) (by simp)
    ⟨w.heap.size,U,j,#[],rfl,M.below.size,heap_alloc_new w _,B,aa,ab,ad,ae,⟨rfl,by simp⟩,M.sat.cM (Nat.le_refl _)⟩
   exact⟨I,_,k1,k2,.ptr _ _ 0 (by unfold isVar;simp[AO.isVar]) (cD m _ _)⟩
  generalize aq:ρ x=aE at G
  cases G with
  |oX=>exact au none (#[],0) ⟨λr F=>(by cases F),λ_=>rfl⟩ rfl rfl (by simp) (by simp) (by unfold execOp;simp[ak,aq,run_range_nilMap (P:=P) w t O e af])
  |map b j _ _ B aa ab ad ae=>
   have aj:=M.sat.mp b j B
   have an:=run_range_map (P:=P) w t O e b j.1 j.2 af aj.1
   exact au (some b) j ⟨λr F=>by injection F with F;subst F;exact B,λh=>by cases h⟩ aa ab ad ae (by unfold execOp;simp[ak,aq,an])
 exact Z.elim
theorem LZ{ab:T}(Z:av w0 I0 w I m L)(an:ep l L){x:Operand}(aq:o.op=.entry x)(ai:ah I m L (ρ x) ab)(F:(sX l ab).ob):bA P w0 I0 o ρ w I m l L nid (sX l ab):=by
 unfold sX at F⊢
 split at F
 ·rename_i id
  split at F
  ·rename_i ks vs done af
   split at F
   ·rename_i i hi
    split at F
    ·rename_i k v ae ag
     try simp only[af,hi,ae,ag]
     obtain⟨b,aj,B,seen,az,aH,ak,al,aI,aJ,aB,aC,⟨aD,aA⟩,aG⟩:=Z.obj id _ (an.get af)
     generalize ax:ρ x=aK at ai
     cases ai with
     |ptr _ aE _ aF G=>
      rw[az]at G;injection G with G;injection G with G;injection G with G;subst G
      have Y:i<B.1.size:=aA i (List.mem_of_getLast? hi)
      obtain⟨r,rfl⟩:∃r,aj=some r:=by
       cases aj with
       |none=>have:=al.2 rfl;rw[this]at Y;simp at Y
       |some r=>exact⟨r,rfl⟩
      have ad:=Z.sat.mp r B (al.1 r rfl)
      have U:B.1[i]?=some B.1[i]:=Array.getElem?_eq_getElem Y
      obtain⟨aa,ao⟩:∃aa,done=aa++[i]:=by
       obtain⟨ys,ay⟩:=List.getLast?_eq_some_iff.1 hi
       exact⟨ys,ay⟩
      have au:seen=(aa.map (sw B)).toArray.push B.1[i].born:=by
       apply Array.toList_inj.1
       rw[aD,ao];simp[KH U]
      rw[au]at ak
      have ar:=run_entry_at (P:=P) w b r B.2 _ B.1 B.2 B.1[i] ak ad.1 (by simp) ad.2.2.1
      refine bA.val Z rfl (u:=.tuple #[B.1[i].key,B.1[i].val]) (by unfold execOp;simp[aq,ax,ar]) (.d _ _ (.aw _ _ rfl λj u d M O=>?_))
      rcases j with _|_|j
      ·simp at M O;subst M;subst O;exact aB i _ _ U ae
      ·simp at M O;subst M;subst O;exact aC i _ _ U ag
      simp at M
    exact F.elim
   exact F.elim
  exact F.elim
 exact F.elim
theorem xU(j:av w0 I0 w I m l){t:TypeId}(k:o.op=.makeMap t none):bA P w0 I0 o ρ w I m l L nid ⟨.map nid,.aC (l++[.map [] []]),True⟩:=by
 rintro rfl rfl
 have B:(execOp ρ o).run P w=.ok (.value (.map (some w.heap.size))) (w.alloc (.map #[] 0)):=by
  unfold execOp;simp[k,Instr.makeMap]
 simp only[B,bI]
 obtain⟨F,G⟩:=j.DO (w':=w.alloc (.map #[] 0)) (v:=.map (some w.heap.size)) rfl (Nat.le_refl _) (World.grownBy_alloc w _ _) (Nat.le_refl _) ⟨_,(#[],0),rfl,j.below.size,⟨heap_alloc_new w _,MapKept.stamped_empty 0⟩,rfl,rfl,by simp,by simp,j.sat.cM (Nat.le_refl _)⟩
 exact⟨I,_,F,G,.map _ _ (by simp) (λ_=>cD m _ _)⟩
end
end Go.af
namespace Go.af
open Go Go.RowKit
variable [aL]
section
variable {P:Program}{V:Env}{w0 w w':World}{I0 I:aq}{m:Nat→Value}{l L:List AO}{nid:Nat}{o:Oper}{ρ:Operand→Value}{ρT:Operand→T}
theorem Jk(hE:bw P V.E){t:TypeId}{sz B:Nat}{z:List D}{k:IntKind}(h:V.E t=some ⟨sz,B,z,.cA k⟩):P.underlying t=some (.int k):=by
 obtain⟨x,M,_,_,_,_,_,_,j,_⟩:=dz (hE t _ h)
 simp only[fC]at j
 split at j
 ·rename_i G F;simp at j;subst j;exact F
 cases j
theorem Uj(hE:bw P V.E){t:TypeId}(h:qm V.E t=true):∃k,P.underlying t=some (.interface k):=by
 unfold qm at h
 split at h
 ·rename_i F
  obtain⟨x,G,_,_,_,_,_,_,j,_⟩:=dz (hE t _ F)
  simp only[fC]at j
  split at j
  ·rename_i k B;exact⟨k,B⟩
  cases j
 cases h
theorem SI{ty:TypeId}{G:Array (String×TypeId)}(k:P.underlying ty=some (.interface G)){v:Value}{a:D}{b:Bool}(F:Rd I v a)(j:o7 a=some b):(Op.equal ty v .nilIface).run P w=.ok b w:=by
 unfold Op.equal
 generalize B:Op.maxDepth=n
 cases n with
 |zero=>cases B
 |succ n=>
  cases F<;>simp only[o7]at j<;>(try cases j)
  ·simp only[Op.equalIn,Sem.run_bind,run_underlying k,Result.andThen_ok,Sem.run_pure]
  simp only[Op.equalIn,Sem.run_bind,run_underlying k,Result.andThen_ok,Sem.run_pure]
theorem SJ{op:BinOp}{ty:TypeId}{x:Operand}{v:Value}{a:D}{b:Bool}(k:Rd I v a)(j:o7 a=some b):(eqGuard op ty x (.const .nilIface) v .nilIface).run P w=.ok () w:=by
 unfold eqGuard
 cases k<;>simp only[o7]at j<;>(try cases j)<;>cases op<;>simp
theorem T7(hE:bw P V.E){t:TypeId}{x:Value}{k:T}(U:ah I m L x k)(F:(nV V.E t k).ob):(nV V.E t k).bM=.none∧∃u,(Instr.makeInterface t x).run P w=.ok u w∧ah I m L u (nV V.E t k).t:=by
 unfold nV at F⊢
 split at F
 ·rename_i s b z fs d O
  refine⟨rfl,.iface t x,?_,.d _ _ (.iface t x d (bn U))⟩
  have G:∃j,P.underlying t=some (.struct j):=by
   obtain⟨x,Y,_,_,_,_,_,_,B,_⟩:=dz (hE t _ O)
   simp only[fC]at B
   split at B
   ·rename_i j M;exact⟨j,M⟩
   cases B
  obtain⟨j,G⟩:=G
  simp[Instr.makeInterface,run_underlying G]
 exact F.elim
theorem KK(hE:bw P V.E){t:TypeId}{sz ad n:Nat}{z:List D}{ds:List T}{e:TypeId}{k:Array (Nat×Operand)}(ab:V.E t=some ⟨sz,ad,z,.array n e⟩)(aq:∀p∈k.toList,ah I m L (ρ p.2) (ρT p.2))(al:j7 (λi=>some (i*aE V.E e,aE V.E e)) (z.map fX) (k.toList.map λp=>(p.1,ρT p.2))=some ds)(ai:(V.E e).isSome=true) :
  ∃u,(Instr.build t (k.map λ(i,x)=>(i,ρ x))).run P w=.ok u w∧ah I m L u (eA true ds):=by
 have au:=vJ hE ab
 obtain⟨x,U,af,ax,ay,ag,Y,az,aA,aB⟩:=dz (hE t _ ab)
 have ak:kJ I m L U.cells.toList (z.map fX):=by
  obtain⟨k1,k2,av⟩:=lH I _ _ Y
  have k1:U.cells.toList.length=z.length:=k1
  refine⟨by simpa using k1,λv F=>?_,λi v t F B=>?_⟩
  ·obtain⟨j,ao,rfl⟩:=List.mem_iff_getElem.1 F
   have aa:j<z.length:=by omega
   exact(av j _ _ (List.getElem?_eq_getElem ao) (List.getElem?_eq_getElem aa)).one (k2 _ (List.getElem_mem aa))
  rw[List.getElem?_map]at B
  cases O:z[i]? with
  |none=>simp[O]at B
  |some d=>simp[O]at B;subst B;exact Ax (rX Y F O)
 obtain⟨G,an,M⟩:=dU (ρ:=ρ) (ρT:=ρT) (m:=m) (L:=L) (λi=>some (i*aE V.E e,aE V.E e)) k.toList U.cells _ ds ak aq al
 obtain⟨aC,Z⟩:=Option.isSome_iff_exists.1 ai
 obtain⟨aw,_,k1,k2,_⟩:=dz (hE _ _ Z)
 have ar:aw.size=aE V.E e:=by simp[aE,Z,k2]
 have aj:P.built t (k.map λ(i,x)=>(i,ρ x)).toList=some G:=by
  unfold Program.built
  have ae:(k.map λ(i,x)=>(i,ρ x)).toList=k.toList.map λp=>(p.1,ρ p.2):=by simp
  simp only[af,au,ag,k1,ar]
  rw[←an,ae]
 refine⟨_,run_build w t _ _ aj,?_⟩
 have:=x6 (I:=I) (m:=m) (L:=L) (i:=⟨G.size,0,[],.struct []⟩) (vs:=G.toList) (ts:=ds) M.1 (by simp) (by simp[TD.agg]) (λj v t F B=>⟨M.2.2 j v t F B,M.2.1 v (List.mem_of_getElem? F)⟩)
 simpa [TD.agg]using this
theorem Cb:∀{cs:List D},cs.all D.one=true→flat cs=cs
 | [],_=>rfl
 |d::cs,h=>by
  simp only[List.all_cons,Bool.and_eq_true]at h
  have:d.cells=[d]:=by cases d<;>simp[D.one]at h<;>rfl
  simp only[flat,List.flatMap_cons,this]
  have j:=Cb h.2
  unfold flat at j
  rw[j];rfl
theorem S7(hE:bw P V.E){t e:TypeId}{sz ae n:Nat}{z:List D}(aj:V.E t=some ⟨sz,ae,z,.array n e⟩){v:Value}{cs:List D}(B:ah I m L v (.d (.box (.agg cs))))(G:(rJ V.E n e cs).ob) :
  (rJ V.E n e cs).bM=.none∧∃u,(Instr.sliceAt t v none none none).run P w=.ok u w∧ah I m L u (rJ V.E n e cs).t:=by
 unfold rJ at G⊢
 split at G
 ·rename_i h
  rw[if_pos h]
  obtain⟨af,ag,ai,ar,U⟩:=h
  refine⟨rfl,?_⟩
  have O:=vJ hE aj
  have Y:P.arrayLen t=n:=by simp[Program.arrayLen,O]
  have aa:P.elem t=e:=by simp[Program.elem,O]
  have al:P.underlying t=some (.array (P.arrayLen t) (P.elem t)):=by rw[Y,aa];exact O
  obtain⟨au,ab⟩:=Option.isSome_iff_exists.1 ag
  have ak:(sizeOf (P.elem t)).run P w=.ok 1 w:=by
   rw[aa,gL hE ab];congr 1;simpa [aE,ab]using af
  have j:=bn B
  cases j with
  |box b _ val av ao aq=>
   have ad:=run_sliceAt_array_all (P:=P) (w:=w) (t:=t) (a:=⟨b,0,none⟩) al
   rw[ak,Y]at ad
   refine⟨_,ad,?_⟩
   refine .d _ _ ?_
   have M:∀d∈cs,d.one=true:=λd j=>List.all_eq_true.1 U d j
   have Z:∀d:D,d.one=true→d.cells=[d]:=by intro d j;cases d<;>simp[D.one]at j<;>rfl
   have an:∀(o:Nat),slicedAt ⟨b,0,none⟩ 0 n n 1=.slice (some ⟨b,0,none⟩) n n:=by
    intro o
    unfold slicedAt
    split
    ·simp
    simp[Addr.add]
   rw[an 0]
   refine .slice b 0 n n 1 cs val ai (Nat.le_refl _) (by unfold maxLen;omega) (λd j=>⟨by rw[Z d (M d j)];rfl,λx B=>by rw[Z d (M d j)]at B;simp at B;subst B;exact M _ j⟩) (λk F=>?_) (λk x F=>?_)
   ·have:=ao k (by simp[D.cells];omega)
    simpa using this
   rw[Cb U]at F
   exact aq k x (by simpa [D.cells]using F)
 exact G.elim
theorem Ss{v:Value}{d:D}{kk:IntKind}(h:Rd I v d)(j:fF kk d=true):∃n,v=.int kk n∧d=.int kk n:=by
 cases d<;>simp[fF]at j
 subst j
 cases h;exact⟨_,rfl,rfl⟩
theorem HL{v:Value}{d:D}{n:Nat}{kk:IntKind}(h:Rd I v d)(M:lh n kk d=true):∃j:List Int,j.length=n∧v=.agg (j.map λn=>Value.int kk n).toArray∧d=.agg (j.map λn=>D.int kk n):=by
 cases d<;>simp only[lh,Bool.and_eq_true,decide_eq_true_eq]at M<;>try cases M
 rename_i cs ab O
 cases h with
 |agg vs _ Z ad aa=>
  have Y:∀(cs:List D)(vs:List Value),vs.length=cs.length→cs.all (fF kk)=true→(∀(i:Nat) v d,vs[i]?=some v→cs[i]?=some d→Rd I v d)→∃j:List Int,j.length=cs.length∧vs=j.map (λn=>Value.int kk n)∧cs=j.map (λn=>D.int kk n):=by
   intro cs
   induction cs with
   |nil=>intro vs k _ _;exact⟨[],rfl,by simpa using k,rfl⟩
   |cons c cs U=>
    intro vs k B G
    cases vs with
    |nil=>simp at k
    |cons v vs=>
     simp only[List.all_cons,Bool.and_eq_true]at B
     obtain⟨n,rfl,rfl⟩:=Ss (G 0 v c rfl rfl) B.1
     obtain⟨j,k1,k2,F⟩:=U vs (by simpa using k) B.2 (λi v d a b=>G (i+1) v d (by simpa using a) (by simpa using b))
     exact⟨n::j,by simp[k1],by simp[k2],by simp[F]⟩
  obtain⟨j,k1,k2,F⟩:=Y cs vs.toList (by simpa using Z) O (λi v d a b=>aa i v d (by simpa using a) b)
  refine⟨j,by omega,?_,by rw[F]⟩
  congr 1
  apply Array.toList_inj.1
  simpa using k2
theorem so{kk:IntKind}:∀(a b:List Int),dL (a.map λn=>D.int kk n) (b.map λn=>D.int kk n)=decide (a=b)
 | [],[]=>by simp[dL]
 | [],_::_=>by simp[dL]
 |_::_,[]=>by simp[dL]
 |x::a,y::b=>by
  simp only[List.map_cons,dL,jl,so a b]
  rw[Bool.eq_iff_iff];simp
theorem ph{e:TypeId}{kk:IntKind}(j:P.underlying e=some (.int kk)):P.plainKey e=true:=by simp[Program.plainKey,j]
theorem Ia(d:Nat){e:TypeId}{kk:IntKind}(B:P.underlying e=some (.int kk))(F:P.cellsOf e=1)(a b:List Int):∀(is:List Nat),(∀i∈is,i<a.length∧i<b.length) →
  (Op.eqItems (d+1) e (P.cellsOf e) (a.map λn=>Value.int kk n).toArray (b.map λn=>Value.int kk n).toArray is).run P w=.ok (is.all λi=>decide (a[i]?=b[i]?)) w
 | [],_=>by simp[Op.eqItems]
 |i::is,h=>by
  have hi:=h i (by simp)
  have G:(a.map λn=>Value.int kk n).toArray[i*P.cellsOf e]?=some (.int kk a[i]):=by simp[F,hi.1]
  have M:(b.map λn=>Value.int kk n).toArray[i*P.cellsOf e]?=some (.int kk b[i]):=by simp[F,hi.2]
  simp only[Op.eqItems,Sem.run_bind,run_part_plain w (ph B) G,run_part_plain w (ph B) M,Result.andThen_ok,run_equalIn_int w d e kk _ _ _ B]
  by_cases k:a[i]=b[i]
  ·have:=Ia d B F a b is (λj O=>h j (by simp[O]))
   simp only[k,BEq.rfl,Bool.not_true,Bool.false_eq_true,if_false]
   rw[this]
   simp[k,hi.1,hi.2]
  simp[k,hi.1,hi.2,beq_eq_false_iff_ne.2 k]
theorem JK{a b:List Int}(h:a.length=b.length):((List.range a.length).all λi=>decide (a[i]?=b[i]?))=decide (a=b):=by
 rw[Bool.eq_iff_iff]
 simp only[List.all_eq_true,List.mem_range,decide_eq_true_eq]
 constructor
 ·intro j
  apply List.ext_getElem? 
  intro i
  by_cases hi:i<a.length
  ·exact j i hi
  rw[List.getElem?_eq_none (by omega),List.getElem?_eq_none (by omega)]
 rintro rfl i _;rfl
theorem SH{j e:TypeId}{n:Nat}{kk:IntKind}(G:P.underlying j=some (.array n e))(F:P.underlying e=some (.int kk)){i:TypeInfo}(hi:P.info? e=some i)(B:P.cellsOf e=1)(a b:List Int)(k:a.length=n)(M:b.length=n) :
  (Op.equal j (.agg (a.map λn=>Value.int kk n).toArray) (.agg (b.map λn=>Value.int kk n).toArray)).run P w=.ok (decide (a=b)) w:=by
 unfold Op.equal
 rw[show Op.maxDepth=9998+1+1 by rfl,run_equalIn_array w (9998+1) _ _ G hi,Ia 9998 F B a b _ (λi hi=>by simp at hi;omega),←k,JK (by omega)]
theorem SF{G e:TypeId}{n:Nat}{kk:IntKind}(Z:P.underlying G=some (.array n e))(F:P.underlying e=some (.int kk)){ab:TypeInfo}(hi:P.info? e=some ab)(O:P.cellsOf e=1)(k:List Int)(ad:k.length=n)(em:Bool) :
  (Instr.checkKey em 10000 G (.agg (k.map λn=>Value.int kk n).toArray)).run P w=.ok () w:=by
 rw[show(10000:Nat)=9998+1+1 by rfl]
 unfold Instr.checkKey
 simp only[Sem.run_bind,run_underlying Z,Result.andThen_ok]
 simp only[Std.Legacy.Range.forIn_eq_forIn_range',Std.Legacy.Range.size,Nat.sub_zero,Nat.add_one_sub_one,Nat.div_one]
 have B:∀i∈List.range' 0 n,i<k.length:=λi hi=>by simp at hi;omega
 generalize List.range' 0 n=is at B
 induction is with
 |nil=>simp
 |cons j is aa=>
  have Y:=B j (by simp)
  have M:(k.map λn=>Value.int kk n).toArray[j*P.cellsOf e]?=some (.int kk k[j]):=by simp[O,Y]
  have U:(Instr.checkKey em (9998+1) e (.int kk k[j])).run P w=.ok () w:=MapKept.run_checkKey (d:=.int kk) (n:=9998) F (by simp[MapKept.IsKey]) em
  simp only[List.forIn_cons,Sem.run_bind,run_sizeOf w hi,Result.andThen_ok,run_part_plain w (ph F) M,U,Sem.run_pure]
  exact aa λi hi=>B i (by simp[hi])
def Nc:D→Value
 |.int k n=>.int k n
 |_=>.bool false
def bf:D→Value
 |.int k n=>.int k n
 |.agg cs=>.agg (cs.map Nc).toArray
 |.str s=>.string s
 |_=>.bool false
def Found(P:Program)(w:World)(B:TypeId)(d:D)(k:List MapEntry)(ks:List D):Prop:=
 (bW d ks 0=none∧(Instr.findKey B (bf d) k).run P w=.ok none w∧∀x∈k,x.key≠bf d) ∨
 ∃j x,bW d ks 0=some j∧k[j]?=some x∧x.key=bf d∧ks[j]?=some d∧(Instr.findKey B (bf d) k).run P w=.ok (some (j,x.val)) w
structure KL(P:Program)(kt:TypeId)(K:KT):Prop where
 rd:∀{I:aq}{v:Value}{d:D},K.ok d=true→Rd I v d→v=bf d
 ck:∀(w:World)(d:D),K.ok d=true→∀em:Bool,(Instr.checkKey em 10000 kt (bf d)).run P w=.ok () w
 find:∀(I:aq)(w:World)(d:D)(es:List MapEntry)(ks:List D),K.ok d=true→es.length=ks.length→(∀(j:Nat)(x:MapEntry)(d:D),es[j]?=some x→ks[j]?=some d→Rd I x.key d)→gZ K ks=true→Found P w kt d es ks
 stays:∀(w:World)(d:D),K.ok d=true→(Instr.keyThatStays (bf d) (bf d)).run P w=.ok (bf d) w
theorem xz{n:Nat}{kk:IntKind}{d:D}(G:lh n kk d=true):∃j:List Int,j.length=n∧d=.agg (j.map λn=>D.int kk n):=by
 cases d<;>simp only[lh,Bool.and_eq_true,decide_eq_true_eq]at G<;>try cases G
 rename_i cs Y M
 have U:∀cs:List D,cs.all (fF kk)=true→∃j:List Int,j.length=cs.length∧cs=j.map λn=>D.int kk n:=by
  intro cs
  induction cs with
  |nil=>intro _;exact⟨[],rfl,rfl⟩
  |cons c cs O=>
   intro B
   simp only[List.all_cons,Bool.and_eq_true]at B
   obtain⟨j,k1,k2⟩:=O B.2
   have F:=B.1
   cases c<;>simp[fF]at F
   rename_i k n
   subst F
   exact⟨n::j,by simp[k1],by simp[k2]⟩
 obtain⟨j,k1,k2⟩:=U cs M
 exact⟨j,by omega,by rw[k2]⟩
theorem tJ(kk:IntKind)(j:List Int):bf (.agg (j.map λn=>D.int kk n))=.agg (j.map λn=>Value.int kk n).toArray:=by
 simp only[bf,List.map_map];rfl
structure AK(P:Program)(kt:TypeId)(n:Nat)(kk:IntKind):Prop where
 eq:∀(w:World)(a b:List Int),a.length=n→b.length=n→(Op.equal kt (.agg (a.map λn=>Value.int kk n).toArray) (.agg (b.map λn=>Value.int kk n).toArray)).run P w=.ok (decide (a=b)) w
 ck:∀(w:World)(ns:List Int),ns.length=n→∀em:Bool,(Instr.checkKey em 10000 kt (.agg (ns.map λn=>Value.int kk n).toArray)).run P w=.ok () w
 wide:(match P.underlying kt with|some (.array _ _)|some (.struct _)=>true|_=>false)=true
theorem one_cell(hE:bw P V.E){j:TypeId}{s b:Nat}{z:List D}{kk:IntKind}(F:V.E j=some ⟨s,b,z,.cA kk⟩):P.underlying j=some (.int kk)∧(∃k,P.info? j=some k)∧P.cellsOf j=1:=by
 obtain⟨k,z,k1,k2,ab,ad,Y,Z,ae,M⟩:=dz (hE j _ F)
 refine⟨Jk hE F,⟨k,k1⟩,?_⟩
 have:P.cellsOf j=k.size:=by simp[Program.cellsOf,k1]
 rw[this,k2]
 have U:=Y
 have G:=Z
 simp only[TD.agg]at G
 have O:z.cells.toList.length=1:=by cases z<;>simp[gY,Value.cells]at G⊢
 obtain⟨aa,_,_⟩:=lH ⟨λ_ _=>none,λ_=>none,λ_=>False⟩ _ _ U
 have B:z.cells.toList.length=_:=aa
 rw[O]at B
 dsimp only at M B⊢
 exact M.symm.trans B.symm
theorem H9(d:Nat){t0:TypeId}{kk:IntKind}(F:P.underlying t0=some (.int kk))(a b:List Int)(M:a.length=b.length):∀(k:List Field) (i:Nat),(∀g∈k,g.name ≠ "_")→k.map (λf=>(f.offset,f.type))=(List.range' i k.length).map (λj=>(j,t0))→i+k.length=a.length →
  (Op.eqFields (d+1) (a.map λn=>Value.int kk n).toArray (b.map λn=>Value.int kk n).toArray k).run P w=.ok (decide (a.drop i=b.drop i)) w
 | [],i,_,_,B=>by
  simp only[List.length_nil,Nat.add_zero]at B
  simp[Op.eqFields,List.drop_eq_nil_of_le (Nat.le_of_eq B.symm),List.drop_eq_nil_of_le (Nat.le_of_eq (B.trans M).symm)]
 |g::k,i,Y,O,B=>by
  simp only[List.length_cons,List.range'_succ,List.map_cons,List.cons.injEq,Prod.mk.injEq]at O B
  obtain⟨⟨ae,af⟩,ag⟩:=O
  have hi:i<a.length:=by omega
  have U:i<b.length:=by omega
  have ab:(a.map λn=>Value.int kk n).toArray[i]?=some (.int kk a[i]):=by simp[hi]
  have ad:(b.map λn=>Value.int kk n).toArray[i]?=some (.int kk b[i]):=by simp[U]
  have ah:g.name ≠ "_" :=Y g (by simp)
  have ai:=H9 d F a b M k (i+1) (λg h=>Y g (by simp[h])) ag (by omega)
  simp only[Op.eqFields,Sem.run_ite,ah,ne_eq,not_false_eq_true,if_true,Sem.run_bind,ae,af,run_part_plain w (ph F) ab,run_part_plain w (ph F) ad,Result.andThen_ok,run_equalIn_int w d t0 kk _ _ _ F,ai]
  have Z:=List.drop_eq_getElem_cons hi
  have aa:=List.drop_eq_getElem_cons U
  have aj:decide (a.drop i=b.drop i)=(decide (a[i]=b[i])&&decide (a.drop (i+1)=b.drop (i+1))):=by
   rw[Z,aa,Bool.eq_iff_iff];simp only[decide_eq_true_eq,Bool.and_eq_true,List.cons.injEq]
  rw[aj]
  by_cases G:a[i]=b[i]
  ·simp only[G,BEq.rfl,Bool.not_true,Bool.false_eq_true,if_false,decide_true,Bool.true_and]
  simp only[beq_eq_false_iff_ne.2 G,Bool.not_false,if_true,Sem.run_pure,G,decide_false,Bool.false_and]
theorem SG{Y t0:TypeId}{kk:IntKind}{k:Array Field}(af:P.underlying Y=some (.struct k))(O:P.underlying t0=some (.int kk))(F:List Int)(ae:F.length=k.size)(M:k.toList.map (λf=>(f.offset,f.type))=(List.range k.size).map (λj=>(j,t0)))(em:Bool) :
  (Instr.checkKey em 10000 Y (.agg (F.map λn=>Value.int kk n).toArray)).run P w=.ok () w:=by
 rw[show(10000:Nat)=9998+1+1 by rfl]
 unfold Instr.checkKey
 simp only[Sem.run_bind,run_underlying af,Result.andThen_ok]
 rw[←Array.forIn_toList]
 have G:∀g∈k.toList,g.type=t0∧g.offset<F.length:=by
  intro g ad
  obtain⟨i,hi,rfl⟩:=List.mem_iff_getElem.1 ad
  have B:(k.toList.map λf=>(f.offset,f.type))[i]?=some (k.toList[i].offset,k.toList[i].type):=by rw[List.getElem?_map,List.getElem?_eq_getElem hi];rfl
  rw[M,List.getElem?_map]at B
  have U:i<k.size:=by simpa using hi
  rw[List.getElem?_range U]at B
  simp only[Option.map_some,Option.some.injEq,Prod.mk.injEq]at B
  exact⟨B.2.symm,by rw[←B.1,ae];exact U⟩
 generalize k.toList=fs at G
 induction fs with
 |nil=>simp
 |cons g fs ag=>
  obtain⟨aa,B⟩:=G g (by simp)
  have Z:(F.map λn=>Value.int kk n).toArray[g.offset]?=some (.int kk F[g.offset]):=by simp[B]
  have ab:(Instr.checkKey em (9998+1) t0 (.int kk F[g.offset])).run P w=.ok () w:=MapKept.run_checkKey (d:=.int kk) (n:=9998) O (by simp[MapKept.IsKey]) em
  simp only[List.forIn_cons,Sem.run_bind,Sem.run_ite,aa,run_part_plain w (ph O) Z,ab,Sem.run_pure,Result.andThen_ok]
  have:=ag λg M=>G g (by simp[M])
  split<;>simpa using this
theorem B2{Z:TypeId}{n:Nat}{kk:IntKind}(aa:AK P Z n kk)(k:List Int)(ab:k.length=n):∀(B:List MapEntry)(ks:List D)(i:Nat),B.length=ks.length →
  (∀(j:Nat)(x:MapEntry)(d:D),B[j]?=some x→ks[j]?=some d→Rd I x.key d)→ks.all (lh n kk)=true →
  (bW (.agg (k.map λn=>D.int kk n)) ks i=none∧(Instr.findAsking Z (.agg (k.map λn=>Value.int kk n).toArray) B i).run P w=.ok none w∧∀x∈B,x.key ≠ .agg (k.map λn=>Value.int kk n).toArray) ∨
  ∃j x,bW (.agg (k.map λn=>D.int kk n)) ks i=some (i+j)∧B[j]?=some x∧x.key=.agg (k.map λn=>Value.int kk n).toArray∧ks[j]?=some (.agg (k.map λn=>D.int kk n))∧(Instr.findAsking Z (.agg (k.map λn=>Value.int kk n).toArray) B i).run P w=.ok (some (i+j,x.val)) w
 | [],[],i,_,_,_=>.inl ⟨rfl,by simp[Instr.findAsking],by simp⟩
 |x::B,d::ks,i,ak,ad,hk=>by
  simp only[List.all_cons,Bool.and_eq_true]at hk
  obtain⟨as,aj,O,rfl⟩:=HL (ad 0 x d rfl rfl) hk.1
  have Y:=aa.eq w k as ab aj
  by_cases F:k=as
  ·subst F
   refine .inr ⟨0,x,by simp[bW,fe,so],rfl,O,rfl,?_⟩
   simp only[Instr.findAsking,O,Sem.run_bind,Y,Result.andThen_ok]
   simp
  rcases B2 aa k ab B ks (i+1) (by simpa using ak) (λj e d G M=>ad (j+1) e d (by simpa using G) (by simpa using M)) hk.2 with ⟨G,M,ai⟩| ⟨j,ae,G,M,af,ag,ah⟩
  ·refine .inl ⟨by simp[bW,fe,so,F,G],?_,λy hy=>?_⟩
   ·simp only[Instr.findAsking,O,Sem.run_bind,Y,Result.andThen_ok]
    simp[F,M]
   rcases List.mem_cons.1 hy with rfl|hy
   ·rw[O];intro U
    injection U with U
    have:=congrArg Array.toList U
    simp only[List.map_inj_left,List.toList_toArray]at this
    exact F ((List.map_inj_right (λa b h=>by injection h)).1 this.symm)
   exact ai y hy
  refine .inr ⟨j+1,ae,by simp only[bW,fe,so,F];simp[G];omega,by simpa using M,af,by simpa using ag,?_⟩
  simp only[Instr.findAsking,O,Sem.run_bind,Y,Result.andThen_ok]
  simp[F,ah];omega
theorem SU(kk:IntKind)(d:Nat):∀j:List Int,Instr.sameBits (d+2) (.agg (j.map λn=>Value.int kk n).toArray) (.agg (j.map λn=>Value.int kk n).toArray)=true:=by
 intro j
 simp only[Instr.sameBits,BEq.rfl,Bool.true_and,List.all_eq_true]
 rintro⟨a,b⟩ k
 have F:∀l:List Int,(a,b)∈(l.map λn=>Value.int kk n).zip (l.map λn=>Value.int kk n)→∃n,a=.int kk n∧b=.int kk n:=by
  intro l
  induction l with
  |nil=>intro h;simp at h
  |cons x l B=>
   intro h
   simp only[List.map_cons,List.zip_cons_cons,List.mem_cons,Prod.mk.injEq]at h
   rcases h with ⟨rfl,rfl⟩|h
   ·exact⟨x,rfl,rfl⟩
   exact B h
 obtain⟨n,rfl,rfl⟩:=F j (by simpa using k)
 simp[Instr.sameBits]
theorem AK.kl{U:TypeId}{n:Nat}{kk:IntKind}(F:AK P U n kk):KL P U (.arr n kk) where
 rd h r:=by obtain⟨k,_,rfl,rfl⟩:=HL r h;exact(tJ kk k).symm
 ck w d h em:=by obtain⟨k,G,rfl⟩:=xz h;rw[tJ];exact F.ck w k G em
 find I w d es ks h Z aa hk:=by
  obtain⟨k,G,rfl⟩:=xz h
  unfold Found
  rw[tJ,run_findKey_eq w F.wide]
  rcases B2 (w:=w) F k G es ks 0 Z aa hk with ⟨B,M,O⟩| ⟨j,x,B,M,O,ab,Y⟩
  ·exact .inl ⟨B,M,O⟩
  rw[Nat.zero_add]at B Y;exact .inr ⟨j,x,B,M,O,ab,Y⟩
 stays w d h:=by
  obtain⟨k,_,rfl⟩:=xz h
  rw[tJ]
  unfold Instr.keyThatStays
  rw[show(10000:Nat)=9998+2 by rfl,SU kk 9998 k];rfl
theorem B5{aw:TypeId}{U:TypeDesc}{K:KT}(av:P.underlying aw=some U)(Z:∀d,K.ok d=true→MapKept.IsKey U (bf d))(ah:∀{I:aq}{v:Value}{d:D},K.ok d=true→Rd I v d→v=bf d)(Y:∀a b,K.ok a=true→K.ok b=true→(fe a b=true↔bf a=bf b))(ab:∀a b,K.ok a=true→K.ok b=true→bf a=bf b→a=b) :
  ∀(d:D)(B:List MapEntry)(ks:List D)(i:Nat),K.ok d=true→B.length=ks.length→(∀(j:Nat)(x:MapEntry)(d:D),B[j]?=some x→ks[j]?=some d→Rd I x.key d)→ks.all K.ok=true →
  (bW d ks i=none∧Instr.findNow U (bf d) B i=some none∧∀x∈B,x.key≠bf d) ∨
  ∃j x,bW d ks i=some (i+j)∧B[j]?=some x∧x.key=bf d∧ks[j]?=some d∧Instr.findNow U (bf d) B i=some (some (i+j,x.val))
 |d,[],[],i,_,_,_,_=>.inl ⟨rfl,rfl,by simp⟩
 |d,x::B,k::ks,i,F,ar,af,ba=>by
  simp only[List.all_cons,Bool.and_eq_true]at ba
  have O:=ah ba.1 (af 0 x k rfl rfl)
  obtain⟨r,aa,ag⟩:=MapKept.sameNow_of_keys (Z d F) (O▸Z k ba.1)
  cases r with
  |true=>
   have aj:bf d=bf k:=by rw[←O];exact ag.1 rfl
   have:=ab d k F ba.1 aj
   subst this
   exact .inr ⟨0,x,by simp[bW,(Y d d F F).2 rfl],rfl,O,rfl,by simp[Instr.findNow,aa]⟩
  |false=>
   have ad:bf d≠bf k:=λe=>by have:=ag.2 (by rw[O];exact e);cases this
   have ae:fe d k=false:=by
    cases au:fe d k with
    |false=>rfl
    |true=>exact(ad ((Y d k F ba.1).1 au)).elim
   rcases B5 av Z ah Y ab d B ks (i+1) F (by simpa using ar) (λj e d G M=>af (j+1) e d (by simpa using G) (by simpa using M)) ba.2 with ⟨G,M,ao⟩| ⟨j,ai,G,M,ak,al,an⟩
   ·exact .inl ⟨by simp[bW,ae,G],by simp[Instr.findNow,aa,M],λy hy=>by
     rcases List.mem_cons.1 hy with rfl|hy
     ·rw[O];exact λe=>ad e.symm
     exact ao y hy⟩
   exact .inr ⟨j+1,ai,by simp[bW,ae,G];omega,by simpa using M,ak,by simpa using al,by simp[Instr.findNow,aa,an];omega⟩
theorem CQ{U:TypeId}{Z:TypeDesc}{K:KT}(k:P.underlying U=some Z)(M:∀d,K.ok d=true→MapKept.IsKey Z (bf d))(O:∀{I:aq}{v:Value}{d:D},K.ok d=true→Rd I v d→v=bf d)(aa:∀a b,K.ok a=true→K.ok b=true→(fe a b=true↔bf a=bf b))(ab:∀a b,K.ok a=true→K.ok b=true→bf a=bf b→a=b)(af:∀d,K.ok d=true→Instr.sameBits 10000 (bf d) (bf d)=true):KL P U K where
 rd:=O
 ck w d h em:=MapKept.run_checkKey (n:=9999) k (M d h) em
 find I w d es ks h ad ae ba:=by
  rcases B5 (I:=I) k M O aa ab d es ks 0 h ad ae ba with ⟨B,F,G⟩| ⟨j,x,B,F,G,ag,Y⟩
  ·exact .inl ⟨B,MapKept.run_findKey k F,G⟩
  rw[Nat.zero_add]at B Y;exact .inr ⟨j,x,B,F,G,ag,MapKept.run_findKey k Y⟩
 stays w d h:=by
  unfold Instr.keyThatStays
  rw[af d h];rfl
theorem Nu{G:TypeId}{kk:IntKind}(M:P.underlying G=some (.int kk)):KL P G (.int kk):=by
 have j:∀{d:D},(KT.int kk).ok d=true→∃n,d=.int kk n:=by
  intro d h
  cases d<;>simp[KT.ok,fF]at h
  subst h;exact⟨_,rfl⟩
 refine CQ M (λd h=>?_) (λh r=>?_) (λa b B F=>?_) (λa b B F e=>?_) λd h=>?_
 ·obtain⟨n,rfl⟩:=j h;simp[bf,MapKept.IsKey]
 ·obtain⟨n,rfl⟩:=j h;cases r;rfl
 ·obtain⟨n,rfl⟩:=j B;obtain⟨k,rfl⟩:=j F;simp[fe,bf]
 ·obtain⟨n,rfl⟩:=j B;obtain⟨k,rfl⟩:=j F;simpa [bf]using e
 obtain⟨n,rfl⟩:=j h;simp[bf,Instr.sameBits]
theorem Nv{G:TypeId}(M:P.underlying G=some .string):KL P G .str:=by
 have j:∀{d:D},KT.str.ok d=true→∃s,d=.str s:=by
  intro d h
  cases d<;>simp[KT.ok]at h
  exact⟨_,rfl⟩
 refine CQ M (λd h=>?_) (λh r=>?_) (λa b B F=>?_) (λa b B F e=>?_) λd h=>?_
 ·obtain⟨n,rfl⟩:=j h;simp[bf,MapKept.IsKey]
 ·obtain⟨n,rfl⟩:=j h;cases r;rfl
 ·obtain⟨n,rfl⟩:=j B;obtain⟨k,rfl⟩:=j F;simp[fe,bf,MapKept.bytes_beq]
 ·obtain⟨n,rfl⟩:=j B;obtain⟨k,rfl⟩:=j F;simpa [bf]using e
 obtain⟨n,rfl⟩:=j h;simp[bf,Instr.sameBits,MapKept.bytes_beq]
theorem kn(
         hE:bw P V.E){t:TypeId}{K:KT}{i:TI}(h:eU V.E t=some (K,i)):∃F e,P.underlying t=some (.map F e)∧KL P F K∧V.E e=some i:=by
 unfold eU at h
 split at h
 ·rename_i F e ax
  split at h
  ·rename_i az aB k au
   injection h with h;injection h with an ao;subst an;subst ao
   obtain⟨x,aF,_,_,_,_,_,_,M,_⟩:=dz (hE t _ ax)
   refine⟨F,e,?_,?_,au⟩
   ·simp only[fC]at M
    split at M
    ·rename_i aD aA av;simp at M;obtain⟨rfl,rfl⟩:=M;exact av
    cases M
   unfold tH at k
   split at k
   ·rename_i aj B
    injection k with k;subst k
    exact Nu (Jk hE B)
   ·rename_i n0 aC B
    split at k
    ·rename_i aj Y
     injection k with k;subst k
     obtain⟨O,⟨aE,ak⟩,al⟩:=one_cell hE Y
     have ab:=vJ hE B
     exact AK.kl ⟨λw a b ae af=>SH ab O ak al a b ae af,λw aa ai em=>SF ab O ak al aa ai em,by simp[ab]⟩
    cases k
   ·rename_i fs B
    cases fs with
    |nil=>cases k
    |cons p r=>
     obtain⟨ay,t0⟩:=p
     simp only at k
     split at k
     ·rename_i aj Y
      split at k
      ·rename_i Z
       injection k with k;subst k
       obtain⟨O,_,_⟩:=one_cell hE Y
       obtain⟨G,U,ad,aq,ar⟩:=Uk hE B Z
       have aw:((ay,t0)::r).length=G.size:=by rw[ad];simp
       have ah:G.toList.map (λf=>(f.offset,f.type))=(List.range G.size).map (λj=>(j,t0)):=by
        rw[←ad,←aw]
        cases r with
        |nil=>cases Z
        |cons p r=>exact of_decide_eq_true Z
       refine AK.kl ⟨λw a b ae af=>?_,λw aa ai em=>SG U O aa (by omega) ah em,by simp[U]⟩
       have ag:P.fieldsOf F=G:=by simp[Program.fieldsOf,U]
       unfold Op.equal
       rw[show Op.maxDepth=9998+1+1 by rfl,run_equalIn_struct w (9998+1) F _ _ (by rw[ag];exact U) ar,ag]
       have:=H9 (w:=w) 9998 O a b (by omega) G.toList 0 aq (by rw[ah,List.range_eq_range'];simp) (by simp;omega)
       rw[this];simp
      cases k
     cases k
   ·rename_i B
    injection k with k;subst k
    exact Nv (vK hE B)
   cases k
  cases h
 cases h
theorem look_ok(hE:bw P V.E)(az:av w0 I0 w I m L)(ar:ep l L){t:TypeId}{x k:Value}{aa Z:T}{ok:Bool}(aA:ah I m L x aa)(ax:ah I m L k Z)(G:(nu V.E t l aa Z ok).ob) :
  (nu V.E t l aa Z ok).bM=.none∧∃u,(Instr.lookup t x k ok).run P w=.ok u w∧ah I m L u (nu V.E t l aa Z ok).t:=by
 unfold nu at G⊢
 split at G
 ·rename_i K i ks vs kd ao aq
  obtain⟨aB,e,ak,ab,aH⟩:=kn hE ao
  obtain⟨ad,s1,aG,aD,aE,aF⟩:=Da az ar aA aq
  obtain⟨z,al,aI,aJ,aN⟩:=rE hE aH w
  split at G
  ·rename_i Y
   simp only[if_pos Y]
   have ay:=ab.rd Y (bn ax)
   subst ay
   have ae:=ab.ck w kd Y
   have ai:∀r,(Instr.findKey aB (bf kd) ad.toList).run P w=.ok r w→(Instr.lookup t x (bf kd) ok).run P w=.ok (if ok then .tuple #[match r with|some (_,v)=>v|none=>z,.bool r.isSome]else match r with|some (_,v)=>v|none=>z) w:=by
    intro r af
    unfold Instr.lookup
    rcases aF with ⟨rfl,rfl⟩| ⟨b,aK,rfl,au⟩
    ·simp only[Sem.run_bind,run_underlying ak,Result.andThen_ok,Sem.run_pure,ae,af]
     cases r<;>simp[al]<;>split<;>simp
    simp only[Sem.run_bind,run_underlying ak,Result.andThen_ok,Sem.run_pure,MapKept.run_getObj_map au,ae,af]
    cases r<;>simp[al]<;>split<;>simp
   rcases ab.find I w kd ad.toList ks Y (by simpa using s1) (λj e d U M=>aD j e d (by simpa using U) M) (by split at G<;>exact G)with ⟨U,M,_⟩| ⟨j,an,U,M,aL,aM,aC⟩
   ·simp only[U]
    refine⟨by trivial,_,ai _ M,?_⟩
    have aj:=US (I:=I) aI aJ
    cases ok
    ·exact .d _ _ aj
    exact .d _ _ (.aw _ _ rfl λi v d F B=>by
     rcases i with _|_|i
     ·simp at F B;subst F;subst B;exact aj
     ·simp at F B;subst F;subst B;exact .bool _
     simp at F)
   simp only[U]
   refine⟨by trivial,_,ai _ aC,?_⟩
   have ag:j<vs.length:=by rw[←aG];have:=(List.getElem?_eq_some_iff.1 M).1;simpa using this
   have F:=aE j an _ (by simpa using M) (List.getElem?_eq_getElem ag)
   rw[LV (List.getElem?_eq_getElem ag)]
   cases ok
   ·exact .d _ _ F
   exact .d _ _ (.aw _ _ rfl λi v d O B=>by
    rcases i with _|_|i
    ·simp at O B;subst O;subst B;exact F
    ·simp at O B;subst O;subst B;exact .bool _
    simp at O)
  exact G.elim
 exact G.elim
theorem OQ(
        hE:bw P V.E)(ai:av w0 I0 w I m l){t:TypeId}{x k v:Value}{aH aF aG:T}(aq:ah I m l x aH)(ae:ah I m l k aF)(aT:ah I m l v aG)(Y:(jw V.E t l aH aF aG).ob) :
  ∃l' w' J,(jw V.E t l aH aF aG).bM=.aC l'∧(Instr.mapUpdate t x k v).run P w=.ok () w'∧Le I m l J m l'∧av w0 I0 w' J m l':=by
 unfold jw at Y⊢
 split at Y
 ·rename_i K i id kd d l1 aP aQ
  obtain⟨J,an,ai,aI,aW⟩:=mB ai aT aQ
  replace aq:=aq.mono an
  obtain⟨aX,e,aN,ak,aY⟩:=kn hE aP
  split at Y
  ·rename_i af
   simp only[if_pos af]
   have ag:=bn (ae.mono an)
   have aR:=ak.rd af ag
   subst aR
   obtain⟨key,aJ⟩:∃key,key=bf kd:=⟨_,rfl⟩
   split at Y
   ·rename_i ks vs U
    obtain⟨b,⟨M,G⟩,aa,au,O,s1,aj,aw,aE,ao⟩:=ai.obj id _ U
    replace O:w.heap[b]?=some (.map M G)∧MapKept.Stamped M G:=O
    simp only at s1 aj aw aE
    have aU:x=.map (some b):=by
     cases aq with
     |map r _ ar aB=>
      have:=aB (by unfold isRow;rw[U];rfl)
      rw[aa]at this;exact this.symm
    subst aU
    have al:=ak.ck w kd af
    have aL:=ak.stays w kd af
    have aK:own (m id)=some b:=by rw[aa];rfl
    rcases ak.find J w kd M.toList ks af (by simpa using s1) (λj e d aa au=>aw j e d (by simpa using aa) au) Y with ⟨ar,ad,aM⟩| ⟨j,aO,ar,aB,aD,aV,ad⟩
    ·simp only[ar]
     rw[←aJ]at ag al ad aM⊢
     have aA:=MapKept.run_setObj_map (P:=P) (.map (M.push {key:=key,val:=v,born:=G}) (G+1)) O.1
     obtain⟨ay,az⟩:=MapKept.heap_set (o':=.map (M.push {key:=key,val:=v,born:=G}) (G+1)) O.1
     refine⟨_,{w with heap:=w.heap.setIfInBounds b (.map (M.push {key:=key,val:=v,born:=G}) (G+1))},J,rfl,?_,?_,?_⟩
     ·unfold Instr.mapUpdate
      simp only[Sem.run_bind,run_underlying aN,Result.andThen_ok,MapKept.run_getObj_map O.1,al,ad,aA]
     ·exact an.trans (Le.setKind U rfl rfl (by simp))
     refine ai.je U (by simp) aK ao rfl rfl (Le.setKind U rfl rfl (by simp)) rfl rfl rfl (Nat.le_refl _) (by simp) (λk ae=>az k ae) ?_
     refine⟨b,(M.push {key:=key,val:=v,born:=G},G+1),aa,au,⟨ay,MapKept.stamped_push O.2 (by simpa using aM)⟩,by simp[s1],by simp[aj],λi e d B F=>?_,λi e ax B F=>?_,ao⟩
     ·rw[Array.getElem?_push]at B
      split at B
      ·injection B with B;subst B
       rename_i hi;subst hi
       rw[s1,List.getElem?_append_right (Nat.le_refl _)]at F;simp at F;subst F;simpa using ag
      have hi:i<ks.length:=by have:=(Array.getElem?_eq_some_iff.1 B).1;omega
      rw[List.getElem?_append_left hi]at F;exact aw i e d B F
     rw[Array.getElem?_push]at B
     split at B
     ·injection B with B;subst B
      rename_i hi;subst hi
      rw[aj,List.getElem?_append_right (Nat.le_refl _)]at F;simp at F;subst F;exact aI
     have hi:i<vs.length:=by have:=(Array.getElem?_eq_some_iff.1 B).1;omega
     rw[List.getElem?_append_left hi]at F;exact aE i e ax B F
    simp only[ar]
    rw[←aJ]at ag al ad aD aL⊢
    have ab:M[j]?=some aO:=by simpa using aB
    have aA:=MapKept.run_setObj_map (P:=P) (.map (M.modify j λe=>{e with key:=key,val:=v}) G) O.1
    obtain⟨ay,az⟩:=MapKept.heap_set (o':=.map (M.modify j λe=>{e with key:=key,val:=v}) G) O.1
    refine⟨_,{w with heap:=w.heap.setIfInBounds b (.map (M.modify j λe=>{e with key:=key,val:=v}) G)},J,rfl,?_,an.trans (Le.setKind U rfl rfl (by simp)),?_⟩
    ·unfold Instr.mapUpdate
     simp only[Sem.run_bind,run_underlying aN,Result.andThen_ok,MapKept.run_getObj_map O.1,al,ad,ab,Option.map_some,Option.getD_some,aD,aL,aA]
    refine ai.je U (by simp) aK ao rfl rfl (Le.setKind U rfl rfl (by simp)) rfl rfl rfl (Nat.le_refl _) (by simp) (λk ae=>az k ae) ?_
    refine⟨b,(M.modify j λe=>{e with key:=key,val:=v},G),aa,au,⟨ay,MapKept.stamped_modify O.2 j _ (λ_ _=>rfl) (λx aq Z=>by rw[ab]at Z;injection Z with Z;subst Z;exact aD.symm)⟩,by simp[s1],by simp[aj],λi e d B F=>?_,λi e ax B F=>?_,ao⟩
    ·rw[Array.getElem?_modify]at B
     split at B
     ·rename_i hi;subst hi
      rw[ab]at B;simp at B;subst B
      rw[aV]at F;injection F with F;subst F;exact ag
     exact aw i e d B F
    rw[Array.getElem?_modify]at B
    split at B
    ·rename_i hi;subst hi
     rw[ab]at B;simp at B;subst B
     have Z:j<vs.length:=by rw[←aj];exact(Array.getElem?_eq_some_iff.1 ab).1
     rw[List.getElem?_set,if_pos rfl,if_pos Z]at F
     injection F with F;subst F;exact aI
    rename_i aS
    rw[List.getElem?_set,if_neg aS]at F;exact aE i e ax B F
   exact Y.elim
  exact Y.elim
 exact Y.elim
theorem LM(hE:bw P V.E)(ar:av w0 I0 w I m l){t t2 ty:TypeId}{x k:Value}{ak aj:T}(aM:ah I m l x ak)(aa:ah I m l k aj)(Y:(ll V.E t l ak aj).ob) :
  (ll V.E t l ak aj).t=.d (.aw [])∧∃l' w',(ll V.E t l ak aj).bM=.aC l'∧(Builtin.delete_ #[t,t2] ty #[x,k]).run P w=.ok (.tuple #[]) w'∧Le I m l I m l'∧av w0 I0 w' I m l':=by
 unfold ll at Y⊢
 split at Y
 ·rename_i K i id kd aJ
  obtain⟨aO,e,aH,ao,aS⟩:=kn hE aJ
  split at Y
  ·rename_i ad
   simp only[if_pos ad]
   have aL:=ao.rd ad (bn aa)
   subst aL
   split at Y
   ·rename_i ks vs U
    refine⟨rfl,?_⟩
    obtain⟨b,⟨B,G⟩,Z,ag,M,s1,aG,ab,ai,ae⟩:=ar.obj id _ U
    replace M:w.heap[b]?=some (.map B G)∧MapKept.Stamped B G:=M
    simp only at s1 aG ab ai
    have aN:x=.map (some b):=by
     cases aM with
     |map r _ af ax=>
      have:=ax (by unfold isRow;rw[U];rfl)
      rw[Z]at this;exact this.symm
    subst aN
    have az:=ao.ck w kd ad
    have aE:own (m id)=some b:=by rw[Z];rfl
    rcases ao.find I w kd B.toList ks ad (by simpa using s1) (λj e d Z ag=>ab j e d (by simpa using Z) ag) Y with ⟨af,aq,aR⟩| ⟨j,aI,af,ax,aP,aQ,aq⟩
    ·simp only[af]
     have au:=MapKept.run_setObj_map (P:=P) (.map B G) M.1
     obtain⟨al,an⟩:=MapKept.heap_set (o':=.map B G) M.1
     refine⟨_,{w with heap:=w.heap.setIfInBounds b (.map B G)},rfl,?_,Le.setKind U rfl rfl (by simp),?_⟩
     ·unfold Builtin.delete_
      simp[run_underlying aH,MapKept.run_getObj_map M.1,az,aq,au]
     refine ar.je U (by simp) aE ae rfl rfl (Le.setKind U rfl rfl (by simp)) rfl rfl rfl (Nat.le_refl _) (by simp) (λk aa=>an k aa) ?_
     exact⟨b,(B,G),Z,ag,⟨al,M.2⟩,s1,aG,ab,ai,ae⟩
    simp only[af]
    have aK:B[j]?=some aI:=by simpa using ax
    have aD:j<B.size:=(Array.getElem?_eq_some_iff.1 aK).1
    have au:=MapKept.run_setObj_map (P:=P) (.map (B.eraseIdxIfInBounds j) G) M.1
    obtain⟨al,an⟩:=MapKept.heap_set (o':=.map (B.eraseIdxIfInBounds j) G) M.1
    have aA:(B.eraseIdxIfInBounds j).toList=B.toList.eraseIdx j:=by
     unfold Array.eraseIdxIfInBounds;rw[dif_pos aD];simp
    have aF:(B.eraseIdxIfInBounds j).size=B.size-1:=by
     have h:=congrArg List.length aA
     rw[Array.length_toList,List.length_eraseIdx,if_pos (by simpa using aD),Array.length_toList]at h;exact h
    have aB:∀(i:Nat),(B.eraseIdxIfInBounds j)[i]?=B[if i<j then i else i+1]?:=λi=>by
     have:(B.eraseIdxIfInBounds j)[i]?=(B.eraseIdxIfInBounds j).toList[i]?:=Array.getElem?_toList.symm
     rw[this,aA,List.getElem?_eraseIdx];split<;>simp
    refine⟨_,{w with heap:=w.heap.setIfInBounds b (.map (B.eraseIdxIfInBounds j) G)},rfl,?_,Le.setKind U rfl rfl (by simp),?_⟩
    ·unfold Builtin.delete_
     simp[run_underlying aH,MapKept.run_getObj_map M.1,az,aq,au]
    refine ar.je U (by simp) aE ae rfl rfl (Le.setKind U rfl rfl (by simp)) rfl rfl rfl (Nat.le_refl _) (by simp) (λk aa=>an k aa) ?_
    refine⟨b,(B.eraseIdxIfInBounds j,G),Z,ag,⟨al,MapKept.stamped_erase M.2 j⟩,by rw[aF,List.length_eraseIdx,if_pos (by omega)];omega,by rw[aF,List.length_eraseIdx,if_pos (by omega)];omega,λi e d O F=>?_,λi e ay O F=>?_,ae⟩
    ·rw[aB]at O;rw[List.getElem?_eraseIdx]at F
     split at O
     ·rename_i h;rw[if_pos h]at F;exact ab _ e d O F
     rename_i h;rw[if_neg h]at F;exact ab _ e d O F
    rw[aB]at O;rw[List.getElem?_eraseIdx]at F
    split at O
    ·rename_i h;rw[if_pos h]at F;exact ai _ e ay O F
    rename_i h;rw[if_neg h]at F;exact ai _ e ay O F
   exact Y.elim
  exact Y.elim
 exact Y.elim
theorem xT(hE:bw P V.E)(j:av w0 I0 w I m l){t:TypeId}{x:Operand}{q:KT×TI}{k:IntKind}{n:Int}(B:eU V.E t=some q)(M:ρ x=.int k n)(F:o.op=.makeMap t (some x)):bA P w0 I0 o ρ w I m l L nid ⟨.map nid,.aC (l++[.map [] []]),True⟩:=by
 rintro rfl rfl
 obtain⟨Z,e,G,_,_⟩:=kn hE B
 have O:(execOp ρ o).run P w=.ok (.value (.map (some w.heap.size))) (w.alloc (.map #[] 0)):=by
  unfold execOp;simp[F,Instr.makeMap,M,run_underlying G,asInt,asIntOf]
 simp only[O,bI]
 obtain⟨U,Y⟩:=j.DO (w':=w.alloc (.map #[] 0)) (v:=.map (some w.heap.size)) rfl (Nat.le_refl _) (World.grownBy_alloc w _ _) (Nat.le_refl _) ⟨_,(#[],0),rfl,j.below.size,⟨heap_alloc_new w _,MapKept.stamped_empty 0⟩,rfl,rfl,by simp,by simp,j.sat.cM (Nat.le_refl _)⟩
 exact⟨I,_,U,Y,.map _ _ (by simp) (λ_=>cD m _ _)⟩
end
end Go.af
namespace Go.af
open Go Go.RowKit
variable [aL]
section
variable {P:Program}{V:Env}{w0 w:World}{I0 I:aq}{m:Nat→Value}{l L:List AO}{nid:Nat}{o:Oper}{ρ:Operand→Value}{ρT:Operand→T}
theorem mV{c:Call}{b:Builtin}(B:c.callee=.builtin b)(F:o.op=.call c){s:Sem Value}(j:∀k,builtin b c.argTypes o.type k (c.args.map ρ)=(do pure (.value (←s)))){u:Value}{w':World}(G:s.run P w=.ok u w') :
  (execOp ρ o).run P w=.ok (.value u) w':=by
 unfold execOp
 simp only[F,resolve,B,Sem.run_bind,Sem.run_pure,Result.andThen_ok,invoke,j,G]
theorem wX{zd:D}:∀(n j:Nat),(flat (List.replicate n zd))[j]?=if j<n*zd.cells.length then zd.cells[j%zd.cells.length]? else none
 |0,j=>by simp[flat]
 |n+1,j=>by
  have F:=wX (zd:=zd) n (j-zd.cells.length)
  rw[List.replicate_succ,show flat (zd::List.replicate n zd)=zd.cells++flat (List.replicate n zd) by simp[flat],List.getElem?_append]
  by_cases k:j<zd.cells.length
  ·rw[if_pos k,if_pos (by rw[Nat.succ_mul];omega),Nat.mod_eq_of_lt k]
  rw[if_neg k,F,Nat.succ_mul,←Nat.mod_eq_sub_mod (by omega)]
  by_cases B:j<n*zd.cells.length+zd.cells.length
  ·rw[if_pos B,if_pos (by omega)]
  rw[if_neg B,if_neg (by omega)]
theorem Jx{z:Value}{i:TI}(F:eL z.cells.toList i.zero=true)(O:gY z=i.desc.agg):(dY i.desc.agg i.zero).cells=i.zero∧z.cells.size=i.zero.length∧∀(j:Nat) v d,z.cells[j]?=some v→i.zero[j]?=some d→Rd I v d∧d.one=true∧v.oneCell'=true:=by
 have Y:∀{vs:List Value}{ds:List D},eL vs ds=true→vs.length=ds.length:=by
  intro vs
  induction vs with
  |nil=>intro ds h;cases ds with|nil=>rfl|cons=>simp[eL]at h
  |cons v vs ad=>intro ds h;cases ds with
   |nil=>simp[eL]at h
   |cons d ds=>simp only[eL,Bool.and_eq_true]at h;simp[ad h.2]
 have B:=Y F
 have G:∀(j:Nat) v d,z.cells[j]?=some v→i.zero[j]?=some d→Rd I v d∧d.one=true∧v.oneCell'=true:=λj v d aa U=>by
  have:=Aw I (rX F (by simpa using aa) U)
  exact⟨this.1,this.2,this.1.one this.2⟩
 refine⟨?_,by simpa using B,G⟩
 unfold dY
 by_cases k:i.desc.agg=true
 ·rw[if_pos k];rfl
 rw[if_neg k]
 have M:z.cells = #[z]:=by
  have:gY z=false:=by rw[O];simpa using k
  cases z<;>first|rfl| (simp[gY]at this)
 rw[M]at B
 match ab:i.zero,B with
 | [d],_=>
  have Z:=(G 0 z d (by rw[M];rfl) (by rw[ab];rfl)).2.1
  cases d<;>first|rfl| (simp[D.one]at Z)
theorem TC(hE:bw P V.E)(ay:av w0 I0 w I m l){t e:TypeId}{sz al:Nat}{z:List D}(az:V.E t=some ⟨sz,al,z,.slice e⟩){v:Value}{id:Nat}{lo hi:Option Operand}(aD:ah I m l v (.row id))(aw:∀a,lo=some a→ah I m l (ρ a) (ρT a))(ar:∀a,hi=some a→ah I m l (ρ a) (ρT a))(j:(mz V.E e l id (lo.map ρT) (hi.map ρT)).ob) :
  (mz V.E e l id (lo.map ρT) (hi.map ρT)).bM=.aC l∧∃u,(Instr.sliceAt t v (lo.map ρ) (hi.map ρ) none).run P w=.ok u w∧ah I m l u (mz V.E e l id (lo.map ρT) (hi.map ρT)).t:=by
 have ak:=fV hE az
 have Y:P.underlying t=some (.slice (P.elem t)):=by simp[Program.elem,ak]
 have aq:P.elem t=e:=by simp[Program.elem,ak]
 have hint:∀{a:T}{k:IntKind}{n:Int}{v:Value},cL a=some (k,n)→ah I m l v a→v=.int k n:=by
  intro a k n v G ax
  unfold cL at G
  split at G
  ·simp at G;obtain⟨rfl,rfl⟩:=G;have:=bn ax;cases this;rfl
  cases G
 unfold mz at j⊢
 split at j
 ·rename_i aK size els M
  split at j
  ·rename_i aj
   rw[if_pos aj]
   obtain⟨aA,aB⟩:=aj
   obtain⟨aG,ad⟩:=Option.isSome_iff_exists.1 aB
   have aF:aG.size=size:=by rw[aA];simp[aE,ad]
   have ai:(sizeOf (P.elem t)).run P w=.ok size w:=by rw[aq,gL hE ad,aF]
   have au:id<l.length:=(List.getElem?_eq_some_iff.1 M).1
   obtain⟨A,n,c,rfl,af⟩:∃A n c,v=.slice A n c∧m id=.slice A n c:=by
    cases aD with
    |row A n c _ aN aH=>exact⟨A,n,c,rfl,aH (by unfold isRow;rw[M];rfl)⟩
   obtain⟨xs,k1,_⟩:=ay.obj id _ M
   rw[af]at k1
   have ag:n=els.length∧n≤c:=by
    rcases k1.2 with ⟨B,F⟩| ⟨g,aJ,cur,B,_,_,F,_⟩
    ·injection B with _ O U;subst O;subst U;exact⟨F.symm,Nat.le_refl _⟩
    injection B with _ O U;subst O;subst U;exact⟨rfl,F⟩
   obtain⟨rfl,ag⟩:=ag
   have ab:∀a b,(Instr.sliceAt t (.slice A els.length c) a b none).run P w=(Instr.slice t (.slice A els.length c) a b none).run P w:=λa b=>run_sliceAt_slice w t _ a b none Y
   have aa:∀lo hi:Nat,lo≤hi→hi≤els.length→ah I m l (sliced A lo hi c size) (.sub id lo hi):=λlo hi B F=>
    .sub _ _ _ _ _ _ au λaL aI aM ae=>by
     rw[M]at ae
     have:aI=size:=by
      rcases ae with h|h
      ·injection h with h;injection h with _ h _;exact h.symm
      injection h with h;cases h
     subst this
     exact⟨A,_,c,af,B,F,rfl⟩
   cases lo with
   |none=>
    cases hi with
    |none=>exact j.elim
    |some b=>
     simp only[Option.map_none,Option.map_some]at j⊢
     split at j
     ·rename_i k h ao
      have Z:=hint ao (ar b rfl)
      simp only
      refine⟨trivial,_,by rw[ab,Z,run_slice_h w t A _ c Y _ _ j.1 (by omega),ai];rfl,?_⟩
      exact aa 0 h.toNat (Nat.zero_le _) (by omega)
     exact j.elim
   |some a=>
    cases hi with
    |some b=>exact j.elim
    |none=>
     simp only[Option.map_none,Option.map_some]at j⊢
     split at j
     ·rename_i k h an
      have Z:=hint an (aw a rfl)
      simp only
      have:=run_slice_l w t A els.length c Y k h j.1 (by omega)
      refine⟨trivial,_,by rw[ab,Z,this,ai];rfl,?_⟩
      exact aa h.toNat els.length (by omega) (Nat.le_refl _)
     exact j.elim
  exact j.elim
 exact j.elim
theorem Tx{E:bN}{e:TypeId}{l:List AO}{id:Nat}{lo hi:Option T}{mx:T}:(jJ E e l id lo hi mx).bM=.aC l∨jJ E e l id lo hi mx=.bad:=by
 unfold jJ
 repeat' split
 all_goals simp
theorem Tz(hE:bw P V.E)(au:av w0 I0 w I m l){t e:TypeId}{sz ai:Nat}{z:List D}(aw:V.E t=some ⟨sz,ai,z,.slice e⟩){v:Value}{id:Nat}{lo hi:Option Operand}{mx:Operand}(az:ah I m l v (.row id))(an:∀a,lo=some a→ah I m l (ρ a) (ρT a))(ak:∀a,hi=some a→ah I m l (ρ a) (ρT a))(aq:ah I m l (ρ mx) (ρT mx))(j:(jJ V.E e l id (lo.map ρT) (hi.map ρT) (ρT mx)).ob) :
  (jJ V.E e l id (lo.map ρT) (hi.map ρT) (ρT mx)).bM=.aC l∧(jJ V.E e l id (lo.map ρT) (hi.map ρT) (ρT mx)).t=.undef∧∃u,(Instr.sliceAt t v (lo.map ρ) (hi.map ρ) (some (ρ mx))).run P w=.ok u w:=by
 have af:=fV hE aw
 have ag:P.underlying t=some (.slice (P.elem t)):=by simp[Program.elem,af]
 have aj:P.elem t=e:=by simp[Program.elem,af]
 have hint:∀{a:T}{k:IntKind}{n:Int}{v:Value},cL a=some (k,n)→ah I m l v a→v=.int k n:=by
  intro a k n v B ar
  unfold cL at B
  split at B
  ·simp at B;obtain⟨rfl,rfl⟩:=B;have:=bn ar;cases this;rfl
  cases B
 cases lo with
 |none=>unfold jJ at j;simp only[Option.map_none]at j;split at j<;>simp_all [R.bad]
 |some a=>
 cases hi with
 |none=>unfold jJ at j;simp only[Option.map_none]at j;split at j<;>simp_all [R.bad]
 |some b=>
 unfold jJ at j⊢
 simp only[Option.map_some]at j⊢
 split at j
 ·rename_i aJ size els aG aH aa U Y
  injection U with U;injection Y with Y;subst U;subst Y
  split at j
  ·rename_i k1 n k2 h aL q B Z ad
   split at j
   ·rename_i ae
    simp only[B,Z,ad,if_pos ae]
    refine⟨trivial,trivial,?_⟩
    obtain⟨aK,ay⟩:=ae
    obtain⟨aA,al⟩:=Option.isSome_iff_exists.1 ay
    have ax:(sizeOf (P.elem t)).run P w=.ok aA.size w:=by rw[aj,gL hE al]
    obtain⟨A,n0,c,rfl,ao⟩:∃A n c,v=.slice A n c∧m id=.slice A n c:=by
     cases az with
     |row A n c _ aM aB=>exact⟨A,n,c,rfl,aB (by unfold isRow;rw[aa];rfl)⟩
    obtain⟨xs,k1,_⟩:=au.obj id _ aa
    rw[ao]at k1
    have ab:n0=els.length∧n0≤c:=by
     rcases k1.2 with ⟨F,G⟩| ⟨g,aI,cur,F,_,_,G,_⟩
     ·injection F with _ M O;subst M;subst O;exact⟨G.symm,Nat.le_refl _⟩
     injection F with _ M O;subst M;subst O;exact⟨rfl,G⟩
    obtain⟨rfl,ab⟩:=ab
    have aD:=hint B (an a rfl)
    have aE:=hint Z (ak b rfl)
    have aF:=hint ad aq
    refine⟨_,by rw[run_sliceAt_slice w t _ _ _ _ ag,aD,aE,aF,run_slice_lhm w t A _ c ag _ _ _ n h q j.1 j.2.1 j.2.2.1 (by omega),ax];rfl⟩
   exact j.elim
  exact j.elim
 exact j.elim
theorem NV{E:bN}{t:TypeId}{nid:Nat}{a b:T}(j:(kj E t l nid a b).ob):∃l',(kj E t l nid a b).bM=.aC l':=by
 revert j
 unfold kj
 repeat' split
 all_goals simp[R.bad]
theorem NW(hE:bw P V.E)(O:av w0 I0 w I m l){t:TypeId}{ak al:Value}{a b:T}(G:ah I m l ak a)(B:ah I m l al b)(F:(kj V.E t l l.length a b).ob) :
  ∃l' w' v m',(kj V.E t l l.length a b).bM=.aC l'∧(Instr.makeSlice t ak al).run P w=.ok v w'∧Le I m l I m' l'∧av w0 I0 w' I m' l'∧ah I m' l' v (kj V.E t l l.length a b).t:=by
 have hint:∀{a:T}{k:IntKind}{n:Int}{v:Value},cL a=some (k,n)→ah I m l v a→v=.int k n:=by
  intro a k n v M aD
  unfold cL at M
  split at M
  ·simp at M;obtain⟨rfl,rfl⟩:=M;have:=bn aD;cases this;rfl
  cases M
 unfold kj at F⊢
 split at F
 ·rename_i e aK n aL c aF az aA
  have U:=fV hE aF
  split at F
  ·rename_i i hi
   split at F
   ·rename_i ai
    simp only[hi,if_pos ai]
    obtain⟨an,rfl,au,aV⟩:=F
    have aH:=hint az G
    have aI:=hint aA B
    obtain⟨N,rfl⟩:=Int.eq_ofNat_of_zero_le an
    subst aH;subst aI
    obtain⟨x,z,aM,aN,aO,aP,aQ,aR,aW,aa⟩:=dz (hE e i hi)
    obtain⟨ab,ad,ae⟩:=Jx (I:=I) aQ aR
    have aj:z.cells.size=i.size:=by rw[ad,aa]
    have ar:x.bytes*N≤281474976710656:=by
     rw[aO,Nat.mul_comm]
     have:((N*i.bytes:Nat):Int)≤140737488355328:=by rw[Int.natCast_mul];exact au
     omega
    obtain⟨w',af,ao,aq⟩:=run_make_full (P:=P) w w0.heap.size t e x z i.size U aM aP aN aK aL N ar (by unfold maxLen;omega) O.below.size
    have aE:(List.replicate N (dY i.desc.agg i.zero)).length=N:=by simp
    obtain⟨aS,aT,aU⟩:=O.qY (w':=w') (v:=.slice (some ⟨w.heap.size,0,none⟩) N N) (row:=none) (lo:=l) (e:=e) (size:=i.size) (els:=List.replicate N (dY i.desc.agg i.zero)) rfl (λk a G=>.inr G) (λ_ _ _ h=>h)
     aq (fk _ _ _ _ _ af) (λb B=>by cases B) (λb B=>by cases B)
     (
      λb B=>by
      simp[own]at B;subst B
      refine⟨O.below.size,O.sat.cM (Nat.le_refl _),λk aB ay=>?_⟩
      obtain⟨a,G,ax⟩:=bg.1 aB
      have:=((O.obj k a G).lt ax ay).1;omega)
     (
      by
       rw[aE];exact ao) (λd aw=>by
      have:=List.eq_of_mem_replicate aw
      subst this
      rw[ab]
      refine⟨aa,λx aJ=>?_⟩
      obtain⟨j,Y,rfl⟩:=List.mem_iff_getElem.1 aJ
      exact(ae j _ _ (Array.getElem?_eq_getElem (by rw[ad];exact Y)) (List.getElem?_eq_getElem Y)).2.1) (λj u y U Z=>by
      rw[wX,ab,aa]at Z
      split at Z
      ·rename_i Y
       have ag:j%i.size<z.cells.size:=by rw[aj];exact Nat.mod_lt _ ai
       have aG:u=z.cells[j%i.size]:=by
        simp[madeCells,aj,Y]at U
        rw[getElem!_pos z.cells _ ag]at U
        exact U.symm
       subst aG
       exact(ae _ _ y (Array.getElem?_eq_getElem ag) Z).1
      cases Z) ⟨_,_,_,rfl⟩
    exact⟨_,w',_,_,rfl,af,aS,aT,aU⟩
   exact F.elim
  exact F.elim
 exact F.elim
theorem Lo{E:bN}{t:TypeId}{x:T}(j:(jV E t l x).ob):∃l',(jV E t l x).bM=.aC l':=by
 revert j
 unfold jV
 repeat' split
 all_goals simp[R.bad]
theorem Lp(hE:bw P V.E)(ak:av w0 I0 w I m l){t ty:TypeId}{v:Value}{x:T}(al:ah I m l v x)(O:(jV V.E t l x).ob) :
  (jV V.E t l x).t=.d (.aw [])∧∃l' w',(jV V.E t l x).bM=.aC l'∧(Builtin.clear_ #[t] ty #[v]).run P w=.ok (.tuple #[]) w'∧Le I m l I m l'∧av w0 I0 w' I m l':=by
 unfold jV at O⊢
 split at O
 ·rename_i e id lo hi aW
  have F:=fV hE aW
  split at O
  ·rename_i i ab size els aA aa
   split at O
   ·rename_i ax
    simp only[aA,aa,if_pos ax]
    obtain⟨aX,rfl,aF⟩:=ax
    subst aX
    refine⟨trivial,?_⟩
    obtain⟨A,n,c,rfl,A0,n0,c0,ae,Y,ar,au⟩:∃A n c,v=.slice A n c∧∃A0 n0 c0,m id=.slice A0 n0 c0∧lo≤els.length∧els.length≤n0∧Value.slice A n c=sliced A0 lo els.length c0 i.size:=by
     cases al with
     |sub A n c _ _ _ br bf=>exact⟨A,n,c,rfl,bf ab i.size els (.inl aa)⟩
    obtain⟨xs,k1,k2,bc,bq⟩:=ak.obj id _ aa
    rw[ae]at k1
    obtain⟨a8,ay⟩:=k1
    injection au with aJ aB bn
    have aS:n0=els.length:=by
     rcases ay with ⟨Y,ar⟩| ⟨g,aI,cur,Y,_⟩
     ·injection Y with _ au bm;omega
     injection Y
    subst aS
    rcases Nat.eq_or_lt_of_le Y with hlo|hlo
    ·
     have aR:n=0:=by omega
     subst aR
     have aG:l.set id (.row ab i.size (els.take lo++List.replicate (els.length-lo) (dY i.desc.agg i.zero)))=l:=by
      rw[show els.length-lo=0 by omega,hlo]
      simp
      apply List.ext_getElem?
      intro k
      rw[List.getElem?_set]
      split
      ·rename_i aP;subst aP;rw[aa];simp;exact(List.getElem?_eq_some_iff.1 aa).1
      rfl
     refine⟨_,w,rfl,?_,?_,?_⟩
     ·cases A<;>simp[Builtin.clear_,run_underlying F]
     ·rw[aG];exact .refl ..
     rw[aG];exact ak
    rcases ay with ⟨Y,ar⟩| ⟨g,aI,cur,a1,aL,Z,aD,aM,az,aY⟩
    ·omega
    injection a1 with a6 _ a7
    subst a7
    subst a6
    have aK:A=some ⟨g,lo*i.size,none⟩:=by rw[aJ,if_neg (by omega)];simp[Addr.add_lit]
    obtain⟨m',rfl⟩:∃m',n=m'+1:=⟨n-1,by omega⟩
    obtain⟨M,bh,bj,bl,ag⟩:=rE hE aA w
    obtain⟨ao,aq,aj⟩:=Jx (I:=I) bj bl
    have an:M.cells.size=i.size:=by rw[aq,ag]
    have U:(Builtin.zeroCells M.cells (m'+1)).toList.length=(els.length-lo)*i.size:=by rw[Array.length_toList,size_zeroCells,an,aB]
    have aH:∀(j:Nat),j<(els.length-lo)*i.size→(Builtin.zeroCells M.cells (m'+1)).toList[j]?=M.cells[j%i.size]?:=λj B=>by
     have:j%i.size<M.cells.size:=by rw[an];exact Nat.mod_lt _ aF
     simp[Builtin.zeroCells,an,aB,B]
     rw[Array.getElem?_eq_getElem this]
     exact congrArg some (getElem!_pos M.cells _ this)
    have aV:∀u∈(Builtin.zeroCells M.cells (m'+1)).toList,u.oneCell'=true:=λu aZ=>by
     obtain⟨j,B,rfl⟩:=List.mem_iff_getElem.1 aZ
     rw[U]at B
     have Z:=aH j B
     rw[List.getElem?_eq_getElem (by rw[U];exact B)]at Z
     have ae:j%i.size<i.zero.length:=by rw[ag];exact Nat.mod_lt _ aF
     exact(aj _ _ i.zero[j%i.size] Z.symm (List.getElem?_eq_getElem ae)).2.2
    have bp:(els.length-lo)*i.size+lo*i.size=els.length*i.size:=by rw[←Nat.add_mul];congr 1;omega
    have aQ:els.length*i.size≤cur.size:=by rw[az];exact Nat.mul_le_mul_right _ aD
    have af:=run_storeCells_at P g (lo*i.size) ab (Builtin.zeroCells M.cells (m'+1)).toList 0 cur w Z (by rw[U];omega) aV
    simp only[Nat.add_zero]at af
    generalize bb:(Builtin.zeroCells M.cells (m'+1)).toList=ai at *
    rw[U]at af
    generalize aT:(cur.toList.take (lo*i.size)++ai++cur.toList.drop (lo*i.size+(els.length-lo)*i.size)).toArray=new at af
    have aE:new.toList=cur.toList.take (lo*i.size)++ai++cur.toList.drop (lo*i.size+(els.length-lo)*i.size):=by subst aT;simp
    have aU:new.size=cur.size:=by
     rw[←Array.length_toList,aE]
     simp only[List.length_append,List.length_take,List.length_drop,Array.length_toList,U]
     omega
    have ba:new.toList.take (els.length*i.size)=xs.take (lo*i.size)++ai:=by
     rw[aE,←aY,z6 _ _ _ _ _ (by omega) (by rw[Array.length_toList];exact aQ) U]
     rw[List.drop_of_length_le (by rw[List.length_take];omega)]
     simp
    have ad:(els.take lo++List.replicate (els.length-lo) (dY i.desc.agg i.zero)).length=els.length:=by simp;omega
    obtain⟨bg,t2⟩:=ak.vB (n:=els.length) (c:=c0) (cur:=cur) (new:=new) (els':=els.take lo++List.replicate (els.length-lo) (dY i.desc.agg i.zero)) (xs:=xs.take (lo*i.size)++ai) aa ae Z
     ⟨by rw[ad];simp only[List.length_append,List.length_take,a8,U];omega,.inr ⟨g,c0,new,by rw[ad],aL,setRow_heap w g cur new ab (0,0) Z,by rw[ad];exact aD,aM,by rw[aU,az],by rw[ad];exact ba⟩⟩
     (
      λd hd=>by
      rcases List.mem_append.1 hd with hd|hd
      ·exact k2 d (List.mem_of_mem_take hd)
      have:=List.eq_of_mem_replicate hd
      subst this
      rw[ao]
      refine⟨ag,λx al=>?_⟩
      obtain⟨j,B,rfl⟩:=List.mem_iff_getElem.1 al
      have aN:j<M.cells.size:=by rw[aq];exact B
      exact(aj j _ _ (Array.getElem?_eq_getElem aN) (List.getElem?_eq_getElem B)).2.1)
     (
      λj u y F G=>by
      have bo:(flat els).length=els.length*i.size:=fD els (λd hd=>(k2 d hd).1)
      rw[wW,Cc els (λd hd=>(k2 d hd).1),List.getElem?_append]at G
      rw[List.getElem?_append]at F
      have l1:(xs.take (lo*i.size)).length=lo*i.size:=by rw[List.length_take];omega
      have bd:((flat els).take (lo*i.size)).length=lo*i.size:=by rw[List.length_take];omega
      rw[l1]at F;rw[bd]at G
      by_cases B:j<lo*i.size
      ·rw[if_pos B]at F G
       rw[List.getElem?_take,if_pos B]at F G
       exact bc j u y F G
      rw[if_neg B]at F G
      rw[wX,ao,ag]at G
      split at G
      ·rename_i aO
       rw[aH _ aO]at F
       exact(aj _ u y F G).1
      cases G)
    refine⟨_,_,rfl,?_,bg,t2⟩
    rw[aK]
    simp only[Builtin.clear_,List.getElem?_toArray,List.getElem?_cons_zero]
    simp[run_underlying F,bh,bb,af]
   exact O.elim
  exact O.elim
 exact O.elim
theorem DR(hE:bw P V.E)(ad:av w0 I0 w I m L){t:TypeId}{j k x:Operand}(ho:o.op=.mapUpdate t j k x∨o.op=.insert t j k x)(G:∀x∈o.op.operands,ah I m L (ρ x) (ρT x))(F:(jw V.E t l (ρT j) (ρT k) (ρT x)).ob) :
  bA P w0 I0 o ρ w I m l L nid (jw V.E t l (ρT j) (ρT k) (ρT x)):=by
 have ab:=G j (by rcases ho with ho|ho<;>simp[ho,Op.operands])
 have aa:=G k (by rcases ho with ho|ho<;>simp[ho,Op.operands])
 have af:=G x (by rcases ho with ho|ho<;>simp[ho,Op.operands])
 have Z:∃l',(jw V.E t l (ρT j) (ρT k) (ρT x)).bM=.aC l'∧(jw V.E t l (ρT j) (ρT k) (ρT x)).t=.undef:=by
  generalize ρT j=ts at *;generalize ρT k=aj at *;generalize ρT x=ak at *
  unfold jw at F⊢
  repeat' split at F
  all_goals first|exact F.elim|skip
  all_goals simp only[*]
  all_goals exact⟨_,rfl,rfl⟩
 obtain⟨l',M,ae⟩:=Z
 unfold bA
 rw[M]
 rintro rfl ag
 obtain⟨ai,w',J,B,O,U,Y⟩:=OQ hE ad ab aa af F
 rw[M]at B;injection B with B;subst B
 have hex:(execOp ρ o).run P w=.ok .skip w':=by unfold execOp;rcases ho with ho|ho<;>simp[ho,O]
 simp only[hex,bI]
 exact⟨J,m,U,Y,by rw[ae];exact .undef _⟩
theorem s9(ab:ga P V)(M:av w0 I0 w I m L)(aK:ep l L)(U:∀x∈o.op.operands,ah I m L (ρ x) (ρT x))(j:(evalOp V ρT l nid o).ob):bA P w0 I0 o ρ w I m l L nid (evalOp V ρT l nid o):=by
 unfold evalOp at j⊢
 split at j
 ·
  rename_i x B
  exact bA.val M rfl (u:=ρ x) (by unfold execOp;simp[B]) (vG (U x (by simp[B,Op.operands])))
 ·
  rename_i x B
  exact bA.val M rfl (u:=ρ x) (by unfold execOp;simp[B]) (vG (U x (by simp[B,Op.operands])))
 ·
  rename_i c a b B
  exact yt M B U j
 ·
  rename_i e x B
  exact KI M B (U x (by simp[B,Op.operands])) j
 ·
  rename_i e B
  split at j
  ·rename_i i hi
   try simp only[hi]
   exact JM ab.E M B hi
  exact j.elim
 ·
  rename_i t a B
  obtain⟨F,u,G,Y⟩:=CY ab.E M aK (Ah (U a (by simp[B,Op.operands]))) j
  exact bA.val M F (by unfold execOp;simp[B,G]) Y
 ·
  rename_i t a x B
  split at j
  ·rename_i aj
   simp only[if_pos aj]
   have Z:=U a (by simp[B,Op.operands])
   have O:=U x (by simp[B,Op.operands])
   generalize bZ:ρT a=b2 at *
   unfold lC at j⊢
   split at j
   ·rename_i id off y
    split at j
    ·rename_i t' cs an
     split at j
     ·rename_i bz
      simp only[if_pos bz]
      rintro rfl aS
      generalize aM:ρ a=br at Z
      cases Z with
      |ptr _ b _ au az=>
       obtain⟨w',F,G⟩:=zS ab.E M an az O j aj.1 (by omega) bz
       have hex:(execOp ρ o).run P w=.ok .skip w':=by unfold execOp;simp[B,aM,F]
       simp only[hex,bI]
       exact⟨I,m,Le.Iu an,G,.undef _⟩
     exact j.elim
    exact j.elim
   ·rename_i id k y bb
    split at j
    ·rename_i bc size els an
     split at j
     ·rename_i aF
      simp only[if_pos aF]
      rw[bb]at O aj
      obtain⟨aY,aZ,aJ⟩:=j
      rintro rfl aS
      generalize aM:ρ a=br at Z
      cases Z with
      |aO aT _ _ _ au az=>
       obtain⟨w',F,G,Y⟩:=SD (ty:=t) ab.E M an (.aO aT id k 0 au az) (bn O) aY aZ aJ (by simpa [bh]using aj.1) (by have:=aj.1;simp[bh]at this;omega)
       have hex:(execOp ρ o).run P w=.ok .skip w':=by unfold execOp;simp[B,aM,F]
       simp only[hex,bI]
       exact⟨I,m,G,Y,.undef _⟩
     rename_i aF
     simp only[if_neg aF]
     split at j
     ·rename_i cs aG
      rw[bb]at O aj
      obtain⟨aY,aZ,aJ⟩:=j
      rintro rfl aS
      generalize aM:ρ a=br at Z
      have bd:els[k]?=some (.agg cs):=by
       unfold dS at aG
       rw[List.getElem?_eq_getElem aJ]at aG⊢
       simp at aG;rw[aG]
      cases Z with
      |aO aT _ _ _ au az=>
       obtain⟨w',F,G,Y⟩:=H4 (ty:=t) ab.E M an (.aO aT id k 0 au az) (bn O) bd aY aZ aJ (by simpa [bh]using aj.1) (by have:=aj.1;simp[bh]at this;omega)
       have hex:(execOp ρ o).run P w=.ok .skip w':=by unfold execOp;simp[B,aM,F]
       simp only[hex,bI]
       exact⟨I,m,G,Y,.undef _⟩
     exact j.elim
    exact j.elim
   ·rename_i id k off y bb
    split at j
    ·rename_i bc size els an
     split at j
     ·rename_i cs aG
      rw[bb]at O aj
      obtain⟨aY,aZ,aJ⟩:=j
      rintro rfl aS
      generalize aM:ρ a=br at Z
      have bd:els[k]?=some (.agg cs):=by
       unfold dS at aG
       rw[List.getElem?_eq_getElem aJ]at aG⊢
       simp at aG;rw[aG]
      cases Z with
      |aO aT _ _ _ au az=>
       obtain⟨w',F,G,Y⟩:=H4 (ty:=t) ab.E M an (.aO aT id k (off+1) au az) (bn O) bd aY aZ aJ (by simpa [bh]using aj.1) (by have:=aj.1;simp[bh]at this;omega)
       have hex:(execOp ρ o).run P w=.ok .skip w':=by unfold execOp;simp[B,aM,F]
       simp only[hex,bI]
       exact⟨I,m,G,Y,.undef _⟩
     exact j.elim
    exact j.elim
   exact j.elim
  exact j.elim
 ·
  rename_i s x f B
  obtain⟨F,u,G,Y⟩:=Me (w:=w) ab.E (Ah (U x (by simp[B,Op.operands]))) j
  exact bA.val M F (by unfold execOp;simp[B,G]) Y
 ·
  rename_i s x f B
  obtain⟨F,u,G,Y⟩:=Mc (w:=w) ab.E (U x (by simp[B,Op.operands])) j
  exact bA.val M F (by unfold execOp;simp[B,G]) Y
 ·
  rename_i op ty x y t' B
  have O:=U x (by simp[B,Op.operands])
  have ao:=U y (by simp[B,Op.operands])
  split at j
  ·rename_i a F G
   rw[F]at O;rw[G]at ao
   try simp only[F,G]
   unfold su at j⊢
   split at j
   ·rename_i b aq
    split at j
    ·rename_i hi
     rw[if_pos hi]
     obtain⟨b0,bm⟩:=Uj ab.E hi
     have ae:=bn O
     have aj:ρ (.const .nilIface)=.nilIface:=by
      have:=bn ao
      generalize ρ (.const .nilIface)=z at this
      cases this;rfl
     have bx:∀bC,(eqGuard bC ty x (.const .nilIface) (ρ x) .nilIface).run P w=.ok () w:=λbC=>SJ ae aq
     have al:=SI (w:=w) bm ae aq
     have bE:(binOp .eql ty (ρ x) .nilIface).run P w=.ok (.bool b) w:=by
      have aU:binOp .eql ty (ρ x) .nilIface=(do pure (.bool (←Op.equal ty (ρ x) .nilIface)):Sem Value):=by
       generalize ρ x=a8 at ae
       cases ae<;>rfl
      rw[aU,Sem.run_bind,al];rfl
     have bF:(binOp .neq ty (ρ x) .nilIface).run P w=.ok (.bool !b) w:=by
      have aU:binOp .neq ty (ρ x) .nilIface=(do pure (.bool (!(←Op.equal ty (ρ x) .nilIface))):Sem Value):=by
       generalize ρ x=a8 at ae
       cases ae<;>rfl
      rw[aU,Sem.run_bind,al];rfl
     split at j
     ·exact bA.val M rfl (by unfold execOp;simp only[B,Sem.run_bind,aj,bx,Result.andThen_ok,bE];rfl) (.d _ _ (.bool _))
     ·exact bA.val M rfl (by unfold execOp;simp only[B,Sem.run_bind,aj,bx,Result.andThen_ok,bF];rfl) (.d _ _ (.bool _))
     exact j.elim
    exact j.elim
   exact j.elim
  ·rename_i a b bf F G
   rw[F]at O;rw[G]at ao
   unfold nG at j⊢
   split at j
   ·rename_i r ob aq
    obtain⟨z,Y,ai⟩:=KE (w:=w) (x:=x) (y:=y) ab.eq (bn O) (bn ao) aq j
    try simp only[F,G,aq]
    exact bA.val M rfl (by unfold execOp;simp only[B,Sem.run_bind]at Y⊢;rw[Y];rfl) (.d _ _ ai)
   exact j.elim
  exact j.elim
 ·
  rename_i op ty x B
  have O:=U x (by simp[B,Op.operands])
  split at j
  ·rename_i a F
   rw[F]at O
   unfold nG at j⊢
   split at j
   ·rename_i r ob aq
    obtain⟨z,Y,ai⟩:=Ug (P:=P) (w:=w) (bn O) aq j
    try simp only[F,aq]
    exact bA.val M rfl (by unfold execOp;simp[B,Y]) (.d _ _ ai)
   exact j.elim
  exact j.elim
 ·
  rename_i t x i B
  obtain⟨F,u,G,Y⟩:=M7 ab.E M aK (Ah (U x (by simp[B,Op.operands]))) (U i (by simp[B,Op.operands])) j
  exact bA.val M F (by unfold execOp;simp[B,G]) Y
 ·
  rename_i t x lo hi B
  have O:=U x (by simp[B,Op.operands])
  split at j
  ·rename_i e size els ak aP
   rw[aP]at O
   split at j
   ·rename_i aF
    simp only[if_pos aF]
    obtain⟨F,u,G,Y⟩:=Iz (w:=w) (lo:=lo) (hi:=hi) (ρ:=ρ) (ρT:=ρT) ab.E ak O (λa Z=>U a (by subst Z;simp[B,Op.operands])) (λa Z=>U a (by subst Z;simp[B,Op.operands]))
     (λs' bc al=>by injection al with al;injection al with F G;subst F;exact aF) j
    exact bA.val M F (by unfold execOp;simp[B,G]) Y
   exact j.elim
  ·rename_i e id ak aP
   rw[aP]at O
   split at j
   ·rename_i bj
    simp only[if_pos bj]
    have aH:(mz V.E e l id (lo.map ρT) (hi.map ρT)).bM=.aC l:=by
     unfold mz at j⊢
     repeat' split at j
     all_goals first|exact j.elim|skip
     all_goals simp only[*]
     all_goals rfl
    unfold bA
    rw[aH]
    rintro rfl aS
    obtain⟨F,u,G,Y⟩:=TC (w:=w) (lo:=lo) (hi:=hi) (ρ:=ρ) (ρT:=ρT) ab.E M ak O (λa Z=>U a (by subst Z;simp[B,Op.operands])) (λa Z=>U a (by subst Z;simp[B,Op.operands])) j
    have hex:(execOp ρ o).run P w=.ok (.value u) w:=by unfold execOp;simp[B,G]
    simp only[hex,bI]
    exact⟨I,m,.refl ..,M,Y⟩
   rename_i bj
   simp only[if_neg bj]
   split at j
   ·rename_i size els l' ax
    split at j
    ·rename_i aF
     simp only[if_pos aF]
     rintro rfl aS
     obtain⟨J,le,bq,bN,_⟩:=mB M O ax
     obtain⟨F,u,G,Y⟩:=Iz (w:=w) (lo:=lo) (hi:=hi) (ρ:=ρ) (ρT:=ρT) (I:=J) (m:=m) (L:=l') ab.E ak (.d _ _ bN) (λa Z=>(U a (by subst Z;simp[B,Op.operands])).mono le) (λa Z=>(U a (by subst Z;simp[B,Op.operands])).mono le)
      (λs' bc al=>by injection al with al;injection al with F G;subst F;exact aF) j
     have hex:(execOp ρ o).run P w=.ok (.value u) w:=by unfold execOp;simp[B,G]
     simp only[hex,bI]
     exact⟨J,m,le,bq,Y⟩
    exact j.elim
   exact j.elim
  ·rename_i n e cs ak aP
   rw[aP]at O
   split at j
   ·rename_i bf
    simp only[if_pos bf]
    obtain⟨F,G⟩:=bf
    cases lo<;>cases hi<;>simp at F G
    obtain⟨F,u,G,Y⟩:=S7 (P:=P) (w:=w) ab.E ak O j
    exact bA.val M F (by unfold execOp;simp[B,G]) Y
   exact j.elim
  exact j.elim
 ·
  rename_i t x lo hi mx B
  have O:=U x (by simp[B,Op.operands])
  split at j
  ·rename_i e id ak aP
   rw[aP]at O
   have aH:(jJ V.E e l id (lo.map ρT) (hi.map ρT) (ρT mx)).bM=.aC l:=by
    rcases Tx (E:=V.E) (e:=e) (l:=l) (id:=id) (lo:=lo.map ρT) (hi:=hi.map ρT) (mx:=ρT mx)with h|h
    ·exact h
    rw[h]at j;exact j.elim
   unfold bA
   rw[aH]
   rintro rfl aS
   obtain⟨F,aU,u,G⟩:=Tz (w:=w) (lo:=lo) (hi:=hi) (mx:=mx) (ρ:=ρ) (ρT:=ρT) ab.E M ak O (λa Z=>U a (by subst Z;simp[B,Op.operands])) (λa Z=>U a (by subst Z;simp[B,Op.operands])) (U mx (by simp[B,Op.operands])) j
   have hex:(execOp ρ o).run P w=.ok (.value u) w:=by unfold execOp;simp[B,G]
   simp only[hex,bI,aU]
   exact⟨I,m,.refl ..,M,.undef _⟩
  exact j.elim
 ·
  rename_i t aQ B
  split at j
  ·rename_i z fs ak
   split at j
   ·rename_i aW
    split at j
    ·rename_i ds ay
     simp only[if_pos aW]
     obtain⟨u,F,G⟩:=KP (P:=P) (w:=w) (I:=I) (m:=m) (L:=L) (ρ:=ρ) (ρT:=ρT) ab.E ak (λp aD=>U p.2 (by simp only[B,Op.operands];simp;exact⟨p.1,by simpa using aD⟩)) ay (λf bK=>List.all_eq_true.1 aW f bK)
     exact bA.val M rfl (by unfold execOp;simp[B,F]) G
    exact j.elim
   exact j.elim
  ·rename_i z n e ak
   split at j
   ·rename_i aW
    split at j
    ·rename_i ds ay
     simp only[if_pos aW]
     obtain⟨u,F,G⟩:=KK (P:=P) (w:=w) (I:=I) (m:=m) (L:=L) (ρ:=ρ) (ρT:=ρT) ab.E ak (λp aD=>U p.2 (by simp only[B,Op.operands];simp;exact⟨p.1,by simpa using aD⟩)) ay aW
     exact bA.val M rfl (by unfold execOp;simp[B,F]) G
    exact j.elim
   exact j.elim
  exact j.elim
 ·
  rename_i t len aQ B
  split at j
  ·rename_i e ak
   split at j
   ·rename_i al
    simp only[if_pos al]
    split at j
    ·rename_i aR
     simp only[if_pos aR]
     subst aR
     rintro rfl rfl
     have bL:aQ = #[]:=by simpa using j
     subst bL
     have bm:=fV ab.E ak
     obtain⟨i,hi⟩:=Option.isSome_iff_exists.1 al.1
     have aF:aE V.E e=i.size:=by simp[aE,hi]
     have hex:(execOp ρ o).run P w=.ok (.value (.slice (some ⟨w.heap.size,0,none⟩) 0 0)) (w.alloc (.cells #[] e)):=by
      unfold execOp
      simp[B,Instr.buildSlice,run_underlying bm,gL ab.E hi,Instr.fill,newRow,Array.range_zero']
     simp only[hex,bI]
     obtain⟨au,az,bU⟩:=M.qY (w':=w.alloc (.cells #[] e)) (v:=.slice (some ⟨w.heap.size,0,none⟩) 0 0) (row:=none) (lo:=L) (e:=e) (size:=aE V.E e) (els:=[]) (xs:=[]) rfl (λk a Z=>.inr Z) (λ_ _ _ h=>h)
      (World.grownBy_alloc w _ _) (Nat.le_refl _) (λb aq=>by cases aq) (λb aq=>by cases aq)
      (
       λb aq=>by
       simp[own]at aq;subst aq
       refine⟨M.below.size,M.sat.cM (Nat.le_refl _),λk aL al=>?_⟩
       obtain⟨a,Z,bJ⟩:=bg.1 aL
       have:=((M.obj k a Z).lt bJ al).1;omega)
      ⟨by simp,.inr ⟨w.heap.size,0,#[],rfl,M.below.size,heap_alloc_new w _,Nat.zero_le _,Nat.zero_le _,by simp,by simp⟩⟩ (by simp) (by simp[flat]) ⟨_,_,_,rfl⟩
     exact⟨I,_,au,az,bU⟩
    rename_i aR
    simp only[if_neg aR]
    split at j
    ·rename_i ds bB
     split at j
     ·rename_i a1
      simp only[if_pos a1]
      obtain⟨bS,bT⟩:=C9 (I:=I) (m:=m) (L:=L) (ρ:=ρ) aQ.toList ds (λp aD=>U p.2 (by simp only[B,Op.operands];simp;exact⟨p.1,by simpa using aD⟩)) bB
      obtain⟨w',J,F,G,Y,ai⟩:=A8 ab.E M ak (ρ:=ρ) bS bT al aR a1
      unfold bA
      have hex:(execOp ρ o).run P w=.ok (.value (.slice (some ⟨w.heap.size,0,none⟩) len len)) w':=by unfold execOp;simp[B,F]
      simp only[R.ok,hex,bI]
      exact⟨J,G,Y,.d _ _ ai⟩
     exact j.elim
    rename_i bB
    split at j
    ·rename_i ds l1 ax
     split at j
     ·rename_i a1
      simp only[if_pos a1]
      rintro rfl rfl
      have aX:∀(i:Nat) v t,(aQ.toList.map λp=>ρ p.2)[i]?=some v→(aQ.toList.map λp=>ρT p.2)[i]?=some t→ah I m L v t:=λi v t ae ag=>by
       rw[List.getElem?_map]at ae ag
       cases aD:aQ.toList[i]? with
       |none=>simp[aD]at ae
       |some p=>
        simp[aD]at ae ag;subst ae;subst ag
        refine U p.2 ?_
        have:=List.mem_of_getElem? aD
        simp only[B,Op.operands];simp;exact⟨p.1,by simpa using this⟩
      obtain⟨bY,bQ,bq,k1,k2,_⟩:=jk _ L I (aQ.toList.map λp=>ρ p.2) ds l1 M (by simp) aX ax
      obtain⟨w',J,F,G,Y,ai⟩:=A8 ab.E bq ak (ρ:=ρ) (by simpa using k1) (λi p d aD bH=>k2 i _ d (by rw[List.getElem?_map,aD];rfl) bH) al aR a1
      have hex:(execOp ρ o).run P w=.ok (.value (.slice (some ⟨w.heap.size,0,none⟩) len len)) w':=by unfold execOp;simp[B,F]
      simp only[hex,bI]
      exact⟨J,_,bQ.trans G,Y,.d _ _ ai⟩
     exact j.elim
    exact j.elim
   exact j.elim
  exact j.elim
 ·
  rename_i x i B
  have O:=U x (by simp[B,Op.operands])
  split at j
  ·rename_i ds a7
   rw[a7]at O
   split at j
   ·rename_i d ax
    try simp only[a7,ax]
    have:=bn O
    generalize aN:ρ x=a8 at this
    cases this with
    |aw vs _ au az=>
     have a6:i<vs.size:=by rw[au];exact(List.getElem?_eq_some_iff.1 ax).1
     have ae:vs[i]?=some vs[i]:=Array.getElem?_eq_getElem a6
     exact bA.val M rfl (u:=vs[i]) (by unfold execOp;simp[B,aN,Instr.extract,a6]) (.d _ _ (az i _ _ ae ax))
   exact j.elim
  ·rename_i ts a7
   rw[a7]at O
   split at j
   ·rename_i d ax
    try simp only[a7,ax]
    generalize aN:ρ x=a8 at O
    cases O with
    |aw vs _ au az=>
     have a6:i<vs.size:=by rw[au];exact(List.getElem?_eq_some_iff.1 ax).1
     have ae:vs[i]?=some vs[i]:=Array.getElem?_eq_getElem a6
     exact bA.val M rfl (u:=vs[i]) (by unfold execOp;simp[B,aN,Instr.extract,a6]) (az i _ _ ae ax)
   exact j.elim
  exact j.elim
 ·
  rename_i c B
  split at j
  ·rename_i f ad
   try simp only[ad]
   split at j
   ·rename_i g ay
    try simp only[ay]
    exact Ba ab M aK U (by simp[dj,B,ad,ay]) j
   ·rename_i g ds ay
    try simp only[ay]
    exact Ba ab M aK U (by simp[dj,B,ad,ay]) j
   exact j.elim
  ·rename_i ad
   try simp only[ad]
   split at j
   ·rename_i x t Z ag
    try simp only[Z,ag]
    have O:=U x (by simp[B,Op.operands,Call.operands,ad];rw[←Array.mem_toList_iff,Z];simp)
    obtain⟨F,u,G,Y⟩:=NI (ty:=o.type) ab.E M aK O j
    refine bA.val M F (mV ad B (λk=>rfl) ?_) Y
    have aA:c.args.map ρ = #[ρ x]:=by apply Array.toList_inj.1;simp[Z]
    have aI:c.argTypes = #[t]:=by apply Array.toList_inj.1;simp[ag]
    rw[aA,aI];exact G
   exact j.elim
  ·rename_i ad
   try simp only[ad]
   split at j
   ·rename_i s x t t' Z ag
    try simp only[Z,ag]
    split at j
    ·rename_i bO
     subst bO
     simp only[if_true]
     have ak:=U s (by simp[B,Op.operands,Call.operands,ad];rw[←Array.mem_toList_iff,Z];simp)
     have O:=U x (by simp[B,Op.operands,Call.operands,ad];rw[←Array.mem_toList_iff,Z];simp)
     have aA:c.args.map ρ = #[ρ s,ρ x]:=by apply Array.toList_inj.1;simp[Z]
     have aI:c.argTypes = #[t,t]:=by apply Array.toList_inj.1;simp[ag]
     have aH:∃l',(iG V.E t l nid (ρT s) (ρT x)).bM=.aC l':=by
      generalize ρT s=ts at *;generalize ρT x=bV at *
      unfold iG at j⊢
      repeat' split at j
      all_goals first|exact j.elim|skip
      all_goals simp only[*]
      all_goals exact⟨_,rfl⟩
     obtain⟨l',aB⟩:=aH
     unfold bA
     rw[aB]
     rintro rfl aj
     obtain⟨bp,bW,w',J,m',F,G,Y,ai,aV⟩:=JQ (nid:=nid) (ty:=o.type) (t:=t) ab.E M ak O aj j
     rw[aB]at F;injection F with F;subst F
     have hex:(execOp ρ o).run P w=.ok (.value bW) w':=mV ad B (λk=>rfl) (by rw[aA,aI];exact G)
     simp only[hex,bI]
     exact⟨J,m',Y,ai,aV⟩
    exact j.elim
   exact j.elim
  ·rename_i ad
   try simp only[ad]
   split at j
   ·rename_i x t Z ag
    try simp only[Z,ag]
    have O:=U x (by simp[B,Op.operands,Call.operands,ad];rw[←Array.mem_toList_iff,Z];simp)
    have aA:c.args.map ρ = #[ρ x]:=by apply Array.toList_inj.1;simp[Z]
    have aI:c.argTypes = #[t]:=by apply Array.toList_inj.1;simp[ag]
    have aH:=Lo j
    obtain⟨l',aB⟩:=aH
    unfold bA
    rw[aB]
    rintro rfl aj
    obtain⟨bl,bp,w',F,G,Y,ai⟩:=Lp (ty:=o.type) ab.E M O j
    rw[aB]at F;injection F with F;subst F
    have hex:(execOp ρ o).run P w=.ok (.value (.tuple #[])) w':=mV ad B (λk=>rfl) (by rw[aA,aI];exact G)
    simp only[hex,bI]
    exact⟨I,m,Y,ai,by rw[bl];exact .d _ _ (.aw _ _ rfl (by simp))⟩
   exact j.elim
  ·rename_i ad
   try simp only[ad]
   split at j
   ·rename_i x k t t2 Z ag
    try simp only[Z,ag]
    have O:=U x (by simp[B,Op.operands,Call.operands,ad];rw[←Array.mem_toList_iff,Z];simp)
    have aL:=U k (by simp[B,Op.operands,Call.operands,ad];rw[←Array.mem_toList_iff,Z];simp)
    have aA:c.args.map ρ = #[ρ x,ρ k]:=by apply Array.toList_inj.1;simp[Z]
    have aI:c.argTypes = #[t,t2]:=by apply Array.toList_inj.1;simp[ag]
    have aH:∃l',(ll V.E t l (ρT x) (ρT k)).bM=.aC l':=by
     generalize ρT x=ts at *;generalize ρT k=bV at *
     unfold ll at j⊢
     repeat' split at j
     all_goals first|exact j.elim|skip
     all_goals simp only[*]
     all_goals exact⟨_,rfl⟩
    obtain⟨l',aB⟩:=aH
    unfold bA
    rw[aB]
    rintro rfl aj
    obtain⟨bl,bp,w',F,G,Y,ai⟩:=LM (t2:=t2) (ty:=o.type) ab.E M O aL j
    rw[aB]at F;injection F with F;subst F
    have hex:(execOp ρ o).run P w=.ok (.value (.tuple #[])) w':=mV ad B (λk=>rfl) (by rw[aA,aI];exact G)
    simp only[hex,bI]
    exact⟨I,m,Y,ai,by rw[bl];exact .d _ _ (.aw _ _ rfl (by simp))⟩
   exact j.elim
  ·rename_i ad
   try simp only[ad]
   split at j
   ·rename_i k a bP b af
    split at j
    ·rename_i aL
     subst aL
     simp only[if_true]
     have aX:∃x y,c.args.toList=[x,y]∧ρT x=.d (.int k a)∧ρT y=.d (.int k b):=by
      match an:c.args.toList,af with
      | [x,y],af=>simp at af;exact⟨x,y,rfl,af.1,af.2⟩
      | [],af=>simp at af
      | [x],af=>simp at af
      |x::y::z::r,af=>simp at af
     obtain⟨x,y,an,F,G⟩:=aX
     have O:=U x (by simp[B,Op.operands,Call.operands,ad];rw[←Array.mem_toList_iff,an];simp)
     have ao:=U y (by simp[B,Op.operands,Call.operands,ad];rw[←Array.mem_toList_iff,an];simp)
     rw[F]at O;rw[G]at ao
     have O:=bn O;have ao:=bn ao
     generalize aN:ρ x=a8 at O;generalize bo:ρ y=bX at ao
     cases O;cases ao
     have aA:c.args.map ρ = #[.int k a,.int k b]:=by apply Array.toList_inj.1;simp[an,aN,bo]
     refine bA.val M rfl (u:=.int k (max a b)) (mV ad B (λk=>rfl) ?_) (.d _ _ (.int _ _))
     rw[aA]
     simp only[Builtin.max_,List.foldlM_cons,List.foldlM_nil,Builtin.max2,Sem.run_bind,Sem.run_pure,Result.andThen_ok]
     congr 2
     rw[Int.max_def];split<;>split<;>omega
    exact j.elim
   exact j.elim
  ·rename_i ad
   try simp only[ad]
   split at j
   ·rename_i k a bP b af
    split at j
    ·rename_i aL
     subst aL
     simp only[if_true]
     have aX:∃x y,c.args.toList=[x,y]∧ρT x=.d (.int k a)∧ρT y=.d (.int k b):=by
      match an:c.args.toList,af with
      | [x,y],af=>simp at af;exact⟨x,y,rfl,af.1,af.2⟩
      | [],af=>simp at af
      | [x],af=>simp at af
      |x::y::z::r,af=>simp at af
     obtain⟨x,y,an,F,G⟩:=aX
     have O:=U x (by simp[B,Op.operands,Call.operands,ad];rw[←Array.mem_toList_iff,an];simp)
     have ao:=U y (by simp[B,Op.operands,Call.operands,ad];rw[←Array.mem_toList_iff,an];simp)
     rw[F]at O;rw[G]at ao
     have O:=bn O;have ao:=bn ao
     generalize aN:ρ x=a8 at O;generalize bo:ρ y=bX at ao
     cases O;cases ao
     have aA:c.args.map ρ = #[.int k a,.int k b]:=by apply Array.toList_inj.1;simp[an,aN,bo]
     refine bA.val M rfl (u:=.int k (min a b)) (mV ad B (λk=>rfl) ?_) (.d _ _ (.int _ _))
     rw[aA]
     simp only[Builtin.min_,List.foldlM_cons,List.foldlM_nil,Builtin.min2,Sem.run_bind,Sem.run_pure,Result.andThen_ok]
     congr 2
     rw[Int.min_def];split<;>split<;>omega
    exact j.elim
   exact j.elim
  exact j.elim
 ·
  rename_i t B
  exact λF G=>xU (L:=L) (F▸M) B F G
 ·
  rename_i t x B
  split at j
  ·rename_i q k n F G
   have O:=U x (by simp[B,Op.operands])
   rw[G]at O
   have O:=bn O
   generalize ae:ρ x=v at O
   cases O
   exact λY ai=>xT (L:=L) ab.E (Y▸M) F ae B Y ai
  exact j.elim
 ·
  rename_i t bR k x B
  exact DR ab.E M (.inl B) U j
 ·
  rename_i t bR k x B
  exact DR ab.E M (.inr B) U j
 ·
  rename_i t x k ok B
  obtain⟨F,u,G,Y⟩:=look_ok (ok:=ok) ab.E M aK (U x (by simp[B,Op.operands])) (U k (by simp[B,Op.operands])) j
  exact bA.val M F (by unfold execOp;simp[B,G]) Y
 ·
  rename_i t x i B
  obtain⟨F,u,G,Y⟩:=M5 (P:=P) (w:=w) ab.E (U x (by simp[B,Op.operands])) (U i (by simp[B,Op.operands])) j
  exact bA.val M F (by unfold execOp;simp[B,G]) Y
 ·
  rename_i b1 t x B
  obtain⟨F,u,w',J,G,Y,ai,aV⟩:=wz ab.E M (U x (by simp[B,Op.operands])) j
  unfold bA
  rw[F]
  have hex:(execOp ρ o).run P w=.ok (.value u) w':=by unfold execOp;simp[B,G]
  simp only[hex,bI]
  exact⟨J,Y,ai,aV⟩
 ·
  rename_i g first ba B
  split at j
  ·rename_i ay
   try simp only[if_pos ay]
   have bu:first = #[]:=Array.isEmpty_iff.1 ay
   refine bA.val M rfl (u:=.func (.func g) #[] (ba.map ρ)) (by unfold execOp;simp[B,bu,Instr.makeFunc]) (Lu (.ar _ _ _ (by simp) λi v t ae ag=>?_))
   rw[Array.getElem?_map]at ae
   rw[List.getElem?_map]at ag
   cases Z:ba[i]? with
   |none=>rw[Z]at ae;cases ae
   |some a=>
    rw[Z]at ae
    have bD:ba.toList[i]?=some a:=by simpa using Z
    rw[bD]at ag
    simp at ae ag;subst ae;subst ag
    exact U a (by simp[B,Op.operands,bu];exact Array.mem_of_getElem? Z)
  rename_i ay
  try simp only[if_neg ay]
  split at j
  ·rename_i x bw bs
   have bt:first = #[x]:=by apply Array.toList_inj.1;simpa using bw
   have bG:ba = #[]:=by apply Array.toList_inj.1;simpa using bs
   split at j
   ·rename_i d ax
    have au:=U x (by simp[B,Op.operands,bt])
    rw[ax]at au
    refine bA.val M rfl (u:=.func (.func g) #[ρ x] #[]) (by unfold execOp;simp[B,bt,bG,Instr.makeFunc]) ?_
    try simp only[bw,bs,ax]
    exact .d _ _ (.aa _ _ _ (bn au))
   exact j.elim
  exact j.elim
 ·
  rename_i t x B
  exact zu ab.E M B (U x (by simp[B,Op.operands])) j
 ·
  rename_i x B
  exact LZ M aK B (U x (by simp[B,Op.operands])) j
 ·
  rename_i t a b B
  obtain⟨l',aB⟩:=NV j
  unfold bA
  rw[aB]
  rintro rfl rfl
  obtain⟨bp,w',v,m',F,G,Y,ai,aV⟩:=NW (t:=t) ab.E M (U a (by simp[B,Op.operands])) (U b (by simp[B,Op.operands])) j
  rw[aB]at F;injection F with F;subst F
  have hex:(execOp ρ o).run P w=.ok (.value v) w':=by unfold execOp;simp[B,G]
  simp only[hex,bI]
  exact⟨I,m',Y,ai,aV⟩
 ·
  rename_i t x B
  obtain⟨F,u,G,Y⟩:=T7 (w:=w) ab.E (U x (by simp[B,Op.operands])) j
  exact bA.val M F (by unfold execOp;simp[B,G]) Y
 exact j.elim
theorem s8{V:Env}{ρT:Operand→T}{l:List AO}{nid:Nat}{o:Oper}(k:(evalOp V ρT l nid o).ob):∀c,o.op ≠ .defer c:=by
 intro c j
 obtain⟨F,op,ty,G,B,g⟩:=o
 simp only at j
 subst j
 simp only[evalOp,R.bad]at k
theorem p7{E:bN}{ρT:Operand→T}{o:Oper}{x:FuncId×List T}(h:dj E ρT o=some x):∀c,o.op ≠ .defer c:=by
 intro c j
 unfold dj at h
 rw[j]at h;cases h
end
end Go.af
namespace Go.af
open Go Go.RowKit
variable [aL][bu]
abbrev PC:=List (Nat×Bool×Bool)
def IM:PC→PC→Prop
 | [],_=>True
 |x::r,pc=>(match pc.find? (λy=>x.1 == y.1&&x.2.2 == y.2.2)with|some y=>x.2.1=y.2.1|none=>False)∧IM r pc
theorem Cz:∀{pc:PC},holds pc→∀y∈pc,y.2.1=y.2.2
 | [],_,y,hy=>by cases hy
 | (_,c,b)::r,h,y,hy=>by
  rcases List.mem_cons.1 hy with rfl|hy
  ·exact h.1
  exact Cz h.2 y hy
theorem TE:∀{M pc:PC},IM M pc→holds pc→holds M
 | [],_,_,_=>trivial
 | (j,c,b)::r,pc,h,F=>by
  obtain⟨k,O⟩:=h
  refine⟨?_,TE O F⟩
  split at k
  ·rename_i y G
   have B:=List.find?_some G
   simp only[Bool.and_eq_true,beq_iff_eq]at B
   have:=Cz F y (List.mem_of_find?_eq_some G)
   simp only at k
   rw[k,this,←B.2]
  exact k.elim
theorem Cy:∀{a b:PC},holds (a++b)↔holds a∧holds b
 | [],b=>by simp[holds]
 | (_,c,d)::r,b=>by simp only[List.cons_append,holds,Cy (a:=r),and_assoc]
def ey(ops:List Oper)(s:Tm):Option (Nat×Bool)→Option PC
 |none=>some []
 |some (j,b)=>match (ops[j]?).bind (·.dst)with
  |some d=>match get s d with
   |.d (.bool c)=>some [(j,c,b)]
   |.cond pc (.d (.bool c))=>some (pc++[(j,c,b)])
   |.cond [(0,true,false)] .undef=>some [(0,true,false)]
   |_=>none
  |none=>none
def qI:List Prop→Prop
 | []=>True
 |p::r=>p∧qI r
def eQ(n:Nat):Option Nat→Bool
 |none=>true
 |some d=>decide (d<n)
def after(s:St)(j:Option Nat)(pc:PC)(r:R):Option St:=
 match pc,r.bM with
 | [],.none=>some ⟨ei s.t j r.t,s.l⟩
 | [],.new a=>some ⟨ei s.t j r.t,s.l++[a]⟩
 | [],.aC l'=>some ⟨ei s.t j r.t,l'⟩
 |pc,.none=>some ⟨ei s.t j (.cond pc r.t),s.l⟩
 |_,_=>none
def gone:T:=.cond [(0,true,false)] .undef
theorem MG{I:aq}{m:Nat→Value}{l:List AO}:ah I m l Go.undef gone:=.cond _ _ _ (λh=>by simp[holds]at h) (λ_=>rfl)
abbrev Way:=Option (List Nat)
def mark(D:Nat):Deferred:={target:=.collected D,args:= #[]}
def dH(k:Nat)(I:aq)(ds:List Deferred):Prop:=∃j:List Nat,ds=j.map mark∧j.Nodup∧(∀D∈j,k≤D∧¬bu.dD D∧I.df D)∧∀b,bu.dD b→I.df b
theorem dH.l8{B:Nat}{I J:aq}{ds:List Deferred}(h:dH B I ds)(F:∀b,I.df b→J.df b):dH B J ds:=by
 obtain⟨G,M,O,j,U⟩:=h
 exact⟨G,M,O,λD k=>⟨(j D k).1,(j D k).2.1,F _ (j D k).2.2⟩,λb Y=>F _ (U b Y)⟩
theorem dH.mono{j:Nat}{I J:aq}{ds:List Deferred}(h:dH j I ds)(k:I.le J):dH j J ds:=h.l8 k.df
theorem dH.nil{j:Nat}{I:aq}(h:∀b,bu.dD b→I.df b):dH j I []:=⟨[],rfl,.nil,by simp,h⟩
theorem dH.yu{k:Nat}{I J:aq}{a:Act}{j:Option Nat}{v:Value}(h:dH k I a.defers)(B:∀b,I.df b→J.df b):dH k J (a.put j v).defers:=by
 have:(a.put j v).defers=a.defers:=by cases j<;>rfl
 rw[this];exact h.l8 B
theorem dH.put{j:Nat}{I J:aq}{a:Act}{k:Option Nat}{v:Value}(h:dH j I a.defers)(B:I.le J):dH j J (a.put k v).defers:=h.yu B.df
theorem dH.cons{k:Nat}{I J:aq}{ds:List Deferred}{D:Nat}(h:dH k I ds)(G:∀b,I.df b→J.df b)(Y:k≤D)(F:¬I.df D)(Z:J.df D):dH k J (mark D::ds):=by
 obtain⟨M,O,U,j,B⟩:=h
 refine⟨D::M,by rw[O];rfl,List.nodup_cons.2 ⟨λad=>F (j D ad).2.2,U⟩,λx hx=>?_,λb aa=>G _ (B b aa)⟩
 rcases List.mem_cons.1 hx with rfl|hx
 ·exact⟨Y,λab=>F (B _ ab),Z⟩
 exact⟨(j x hx).1,(j x hx).2.1,G _ (j x hx).2.2⟩
structure Rel(w0:World)(I0:aq)(n:Nat)(s:St)(a:Act)(w:World):Prop where
 size:a.tmps.size=n
 rel:∃I m,av w0 I0 w I m s.l∧dH w0.heap.size I a.defers∧∀k,ah I m s.l (a.tmps.getD k undef) (get s.t k)
section
variable {P:Program}{V:Env}{w0 w:World}{I0 I:aq}{m:Nat→Value}{l L:List AO}{n:Nat}
theorem LA(v:Value):ah I m L v (sN v):=by
 unfold sN
 split
 ·exact .d _ _ (.bool _)
 ·exact .d _ _ (.int _ _)
 ·exact .d _ _ (.str _)
 ·exact .aX _
 ·exact .d _ _ .ch
 ·exact .d _ _ .oX
 ·exact .d _ _ .eV
 ·exact .d _ _ .fH
 exact .undef _
theorem MC{s:Tm}{a:Act}(O:∀g d,aL.eH g=some d→Rd I (.pointer (some ⟨g,0,none⟩)) (.box d))(g:Nat):ah I m L (a.eval (.global g)) (cz s (.global g)):=by
 show ah I m L (.pointer (some ⟨g,0,none⟩)) (match aL.eH g with|some d=>.aS d.cells.length [d] 0 0|none=>.undef)
 cases M:aL.eH g with
 |none=>exact .undef _
 |some d=>
  have:=O g d M
  cases this with
  |box _ _ val B F G=>
   have:=ah.aS (I:=I) (m:=m) (l:=L) g 0 d.cells.length [d] 0 0 val (by simp) (λx k=>by simp at k;subst k;exact⟨rfl,B⟩) (λj U=>by rw[Nat.zero_add];exact F j (by simpa using U)) (λj x k=>G j x (by simpa [flat]using k))
   simpa using this
theorem mT{s:Tm}{a:Act}(j:∀g d,aL.eH g=some d→Rd I (.pointer (some ⟨g,0,none⟩)) (.box d))(h:∀k,ah I m L (a.tmps.getD k undef) (get s k))(x:Operand):ah I m L (a.eval x) (cz s x):=by
 cases x with
 |tmp t=>exact h t
 |const v=>exact LA v
 |global g=>exact MC j g
 |func f=>exact .d _ _ (.fn f)
theorem MA(s:Tm)(d:Nat)(t:T)(k:Nat):get ((d,t)::s) k=if d=k then t else get s k:=rfl
theorem qZ{s:Tm}{a:Act}{j:Option Nat}{v:Value}{t:T}(G:a.tmps.size=n)(F:eQ n j=true)(h:∀k,ah I m L (a.tmps.getD k undef) (get s k))(M:ah I m L v t) :
  ∀k,ah I m L ((a.put j v).tmps.getD k undef) (get (ei s j t) k):=by
 intro k
 cases j with
 |none=>exact h k
 |some d=>
  simp only[eQ,decide_eq_true_eq]at F
  simp only[ei,MA,Act.put]
  by_cases B:d=k
  ·subst B
   rw[if_pos rfl]
   have:(a.tmps.setIfInBounds d v).getD d undef=v:=by simp[Array.getD_eq_getD_getElem?,G,F]
   rw[this];exact M
  rw[if_neg B]
  have:(a.tmps.setIfInBounds d v).getD k undef=a.tmps.getD k undef:=by simp[Array.getD_eq_getD_getElem?,B]
  rw[this];exact h k
theorem UK{ops:List Oper}{s:Tm}{a:Act}{o:Oper}{pc:PC}(h:∀j b d,o.guard=some (j,b)→(ops[j]?).bind (·.dst)=some d→ah I m L (a.tmps.getD d undef) (get s d))(k:ey ops s o.guard=some pc):Region.wanted o (yielded ops.toArray a.tmps)=true↔holds pc:=by
 cases O:o.guard with
 |none=>rw[O]at k;simp[ey]at k;subst k;simp[Region.wanted,O,holds]
 |some ak=>
  obtain⟨j,b⟩:=ak
  rw[O]at k
  simp only[ey]at k
  split at k
  ·rename_i d ad
   have aj:yielded ops.toArray a.tmps j=match a.tmps[d]? with|some (.bool c)=>some c|_=>none:=by
    unfold yielded
    have:((ops.toArray[j]?).bind (·.dst))=some d:=by simpa using ad
    rw[this];rfl
   have ae:∀v,a.tmps.getD d undef=v→v≠undef→a.tmps[d]?=some v:=by
    intro v B ai
    rw[Array.getD_eq_getD_getElem?]at B
    cases af:a.tmps[d]? with
    |none=>rw[af]at B;exact absurd B.symm ai
    |some u=>rw[af]at B;simp at B;rw[B]
   have F:=h j b d O ad
   simp only[Region.wanted,O,aj,beq_iff_eq]
   split at k
   ·rename_i c M
    simp at k;subst k
    rw[M]at F
    have:=bn F
    generalize B:a.tmps.getD d undef=v at this
    cases this
    rw[ae _ B (by unfold undef;simp)]
    simp[holds]
   ·rename_i al c M
    simp at k;subst k
    rw[M]at F
    generalize B:a.tmps.getD d undef=v at F
    cases F with
    |cond _ _ _ ab Y=>
     rw[Cy]
     by_cases U:holds al
     ·have:=bn (ab U)
      cases this
      rw[ae _ B (by unfold undef;simp)]
      simp[holds,U]
     have aa:=Y U
     subst aa
     constructor
     ·intro G
      exfalso
      split at G
      ·rename_i ag Z
       rw[Array.getD_eq_getD_getElem?,Z]at B
       simp[undef]at B
      cases G
     rintro⟨h,_⟩;exact absurd h U
   ·rename_i M
    simp at k;subst k
    rw[M]at F
    generalize B:a.tmps.getD d undef=v at F
    cases F with
    |cond _ _ _ ab Y=>
     have aa:=Y (by simp[holds])
     subst aa
     constructor
     ·intro G
      exfalso
      split at G
      ·rename_i ag Z
       rw[Array.getD_eq_getD_getElem?,Z]at B
       simp[undef]at B
      cases G
     intro G;simp[holds]at G
   cases k
  cases k
theorem rT{ops:List Oper}{s:Tm}{a:Act}{o:Oper}{pc:PC}(h:∀k,ah I m L (a.tmps.getD k undef) (get s k))(j:ey ops s o.guard=some pc):Region.wanted o (yielded ops.toArray a.tmps)=true↔holds pc:=
 UK (λ_ _ d _ _=>h d) j
end
end Go.af
namespace Go.af
open Go Go.RowKit
variable [aL]
def waits(o:Oper):List Nat:=(o.after.toList.filter (Region.binds .any)).map (·.on)
def tmpsOf(o:Oper):List Nat:=o.op.operands.toList.filterMap λ|.tmp t=>some t|_=>none
def nP(ops:List Oper)(o:Oper):List Nat:=tmpsOf o++(match o.guard with|some (j,_)=>((ops[j]?).bind (·.dst)).toList|none=>[])
def oW(ops:List Oper):Bool:=(List.range ops.length).all λi=>match ops[i]? with|some o=>(waits o).all (· < i)|none=>true
end Go.af
namespace Go.af
open Go Go.RowKit
variable [aL][bu]
theorem B0{α:Type}[DecidableEq α]:∀(l:List α)(f:α→Bool)(i:α),l.Nodup→i∈l→f i=true→(l.filter λk=>f k&&decide (k≠i)).length+1=(l.filter f).length
 | [],f,i,_,hi,_=>by cases hi
 |x::l,f,i,B,hi,j=>by
  have O:x∉l:=(List.nodup_cons.1 B).1
  by_cases h:x=i
  ·subst h
   have:l.filter (λk=>f k&&decide (k≠x))=l.filter f:=by
    apply List.filter_congr
    intro k M
    have:k≠x:=λe=>O (e▸M)
    simp[this]
   have:=congrArg List.length this
   simp at this
   simp[j,this]
  have G:i∈l:=by
   rcases List.mem_cons.1 hi with e|e
   ·exact absurd e.symm h
   exact e
  have U:=B0 l f i (List.nodup_cons.1 B).2 G j
  cases F:f x<;>simp[F,h]<;>simp at U<;>omega
def pJ(N:Nat)(j:Array Bool):Nat:=((List.range N).filter λi=>!j.getD i false).length
theorem Um{N i:Nat}{j:Array Bool}(F:j.size=N)(hi:i<N)(G:j.getD i false=false):pJ N (j.setIfInBounds i true)+1=pJ N j:=by
 unfold pJ
 rw[←B0 (List.range N) (λi=>!j.getD i false) i List.nodup_range (List.mem_range.2 hi) (by simp only[G];rfl)]
 congr 2
 apply List.filter_congr
 intro k B
 have B:=List.mem_range.1 B
 simp only[Array.getD_eq_getD_getElem?,Array.getElem?_setIfInBounds]
 by_cases h:i=k
 ·subst h;simp[F,hi]
 simp[h,Ne.symm h]
theorem My{N i k:Nat}{j:Array Bool}(B:j.size=N)(hi:i<N):(j.setIfInBounds i true).getD k false=if k=i then true else j.getD k false:=by
 simp only[Array.getD_eq_getD_getElem?,Array.getElem?_setIfInBounds]
 by_cases h:i=k
 ·subst h;simp[B,hi]
 simp[h,Ne.symm h]
theorem Mz{N i:Nat}{j:Array Bool}(k:j.size=N)(hi:i<N):j.getD i true=j.getD i false:=by
 simp[Array.getD_eq_getD_getElem?,Array.getElem?_eq_getElem (show i<j.size by omega)]
section
variable {P:Program}{V:Env}{w0:World}{I0:aq}{n:Nat}{md:Way}{ops:List Oper}{Q:Exit→Act→World→Prop}{K:St→Prop}
theorem xE(h:oW ops=true){i:Nat}{o:Oper}(k:ops[i]?=some o):∀j∈waits o,j<i:=by
 have:=List.all_eq_true.1 h i (List.mem_range.2 (List.getElem?_eq_some_iff.1 k).1)
 simp only[k,List.all_eq_true,decide_eq_true_eq]at this
 exact this
theorem zy{B:Array Bool}{i:Nat}(U:B.size=ops.length)(hi:i<ops.length){o:Oper}(F:ops[i]?=some o):i∈Region.ready .any ops.toArray B↔B.getD i false=false∧∀j∈waits o,B.getD j false=true:=by
 rw[mem_ready]
 rw[Mz U hi]
 refine and_congr_right λ_=>⟨?_,λh=>⟨o,by simpa using F,λe k M=>h e.on ?_⟩⟩
 ·rintro⟨o',G,h⟩ j O
  have:o'=o:=by simp[F]at G;exact G.symm
  subst this
  obtain⟨e,k,rfl⟩:=List.mem_map.1 O
  have k:=List.mem_filter.1 k
  exact h e (by simpa using k.1) k.2
 exact List.mem_map.2 ⟨e,List.mem_filter.2 ⟨by simpa using k,M⟩,rfl⟩
theorem HP{k:Array Bool}{i:Nat}(h:i∈Region.ready .any ops.toArray k):i<ops.length:=by
 obtain⟨_,o,j,_⟩:=mem_ready.1 h
 have:=(Array.getElem?_eq_some_iff.1 j).1
 simpa using this
end
end Go.af
namespace Go.af
open Go Go.RowKit
variable [aL][bu]
def aq.dy(I:aq)(D:Nat):aq:=⟨I.cell,I.mp,λb=>I.df b∧b≠D⟩
theorem Rd.dy{I:aq}{D:Nat}{v:Value}{d:af.D}(h:Rd I v d):Rd (I.dy D) v d:=Rd.l8 (J:=I.dy D) (I:=I) (λ_ _ _ h=>h) (λ_ _ h=>h) h
theorem ah.dy{I:aq}{m:Nat→Value}{l:List AO}{D:Nat}{v:Value}{t:T}(h:ah I m l v t):ah (I.dy D) m l v t:=by
 induction h with
 |undef v=>exact .undef v
 |d v x r=>exact .d v x r.dy
 |aX s=>exact .aX s
 |ptr id b off B F=>exact .ptr id b off B F
 |aS b o size els k off val B F M O=>exact .aS b o size els k off val B F M (λj x Y=>(O j x Y).dy)
 |row A n c id B F=>exact .row A n c id B F
 |aQ A n c id x B F M=>exact .aQ A n c id x B F M.dy
 |aO a id k off B F=>exact .aO a id k off B F
 |map r id B F=>exact .map r id B F
 |aw vs ts B _ G=>exact .aw vs ts B G
 |cond v pc t _ U G=>exact .cond v pc t G U
 |ar g vs ts B _ G=>exact .ar g vs ts B G
 |aK id b B F=>exact .aK id b B F
 |bj id b n c B F M O=>exact .bj id b n c B F M O
 |sub A n c id lo hi B F=>exact .sub A n c id lo hi B F
 |agg vs ts B F _ G=>exact .agg vs ts B F G
theorem av.shut{w0 w:World}{I0 I:aq}{m:Nat→Value}{l:List AO}(h:av w0 I0 w I m l){D:Nat}(al:I.df D)(aD:w0.heap.size≤D)(o':Obj):av w0 I0 (w.putObj D o') (I.dy D) m l:=by
 have aF:=h.sat.gE al
 have ai:∀b,b≠D→(w.putObj D o').heap[b]?=w.heap[b]?:=λb ah=>World.putObj_heap_other ah
 have au:∀{b o v},I.cell b o=some v→b≠D:=λ{b o v} ae e=>by
  subst e
  have:=h.sat.cell b o v ae
  unfold World.cell? at this
  rw[h.sat.df b al]at this;simp at this
 have ay:∀{b Z},I.mp b=some Z→b≠D:=λ{b Z} ae e=>by
  subst e
  have:=(h.sat.mp b Z ae).1
  rw[h.sat.df b al]at this;cases this
 refine⟨h.below.trans ⟨rfl,rfl,rfl,by simp,λk aE=>ai k (by omega),λ_=>Nat.le_refl _⟩,⟨λb o v ae=>?_,λb Z ae=>MapAt.to (ai b (ay ae)) (h.sat.mp b Z ae),λb B=>(ai b B.2).trans (h.sat.df b B.1),λg d ax=>(h.sat.c9 g d ax).dy⟩,
  ⟨h.ext.lc,h.ext.lm,λb ah B=>⟨h.ext.ld b ah B,by omega⟩,h.ext.cell,h.ext.mp⟩,λid o az=>?_,h.sep⟩
 ·exact(World.cell?_of_block (w:=w) (a:=⟨b,o,none⟩) (ai b (au ae))).trans (h.sat.cell b o v ae)
 have aa:=h.obj id o az
 by_cases ar:o=.dead
 ·subst ar;trivial
 have af:∀b,own (m id)=some b→(w.putObj D o').heap[b]?=w.heap[b]?:=λb ah=>ai b (λe=>by subst e;exact aa.ig h.sat ar ah al)
 cases o with
 |dead=>trivial
 |var ty cs=>
  obtain⟨b,vs,F,O,U,Y,M,ab⟩:=aa
  exact⟨b,vs,F,O,(af b (by rw[F];rfl)).trans U,Y,λi x t aj aw=>⟨(M i x t aj aw).1.dy,(M i x t aj aw).2⟩,ab⟩
 |row e size els=>
  obtain⟨xs,O,U,Y,M⟩:=aa
  exact⟨xs,qL O af,U,λj x y aj an=>(Y j x y aj an).dy,M⟩
 |aM e size els=>
  obtain⟨xs,O,U,Y,M⟩:=aa
  exact⟨xs,qL O af,U,λj x y aj an=>(Y j x y aj an).dy,M⟩
 |map ks vs=>
  obtain⟨b,Z,F,O,U,Y,M,ab,ad,ag⟩:=aa
  exact⟨b,Z,F,O,MapAt.to (af b (by rw[F];rfl)) U,Y,M,λi e d G B=>(ab i e d G B).dy,λi e d G B=>(ad i e d G B).dy,ag⟩
 |cU ks vs=>
  obtain⟨b,Z,F,O,U,Y,M,ab,ad,ag,ak⟩:=aa
  exact⟨b,Z,F,O,MapAt.to (af b (by rw[F];rfl)) U,Y,M,λi e d G B=>(ab i e d G B).dy,λi e d G B=>(ad i e d G B).dy,ag,ak⟩
 |aU e size ks vs op=>
  obtain⟨b,Z,F,O,U,Y,M,ab,ad,ag,ak,ao⟩:=aa
  exact⟨b,Z,F,O,MapAt.to (af b (by rw[F];rfl)) U,Y,M,λi e d G B=>(ab i e d G B).dy,λi e d G B=>(ad i e d G B).dy,ag,ak,ao.dD (λ_ _ h=>h.dy) ⟨λb u aB _=>⟨ai b (au aB),rfl,rfl⟩,λq b aA ah=>.inl ⟨q,aA,ah⟩⟩ ak M⟩
 |bD ks ts=>
  obtain⟨b,Z,F,O,U,Y,M,ab,ad,ag⟩:=aa
  exact⟨b,Z,F,O,MapAt.to (af b (by rw[F];rfl)) U,Y,M,λi e d G B=>(ab i e d G B).dy,λi e d G B=>(ad i e d G B).dy,ag⟩
 |iter ks vs done=>
  obtain⟨b,aC,Z,seen,F,O,U,Y,M,ab,ad,ag,ak,ao⟩:=aa
  exact⟨b,aC,Z,seen,F,O,(af b (by rw[F];rfl)).trans U,Y,M,ab,λi e d G B=>(ad i e d G B).dy,λi e d G B=>(ag i e d G B).dy,ak,ao⟩
 |frame base vals t=>exact⟨aa.1,aa.2.1,λk=>(aa.2.2 k).dy⟩
 |loop base n ps aP body t st cP=>
  obtain⟨b,r,F,O,U,Y,M,ab,ad⟩:=aa
  exact⟨b,r,F,O,(af b (by rw[F];rfl)).trans U,Y,M,λk=>(ab k).dy,ad⟩
theorem Iv{P:Program}{F:Fence}{n:Nat}{w0:World}{I0:aq}{m:Nat→Value}{l:List AO}:∀(j:List Nat)(w:World)(I:aq),av w0 I0 w I m l→j.Nodup→(∀D∈j,w0.heap.size≤D∧I.df D) →
  ∃w' J,av w0 I0 w' J m l∧(∀b,b∉j→I.df b→J.df b)∧(∀v t,ah I m l v t→ah J m l v t)∧∀(fn:Func)(k:Array Value)(R:Ending→World→Prop),(∃v,(results fn k).run P w'=.ok v w'∧R (.returned v) w')→LeavesInM F n P fn k R (j.map mark) .returning w
 | [],w,I,h,_,_=>⟨w,I,h,λ_ _ h=>h,λ_ _ h=>h,λ_ _ _ G=>G⟩
 |D::j,w,I,h,ae,B=>by
  obtain⟨Y,O⟩:=B D (by simp)
  obtain⟨ab,ad⟩:=List.nodup_cons.1 ae
  obtain⟨w',J,ag,ai,aj,ak⟩:=Iv (P:=P) (F:=F) (n:=n) j (w.putObj D (.deferred none)) (I.dy D) (h.shut O Y _) ad λx M=>⟨(B x (by simp[M])).1,(B x (by simp[M])).2,λe=>ab (e▸M)⟩
  refine⟨w',J,ag,λb U Z=>ai b (λaa=>U (by simp[aa])) ⟨Z,λe=>U (by simp[e])⟩,λv t af=>aj v t af.dy,λfn k R G=>?_⟩
  exact⟨by simp,.inl ⟨D,_,rfl,run_takeDeferred (h.sat.df D O),ak fn k R G⟩⟩
theorem wc{P:Program}{f:FuncId}{fn:Func}{c:Code}{j:Array Value}{w:World}{R:Ending→World→Prop}(F:bu.r=none)(B:P.funcs[f]?=some fn)(k:fn.body=some c)(h:c.wpIn ec 0 P (bodyPostM ec 0 P fn R) {tmps:=j++Array.replicate (fn.ntmps-j.size) undef,defers:=[]} w):Calls P f j w R:=by
 have e:ec=Fence.wide:=by unfold ec;rw[F];rfl
 rw[e]at h
 exact(callsIn_wide (n:=0)).1 (callsIn_of_wp_marks B k trivial h)
theorem wF{P:Program}{fn:Func}{e:Exit}{a:Act}{w0 w:World}{I0 I:aq}{m:Nat→Value}{l:List AO}(Z:e=.ret∨e=.normal)(h:av w0 I0 w I m l)(Y:dH w0.heap.size I a.defers) :
  ∃w' J,av w0 I0 w' J m l∧(∀b,bu.dD b→J.df b)∧(∀v t,ah I m l v t→ah J m l v t)∧∀(R:Ending→World→Prop),(∃v,(results fn a.tmps).run P w'=.ok v w'∧R (.returned v) w')→bodyPostM ec 0 P fn R e a w:=by
 obtain⟨G,M,O,j,U⟩:=Y
 obtain⟨w',J,ad,ae,af,ag⟩:=Iv (P:=P) (F:=ec) (n:=0) G w I h O λD k=>⟨(j D k).1,(j D k).2.2⟩
 refine⟨w',J,ad,λb B=>ae b (λaa=>(j b aa).2.1 B) (U b B),af,λR ab=>?_⟩
 have:=ag fn a.tmps R ab
 rw[←M]at this
 rcases Z with rfl|rfl<;>exact this
end Go.af
namespace Go.af
open Go Go.RowKit
variable [aL][bu]
def bH(P:Program)(w0:World)(I0:aq)(n:Nat)(c:Code)(s:St)(Q:Exit→St→Prop):Prop:=
 ∀a w,Rel w0 I0 n s a w→c.wpIn ec 0 P (λe j w'=>∃s',Q e s'∧Rel w0 I0 n s' j w') a w
def Sub(s s':St):Prop:=∀w0 I0 n a w,Rel w0 I0 n s a w→Rel w0 I0 n s' a w
theorem Sub.refl(s:St):Sub s s:=λ_ _ _ _ _ h=>h
section
variable {P:Program}{V:Env}{w0:World}{I0:aq}{n:Nat}{Q Q':Exit→St→Prop}{s s':St}{x y:Code}
theorem bH.sub(k:Sub s s')(h:bH P w0 I0 n x s' Q):bH P w0 I0 n x s Q:=λa w j=>h a w (k _ _ _ _ _ j)
def z8(K:St→Prop)(Q:Exit→St→Prop):Exit→St→Prop
 |.normal,s=>K s
 |e,s=>Q e s
theorem bH.seq(h:bH P w0 I0 n x s (z8 (λs'=>bH P w0 I0 n y s' Q) Q)):bH P w0 I0 n (x.seq y) s Q:=λa w F=>
 wpIn_seq (Code.wpIn_mono (λe B w' ⟨s',j,k⟩=>by
  cases e<;>first|exact j B w' k|exact⟨s',j,k⟩) (h a w F))
@[reducible] def jG:bu:=⟨none,λ_=>False⟩
def A7:T→Option Bool
 |.d (.bool b)=>some b
 |_=>none
theorem bH.cond{c:Operand}{b:Bool}(j:A7 (cz s.t c)=some b)(F:b=true→bH P w0 I0 n x s Q)(G:b=false→bH P w0 I0 n y s Q):bH P w0 I0 n (.cond c x y) s Q:=λa w k=>by
 have Y:=k
 obtain⟨_,I,m,aa,_,Z⟩:=Y
 have B:=mT aa.sat.c9 Z c
 have U:cz s.t c=.d (.bool b):=by
  unfold A7 at j
  split at j
  ·rename_i ab O;injection j with j;rw[O,j]
  cases j
 rw[U]at B
 have:=bn B
 generalize M:a.eval c=v at this
 cases this
 refine wpIn_cond M ?_
 cases b with
 |true=>exact F rfl a w k
 |false=>exact G rfl a w k
def CB(id:Nat)(Q:Exit→St→Prop):Exit→St→Prop
 |.exit j,s=>if j=id then Q .normal s else Q (.exit j) s
 |e,s=>Q e s
theorem bH.block{id:Nat}(h:bH P w0 I0 n x s (CB id Q)):bH P w0 I0 n (.block id x) s Q:=λa w F=>
 wpIn_block (Code.wpIn_mono (λe G w' ⟨s',j,k⟩=>by
  cases e<;>first|exact⟨s',j,k⟩|skip
  simp only[CB]at j
  simp only[Exit.inBlock]
  split<;>rename_i B
  ·rw[if_pos B]at j;exact⟨s',j,k⟩
  rw[if_neg B]at j;exact⟨s',j,k⟩) (h a w F))
theorem bH.exit{id:Nat}(h:Q (.exit id) s):bH P w0 I0 n (.exit id) s Q:=λ_ _ j=>wpIn_exit ⟨s,h,j⟩
theorem bH.ret(h:Q .ret s):bH P w0 I0 n .ret s Q:=λ_ _ j=>wpIn_ret ⟨s,h,j⟩
theorem bH.skip(h:Q .normal s):bH P w0 I0 n .skip s Q:=λ_ _ j=>wpIn_skip ⟨s,h,j⟩
theorem bH.loop{X:Type}(F:X→St)(p:X→Prop)(B:X→Nat)(G:X)(Y:p G)(Z:Sub s (F G))(ae:∀z,p z→bH P w0 I0 n x (F z) (z8 (λs'=>∃j,p j∧B j<B z∧Sub s' (F j)) Q)):bH P w0 I0 n (.loop x) s Q:=λa w M=>by
 refine wpIn_loop_ghost (λk a w=>∃z,p z∧B z=k∧Rel w0 I0 n (F z) a w) (B G) ⟨G,Y,rfl,Z _ _ _ _ _ M⟩ λk a w ⟨z,aa,ag,M⟩=>?_
 refine Code.wpIn_mono (λe af w' ⟨s',O,U⟩=>?_) (ae z aa a w M)
 cases e<;>first|exact⟨s',O,U⟩|skip
 obtain⟨j,ab,ah,ad⟩:=O
 exact⟨B j,by omega,j,ab,rfl,ad _ _ _ _ _ U⟩
def fw(V:Env)(s:St):ResultVar→T×Prop
 |.tmp t=>(get s.t t,True)
 |.cell a ty=>match eT V.E ty s.l (get s.t a)with| ⟨t,.none,ob⟩=>(t,ob)|_=>(.undef,False)
def HX(V:Env)(s:St)(j:List ResultVar)(r:D):Prop:=
 qI (j.map λv=>(fw V s v).2)∧match eZ s.l (j.map λv=>(fw V s v).1)with
  |some ([d],_)=>d=r
  |some (ds,_)=>D.aw ds=r
  |none=>False
def rA(j:Array Value):ResultVar→Sem Value
 |.tmp t=>pure (j.getD t undef)
 |.cell b t=>do loadVar t (←asAddr (j.getD b undef))
theorem zE(fn:Func)(j:Array Value):results fn j=(do
  let vs ←fn.results.mapM (rA j)
  pure (if h:vs.size=1 then vs[0]else .tuple vs)):=by
 unfold results
 congr 1
theorem vh(hE:bw P V.E){I:aq}{m:Nat→Value}{w:World}{a:Act}(ad:av w0 I0 w I m s.l)(Z:∀k,ah I m s.l (a.tmps.getD k undef) (get s.t k)):∀(F:List ResultVar),qI (F.map λv=>(fw V s v).2) →
  ∃vs:List Value,(F.mapM (rA a.tmps)).run P w=.ok vs w∧vs.length=F.length∧∀(i:Nat) v t,vs[i]?=some v→(F.map λv=>(fw V s v).1)[i]?=some t→ah I m s.l v t
 | [],_=>⟨[],by simp,rfl,by simp⟩
 |q::F,h=>by
  obtain⟨j,ae⟩:=h
  obtain⟨vs,k1,k2,ag⟩:=vh hE ad Z F ae
  have af:∃v,(rA a.tmps q).run P w=.ok v w∧ah I m s.l v (fw V s q).1:=by
   cases q with
   |tmp t=>exact⟨_,by simp[rA],Z t⟩
   |cell b ty=>
    simp only[fw]at j⊢
    have U:=Z b
    split at j
    ·rename_i t ob B
     obtain⟨_,u,G,Y⟩:=CY hE ad (ep.refl _) (ty:=ty) U (by rw[B];exact j)
     rw[B]at Y
     refine⟨u,?_,by simpa [B]using Y⟩
     have:∃aa,a.tmps.getD b undef=.pointer (some aa):=by
      generalize a.tmps.getD b undef=v at U
      generalize get s.t b=ai at U B
      cases U<;>first|exact⟨_,rfl⟩| (simp only[eT,R.bad,R.mk.injEq]at B;rw[←B.2.2]at j;exact j.elim)
     obtain⟨aa,ab⟩:=this
     rw[ab]at G
     simp only[Instr.loadAt,Instr.sureAddr,Sem.run_bind,Sem.run_pure,Result.andThen_ok]at G
     simp only[rA,ab,asAddr,Sem.run_bind,Sem.run_pure,Result.andThen_ok]
     exact G
    exact j.elim
  obtain⟨v,G,Y⟩:=af
  refine⟨v::vs,?_,by simp[k2],λi u t O M=>?_⟩
  ·rw[List.mapM_cons]
   simp only[Sem.run_bind,G,Result.andThen_ok,k1,Sem.run_pure]
  rcases i with _|i
  ·simp at O M;subst O;subst M;exact Y
  simp at O M;exact ag i u t O (by simpa using M)
def lz:Nat→List D→Tm
 |_,[]=>[]
 |k,d::ds=>(k,.d d)::lz (k+1) ds
theorem IH:∀(ds:List D)(k j:Nat),get (lz k ds) j=if k≤j then(match ds[j-k]? with|some d=>.d d|none=>.undef)else .undef
 | [],k,j=>by simp[lz,get]
 |d::ds,k,j=>by
  simp only[lz,get]
  by_cases h:k=j
  ·subst h;simp
  rw[if_neg h,IH ds (k+1) j]
  by_cases B:k≤j
  ·rw[if_pos (by omega),if_pos B,show j-k=(j-(k+1))+1 by omega];simp
  rw[if_neg (by omega),if_neg B]
def iA:Nat→List T→Tm
 |_,[]=>[]
 |k,t::ts=>(k,t)::iA (k+1) ts
theorem zQ:∀(ts:List T)(k j:Nat),get (iA k ts) j=if k≤j then(ts[j-k]?).getD .undef else .undef
 | [],k,j=>by simp[iA,get]
 |d::ds,k,j=>by
  simp only[iA,get]
  by_cases h:k=j
  ·subst h;simp
  rw[if_neg h,zQ ds (k+1) j]
  by_cases B:k≤j
  ·rw[if_pos (by omega),if_pos B,show j-k=(j-(k+1))+1 by omega];simp
  rw[if_neg (by omega),if_neg B]
def I9:List T→T
 | [t]=>t
 |ts=>.aw ts
def mL(V:Env)(B:St)(k:List ResultVar)(base:Nat)(vals:Nat→Value)(ft:Tm)(K:T→List AO→Prop):Prop:=
 ∃j,Sub B j∧qI (k.map λv=>(fw V j v).2)∧j.l[base]?=some (.frame base vals ft)∧K (I9 (k.map λv=>(fw V j v).1)) j.l
theorem AE.of {f:FuncId}{fn:Func}{c:Code}{ts:List T}{l:List AO}{K:T→List AO→Prop}(az:ga P V)(aG:Enters P f)(aI:P.funcs[f]?=some fn)(aD:fn.body=some c)(bb:ts.length≤fn.ntmps)(h:∀(R:bu),R.r=none→∀w0 I0 vals ft(Q:Exit→St→Prop),(∀e aa,(e=.ret∨e=.normal)→mL V aa fn.results.toList l.length vals ft K→Q e aa)→bH P w0 I0 fn.ntmps c ⟨iA 0 ts,l++[.frame l.length vals ft]⟩ Q):AE P f ts l K:=by
 refine⟨aG,λw0 I0 w I m U vals ft ad aS aB aL=>?_⟩
 let R:bu:=⟨none,I.df⟩
 refine wc (R:=λe w'=>∃v,e=.returned v∧∃t l' J m',K t l'∧av w0 I0 w' J m' l'∧ah J m' l' v t∧(∀b,I.df b→J.df b)∧∀k,ah J m' l' (vals k) (get ft k)) rfl aI aD ?_
 have ar:av w0 I0 w I (aC m l.length (.bool false)) (l++[.frame l.length vals ft])∧Le I m l I (aC m l.length (.bool false)) (l++[.frame l.length vals ft]):=by
  have ab:∀k,k<l.length→(l++[AO.frame l.length vals ft])[k]?=l[k]?:=λk Y=>List.getElem?_append_left Y
  have aR:(l++[AO.frame l.length vals ft])[l.length]?=some (.frame l.length vals ft):=by simp
  have ak:Le I m l I (aC m l.length (.bool false)) (l++[.frame l.length vals ft]):=by
   refine⟨.refl I,by simp,λid O G=>⟨?_,bq m _ (by omega)⟩,λid O Z=>⟨?_,bq m _ (by omega)⟩,λid ay s' els' O aj=>⟨els',?_⟩⟩
   ·unfold isVar at G⊢;rw[ab id O];exact G
   ·unfold isRow at Z⊢;rw[ab id O]at Z;exact Z
   rw[ab id O]at aj;exact aj
  have ax:∀k,k≠l.length→alive (l++[AO.frame l.length vals ft]) k=true→alive l k=true:=by
   intro k Y aA
   obtain⟨o,F,M⟩:=bg.1 aA
   have aP:k<l.length:=by have:=(List.getElem?_eq_some_iff.1 F).1;simp at this;omega
   rw[ab k aP]at F
   exact bg.2 ⟨o,F,M⟩
  refine⟨⟨ad.below,ad.sat,ad.ext,λid o F=>?_,λi j b aM hi aN ag ai=>?_⟩,ak⟩
  ·by_cases O:id<l.length
   ·rw[ab id O]at F;rw[bq m _ (by omega)]
    by_cases M:o=.dead
    ·subst M;trivial
    exact(ad.obj id o F).dD ak (λ_ _=>rfl) (λ_ _=>⟨rfl,rfl⟩) (.push (λ_ _ _=>rfl) rfl)
   have:id=l.length:=by
    have:=(List.getElem?_eq_some_iff.1 F).1;simp at this;omega
   subst this
   rw[aR]at F;injection F with F;subst F
   rw[cD]
   refine⟨rfl,by simp,λk=>?_⟩
   have e:(l++[AO.frame l.length vals ft]).take l.length=l:=by simp
   rw[e]
   refine(aL k).mono ⟨.refl I,Nat.le_refl _,λid O G=>⟨G,bq m _ (by omega)⟩,λid O Z=>⟨Z,bq m _ (by omega)⟩,λid ay s' els' O aj=>⟨els',aj⟩⟩
  by_cases an:i=l.length
  ·subst an;rw[cD]at ag;cases ag
  by_cases ao:j=l.length
  ·subst ao;rw[cD]at ai;cases ai
  rw[bq m _ an]at ag;rw[bq m _ ao]at ai
  exact ad.sep i j b aM (ax i an hi) (ax j ao aN) ag ai
 obtain⟨ar,ak⟩:=ar
 have aV:Rel w0 I0 fn.ntmps ⟨iA 0 ts,l++[.frame l.length vals ft]⟩ {tmps:=U++Array.replicate (fn.ntmps-U.size) undef,defers:=[]} w:=by
  refine⟨by simp;omega,I,_,ar,dH.nil λ_ h=>h,λk=>?_⟩
  rw[zQ]
  simp only[Nat.zero_le,if_true,Nat.sub_zero]
  cases M:ts[k]? with
  |none=>exact .undef _
  |some d=>
   have Y:k<U.size:=by rw[aS];exact(List.getElem?_eq_some_iff.1 M).1
   have G:U[k]?=some U[k]:=Array.getElem?_eq_getElem Y
   have:(U++Array.replicate (fn.ntmps-U.size) undef).getD k undef=U[k]:=by
    rw[Array.getD_eq_getD_getElem?,Array.getElem?_append_left Y,G];rfl
   rw[this]
   exact(aB k _ d G M).mono ak
 refine Code.wpIn_mono (λe a bd ⟨aa,⟨aq,af,aW,aT,aK,Y⟩,Z⟩=>?_) (h R rfl w0 I0 vals ft (λe aa=>(e=.ret∨e=.normal)∧mL V aa fn.results.toList l.length vals ft K) (λe aa aq a1=>⟨aq,a1⟩) _ _ aV)
 obtain⟨_,ba,m',aZ,aE,aY⟩:=aW _ _ _ _ _ Z
 obtain⟨w',J,au,aO,aF,aH⟩:=wF (P:=P) (fn:=fn) (a:=a) aq aZ aE
 refine aH _ ?_
 have aX:∀k,ah J m' af.l (a.tmps.getD k undef) (get af.t k):=λk=>aF _ _ (aY k)
 obtain⟨ae,a6,a7,al⟩:=vh (P:=P) az.E au aX fn.results.toList aT
 have aU:(results fn a.tmps).run P w'=.ok (if h:ae.length=1 then ae[0]else .tuple ae.toArray) w':=by
  rw[zE]
  simp only[Sem.run_bind,Array.mapM_eq_mapM_toList,Sem.run_map,a6,Result.andThen_ok,Sem.run_pure]
  simp
 have aJ:=au.obj _ _ aK
 refine⟨_,aU,_,rfl,_,_,J,m',Y,au,?_,aO,λk=>(aJ.2.2 k).mono (Le.vN J m' af.l l.length)⟩
 have B:ae.length=(fn.results.toList.map λv=>(fw V af v).1).length:=by simp[a7]
 generalize (fn.results.toList.map λv=>(fw V af v).1)=a8 at B al
 match a8,B with
 | [t],B=>
  have aQ:ae.length=1:=B
  rw[dif_pos aQ]
  exact al 0 _ t (List.getElem?_eq_getElem (by omega)) rfl
 | [],B=>
  rw[dif_neg (by simp at B;simp[B])]
  exact .aw _ _ (by simpa using B) (λi v d G M=>al i v d (by simpa using G) M)
 |t1::t2::bc,B=>
  rw[dif_neg (by rw[B];simp)]
  exact .aw _ _ (by simpa using B) (λi v d G M=>al i v d (by simpa using G) M)
theorem jh.of {f:FuncId}{fn:Func}{c:Code}{ds:List D}{r:D}(ag:ga P V)(ao:P.funcs[f]?=some fn)(ai:fn.body=some c)(aK:ds.length≤fn.ntmps)(h:∀(R:bu),R.r=none→∀w0 I0,bH P w0 I0 fn.ntmps c ⟨lz 0 ds,[]⟩ λe s=>(e=.ret∨e=.normal)∧HX V s fn.results.toList r):jh P f ds r:=by
 intro w I vs aA aq ax
 let R:bu:=⟨none,I.df⟩
 refine wc (R:=λe w'=>∃v J,e=.returned v∧cm w.heap.size w w'∧eE w.heap.size I J∧cw w' J∧Rd J v r) rfl ao ai ?_
 have ay:Rel w I fn.ntmps ⟨lz 0 ds,[]⟩ {tmps:=vs++Array.replicate (fn.ntmps-vs.size) undef,defers:=[]} w:=by
  refine⟨by simp;omega,I,λ_=>undef,⟨cm.refl _ _,aA,eE.refl _ _,by simp,by simp[alive,isVar,isRow]⟩,dH.nil λ_ h=>h,λk=>?_⟩
  rw[IH]
  simp only[Nat.zero_le,if_true,Nat.sub_zero]
  cases j:ds[k]? with
  |none=>exact .undef _
  |some d=>
   have ab:k<vs.size:=by rw[aq];exact(List.getElem?_eq_some_iff.1 j).1
   have O:vs[k]?=some vs[k]:=Array.getElem?_eq_getElem ab
   have:(vs++Array.replicate (fn.ntmps-vs.size) undef).getD k undef=vs[k]:=by
    rw[Array.getD_eq_getD_getElem?,Array.getElem?_append_left ab,O];rfl
   rw[this]
   exact .d _ _ (ax k _ d O j)
 refine Code.wpIn_mono (λe a aL ⟨s,⟨al,au,M⟩,av⟩=>?_) (h R rfl w I _ _ ay)
 obtain⟨_,aJ,m,aD,aj,aC⟩:=av
 obtain⟨w',J,U,_,ak,an⟩:=wF (P:=P) (fn:=fn) (a:=a) al aD aj
 refine an _ ?_
 have aB:∀k,ah J m s.l (a.tmps.getD k undef) (get s.t k):=λk=>ak _ _ (aC k)
 obtain⟨F,aI,ad,ae⟩:=vh (P:=P) ag.E U aB fn.results.toList au
 have af:∃v,(results fn a.tmps).run P w'=.ok v w'∧∃J',eE w.heap.size I J'∧cw w' J'∧Rd J' v r:=by
  have az:(results fn a.tmps).run P w'=.ok (if h:F.length=1 then F[0]else .tuple F.toArray) w':=by
   rw[zE]
   simp only[Sem.run_bind,Array.mapM_eq_mapM_toList,Sem.run_map,aI,Result.andThen_ok,Sem.run_pure]
   simp
  refine⟨_,az,?_⟩
  split at M
  ·rename_i d l' j
   obtain⟨J',le,G,B,Y,_⟩:=jk _ _ _ F [d] l' U (by simp[ad]) ae j
   subst M
   have B:F.length=1:=B
   refine⟨J',G.ext,G.sat,?_⟩
   rw[dif_pos B]
   exact Y 0 _ d (List.getElem?_eq_getElem (by omega)) rfl
  ·rename_i Z l' ar j
   obtain⟨J',le,G,B,Y,_⟩:=jk _ _ _ F Z l' U (by simp[ad]) ae j
   subst M
   refine⟨J',G.ext,G.sat,?_⟩
   by_cases aa:F.length=1
   ·rw[aa]at B
    match Z,B with
    | [d],_=>exact(ar d rfl).elim
   rw[dif_neg aa]
   exact .aw _ _ (by simp[B]) (λi v d O j=>Y i v d (by simpa using O) j)
  exact M.elim
 obtain⟨v,aE,J',aF,aG,aH⟩:=af
 exact⟨v,aE,v,J',rfl,U.below,aF,aG,aH⟩
end
end Go.af
namespace Go.af
open Go Go.RowKit
theorem bw.yh{P:Program}{B:List (Nat×TI)}(h:B.all (λp=>rN P p.1 p.2)=true):bw P (λt=>(B.find? λp=>p.1 == t).map (·.2)):=by
 intro t i k
 cases j:B.find? (λp=>p.1 == t)with
 |none=>simp[j]at k
 |some p=>
  simp[j]at k
  have F:=List.find?_some j
  have G:=List.all_eq_true.1 h p (List.mem_of_find?_eq_some j)
  simp at F
  subst F;subst k
  exact G
theorem Enters.of {P:Program}{f:FuncId}{fn:Func}(j:P.funcs[f]?=some fn)(h:(fn.name == "runtime.NumGoroutine")=false∧fn.body.isNone=false):Enters P f:=by
 intro k w
 simp only[callFunc,Sem.run_bind,run_program,Result.andThen_ok,j,h.1,h.2,Bool.false_eq_true,if_false,Sem.run_pure]
variable [aL][bu]
section
variable {P:Program}{V:Env}{w0:World}{I0:aq}{n:Nat}{Q:Exit→St→Prop}{s s1:St}{y:Code}
end
end Go.af
namespace Go.af
open Go Go.RowKit
def qd(j:TypeId→Option (List Lf)):List Field→Nat→Option (List Lf)
 | [],_=>some []
 |f::r,off=>if f.name = "_" ∨ f.offset≠off then none else match j f.type with
  |some ls=>(match qd j r (off+ls.length)with|some rs=>some (ls++rs)|none=>none)
  |none=>none
def j1(P:Program):Nat→TypeId→Option (List Lf)
 |0,_=>none
 |d+1,t=>match P.info? t with
  |none=>none
  |some i=>match P.underlying t with
   |some .bool=>some [.bool]
   |some (.int k)=>some [.int k]
   |some .string=>some [.str]
   |some (.struct fs)=>if P.stoodInHeld t then none else match qd (j1 P d) fs.toList 0 with
    |some ls=>if i.size=ls.length then some ls else none
    |none=>none
   |_=>none
def lj:Lf→Value→Bool
 |.bool,.bool _=>true
 |.int k,.int j _=>k == j
 |.str,.string _=>true
 |_,_=>false
def dW:List Lf→List Value→Bool
 | [],[]=>true
 |x::xs,d::ds=>lj x d&&dW xs ds
 |_,_=>false
def qb:Value→Value→Bool
 |.bool a,.bool b=>a == b
 |.int _ a,.int _ b=>a == b
 |.string a,.string b=>a == b
 |_,_=>false
def e9:List Value→List Value→Bool
 | [],[]=>true
 |x::xs,y::ys=>qb x y&&e9 xs ys
 |_,_=>false
theorem xG:∀{ls:List Lf}{vs:List Value},dW ls vs=true→vs.length=ls.length
 | [],[],_=>rfl
 |_::_,_::_,h=>by simp only[dW,Bool.and_eq_true]at h;simp[xG h.2]
 | [],_::_,h=>by simp[dW]at h
 |_::_,[],h=>by simp[dW]at h
theorem xF:∀{a b:List Lf}{vs:List Value},dW (a++b) vs=true→dW a (vs.take a.length)=true∧dW b (vs.drop a.length)=true
 | [],b,vs,h=>by simp[dW];exact h
 |x::a,b,v::vs,h=>by
  simp only[List.cons_append,dW,Bool.and_eq_true]at h
  obtain⟨j,k⟩:=xF h.2
  simp[dW,h.1,j,k]
 |_::_,_,[],h=>by simp[dW]at h
theorem BR:∀{a c:List Value}{b d:List Value},a.length=c.length→e9 (a++b) (c++d)=(e9 a c&&e9 b d)
 | [],[],b,d,_=>by simp[e9]
 |x::a,y::c,b,d,h=>by simp only[List.cons_append,e9,BR (a:=a) (c:=c) (by simpa using h),Bool.and_assoc]
 | [],_::_,_,_,h=>by simp at h
 |_::_,[],_,_,h=>by simp at h
section
variable {P:Program}
def ij(P:Program)(t:TypeId)(vs:List Value):Value:=match P.underlying t with
 |some (.struct _)=>.agg vs.toArray
 |_=>vs.headD undef
theorem S2{d:Nat}{t:TypeId}{ls:List Lf}(h:j1 P d t=some ls):∃i,P.info? t=some i∧((∃fs,P.underlying t=some (.struct fs))→i.size=ls.length)∧((∀fs,P.underlying t≠some (.struct fs))→ls.length=1)∧(∀n e,P.underlying t≠some (.array n e))∧P.underlying t≠none:=by
 cases d with
 |zero=>simp[j1]at h
 |succ d=>
  simp only[j1]at h
  split at h
  ·cases h
  rename_i i hi
  refine⟨i,hi,?_⟩
  split at h
  ·rename_i j;injection h with h;subst h;simp[j]
  ·rename_i j;injection h with h;subst h;simp[j]
  ·rename_i j;injection h with h;subst h;simp[j]
  ·rename_i fs j
   split at h
   ·cases h
   split at h
   ·split at h
    ·rename_i k;injection h with h;subst h;simp[j,k]
    cases h
   cases h
  cases h
theorem Ig{d:Nat}{t:TypeId}{ls:List Lf}(h:j1 P d t=some ls)(xs:Array Value)(off:Nat)(aa:off+ls.length≤xs.size)(w:World) :
  (part t xs off).run P w=.ok (ij P t ((xs.toList.drop off).take ls.length)) w:=by
 obtain⟨i,hi,G,O,U,Y⟩:=S2 h
 cases j:P.underlying t with
 |none=>exact absurd j Y
 |some k=>
  have B:(isAgg t).run P w=.ok (match k with |.struct _ |.array _ _=>true|_=>false) w:=by
   unfold isAgg;simp only[Sem.run_bind,run_underlying j,Result.andThen_ok];cases k<;>rfl
  have Z:(sizeOf t).run P w=.ok i.size w:=by simp[sizeOf,typeInfo,hi]
  cases k with
  |struct fs=>
   have:=G ⟨fs,j⟩
   simp only[part,Sem.run_bind,B,Result.andThen_ok,if_true,Z,Sem.run_pure,ij,j]
   congr 2
   apply Array.toList_inj.1
   rw[Array.toList_extract]
   simp[List.extract_eq_take_drop,this]
  |array n e=>exact absurd j (U n e)
  |_=>
   have M:=O (by simp[j])
   have F:off<xs.size:=by omega
   simp only[part,Sem.run_bind,B,Result.andThen_ok,Bool.false_eq_true,if_false,Array.getElem?_eq_getElem F,Sem.run_pure,ij,j]
   congr 1
   rw[M,List.drop_eq_getElem_cons (by simpa using F)]
   simp
theorem Ib:∀(d D:Nat) (t:TypeId) (ls:List Lf),j1 P d t=some ls→d≤D→∀(xs ys:List Value),dW ls xs=true→dW ls ys=true→∀w,(Op.equalIn D t (ij P t xs) (ij P t ys)).run P w=.ok (e9 xs ys) w:=by
 intro d
 induction d with
 |zero=>intro D t ls h;simp[j1]at h
 |succ d ay=>
  intro D t ls h aD xs ys O U w
  obtain⟨D,rfl⟩:∃ah,D=ah+1:=⟨D-1,by omega⟩
  have aF:=h
  simp only[j1]at h
  split at h
  ·cases h
  rename_i i hi
  have one:∀{x:Lf} {vs:List Value},dW [x] vs=true→∃v,vs=[v]∧lj x v=true:=by
   intro x vs h
   match vs,h with
   | [v],h=>simp[dW]at h;exact⟨v,rfl,h⟩
   | [],h=>simp[dW]at h
   |_::_::_,h=>simp[dW]at h
  split at h
  ·rename_i B
   injection h with h;subst h
   obtain⟨u,rfl,F⟩:=one O
   obtain⟨v,rfl,G⟩:=one U
   cases u<;>simp[lj]at F
   cases v<;>simp[lj]at G
   simp only[ij,B,List.headD,e9,qb,Bool.and_true]
   exact run_equalIn_bool w D t _ _ B
  ·rename_i k B
   injection h with h;subst h
   obtain⟨u,rfl,F⟩:=one O
   obtain⟨v,rfl,G⟩:=one U
   cases u<;>simp[lj]at F
   cases v<;>simp[lj]at G
   subst F;subst G
   simp only[ij,B,List.headD,e9,qb,Bool.and_true]
   exact run_equalIn_int w D t _ _ _ _ B
  ·rename_i B
   injection h with h;subst h
   obtain⟨u,rfl,F⟩:=one O
   obtain⟨v,rfl,G⟩:=one U
   cases u<;>simp[lj]at F
   cases v<;>simp[lj]at G
   simp only[ij,B,List.headD,e9,qb,Bool.and_true]
   rw[run_equalIn_string w D t _ _ B,beq_toListBytes]
  ·rename_i fs B
   split at h
   ·cases h
   rename_i ax
   split at h
   ·rename_i aB ao
    split at h
    ·injection h with h;subst h
     have ar:P.underlying t=some (.struct (P.fieldsOf t)):=by simp[Program.fieldsOf,B]
     have aq:P.fieldsOf t=fs:=by simp[Program.fieldsOf,B]
     simp only[ij,B]
     rw[run_equalIn_struct w D t _ _ ar (by simpa using ax),aq]
     have aA:∀(M:List Field) (off:Nat) (rs:List Lf),qd (j1 P d) M off=some rs→∀(xs ys:List Value),off+rs.length=xs.length→xs.length=ys.length→dW rs (xs.drop off)=true→dW rs (ys.drop off)=true →
       (Op.eqFields D xs.toArray ys.toArray M).run P w=.ok (e9 (xs.drop off) (ys.drop off)) w:=by
      intro M
      induction M with
      |nil=>
       intro off rs j xs ys Y ad ae af
       simp[qd]at j;subst j
       have ak:xs.drop off=[]:=List.drop_eq_nil_of_le (by simp at Y;omega)
       have al:ys.drop off=[]:=List.drop_eq_nil_of_le (by simp at Y;omega)
       rw[ak,al];simp[Op.eqFields,e9]
      |cons f M az=>
       intro off rs j xs ys Y ad ae af
       simp only[qd]at j
       split at j
       ·cases j
       rename_i ag
       have au:f.name ≠ "_" :=λe=>ag (.inl e)
       have av:f.offset=off:=Decidable.not_not.1 λe=>ag (.inr e)
       split at j
       ·rename_i ls Z
        split at j
        ·rename_i aC aw
         injection j with j;subst j
         rw[List.length_append]at Y
         obtain⟨ai,aa⟩:=xF ae
         obtain⟨aj,ab⟩:=xF af
         rw[List.drop_drop]at aa ab
         simp only[Op.eqFields,if_pos au,Sem.run_bind,av]
         rw[Ig Z xs.toArray off (by simp;omega) w]
         simp only[Result.andThen_ok]
         rw[Ig Z ys.toArray off (by simp;omega) w]
         simp only[Result.andThen_ok]
         rw[ay D f.type ls Z (by omega) _ _ ai aj w]
         simp only[Result.andThen_ok,Sem.run_ite]
         have an:e9 (xs.drop off) (ys.drop off)=(e9 ((xs.drop off).take ls.length) ((ys.drop off).take ls.length)&&e9 (xs.drop (off+ls.length)) (ys.drop (off+ls.length))):=by
          conv=>lhs;rw[←List.take_append_drop ls.length (xs.drop off),←List.take_append_drop ls.length (ys.drop off)]
          rw[BR (by simp;omega),List.drop_drop,List.drop_drop]
         rw[an]
         cases aE:e9 ((xs.drop off).take ls.length) ((ys.drop off).take ls.length)with
         |false=>simp
         |true=>
          simp only[Bool.not_true,Bool.false_eq_true,if_false,Bool.true_and]
          exact az (off+ls.length) aC aw xs ys (by omega) ad aa ab
        cases j
       cases j
     have aG:=xG O
     have aH:=xG U
     have:=aA fs.toList 0 aB ao xs ys (by omega) (by omega) (by simpa using O) (by simpa using U)
     simpa using this
    cases h
   cases h
  cases h
def wK(P:Program)(t:TypeId)(ls:List Lf):Bool:=decide (j1 P 30 t=some ls) && !P.eqGuardType P.depth t&&(match P.underlying t with|some .bool=>decide (ls=[.bool])|some (.struct _)=>decide (ls≠[.bool])|_=>false)
theorem xH{I:aq}:∀{ls:List Lf}{vs:List Value}{ds:List D},vs.length=ds.length→(∀(i:Nat) v d,vs[i]?=some v→ds[i]?=some d→Rd I v d)→eS ls ds=true→dW ls vs=true
 | [],[],[],_,_,_=>rfl
 |x::ls,v::vs,d::ds,j,k,h=>by
  simp only[eS,Bool.and_eq_true]at h
  simp only[dW,Bool.and_eq_true]
  refine⟨?_,xH (by simpa using j) (λi u e G F=>k (i+1) u e (by simpa using G) (by simpa using F)) h.2⟩
  have B:=k 0 v d rfl rfl
  cases B<;>cases x<;>simp[qo]at h<;>simp[lj,h]
 | [],_::_,[],j,_,_=>by simp at j
 | [],[],_::_,j,_,_=>by simp at j
 | [],_::_,_::_,_,_,h=>by simp[eS]at h
 |_::_,[],_::_,j,_,_=>by simp at j
 |_::_,_::_,[],j,_,_=>by simp at j
 |_::_,[],[],_,_,h=>by simp[eS]at h
theorem BS{I:aq}:∀{ls:List Lf}{vs k:List Value}{ds j:List D},vs.length=ds.length→k.length=j.length→(∀(i:Nat) v d,vs[i]?=some v→ds[i]?=some d→Rd I v d)→(∀(i:Nat) v d,k[i]?=some v→j[i]?=some d→Rd I v d) →
  eS ls ds=true→eS ls j=true→e9 vs k=dL ds j
 | [],[],[],[],[],_,_,_,_,_,_=>rfl
 |x::ls,v::vs,u::k,d::ds,e::j,h1,U,G,M,k1,k2=>by
  simp only[eS,Bool.and_eq_true]at k1 k2
  simp only[e9,dL]
  rw[BS (ls:=ls) (by simpa using h1) (by simpa using U) (λi a b B F=>G (i+1) a b (by simpa using B) (by simpa using F)) (λi a b B F=>M (i+1) a b (by simpa using B) (by simpa using F)) k1.2 k2.2]
  congr 1
  have O:=G 0 v d rfl rfl
  have b0:=M 0 u e rfl rfl
  cases O<;>cases x<;>simp[qo]at k1<;>cases b0<;>simp[qo]at k2<;>rfl
 | [],v::vs,_,[],_,h,_,_,_,_,_=>by simp at h
 | [],[],_,d::ds,_,h,_,_,_,_,_=>by simp at h
 | [],v::vs,_,d::ds,_,_,_,_,_,h,_=>by simp[eS]at h
 | [],[],u::k,[],[],_,h,_,_,_,_=>by simp at h
 | [],[],[],[],e::j,_,h,_,_,_,_=>by simp at h
 | [],[],u::k,[],e::j,_,_,_,_,_,h=>by simp[eS]at h
 |x::ls,[],_,d::ds,_,h,_,_,_,_,_=>by simp at h
 |x::ls,v::vs,_,[],_,h,_,_,_,_,_=>by simp at h
 |x::ls,[],_,[],_,_,_,_,_,h,_=>by simp[eS]at h
 |x::ls,v::vs,[],d::ds,e::j,_,h,_,_,_,_=>by simp at h
 |x::ls,v::vs,u::k,d::ds,[],_,h,_,_,_,_=>by simp at h
 |x::ls,v::vs,[],d::ds,[],_,_,_,_,_,h=>by simp[eS]at h
theorem mH.yh{ag:List (Nat×List Lf)}(h:ag.all (λp=>wK P p.1 p.2)=true):mH P (λt=>(ag.find? λp=>p.1 == t).map (·.2)):=by
 intro t ls af op x y I u v a b w ad ae ar ah
 have ai:wK P t ls=true:=by
  cases U:ag.find? (λp=>p.1 == t)with
  |none=>simp[U]at af
  |some p=>
   simp[U]at af
   have M:=List.find?_some U
   have ab:=List.all_eq_true.1 h p (List.mem_of_find?_eq_some U)
   simp at M;subst M;subst af;exact ab
 simp only[wK,Bool.and_eq_true,decide_eq_true_eq,Bool.not_eq_true']at ai
 obtain⟨⟨M,ab⟩,B⟩:=ai
 rcases ar with ⟨p,q,rfl,rfl,rfl⟩| ⟨xs,ys,rfl,rfl,au,aj,ak⟩
 ·cases ad;cases ae
  have O:P.underlying t=some .bool:=by
   split at B
   ·assumption
   ·simp at B
   cases B
  have F:=Ib 30 10000 t _ M (by omega) [.bool p] [.bool q] rfl rfl w
  have G:∀p,ij P t [.bool p]=.bool p:=λp=>by unfold ij;rw[O];rfl
  rw[G,G]at F
  simp only[Sem.run_bind,eqGuard_at_bool,Sem.run_pure,Result.andThen_ok]
  rcases ah with rfl|rfl<;>simp[binOp,Op.equal,Op.maxDepth,F,e9,qb,jl]
 have av:∃fs,P.underlying t=some (.struct fs):=by
  split at B
  ·exact absurd (of_decide_eq_true B) au
  ·rename_i fs O;exact⟨fs,O⟩
  cases B
 obtain⟨fs,O⟩:=av
 generalize Y:D.agg xs=ay at ad
 generalize Z:D.agg ys=az at ae
 cases ad<;>first| (cases Y;done)|skip
 rename_i cs ds al aB an
 injection Y with Y;subst Y
 cases ae<;>first| (cases Z;done)|skip
 rename_i aa aA ao aC aq
 injection Z with Z;subst Z
 have aw:dW ls cs.toList=true:=xH (by simpa using al) (λi v d k j=>an i v d (by simpa using k) j) aj
 have ax:dW ls aa.toList=true:=xH (by simpa using ao) (λi v d k j=>aq i v d (by simpa using k) j) ak
 have F:=Ib 30 10000 t _ M (by omega) cs.toList aa.toList aw ax w
 have G:∀cs:Array Value,ij P t cs.toList=.agg cs:=λcs=>by unfold ij;rw[O]
 rw[G,G,BS (by simpa using al) (by simpa using ao) (λi v d k j=>an i v d (by simpa using k) j) (λi v d k j=>aq i v d (by simpa using k) j) aj ak]at F
 simp only[Sem.run_bind,run_eqGuard_agg w op t x y cs aa ab,Result.andThen_ok]
 rcases ah with rfl|rfl
 ·rw[run_eql_struct w];simp[F,jl]
 rw[run_neq_struct w];simp[F,jl]
end
end Go.af
namespace Go.af
open Go Go.RowKit
variable [aL]
def jj(l l':List AO):Prop:=∀id,isVar l id=true→l'[id]?=l[id]?
theorem jj.refl(l:List AO):jj l l:=λ_ _=>rfl
theorem jj.trans{l l' B:List AO}(h:jj l l')(k:jj l' B):jj l B:=λid j=>(k id (by have:=h id j;unfold isVar at j⊢;rw[this];exact j)).trans (h id j)
theorem jj.set{l:List AO}{id:Nat}(o:AO)(h:isVar l id=false):jj l (l.set id o):=λk j=>by
 rw[List.getElem?_set]
 by_cases e:id=k
 ·subst e;rw[h]at j;cases j
 simp[e]
theorem IZ{l l':List AO}{t:T}{d:D}(h:bY l t=some (d,l')):jj l l':=by
 cases t<;>simp only[bY]at h
 case d x=>simp at h;rw[←h.2];exact .refl _
 case aX s=>simp at h;rw[←h.2];exact .refl _
 case aQ id x=>simp at h;rw[←h.2];exact .refl _
 case row id=>
  split at h
  ·simp at h;rw[←h.2];exact .refl _
  ·rename_i j;simp at h;rw[←h.2];exact .set _ (by unfold isVar;rw[j];rfl)
  cases h
 case map id=>
  split at h
  ·simp at h;rw[←h.2];exact .refl _
  ·rename_i j;simp at h;rw[←h.2];exact .set _ (by unfold isVar;rw[j];rfl)
  cases h
 all_goals cases h
theorem AS:∀(ts:List T){l l':List AO}{ds:List D},cy l ts=some (ds,l')→jj l l'
 | [],l,l',ds,h=>by simp[cy]at h;rw[←h.2];exact .refl _
 |t::ts,l,l',ds,h=>by
  simp only[cy]at h
  cases j:bY l t with
  |none=>simp[j]at h
  |some p=>
   obtain⟨x,l1⟩:=p
   simp only[j]at h
   cases k:cy l1 ts with
   |none=>simp[k]at h
   |some q=>
    obtain⟨xs,B⟩:=q
    simp only[k,Option.some.injEq,Prod.mk.injEq]at h
    rw[←h.2]
    exact(IZ j).trans (AS ts k)
theorem T5{l l':List AO}{t:T}{d:D}(h:cC l t=some (d,l')):jj l l':=by
 by_cases j:∃ts,t=.agg ts
 ·obtain⟨ts,rfl⟩:=j
  obtain⟨ds,rfl,k⟩:=rP h
  exact AS ts k
 rw[rQ λts h=>j ⟨ts,h⟩]at h
 exact IZ h
end Go.af
namespace Go.af
open Go Go.RowKit
variable [aL][bu]
def oe(ops:List Oper)(k:Array Bool):Prop:=∀(i:Nat) o,ops[i]?=some o→k.getD i false=true→∀j∈waits o,k.getD j false=true
theorem oe.step{ops:List Oper}{G M:Array Bool}(Z:oe ops G){i:Nat}{o:Oper}(aa:ops[i]?=some o)(ab:∀j∈waits o,G.getD j false=true)(Y:∀k,M.getD k false=if k=i then true else G.getD k false):oe ops M:=by
 intro k q F B j O
 rw[Y]at B⊢
 split
 ·rfl
 by_cases U:k=i
 ·subst U;rw[aa]at F;cases F;exact ab j O
 rw[if_neg U]at B;exact Z k q F B j O
section
variable {P:Program}{V:Env}{w0:World}{I0:aq}{n:Nat}{md:Way}{ops:List Oper}{Q:Exit→Act→World→Prop}{K:St→Prop}
end
end Go.af
namespace Go.af
open Go Go.RowKit
variable [aL][bu]
def CU(j:List (Nat×List Lf)):TypeId→Option (List Lf):=λt=>(j.find? λp=>p.1 == t).map (·.2)
section
variable {P:Program}{V:Env}{w0:World}{I0:aq}{n:Nat}{md:Way}{Q:Exit→St→Prop}{s:St}{y:Code}{ops:List Oper}{K:St→Prop}
end
end Go.af
