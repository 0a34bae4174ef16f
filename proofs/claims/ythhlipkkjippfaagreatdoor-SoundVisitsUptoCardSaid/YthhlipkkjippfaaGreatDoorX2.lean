import Derived.Test.YthhlipkkjippfaaGreatDoorX1
import Derived.Maps.RangeRun
import Derived.Laws.IdiomStrings
import Derived.MapKept
import Derived.WideKeyRuns
import Derived.Laws.OwnMore
import Derived.RangeFuncRecord
import Derived.Deep.LoopGhost
import Derived.KernelRfl
set_option linter.all false
namespace Go.ag
open Go Go.RowKit
variable [bq]
section
variable {P:Program}{V:Env}{w0 w:World}{I0 I:ay}{m:Nat->Value}{l L:List AO}{nid:Nat}{o:Oper}{ρ:Operand->Value}{ρT:Operand->T}
def Na(base:Nat)(t ty e:TypeId)(i:TypeInfo)(size:Nat)(ht:P.underlying t=some (.slice e))(hi:P.info? e=some i)(v:Value)(n:Nat)(xs:List Value)(k:w.ownsRow base e size v n xs)(c:Nat):(Builtin.append_ #[t,t] ty #[v,.slice none 0 c]).run P w=.ok v w:=by
 rcases k.2 with ⟨rfl,rfl⟩| ⟨g,B,cur,rfl,_,_,j,_⟩
 ·simp[Builtin.append_,hD ht,sizeOf,typeInfo,hi,Builtin.lenOf,Builtin.firstCells]
 simp[Builtin.append_,hD ht,sizeOf,typeInfo,hi,Builtin.lenOf,Builtin.firstCells,j,storeCells]
theorem Nb(av:cq P V.E)(az:du w I){t ty e:TypeId}{i:TI}(k:P.underlying t=some (.slice e))(hi:V.E e=some i)(ag:0<i.size){base:Nat}{v au:Value}{n ar:Nat}{xs:List Value}{new:List D}(Y:w.ownsRow base e i.size v n xs)(aA:Rd I au (.slice ar new))(hsz:ar=i.size\/new.isEmpty=true)(ae:(n+new.length)*i.bytes<=140737488355328)(an:n+new.length<=9223372036854775807)(af:base<=w.heap.size) :
  ∃B w' aq,(Builtin.append_ #[t,t] ty #[v,au]).run P w=.ok B w'/\w'.ownsRow base e i.size B (n+new.length) (xs++aq)/\w.grownBy w' v.ownBlock/\(B.ownBlock=v.ownBlock\/B.ownBlock=some w.heap.size) /\
   (∀d∈new,d.cells.length=i.size/\∀x∈d.cells,x.one=true)/\(∀(j:Nat) x y,aq[j]?=some x->(flat new)[j]?=some y->Rd I x y):=by
 obtain⟨x,ad,aa,ai,aj,ak,aB,aG,aH,aI⟩:=e9 (av e i hi)
 have ah:ad.cells.size=i.size:=by have:=(po I _ _ aB).1;rw[Array.length_toList]at this;omega
 cases aA with
 |kf A c _ aF=>
  cases A with
  |none=>exact⟨v,w,[],Na base t ty e x i.size k aa v n xs Y c,by simpa using Y,World.grownBy.refl w _,.inl rfl,by simp,by simp⟩
  |some a=>
   obtain⟨B,w',G,M,N,_,O⟩:=w2 (P:=P) w base t ty e x ad i.size i.bytes k aa ak ai aj ah ag v n xs Y a 0 c [] (by simp) (by simp) (by simp) (by unfold maxLen;simp at an;omega) (by simpa using ae) af
   exact⟨B,w',[],G,by simpa using M,N,O,by simp,by simp⟩
 |slice b off aJ c size els val aC aK aL ab aD aE=>
  subst aC
  rcases hsz with hsz|hsz
  ·subst hsz
   have ax:∀(j:Nat) u,((List.range (new.length*i.size)).map val)[j]?=some u->w.cell? ((⟨b,off,none⟩:Addr).add j)=some u:=by
    intro j u k
    rw[et]at k
    by_cases F:j<new.length*i.size
    ·rw[ie F]at k
     simp at k
     rw[q5,az.cell _ _ _ (aD j F),k]
    rw[hF (by simp;omega)]at k;cases k
   have ao:∀(j:Nat) x y,((List.range (new.length*i.size)).map val)[j]?=some x->(flat new)[j]?=some y->Rd I x y:=by
    intro j u y k Z
    have F:j<new.length*i.size:=by rw[<-iA new (λd U=>(ab d U).1)];exact(c5.1 Z).1
    rw[et,ie F]at k
    simp at k;subst k
    exact aE j y Z
   have ay:∀u∈(List.range (new.length*i.size)).map val,u.oneCell'=true:=by
    intro u k
    obtain⟨j,F,rfl⟩:=gT.1 k
    have al:j<(flat new).length:=by rw[iA new (λd U=>(ab d U).1)];simpa using F
    have Z:(flat new)[j]?=some (flat new)[j]:=c3 al
    refine(ao j _ _ (c3 F) Z).one ?_
    obtain⟨d,U,aw⟩:=jb.1 (h6 al)
    exact(ab d U).2 _ aw
   obtain⟨B,w',G,M,N,_,O⟩:=w2 (P:=P) w base t ty e x ad i.size i.bytes k aa ak ai aj ah ag v n xs Y ⟨b,off,none⟩ new.length c ((List.range (new.length*i.size)).map val) (by simp) ax ay (by unfold maxLen;omega) ae af
   exact⟨B,w',_,G,M,N,O,ab,ao⟩
  have:new=[]:=by simpa using hsz
  subst this
  obtain⟨B,w',G,M,N,_,O⟩:=w2 (P:=P) w base t ty e x ad i.size i.bytes k aa ak ai aj ah ag v n xs Y ⟨b,off,none⟩ 0 c [] (by simp) (by simp) (by simp) (by unfold maxLen;simp at an;omega) (by simpa using ae) af
  exact⟨B,w',[],G,by simpa using M,N,O,by simp,by simp⟩
theorem Gp(base:Nat)(t ty e:TypeId)(i:TypeInfo)(z:Value)(size bytes:Nat)(ht:P.underlying t=some (.slice e))(hi:P.info? e=some i)(ag:i.zero=some z)(af:i.size=size)(ab:i.bytes=bytes)(aq:z.cells.size=size)(ao:0<size)(v:Value)(n:Nat)(xs:List Value)(N:w.ownsRow base e size v n xs)(a:Addr)(m c:Nat)(F:List Value)(M:F.length=m*size)(U:∀j u,F[j]?=some u->w.cell? (a.add j)=some u)(Z:∀u∈F,u.oneCell'=true)(aa:n+m<=maxLen)(ad:(n+m)*bytes<=140737488355328)(ai:base<=w.heap.size) :
  ∃G w',(Builtin.append_ #[t,t] ty #[v,.slice (some a) m c]).run P w=.ok G w'/\w'.ownsRow base e size G (n+m) (xs++F)/\w.grownBy w' v.ownBlock/\(G.ownBlock=v.ownBlock\/(G.ownBlock=some w.heap.size/\w.grownBy w' none)):=by
 obtain⟨G,w',Y,ar,ah,_,r5⟩:=w2 (P:=P) w base t ty e i z size bytes ht hi ag af ab aq ao v n xs N a m c F M U Z aa ad ai
 refine⟨G,w',Y,ar,ah,?_⟩
 rcases r5 with r5|r5
 ·exact .inl r5
 subst af;subst ab
 rcases N.2 with ⟨rfl,rfl⟩| ⟨g,O,cur,rfl,au,al,aw,av,aj,ay⟩
 ·exact .inr ⟨r5,ah⟩
 have ax:n+m<=9223372036854775807:=by simp only[maxLen]at aa;omega
 by_cases ae:n+m<=O
 ·have ak:n*i.size+F.length<=cur.size:=by rw[M,aj,<-qd];exact ka _ ae
  have B:=run_append_room (P:=P) w t ty e i ht hi g n O cur al a m c F M U Z ae ak
  rw[Y]at B
  injection B with B _
  subst B
  exact .inl rfl
 have holds:∀j u,xs[j]?=some u->w.cell? ((⟨g,0,none⟩:Addr).add j)=some u:=N.cells (g:=g) rfl
 have B:=run_append_grow (P:=P) w t ty e i z ht hi ag ⟨g,0,none⟩ n O xs N.1 holds a m c F M U (by omega) (by omega) (growslice_fits (by omega) ad)
 rw[Y]at B
 injection B with _ B
 subst B
 exact .inr ⟨r5,rfl,rfl,rfl,by simp,λk an h=>(q2 w.drew _ none).block k an h⟩
theorem YH(av:cq P V.E)(az:du w I){t ty e:TypeId}{i:TI}(k:P.underlying t=some (.slice e))(hi:V.E e=some i)(ag:0<i.size){base:Nat}{v au:Value}{n ar:Nat}{xs:List Value}{new:List D}(Y:w.ownsRow base e i.size v n xs)(aA:Rd I au (.slice ar new))(hsz:ar=i.size\/new.isEmpty=true)(ae:(n+new.length)*i.bytes<=140737488355328)(an:n+new.length<=9223372036854775807)(af:base<=w.heap.size) :
  ∃B w' aq,(Builtin.append_ #[t,t] ty #[v,au]).run P w=.ok B w'/\w'.ownsRow base e i.size B (n+new.length) (xs++aq)/\w.grownBy w' v.ownBlock/\(B.ownBlock=v.ownBlock\/(B.ownBlock=some w.heap.size/\w.grownBy w' none)) /\
   (∀d∈new,d.cells.length=i.size/\∀x∈d.cells,x.one=true)/\(∀(j:Nat) x y,aq[j]?=some x->(flat new)[j]?=some y->Rd I x y):=by
 obtain⟨x,ad,aa,ai,aj,ak,aB,aG,aH,aI⟩:=e9 (av e i hi)
 have ah:ad.cells.size=i.size:=by have:=(po I _ _ aB).1;rw[Array.length_toList]at this;omega
 cases aA with
 |kf A c _ aF=>
  cases A with
  |none=>exact⟨v,w,[],Na base t ty e x i.size k aa v n xs Y c,by simpa using Y,World.grownBy.refl w _,.inl rfl,by simp,by simp⟩
  |some a=>
   obtain⟨B,w',G,M,N,O⟩:=Gp (P:=P) base t ty e x ad i.size i.bytes k aa ak ai aj ah ag v n xs Y a 0 c [] (by simp) (by simp) (by simp) (by unfold maxLen;simp at an;omega) (by simpa using ae) af
   exact⟨B,w',[],G,by simpa using M,N,O,by simp,by simp⟩
 |slice b off aJ c size els val aC aK aL ab aD aE=>
  subst aC
  rcases hsz with hsz|hsz
  ·subst hsz
   have ax:∀(j:Nat) u,((List.range (new.length*i.size)).map val)[j]?=some u->w.cell? ((⟨b,off,none⟩:Addr).add j)=some u:=by
    intro j u k
    rw[et]at k
    by_cases F:j<new.length*i.size
    ·rw[ie F]at k
     simp at k
     rw[q5,az.cell _ _ _ (aD j F),k]
    rw[hF (by simp;omega)]at k;cases k
   have ao:∀(j:Nat) x y,((List.range (new.length*i.size)).map val)[j]?=some x->(flat new)[j]?=some y->Rd I x y:=by
    intro j u y k Z
    have F:j<new.length*i.size:=by rw[<-iA new (λd U=>(ab d U).1)];exact(c5.1 Z).1
    rw[et,ie F]at k
    simp at k;subst k
    exact aE j y Z
   have ay:∀u∈(List.range (new.length*i.size)).map val,u.oneCell'=true:=by
    intro u k
    obtain⟨j,F,rfl⟩:=gT.1 k
    have al:j<(flat new).length:=by rw[iA new (λd U=>(ab d U).1)];simpa using F
    have Z:(flat new)[j]?=some (flat new)[j]:=c3 al
    refine(ao j _ _ (c3 F) Z).one ?_
    obtain⟨d,U,aw⟩:=jb.1 (h6 al)
    exact(ab d U).2 _ aw
   obtain⟨B,w',G,M,N,O⟩:=Gp (P:=P) base t ty e x ad i.size i.bytes k aa ak ai aj ah ag v n xs Y ⟨b,off,none⟩ new.length c ((List.range (new.length*i.size)).map val) (by simp) ax ay (by unfold maxLen;omega) ae af
   exact⟨B,w',_,G,M,N,O,ab,ao⟩
  have:new=[]:=by simpa using hsz
  subst this
  obtain⟨B,w',G,M,N,O⟩:=Gp (P:=P) base t ty e x ad i.size i.bytes k aa ak ai aj ah ag v n xs Y ⟨b,off,none⟩ 0 c [] (by simp) (by simp) (by simp) (by unfold maxLen;simp at an;omega) (by simpa using ae) af
  exact⟨B,w',[],G,by simpa using M,N,O,by simp,by simp⟩
def ug{B:Nat}{e:TypeId}{size n:Nat}{v:Value}{xs:List Value}(h:w.ownsRow B e size v n xs):own v=v.ownBlock/\∃A n c,v=.slice A n c:=by
 rcases h.2 with ⟨rfl,_⟩| ⟨g,j,cur,rfl,_⟩
 ·exact⟨rfl,_,_,_,rfl⟩
 exact⟨rfl,_,_,_,rfl⟩
theorem Pf(aQ:cq P V.E)(bw:aH w0 I0 w I m l){t ty:TypeId}{vs bm:Value}{s x:T}(a6:ar I m l vs s)(bD:ar I m l bm x)(aK:nid=l.length)(G:(iq V.E t l nid s x).ob) :
  ∃l' M w' J m',(iq V.E t l nid s x).bA=.aP l'/\(Builtin.append_ #[t,t] ty #[vs,bm]).run P w=.ok M w'/\Le I m l J m' l'/\aH w0 I0 w' J m' l'/\ar J m' l' M (iq V.E t l nid s x).t:=by
 subst aK
 unfold iq at G⊢
 split at G
 ·rename_i e bx
  split at G
  ·rename_i i hi
   have av:=l4 aQ bx
   split at G
   ·rename_i bI new l1 af
    obtain⟨J,az,F,bf,aI⟩:=sD bw bD af
    split at G
    ·rename_i au
     rw[if_pos au]
     split at G
     ·
      rename_i ns
      cases a6
      obtain⟨M,w',ad,ao,aj,aw,h4,aB,aC⟩:=Nb (ty:=ty) aQ F.sat av hi au.2 (World.ownsRow_nil w w0.heap.size e i.size) bf (au.1) (by simpa using G.1) (by simpa using G.2) F.below.size
      obtain⟨ak,bc⟩:=ug aj
      have aF:∀b,own M=some b->w0.heap.size<=b/\J.dY b/\∀k,alive l1 k=true->own (m k)≠some b:=by
       intro b hb
       have:b=w.heap.size:=by
        rw[ak]at hb
        rcases h4 with h4|h4
        ·rw[h4]at hb;cases hb
        rw[h4]at hb;injection hb with hb;exact hb.symm
       subst this
       refine⟨F.below.size,F.sat.dY (eb _),λk N ag=>?_⟩
       obtain⟨a,B,aa⟩:=bM.1 N
       have:=((F.obj k a B).lt aa ag).1;omega
      obtain⟨ae,Z,O⟩:=F.Bn (v:=M) (lo:=l1) (e:=e) (size:=i.size) (els:=new) rfl (λk a B=>.inr B) (λ_ _ _ h=>h) aw (gG _ _ _ _ _ ao) (λb hb=>by simp[Value.ownBlock]at hb) (λb hb=>by simp[Value.ownBlock]at hb) aF (by simpa using aj) aB (by simpa using aC) bc
      rw[aI]at ae Z O
      exact⟨_,M,w',J,_,rfl,ao,az.trans ae,Z,O⟩
     ·
      rename_i id
      split at G
      ·rename_i aV size els Y
       split at G
       ·rename_i aY
        obtain⟨rfl,a8,_⟩:=aY
        subst a8
        rw[if_pos ⟨rfl,rfl,aI.symm⟩]
        have a7:=a6.mono az
        obtain⟨A,n,c,bC,aq⟩:∃A n c,vs=.slice A n c/\m id=vs:=by
         cases a7 with
         |row A n c _ bF bd=>exact⟨A,n,c,rfl,bd (by simp[isRow,Y,AO.isRow])⟩
        obtain⟨xs,ai,aN,bb,aO⟩:=F.obj id _ Y
        rw[aq]at ai aO
        obtain⟨M,w',ad,ao,aj,aw,h4,aB,aC⟩:=Nb (ty:=ty) aQ F.sat av hi au.2 ai bf au.1 G.1 G.2 F.below.size
        obtain⟨ak,bc⟩:=ug aj
        obtain⟨al,_⟩:=ug ai
        have aZ:id<l1.length:=(c5.1 Y).1
        have aJ:∀(k:Nat) a,(l1.set id .dead)[k]?=some a->a=.dead\/l1[k]?=some a:=by
         intro k a B
         rw[e4]at B
         split at B
         ·first
           | (injection B with B;exact .inl B.symm)
           | (split at B<;>first| (injection B with B;exact .inl B.symm)|cases B)
         exact .inr B
        have aD:∀k,alive (l1.set id .dead) k=true->k≠id/\alive l1 k=true:=by
         intro k N
         obtain⟨a,B,aa⟩:=bM.1 N
         refine⟨?_,bM.2 ⟨a,(aJ k a B).resolve_left aa,aa⟩⟩
         rintro rfl
         rw[e4,if_pos rfl,if_pos aZ]at B
         injection B with B;exact aa B.symm
        have aM:∀b,own vs=some b->w0.heap.size<=b/\J.dY b/\∀k,alive (l1.set id .dead) k=true->own (m k)≠some b:=by
         intro b hb
         refine⟨((F.obj id _ Y).lt (by simp) (by rw[aq];exact hb)).2,aO b hb,λk N ag=>?_⟩
         obtain⟨aL,a1⟩:=aD k N
         exact F.sep k id b aL a1 (bM.2 ⟨_,Y,by simp⟩) ag (by rw[aq];exact hb)
        have aF:∀b,own M=some b->w0.heap.size<=b/\J.dY b/\∀k,alive (l1.set id .dead) k=true->own (m k)≠some b:=by
         intro b hb
         rw[ak]at hb
         rcases h4 with h4|h4
         ·rw[h4,<-al]at hb;exact aM b hb
         rw[h4]at hb;injection hb with hb;subst hb
         refine⟨F.below.size,F.sat.dY (eb _),λk N ag=>?_⟩
         obtain⟨a,B,aa⟩:=bM.1 (aD k N).2
         have:=((F.obj k a B).lt aa ag).1;omega
        obtain⟨ae,Z,O⟩:=F.Bn (v:=M) (lo:=l1.set id .dead) (e:=aV) (size:=i.size) (els:=els++new) (xs:=xs++ad) (by simp) aJ
         (
          λk a aX N=>by
          rw[e4,if_neg ?_];exact N
          rintro rfl;rw[Y]at N;cases N;cases aX)
         aw (gG _ _ _ _ _ ao) (λb hb=>aM b (by rw[al];exact hb)) (λb hb=>F.sat.zB ai (by rw[al];exact hb)) aF (by simpa using aj)
         (λd af=>by rcases hP.1 af with h|h;exact aN d h;exact aB d h)
         (
          λj u y ab ah=>by
          rw[Dp,hB]at ah
          rw[hB]at ab
          have:xs.length=(flat els).length:=by rw[iA els (λd af=>(aN d af).1)];exact ai.1
          rw[this]at ab
          by_cases aG:j<(flat els).length
          ·rw[if_pos aG]at ah ab;exact bb j u y ab ah
          rw[if_neg aG]at ah ab;exact aC _ u y ab ah) bc
        rw[aI]at ae Z O
        exact⟨_,M,w',J,_,rfl,ao,az.trans ae,Z,O⟩
       exact G.elim
      exact G.elim
     ·
      rename_i id bK
      split at G
      ·rename_i aV size els Y
       split at G
       ·rename_i aY
        obtain⟨rfl,a8,_⟩:=aY
        subst a8
        rw[if_pos ⟨rfl,rfl,aI.symm⟩]
        have a7:=a6.mono az
        obtain⟨A,n,c,bC,aq⟩:∃A n c,vs=.slice A n c/\m id=vs:=by
         cases a7 with
         |bJ A n c _ _ bF bd _=>exact⟨A,n,c,rfl,bd (by simp[isRow,Y,AO.isRow])⟩
        obtain⟨xs,ai,aN,bb,aO⟩:=F.obj id _ Y
        rw[aq]at ai aO
        obtain⟨M,w',ad,ao,aj,aw,h4,aB,aC⟩:=YH (ty:=ty) aQ F.sat av hi au.2 ai bf au.1 G.1 G.2 F.below.size
        obtain⟨ak,bn,bE,bo,bB⟩:=ug aj
        obtain⟨al,_⟩:=ug ai
        have aZ:id<l1.length:=(c5.1 Y).1
        have aJ:∀(k:Nat) a,(l1.set id .dead)[k]?=some a->a=.dead\/l1[k]?=some a:=by
         intro k a B
         rw[e4]at B
         split at B
         ·first
           | (injection B with B;exact .inl B.symm)
           | (split at B<;>first| (injection B with B;exact .inl B.symm)|cases B)
         exact .inr B
        have aD:∀k,alive (l1.set id .dead) k=true->k≠id/\alive l1 k=true:=by
         intro k N
         obtain⟨a,B,aa⟩:=bM.1 N
         refine⟨?_,bM.2 ⟨a,(aJ k a B).resolve_left aa,aa⟩⟩
         rintro rfl
         rw[e4,if_pos rfl,if_pos aZ]at B
         injection B with B;exact aa B.symm
        have aM:∀b,own vs=some b->w0.heap.size<=b/\∀k,alive (l1.set id .dead) k=true->own (m k)≠some b:=by
         intro b hb
         refine⟨((F.obj id _ Y).lt (by simp) (by rw[aq];exact hb)).2,λk N ag=>?_⟩
         obtain⟨aL,a1⟩:=aD k N
         exact F.sep k id b aL a1 (bM.2 ⟨_,Y,by simp⟩) ag (by rw[aq];exact hb)
        have aF:∀b,own M=some b->w0.heap.size<=b/\∀k,alive (l1.set id .dead) k=true->own (m k)≠some b:=by
         intro b hb
         rw[ak]at hb
         rcases h4 with h4| ⟨h4,_⟩
         ·rw[h4,<-al]at hb;exact aM b hb
         rw[h4]at hb;injection hb with hb;subst hb
         refine⟨F.below.size,λk N ag=>?_⟩
         obtain⟨a,B,aa⟩:=bM.1 (aD k N).2
         have:=((F.obj k a B).lt aa ag).1;omega
        have bs:∀b,own M=some b->I.le J->(∀(o:Nat) u,J.cell b o=some u->(xs++ad)[o]?=some u)/\J.mp b=none/\∀o,(xs++ad).length<=o->J.cell b o=none:=by
         intro b hb _
         rw[ak]at hb
         rcases h4 with h4| ⟨h4,_⟩
         ·rw[h4,<-al]at hb
          obtain⟨ae,Z,O⟩:=aO b hb
          refine⟨λo u hc=>?_,ae,λo aT=>O o (by rw[e3]at aT;omega)⟩
          rcases lB o xs.length with an|hge
          ·have:=Z o xs[o] (c3 an)
           rw[hc]at this;injection this with this
           rw[e1 an,c3 an,this]
          rw[O o hge]at hc;cases hc
         rw[h4]at hb;injection hb with hb;subst hb
         have aK:=F.sat.dY (eb _)
         exact⟨λo u hc=>(by rw[aK.1 o]at hc;cases hc),aK.2,λo _=>aK.1 o⟩
        obtain⟨U,aR,bq,ax,aW⟩:∃U:ay,J.le U/\(∀b,U.df b↔J.df b)/\(∀b,own M=some b->U.mp b=none/\(∀(o:Nat) u,(xs++ad)[o]?=some u->U.cell b o=some u)/\∀o,(xs++ad).length<=o->U.cell b o=none)/\∀b,own M≠some b->U.cell b=J.cell b/\U.mp b=J.mp b:=by
         cases bt:own M with
         |none=>exact⟨J,.refl J,λ_=>J4,λ_ hb=>absurd hb (by simp),λ_ _=>⟨rfl,rfl⟩⟩
         |some b=>
          obtain⟨ae,Z,O⟩:=bs b bt az.dg
          refine⟨J.dH b (xs++ad),⟨λaU o u hc=>?_,λ_ _ h=>h,λ_ h=>h⟩,λ_=>J4,λaU aE=>?_,λaU aE=>⟨?_,rfl⟩⟩
          ·by_cases bg:aU=b
           ·subst bg;simp only[ay.dH,hK];rw[ae o u hc]
           simp only[ay.dH,if_neg bg];exact hc
          ·injection aE with aE;subst aE
           refine⟨Z,λo u av=>?_,λo aT=>?_⟩
           ·simp only[ay.dH,hK];rw[av]
           simp only[ay.dH,hK];rw[hF aT];exact O o aT
          funext o
          simp only[ay.dH]
          rw[if_neg (λe=>aE (by rw[e]))]
        have bz:du w' U:=by
         have bp:∀b,own M=some b->∀(o:Nat) u,(xs++ad)[o]?=some u->w'.cell? ⟨b,o,none⟩=some u:=by
          intro b hb o u av
          have:=aj.cells (g:=b) (by rw[<-ak];exact hb) o u av
          rwa [Addr.add_lit,hV]at this
         have ba:∀b,(∃o u,J.cell b o=some u)\/(∃aA,J.mp b=some aA)\/J.df b->own M≠some b->w'.heap[b]?=w.heap[b]?:=by
          intro b hb aL
          have an:b<w.heap.size:=by
           rcases hb with ⟨o,u,hc⟩| ⟨aA,hc⟩|hc
           ·exact F.sat.lt hc
           ·exact F.sat.ny hc
           exact F.sat.kI hc
          rcases h4 with h4| ⟨_,h4⟩
          ·exact aw.block b an (λag=>aL (by rw[ak,h4];exact ag.symm))
          exact h4.block b an (by simp)
         refine⟨λb o u hc=>?_,λb aA hc=>?_,λb af=>?_,λg d br=>(F.sat.dz g d br).mono aR⟩
         ·by_cases hb:own M=some b
          ·obtain⟨_,Z,O⟩:=ax b hb
           rcases lB o (xs++ad).length with an|hge
           ·have:=Z o _ (c3 an)
            rw[hc]at this;injection this with this
            exact bp b hb o u (by rw[c3 an,this])
           rw[O o hge]at hc;cases hc
          rw[(aW b hb).1]at hc
          exact(la (w:=w) (a:=⟨b,o,none⟩) (ba b (.inl ⟨o,u,hc⟩) hb)).trans (F.sat.cell b o u hc)
         ·by_cases hb:own M=some b
          ·rw[(ax b hb).1]at hc;cases hc
          rw[(aW b hb).2]at hc
          exact dZ.to (ba b (.inr (.inl ⟨aA,hc⟩)) hb) (F.sat.mp b aA hc)
         have aS:J.df b:=by
          have:U.df b->J.df b:=λh=>(bq b).1 h
          exact this af
         by_cases hb:own M=some b
         ·exfalso
          rw[ak]at hb
          rcases h4 with h4| ⟨h4,_⟩
          ·rw[h4,<-al]at hb;exact F.sat.zB ai hb aS
          rw[h4]at hb;injection hb with hb;have:=F.sat.kI aS;omega
         exact(ba b (.inr (.inr aS)) hb).trans (F.sat.df b aS)
        have bh:∀d∈els++new,d.cells.length=i.size/\∀x∈d.cells,x.one=true:=λd af=>by rcases hP.1 af with h|h;exact aN d h;exact aB d h
        have bl:∀(j:Nat) u y,(xs++ad)[j]?=some u->(flat (els++new))[j]?=some y->Rd U u y:=by
         intro j u y ab ah
         rw[Dp,hB]at ah
         rw[hB]at ab
         have:xs.length=(flat els).length:=by rw[iA els (λd af=>(aN d af).1)];exact ai.1
         rw[this]at ab
         by_cases aG:j<(flat els).length
         ·rw[if_pos aG]at ah ab;exact(bb j u y ab ah).mono aR
         rw[if_neg aG]at ah ab;exact(aC _ u y ab ah).mono aR
        obtain⟨ae,Z,O⟩:=F.XF (v:=M) (row:=vs.ownBlock) (lo:=l1.set id .dead) (e:=aV) (size:=i.size) (els:=els++new) (J:=U) (by simp) aJ
         (
          λk a aX N=>by
          rw[e4,if_neg ?_];exact N
          rintro rfl;rw[Y]at N;cases N;cases aX)
         aw (
           gG _ _ _ _ _ ao) (λb hb=>aM b (by rw[al];exact hb)) (λb hb=>(by
          have bj:∀b,own vs=some b->J.cell b 0=none\/∃q,cI l1 q=true/\own (m q)=some b:=λb hb=>.inr ⟨id,by unfold cI;rw[Y];rfl,by rw[aq];exact hb⟩
          rcases hb with hb|hb
          ·exact bj b (by rw[al];exact hb)
          rw[ak]at hb
          rcases h4 with h4| ⟨h4,_⟩
          ·rw[h4,<-al]at hb;exact bj b hb
          rw[h4]at hb;injection hb with hb;subst hb;exact .inl ((F.sat.dY (eb _)).1 0))) aR aW bz aF
         ⟨xs++ad,by simpa using aj,bh,bl,λb hb=>⟨(ax b hb).1,(ax b hb).2.1,(ax b hb).2.2⟩⟩ ⟨bn,bE,bo,bB⟩
        rw[aI]at ae Z O
        refine⟨_,M,w',U,_,rfl,ao,az.trans ae,Z,?_⟩
        have bu:Rd U M (.slice i.size (els++new)):=uK (by simpa using aj) bh bl λb hb=>(ax b hb).2.1
        cases O with
        |row A n c _ bG bH=>exact .bJ A n c _ _ bG bH bu
       exact G.elim
      exact G.elim
     exact G.elim
    exact G.elim
   exact G.elim
  exact G.elim
 exact G.elim
def BY{E:cm}{t:TypeId}{v:Value}{x:T}(h:ar I m L v x):ar I m L v (typed E t x):=by
 unfold typed
 split
 ·cases h;exact .bC _
 exact h
theorem BW{E:cm}:∀(ts:List TypeId)(vs:List Value)(xs:List T),(∀(i:Nat) v x,vs[i]?=some v->xs[i]?=some x->ar I m L v x)->(fM E ts xs).length=xs.length/\∀(i:Nat) v x,vs[i]?=some v->(fM E ts xs)[i]?=some x->ar I m L v x
 | [],vs,xs,h=>by simp[fM];exact h
 |t::ts,vs,[],h=>by simp[fM]
 |t::ts,vs,x::xs,h=>by
  match vs with
  | []=>simp[fM];exact(BW (E:=E) ts [] xs (by simp)).1
  |v::vs=>
   obtain⟨B,F⟩:=BW (E:=E) ts vs xs (λi v x G M=>h (i+1) v x (by simpa using G) (by simpa using M))
   simp only[fM]
   refine⟨by simp[B],λi u y j k=>?_⟩
   rcases i with _|i
   ·simp at j k;subst j;subst k;exact BY (h 0 v x rfl rfl)
   simp at j k;exact F i u y j k
def ez(E:cm)(ρ:Operand->T)(o:Oper):Option (FuncId×List T):=match o.op with
 |.call c=>(match c.callee with
  |.value f=>(match ρ f with
   |.aD g ts=>some (g,fM E c.argTypes.toList (c.args.toList.map ρ)++ts)
   |.d (.fn g)=>some (g,fM E c.argTypes.toList (c.args.toList.map ρ))
   |.d (.aD g ds)=>some (g,fM E c.argTypes.toList (c.args.toList.map ρ)++ds.map .d)
   |_=>none)
  |_=>none)
 |_=>none
def SQ{E:cm}{ρ ρ':Operand->T}{o:Oper}(h:∀x∈o.op.operands,ρ x=ρ' x):ez E ρ o=ez E ρ' o:=by
 unfold ez
 split
 ·rename_i c j
  split
  ·rename_i f F
   have k:=h f (by simp[j,Op.operands,Call.operands,F])
   have B:c.args.toList.map ρ=c.args.toList.map ρ':=hE λx G=>h x (by simp[j,Op.operands,Call.operands];right;simpa using G)
   rw[k,B]
  rfl
 rfl
theorem qS{E:cm}{g:FuncId}{ts:List T}(ad:Enters P g)(ai:∀x∈o.op.operands,ar I m L (ρ x) (ρT x))(h:ez E ρT o=some (g,ts)) :
  ∃Y:Array Value,(execOp ρ o).run P w=.ok (.enter g Y) w/\Y.size=ts.length/\∀(i:Nat) v x,Y[i]?=some v->ts[i]?=some x->ar I m L v x:=by
 unfold ez at h
 split at h
 ·rename_i c U
  split at h
  ·rename_i f O
   have G:=ai f (by simp[U,Op.operands,Call.operands,O])
   have aj:∀(i:Nat) v x,(c.args.toList.map ρ)[i]?=some v->(c.args.toList.map ρT)[i]?=some x->ar I m L v x:=by
    intro i v x k j
    rw[et]at k j
    cases Z:c.args.toList[i]? with
    |none=>simp[Z]at k
    |some a=>
     simp[Z]at k j
     subst k;subst j
     refine ai a ?_
     simp only[U,Op.operands,Call.operands,O]
     have:=dk Z
     simp at this⊢
     exact .inr this
   obtain⟨B,aa⟩:=BW (E:=E) c.argTypes.toList _ _ aj
   generalize ae:ρ f=al at G
   split at h
   ·rename_i ah cs N
    rw[N]at G
    injection h with h;injection h with M F;subst M
    cases G with
    |aD _ vs _ af ag=>
     refine⟨c.args.map ρ++vs,?_,?_,λi v x k j=>?_⟩
     ·unfold execOp
      simp only[U,resolve,O,ae,Deferred.ofValue,fv,Sem.run_pure,Result.andThen_ok,invoke]
      simpa using ad (c.args.map ρ++vs) w
     ·rw[<-F];simp[B,af]
     rw[<-F]at j
     by_cases hi:i<(c.args.map ρ).size
     ·rw[ik hi]at k
      rw[e1 (by rw[B];simpa using hi)]at j
      exact aa i v x (by simpa using k) j
     rw[q1 (by omega)]at k
     rw[hz (by rw[B];simpa using hi)]at j
     rw[B]at j
     simp at k j hi
     exact ag _ v x k j
   ·rename_i ah N
    rw[N]at G
    injection h with h;injection h with M F;subst M
    have:=cz G
    cases this
    refine⟨c.args.map ρ,?_,by rw[<-F,B];simp,λi v x k j=>aa i v x (by simpa using k) (by rw[F];exact j)⟩
    unfold execOp
    simp only[U,resolve,O,ae,Deferred.ofValue,fv,Sem.run_pure,Result.andThen_ok,invoke]
    simpa using ad (c.args.map ρ) w
   ·rename_i ah cs N
    rw[N]at G
    injection h with h;injection h with M F;subst M
    have ak:=cz G
    cases ak with
    |aD _ vs _ af ag=>
     refine⟨c.args.map ρ++vs,?_,?_,λi v x k j=>?_⟩
     ·unfold execOp
      simp only[U,resolve,O,ae,Deferred.ofValue,fv,Sem.run_pure,Result.andThen_ok,invoke]
      simpa using ad (c.args.map ρ++vs) w
     ·rw[<-F];simp[B,af]
     rw[<-F]at j
     by_cases hi:i<(c.args.map ρ).size
     ·rw[ik hi]at k
      rw[e1 (by rw[B];simpa using hi)]at j
      exact aa i v x (by simpa using k) j
     rw[q1 (by omega)]at k
     rw[hz (by rw[B];simpa using hi)]at j
     rw[B,et]at j
     simp only[hG,Array.length_toList]at j
     simp only[Array.size_map]at k
     cases ab:cs[i-c.args.size]? with
     |none=>rw[ab]at j;simp at j
     |some d=>rw[ab]at j;simp at j;subst j;exact .d _ _ (ag _ v d k ab)
   cases h
  cases h
 cases h
def G1{v:Value}{t:T}(h:ar I m L v t):ar I m L v (unbox t):=by
 unfold unbox
 split
 ·have:=cz h
  cases this with
  |box _ _ val B F G=>
   rename_i d b
   have:=ar.bB (I:=I) (m:=m) (l:=L) b 0 d.cells.length [d] 0 0 val (by simp) (λx k=>by simp at k;subst k;exact⟨rfl,B⟩) (λj M=>by rw[hV];exact F j (by simpa using M)) (λj x k=>G j x (by simpa [flat]using k))
   simpa using this
 exact h
def Tb{t:T}{d:D}(h:fi t=some d):t=.d d:=by
 unfold fi at h;split at h
 ·injection h with h;subst h;rfl
 cases h
def wu:∀{ts:List T}{ds:List D},ts.mapM fi=some ds->ts=ds.map .d
 | [],ds,h=>by simp at h;subst h;rfl
 |t::ts,ds,h=>by
  rw[k8]at h
  cases ht:fi t with
  |none=>simp[ht]at h
  |some d=>
   cases j:ts.mapM fi with
   |none=>simp[ht,j]at h
   |some k=>
    simp[ht,j]at h
    subst h
    rw[Tb ht,wu j];rfl
def SR{v:Value}{g:FuncId}{ts:List T}(h:ar I m L v (.aD g ts)):ar I m L v (mf g ts):=by
 unfold mf
 split
 ·rename_i ds k
  have:=wu k
  subst this
  cases h with
  |aD _ vs _ F G=>exact .d _ _ (.aD _ _ _ (by simpa using F) λi v d B j=>cz (G i v (.d d) B (by simp[j])))
 exact h
def Sj(aq:cA P V)(ag:aH w0 I0 w I m L)(aw:eH l L){g:FuncId}{ts:List T}(aF:∀x∈o.op.operands,ar I m L (ρ x) (ρT x))(ax:ez V.E ρT o=some (g,ts))(B:(sY V.C g l ts).ob):cg P w0 I0 o ρ w I m l L nid (sY V.C g l ts):=by
 unfold sY at B⊢
 split at B
 ·rename_i ds l' ad
  split at B
  ·rename_i x ob an
   obtain⟨aB,az⟩:=aq.C g ds x ob an B
   obtain⟨k,ah,aE,au⟩:=qS (P:=P) (w:=w) (ρ:=ρ) aB aF ax
   have ae:k.toList.length=ts.length:=by simpa using aE
   have ab:∀(i:Nat) v x,k.toList[i]?=some v->ts[i]?=some x->ar I m L v x:=λi v x U Y=>au i v x (by simpa using U) Y
   have ai:∀(j:List AO)(J:ay),Le I m L J m j->aH w0 I0 w J m j->k.toList.length=ds.length->(∀(i:Nat) v d,k.toList[i]?=some v->ds[i]?=some d->Rd J v d) ->
     Calls P g k w λe M=>∃v,e=.returned v/\∃J',Le I m L J' m j/\aH w0 I0 M J' m j/\ar J' m j v (.d x):=by
    intro j J aD af aC G
    refine(az w J k af.sat (by simpa using aC) (λi v d U aA=>G i v d (by simpa using U) aA)).mono ?_
    rintro e M ⟨v,J',F,av,Y,aI,aG⟩
    obtain⟨aJ,aK⟩:=af.call av Y aI
    exact⟨v,F,J',aD.trans aK,aJ,.d _ _ aG⟩
   unfold cg
   by_cases O:ts.all (nM l)=true
   ·simp only[if_pos O,ah,cp]
    have ao:=HO ts aw O ad
    obtain⟨J,Z,aa,N,G,_⟩:=oa ts L I _ ds L ag ae ab ao
    exact(ai L J Z aa N G).mono λe M ⟨v,F,J',h⟩=>⟨v,F,J',h⟩
   simp only[if_neg O,ah,cp]
   rintro rfl aL
   obtain⟨J,Z,aa,N,G,_⟩:=oa ts L I _ ds l' ag ae ab ad
   exact(ai l' J Z aa N G).mono λe M ⟨v,F,J',aj,ak,al⟩=>⟨v,F,J',m,aj,ak,al⟩
  exact B.elim
 exact B.elim
def IE(k:cA P V)(M:aH w0 I0 w I m L)(ab:eH l L){g:FuncId}{ts:List T}(G:∀x∈o.op.operands,ar I m L (ρ x) (ρT x))(B:ez V.E ρT o=some (g,ts))(j:(qM V g l ts).ob):cg P w0 I0 o ρ w I m l L nid (qM V g l ts):=by
 unfold qM at j⊢
 split at j
 ·rename_i t l' ob Z
  obtain⟨af,ad⟩:=k.F g _ l _ Z j
  obtain⟨N,ah,ag,aa⟩:=qS (P:=P) (w:=w) (ρ:=ρ) af G B
  unfold cg
  rintro rfl ai
  simp only[ah,cp]
  exact(ad w0 I0 w I m N M ag aa).mono λe w' ⟨v,ae,J,m',O,U,Y⟩=>⟨v,ae,J,m',O,U,Y⟩
 exact Sj k M ab G B j
def NG{I:ay}{v:Value}{s:Nat}{els:List D}(h:Rd I v (.slice s els)):∃A c,v=.slice A els.length c:=by
 generalize j:D.slice s els=B at h
 cases h<;>first| (cases j;done)|skip
 ·injection j with _ j;subst j;exact⟨_,_,rfl⟩
 rename_i k _ _ _ _ _
 injection j with _ j;subst j;exact⟨_,_,by rw[k]⟩
def EA(ad:aH w0 I0 w I m L)(Y:eH l L){v:Value}{t:T}{ag vs:List D}(ae:ar I m L v t)(k:mapOf l t=some (ag,vs)) :
  ∃j:Array MapEntry,j.size=ag.length/\j.size=vs.length/\(∀(i:Nat)(e:MapEntry)(d:D),j[i]?=some e->ag[i]?=some d->Rd I e.key d)/\(∀(i:Nat)(e:MapEntry)(d:D),j[i]?=some e->vs[i]?=some d->Rd I e.val d) /\
   ((v=.map none/\j = #[])\/∃b al,v=.map (some b)/\w.heap[b]?=some (.map j al)):=by
 unfold mapOf at k
 split at k
 ·injection k with k;injection k with F G;subst F;subst G
  have:=cz ae
  cases this with
  |ub=>exact⟨#[],rfl,rfl,by simp,by simp,.inl ⟨rfl,rfl⟩⟩
  |map b j _ _ M af N O U=>
   have an:=ad.sat.mp b j M
   exact⟨j.1,af,N,O,U,.inr ⟨b,j.2,rfl,an.1⟩⟩
 ·rename_i id
  split at k
  ·rename_i ah ak B
   injection k with k;injection k with F G;subst F;subst G
   obtain⟨b,j,M,af,N,O,U,aa,ab,aj⟩:=ad.obj id _ (Y.get B)
   cases ae with
   |map r _ ai Z=>
    have:=Z (by unfold isRow;rw[Y.get B];rfl)
    rw[M]at this
    exact⟨j.1,O,U,aa,ab,.inr ⟨b,j.2,this.symm,N.1⟩⟩
  ·rename_i ah ak B
   injection k with k;injection k with F G;subst F;subst G
   obtain⟨b,j,M,af,N,O,U,aa,ab,aj⟩:=ad.obj id _ (Y.get B)
   cases ae with
   |map r _ ai Z=>
    have:=Z (by unfold isRow;rw[Y.get B];rfl)
    rw[M]at this
    exact⟨j.1,O,U,aa,ab,.inr ⟨b,j.2,this.symm,N.1⟩⟩
  ·rename_i ao s' ah ak aq B
   injection k with k;injection k with F G;subst F;subst G
   obtain⟨b,j,M,af,N,O,U,aa,ab,aj,_⟩:=ad.obj id _ (Y.get B)
   cases ae with
   |map r _ ai Z=>
    have:=Z (by unfold isRow;rw[Y.get B];rfl)
    rw[M]at this
    exact⟨j.1,O,U,aa,ab,.inr ⟨b,j.2,this.symm,N.1⟩⟩
  cases k
 cases k
theorem VR(O:cq P V.E)(Y:aH w0 I0 w I m L)(U:eH l L){v:Value}{x:T}{ty t:TypeId}(M:ar I m L v x)(j:(jY V.E t l x).ob) :
  (jY V.E t l x).bA=.none/\∃u,(Builtin.len_ #[t] ty #[v]).run P w=.ok u w/\ar I m L u (jY V.E t l x).t:=by
 have fin:∀(A:Option Addr)(n c:Nat)(e:TypeId),P.underlying t=some (.slice e)->(Builtin.len_ #[t] ty #[.slice A n c]).run P w=.ok (.int .i64 n) w:=by
  intro A n c e k
  simp[Builtin.len_,hD k,goInt]
 unfold jY at j⊢
 split at j
 ·rename_i G
  have k:=G3 O G
  split at j
  ·have:=cz M;cases this
   exact⟨rfl,_,by simp[Builtin.len_,hD k,goInt],.d _ _ (.int _ _)⟩
  exact j.elim
 ·rename_i e G
  have k:=l4 O G
  split at j
  ·rename_i s els
   obtain⟨A,c,rfl⟩:=NG (cz M)
   exact⟨rfl,_,fin _ _ _ _ k,.d _ _ (.int _ _)⟩
  ·cases M;exact⟨rfl,_,fin _ _ _ _ k,.d _ _ (.int _ _)⟩
  ·rename_i id
   have go:∀e size els,l[id]?=some (.row e size els)\/l[id]?=some (.br e size els)->∃A c,v=.slice A els.length c:=by
    intro e size els ho
    have ab:L[id]?=some (.row e size els)\/L[id]?=some (.br e size els):=by rcases ho with ho|ho;exact .inl (U.get ho);exact .inr (U.get ho)
    cases M with
    |row A n c _ aw aj=>
     have N:=aj (by unfold isRow;rcases ab with h|h<;>simp[h,AO.isRow])
     have:∃xs,w.ownsRow w0.heap.size e size (m id) els.length xs:=by
      rcases ab with h|h
      ·obtain⟨xs,B,_⟩:=Y.obj id _ h;exact⟨xs,B⟩
      obtain⟨xs,B,_⟩:=Y.obj id _ h;exact⟨xs,B⟩
     obtain⟨xs,B⟩:=this
     rw[N]at B
     rcases B.2 with ⟨q,ak⟩| ⟨g,ao,cur,q,_⟩
     ·injection q with al Z an;rw[ak,<-Z];exact⟨_,_,rfl⟩
     injection q with al Z an;rw[<-Z];exact⟨_,_,rfl⟩
   split at j
   ·rename_i e size els ho
    obtain⟨A,c,rfl⟩:=go e size els (.inl ho)
    exact⟨rfl,_,fin _ _ _ _ k,.d _ _ (.int _ _)⟩
   ·rename_i e size els ho
    obtain⟨A,c,rfl⟩:=go e size els (.inr ho)
    exact⟨rfl,_,fin _ _ _ _ k,.d _ _ (.int _ _)⟩
   exact j.elim
  exact j.elim
 ·rename_i ai e G
  have k:P.underlying t=some (.map ai e):=by
   obtain⟨x,z',_,_,_,_,_,_,F,_⟩:=e9 (O t _ G)
   simp only[iz]at F
   split at F
   ·rename_i av au af;simp at F;obtain⟨rfl,rfl⟩:=F;exact af
   cases F
  split at j
  ·rename_i ah vs N
   obtain⟨ad,aa,_,_,_,ae⟩:=EA Y U M N
   try simp only[N]
   rcases ae with ⟨rfl,rfl⟩| ⟨b,aq,rfl,ag⟩
   ·refine⟨rfl,_,by simp[Builtin.len_,hD k,goInt];rfl,?_⟩
    have:ah.length=0:=by simpa using aa.symm
    rw[this];exact .d _ _ (.int _ _)
   refine⟨rfl,.int .i64 ad.size,by simp[Builtin.len_,hD k,goInt,ih ag],?_⟩
   rw[aa];exact .d _ _ (.int _ _)
  exact j.elim
 exact j.elim
end
end Go.ag
namespace Go.ag
open Go Go.RowKit
variable [bq]
section
variable {P:Program}{V:Env}{w0 w w':World}{I0 I:ay}{m:Nat->Value}{l L:List AO}{nid:Nat}{o:Oper}{ρ:Operand->Value}{ρT:Operand->T}
def Le.setKind{id:Nat}{a j:AO}(h:l[id]?=some a)(O:j.isVar=a.isVar)(M:j.isRow=a.isRow)(N:∀e size els,j=.row e size els\/j=.br e size els->∃els',a=.row e size els'\/a=.br e size els'):Le I m l I m (l.set id j):=by
 refine⟨.refl I,by simp,λk _ F=>⟨(lL h O.symm k).trans F,rfl⟩,λk _ F=>⟨(lK h M.symm k).symm.trans F,rfl⟩,λk e size els F B=>?_⟩
 by_cases G:k=id
 ·subst G
  rw[e4,if_pos rfl,if_pos (c5.1 h).1]at B
  simp only[c4]at B
  obtain⟨els',q⟩:=N e size els B
  exact⟨els',by rw[h];rcases q with rfl|rfl<;>simp⟩
 rw[e4,if_neg (hS G)]at B;exact⟨els,B⟩
theorem aH.lg(F:aH w0 I0 w I m l){id b:Nat}{a O:AO}(M:l[id]?=some a)(ab:a ≠ .dead)(aa:own (m id)=some b)(Z:I.dY b)(aj:O.isVar=a.isVar)(ah:O.isRow=a.isRow)(aw:Le I m l I m (l.set id O))(ay:w'.os=w.os)(aB:w'.tape=w.tape)(az:w'.output=w.output)(aq:w.drawn<=w'.drawn)(aA:w.heap.size<=w'.heap.size)(Y:∀k,k≠b->w'.heap[k]?=w.heap[k]?)(ax:dW w0.heap.size w' I m (l.set id O) (m id) O):aH w0 I0 w' I m (l.set id O):=by
 have aD:=(F.obj id a M).lt ab aa
 have au:id<l.length:=(c5.1 M).1
 have al:alive l id=true:=bM.2 ⟨_,M,ab⟩
 refine⟨F.below.trans ⟨ay,aB,az,aA,λk aC=>Y k (by omega),λ_=>aq⟩,⟨λB q u N=>?_,λB ak N=>?_,λB ag=>(Y B (λe=>by subst e;exact(F.obj id a M).lP F.sat ab aa ag)).trans (F.sat.df B ag),F.sat.dz⟩,F.ext,λj q G=>?_,λi j B av hi G an ao=>?_⟩
 ·have ae:B≠b:=by rintro rfl;rw[Z.1]at N;cases N
  exact(la (w:=w) (a:=⟨B,q,none⟩) (Y B ae)).trans (F.sat.cell B q u N)
 ·have ae:B≠b:=by rintro rfl;rw[Z.2]at N;cases N
  have ar:=F.sat.mp B ak N
  exact dZ.to (Y B ae) ar
 ·by_cases ad:j=id
  ·subst ad
   rw[e4,if_pos rfl,if_pos au]at G
   injection G with G;subst G;exact ax
  rw[e4,if_neg (hS ad)]at G
  by_cases af:q=.dead
  ·subst af;trivial
  refine(F.obj j q G).cM aw (λB U=>Y B ?_) (λ_ _=>⟨rfl,rfl⟩) (.set (λB u ai=>Y B (λe=>by subst e;rw[Z.1]at ai;cases ai)) λ_ B U=>by rw[aa]at U;injection U with U;subst U;exact Z.1 0)
  rintro rfl
  exact F.sep j id B ad (bM.2 ⟨q,G,af⟩) al U aa
 refine F.sep i j B av ?_ ?_ an ao
 ·unfold alive at hi⊢;rwa [lL M aj.symm,lK M ah.symm]at hi
 unfold alive at G⊢;rwa [lL M aj.symm,lK M ah.symm]at G
theorem tq{kk:IntKind}{n:Int}:∀(k:List MapEntry)(B:List D)(i:Nat),k.length=B.length->(∀(j:Nat)(e:MapEntry)(d:D),k[j]?=some e->B[j]?=some d->Rd I e.key d)->np kk B=true ->
  (eu n B i=none/\Instr.findNow (.int kk) (.int kk n) k i=some none/\∀e∈k,e.key ≠ .int kk n)\/∃j e,eu n B i=some (i+j)/\k[j]?=some e/\e.key=.int kk n/\B[j]?=some (.int kk n)/\Instr.findNow (.int kk) (.int kk n) k i=some (some (i+j,e.val))
 | [],[],i,_,_,_=>.inl ⟨rfl,rfl,by simp⟩
 |e::k,d::B,i,aj,aa,hk=>by
  simp only[np,List.all_cons,db]at hk
  obtain⟨U,ai⟩:=hk
  have Z:=aa 0 e d rfl rfl
  split at U
  ·rename_i Y a
   have ah:Y=kk:=by simpa using U
   subst ah
   have N:e.key=.int Y a:=by generalize e.key=z at Z;cases Z;rfl
   by_cases F:n=a
   ·subst F
    refine .inr ⟨0,e,by simp[eu],rfl,N,rfl,?_⟩
    simp[Instr.findNow,Instr.sameNow,N]
   rcases tq (kk:=Y) (n:=n) k B (i+1) (by simpa using aj) (λj e d G M=>aa (j+1) e d (by simpa using G) (by simpa using M)) ai with ⟨G,M,ag⟩| ⟨j,ab,G,M,ad,ae,af⟩
   ·exact .inl ⟨by simp[eu,F,G],by simp only[Instr.findNow,Instr.sameNow,N,hK,u6.2 F,M],λx hx=>by
     rcases fb.1 hx with rfl|hx
     ·rw[N];intro O;injection O with _ O;exact F O.symm
     exact ag x hx⟩
   refine .inr ⟨j+1,ab,by simp only[eu,if_neg F,G];congr 1;omega,by simpa using M,ad,by simpa using ae,?_⟩
   simp only[Instr.findNow,Instr.sameNow,N,hK,u6.2 F,af]
   congr 3;omega
  cases U
def wv(G:cq P V.E){t:TypeId}{kk:IntKind}{i:TI}(h:kJ V.E t=some (kk,i)):∃B e,P.underlying t=some (.map B e)/\P.underlying B=some (.int kk)/\V.E e=some i:=by
 unfold kJ at h
 split at h
 ·rename_i B e ht
  split at h
  ·rename_i ab aa O U
   injection h with h;injection h with M N;subst M;subst N
   obtain⟨x,z',_,_,_,_,_,_,j,_⟩:=e9 (G t _ ht)
   obtain⟨ad,ae,_,_,_,_,_,_,k,_⟩:=e9 (G B _ O)
   refine⟨B,e,?_,?_,U⟩
   ·simp only[iz]at j
    split at j
    ·rename_i Y Z F;simp at j;obtain⟨rfl,rfl⟩:=j;exact F
    cases j
   simp only[iz]at k
   split at k
   ·rename_i Y F;simp at k;subst k;exact F
   cases k
  cases h
 cases h
def y8{t:T}{k:IntKind}{n:Int}{v:Value}(h:dm t=some (k,n))(F:ar I m L v t):v=.int k n:=by
 unfold dm at h
 split at h
 ·injection h with h;injection h with j B;subst j;subst B
  have:=cz F;cases this;rfl
 cases h
def Jg{ds:List D}{j:Nat}{d:D}(h:ds[j]?=some d):eK ds j=d:=by simp[eK,h]
theorem OY{z:Value}{i:TI}(F:fY z.cells.toList i.zero=true)(k:kD z=i.desc.agg):Rd I z (eM i.desc.agg i.zero):=by
 obtain⟨j,O,B⟩:=po I _ _ F
 unfold eM
 cases z with
 |agg cs=>
  rw[<-k]
  simp only[kD,hK]
  exact .agg _ _ (by simpa [Value.cells]using j) O (λi v d M G=>B i v d (by simpa [Value.cells]using M) G)
 |_=>
  rw[<-k]
  simp only[kD,hQ,h8]
  match N:i.zero,j with
  | [d],_=>exact B 0 _ d (by simp[Value.cells]) (by simp[N])
  | [],j=>simp[Value.cells]at j
  |_::_::_,j=>simp[Value.cells]at j
def look_ok(Z:cq P V.E)(ax:aH w0 I0 w I m L)(ao:eH l L){t:TypeId}{x k:Value}{U tk:T}{ok:Bool}(ay:ar I m L x U)(au:ar I m L k tk)(G:(rD V.E t l U tk ok).ob) :
  (rD V.E t l U tk ok).bA=.none/\∃u,(Instr.lookup t x k ok).run P w=.ok u w/\ar I m L u (rD V.E t l U tk ok).t:=by
 unfold rD at G⊢
 split at G
 ·rename_i kk i az vs aK n ak al an
  have:=y8 an au;subst this
  obtain⟨aA,e,ag,ah,aF⟩:=wv Z ak
  obtain⟨Y,s1,s2,aC,aD,aE⟩:=EA ax ao ay al
  obtain⟨z,ai,aG,aI,aO⟩:=xD Z aF w
  split at G
  ·rename_i av;subst av
   simp only[hK]
   have aa:∀e:Bool,(Instr.checkKey e 10000 aA (.int kk n)).run P w=.ok () w:=λe=>qs (d:=.int kk) (n:=9999) ah (by simp[MapKept.IsKey]) e
   have ae:∀r,Instr.findNow (.int kk) (.int kk n) Y.toList 0=some r->(Instr.lookup t x (.int kk n) ok).run P w=.ok (if ok then .tuple #[match r with|some (_,v)=>v|none=>z,.bool r.isSome]else match r with|some (_,v)=>v|none=>z) w:=by
    intro r aw
    have ab:=oo (w:=w) ah aw
    unfold Instr.lookup
    rcases aE with ⟨rfl,rfl⟩| ⟨b,aJ,rfl,aq⟩
    ·simp only[fv,hD ag,Result.andThen_ok,Sem.run_pure,aa,ab]
     cases r<;>simp[ai]<;>split<;>simp
    simp only[fv,hD ag,Result.andThen_ok,Sem.run_pure,ih aq,aa,ab]
    cases r<;>simp[ai]<;>split<;>simp
   rcases tq (kk:=kk) (n:=n) Y.toList az 0 (by simpa using s1) (λj e d O M=>aC j e d (by simpa using O) M) (by split at G<;>exact G)with ⟨O,M,_⟩| ⟨j,aj,O,M,aL,aM,aB⟩
   ·simp only[O]
    refine⟨by trivial,_,ae _ M,?_⟩
    have af:=OY (I:=I) aG aI
    cases ok
    ·exact .d _ _ af
    exact .d _ _ (.aN _ _ rfl λi v d F B=>by
     rcases i with _|_|i
     ·simp at F B;subst F;subst B;exact af
     ·simp at F B;subst F;subst B;exact .bool _
     simp at F)
   simp only[O,hV]
   refine⟨by trivial,_,ae _ aB,?_⟩
   have ad:j<vs.length:=by rw[<-s2];have:=(c5.1 M).1;simpa using this
   have F:=aD j aj _ (by simpa using M) (c3 ad)
   rw[Jg (c3 ad)]
   cases ok
   ·exact .d _ _ F
   exact .d _ _ (.aN _ _ rfl λi v d N B=>by
    rcases i with _|_|i
    ·simp at N B;subst N;subst B;exact F
    ·simp at N B;subst N;subst B;exact .bool _
    simp at N)
  exact G.elim
 exact G.elim
def stays(kk:IntKind)(n:Int)(w:World):(Instr.keyThatStays (.int kk n) (.int kk n)).run P w=.ok (.int kk n) w:=by
 unfold Instr.keyThatStays
 have:Instr.sameBits 10000 (.int kk n) (.int kk n)=true:=by simp[Instr.sameBits]
 rw[this];rfl
def XL(
        aK:cq P V.E)(an:aH w0 I0 w I m l){t:TypeId}{x k v:Value}{av tk au:T}(aA:ar I m l x av)(ab:ar I m l k tk)(aN:ar I m l v au)(U:(mu V.E t l av tk au).ob) :
  ∃l' w',(mu V.E t l av tk au).bA=.aP l'/\(Instr.mapUpdate t x k v).run P w=.ok () w'/\Le I m l I m l'/\aH w0 I0 w' I m l':=by
 unfold mu at U⊢
 split at U
 ·rename_i kk i id aT n d aG aI aJ
  have:=y8 aI ab;subst this
  have ay:=Bt aN aJ
  obtain⟨aQ,e,aE,aw,aU⟩:=wv aK aG
  split at U
  ·rename_i aL;subst aL
   simp only[hK]
   split at U
   ·rename_i aB vs O
    obtain⟨b,⟨M,G⟩,Z,ag,N,s1,s2,ah,aq,ae⟩:=an.obj id _ O
    replace N:w.heap[b]?=some (.map M G)/\MapKept.Stamped M G:=N
    simp only at s1 s2 ah aq
    have aO:x=.map (some b):=by
     cases aA with
     |map r _ af ad=>
      have:=ad (by unfold isRow;rw[O];rfl)
      rw[Z]at this;exact this.symm
    subst aO
    have ax:∀e:Bool,(Instr.checkKey e 10000 aQ (.int kk n)).run P w=.ok () w:=λe=>qs (d:=.int kk) (n:=9999) aw (by simp[MapKept.IsKey]) e
    have az:own (m id)=some b:=by rw[Z];rfl
    rcases tq (kk:=kk) (n:=n) M.toList aB 0 (by simpa using s1) (λj e d Z ag=>ah j e d (by simpa using Z) ag) U with ⟨af,ad,aS⟩| ⟨j,aF,af,ad,aC,aR,aD⟩
    ·simp only[af]
     have al:=oo (w:=w) aw ad
     have ao:=lb (P:=P) (.map (M.push {key:=.int kk n,val:=v,born:=G}) (G+1)) N.1
     obtain⟨aj,ak⟩:=p3 (o':=.map (M.push {key:=.int kk n,val:=v,born:=G}) (G+1)) N.1
     refine⟨_,{w with heap:=w.heap.setIfInBounds b (.map (M.push {key:=.int kk n,val:=v,born:=G}) (G+1))},rfl,?_,?_,?_⟩
     ·unfold Instr.mapUpdate
      simp only[fv,hD aE,Result.andThen_ok,ih N.1,ax,al,ao]
     ·exact Le.setKind O rfl rfl (by simp)
     refine an.lg O (by simp) az ae rfl rfl (Le.setKind O rfl rfl (by simp)) rfl rfl rfl (eb _) (by simp) (λk ab=>ak k ab) ?_
     refine⟨b,(M.push {key:=.int kk n,val:=v,born:=G},G+1),Z,ag,⟨aj,F0 N.2 (by simpa using aS)⟩,by simp[s1],by simp[s2],λi e d B F=>?_,λi e ai B F=>?_,ae⟩
     ·rw[ra]at B
      split at B
      ·injection B with B;subst B
       rename_i hi;subst hi
       rw[s1,hz (eb _)]at F;simp at F;subst F;exact .int _ _
      have hi:i<aB.length:=by have:=(e6.1 B).1;omega
      rw[e1 hi]at F;exact ah i e d B F
     rw[ra]at B
     split at B
     ·injection B with B;subst B
      rename_i hi;subst hi
      rw[s2,hz (eb _)]at F;simp at F;subst F;exact ay
     have hi:i<vs.length:=by have:=(e6.1 B).1;omega
     rw[e1 hi]at F;exact aq i e ai B F
    simp only[af,hV]
    rw[hV]at aD
    have al:=oo (w:=w) aw aD
    have aa:M[j]?=some aF:=by simpa using ad
    have ao:=lb (P:=P) (.map (M.modify j λe=>{e with key:=.int kk n,val:=v}) G) N.1
    obtain⟨aj,ak⟩:=p3 (o':=.map (M.modify j λe=>{e with key:=.int kk n,val:=v}) G) N.1
    refine⟨_,{w with heap:=w.heap.setIfInBounds b (.map (M.modify j λe=>{e with key:=.int kk n,val:=v}) G)},rfl,?_,Le.setKind O rfl rfl (by simp),?_⟩
    ·unfold Instr.mapUpdate
     simp only[fv,hD aE,Result.andThen_ok,ih N.1,ax,al,aa,Option.map_some,Option.getD_some,aC,stays,ao]
    refine an.lg O (by simp) az ae rfl rfl (Le.setKind O rfl rfl (by simp)) rfl rfl rfl (eb _) (by simp) (λk ab=>ak k ab) ?_
    refine⟨b,(M.modify j λe=>{e with key:=.int kk n,val:=v},G),Z,ag,⟨aj,x1 N.2 j _ (λ_ _=>rfl) (λx aA Y=>by rw[aa]at Y;injection Y with Y;subst Y;exact aC.symm)⟩,by simp[s1],by simp[s2],λi e d B F=>?_,λi e ai B F=>?_,ae⟩
    ·rw[p0]at B
     split at B
     ·rename_i hi;subst hi
      rw[aa]at B;simp at B;subst B
      rw[aR]at F;injection F with F;subst F;exact .int _ _
     exact ah i e d B F
    rw[p0]at B
    split at B
    ·rename_i hi;subst hi
     rw[aa]at B;simp at B;subst B
     have Y:j<vs.length:=by rw[<-s2];exact(e6.1 aa).1
     rw[e4,if_pos rfl,if_pos Y]at F
     injection F with F;subst F;exact ay
    rename_i aM
    rw[e4,if_neg aM]at F;exact aq i e ai B F
   exact U.elim
  exact U.elim
 exact U.elim
theorem Tl(aF:cq P V.E)(al:aH w0 I0 w I m l){t t2 ty:TypeId}{x k:Value}{ah tk:T}(aJ:ar I m l x ah)(Z:ar I m l k tk)(U:(nz V.E t l ah tk).ob) :
  (nz V.E t l ah tk).t=.d (.aN [])/\∃l' w',(nz V.E t l ah tk).bA=.aP l'/\(Builtin.delete_ #[t,t2] ty #[x,k]).run P w=.ok (.tuple #[]) w'/\Le I m l I m l'/\aH w0 I0 w' I m l':=by
 unfold nz at U⊢
 split at U
 ·rename_i kk i id aO n aD aE
  have:=y8 aE Z;subst this
  obtain⟨aM,e,aB,ao,aT⟩:=wv aF aD
  split at U
  ·rename_i aI;subst aI
   simp only[hK]
   split at U
   ·rename_i aL vs O
    refine⟨rfl,?_⟩
    obtain⟨b,⟨B,G⟩,Y,af,M,s1,s2,ab,ag,ad⟩:=al.obj id _ O
    replace M:w.heap[b]?=some (.map B G)/\MapKept.Stamped B G:=M
    simp only at s1 s2 ab ag
    have aK:x=.map (some b):=by
     cases aJ with
     |map r _ ae aa=>
      have:=aa (by unfold isRow;rw[O];rfl)
      rw[Y]at this;exact this.symm
    subst aK
    have au:∀e:Bool,(Instr.checkKey e 10000 aM (.int kk n)).run P w=.ok () w:=λe=>qs (d:=.int kk) (n:=9999) ao (by simp[MapKept.IsKey]) e
    have ay:own (m id)=some b:=by rw[Y];rfl
    rcases tq (kk:=kk) (n:=n) B.toList aL 0 (by simpa using s1) (λj e d Y af=>ab j e d (by simpa using Y) af) U with ⟨ae,aa,aS⟩| ⟨j,aC,ae,aa,aQ,aR,aA⟩
    ·simp only[ae]
     have ak:=oo (w:=w) ao aa
     have an:=lb (P:=P) (.map B G) M.1
     obtain⟨ai,aj⟩:=p3 (o':=.map B G) M.1
     refine⟨_,{w with heap:=w.heap.setIfInBounds b (.map B G)},rfl,?_,Le.setKind O rfl rfl (by simp),?_⟩
     ·unfold Builtin.delete_
      simp[hD aB,ih M.1,au,ak,an]
     refine al.lg O (by simp) ay ad rfl rfl (Le.setKind O rfl rfl (by simp)) rfl rfl rfl (eb _) (by simp) (λk Z=>aj k Z) ?_
     exact⟨b,(B,G),Y,af,⟨ai,M.2⟩,s1,s2,ab,ag,ad⟩
    simp only[ae,hV]
    rw[hV]at aA
    have ak:=oo (w:=w) ao aA
    have aG:B[j]?=some aC:=by simpa using aa
    have ax:j<B.size:=(e6.1 aG).1
    have an:=lb (P:=P) (.map (B.eraseIdxIfInBounds j) G) M.1
    obtain⟨ai,aj⟩:=p3 (o':=.map (B.eraseIdxIfInBounds j) G) M.1
    have av:(B.eraseIdxIfInBounds j).toList=B.toList.eraseIdx j:=by unfold Array.eraseIdxIfInBounds;rw[dif_pos ax];simp
    have az:(B.eraseIdxIfInBounds j).size=B.size-1:=by
     have h:=dn List.length av
     rw[Array.length_toList,F1,if_pos (by simpa using ax),Array.length_toList]at h;exact h
    have aw:∀(i:Nat),(B.eraseIdxIfInBounds j)[i]?=B[if i<j then i else i+1]?:=λi=>by
     have:(B.eraseIdxIfInBounds j)[i]?=(B.eraseIdxIfInBounds j).toList[i]?:=j3.symm
     rw[this,av,x3];split<;>simp
    refine⟨_,{w with heap:=w.heap.setIfInBounds b (.map (B.eraseIdxIfInBounds j) G)},rfl,?_,Le.setKind O rfl rfl (by simp),?_⟩
    ·unfold Builtin.delete_
     simp[hD aB,ih M.1,au,ak,an]
    refine al.lg O (by simp) ay ad rfl rfl (Le.setKind O rfl rfl (by simp)) rfl rfl rfl (eb _) (by simp) (λk Z=>aj k Z) ?_
    refine⟨b,(B.eraseIdxIfInBounds j,G),Y,af,⟨ai,MapKept.stamped_erase M.2 j⟩,by rw[az,F1,if_pos (by omega)];omega,by rw[az,F1,if_pos (by omega)];omega,λi e d N F=>?_,λi e aq N F=>?_,ad⟩
    ·rw[aw]at N;rw[x3]at F
     split at N
     ·rename_i h;rw[if_pos h]at F;exact ab _ e d N F
     rename_i h;rw[if_neg h]at F;exact ab _ e d N F
    rw[aw]at N;rw[x3]at F
    split at N
    ·rename_i h;rw[if_pos h]at F;exact ag _ e aq N F
    rename_i h;rw[if_neg h]at F;exact ag _ e aq N F
   exact U.elim
  exact U.elim
 exact U.elim
theorem Vj(M:cq P V.E){t:TypeId}{x i:Value}{F B:T}(Z:ar I m L x F)(hi:ar I m L i B)(j:(tL V.E t F B).ob) :
  (tL V.E t F B).bA=.none/\∃u,(Instr.index t x i).run P w=.ok u w/\ar I m L u (tL V.E t F B).t:=by
 unfold tL at j⊢
 split at j
 ·rename_i s k n U G
  have:=y8 G hi;subst this
  have Y:=G3 M U
  have:=cz Z;cases this
  have O:n.toNat<s.size:=by have:=j.2;omega
  have N:s[n.toNat]?=some s[n.toNat]:=by rw[getElem?_pos s n.toNat O]
  refine⟨rfl,.int .u8 (yq s n.toNat),?_,.d _ _ (.int _ _)⟩
  unfold Instr.index yq
  simp[asIntOf,hD Y,j.1,N]
 exact j.elim
def aH.VI(F:aH w0 I0 w I m L)(e:TypeId)(cs:Array Value)(size:Nat)(ds:List D)(n c:Nat)(U:ds.length=n)(aa:∀d∈ds,d.cells.length=size/\∀x∈d.cells,x.one=true)(ag:n<=c)(al:n*size<=cs.size)(af:c<=maxLen)(ah:∀(j:Nat) x y,cs[j]?=some x->(flat ds)[j]?=some y->Rd I x y) :
  ∃J,Le I m L J m L/\aH w0 I0 (w.alloc (.cells cs e)) J m L/\Rd J (.slice (some ⟨w.heap.size,0,none⟩) n c) (.slice size ds):=by
 have Y:=F.sat.dY (eb w.heap.size)
 let J:=I.dH w.heap.size cs.toList
 have O:I.le J:=⟨λb o v B=>by
  have G:b≠w.heap.size:=by rintro rfl;rw[Y.1 o]at B;cases B
  simp[J,ay.dH,G,B],λ_ _ h=>h,λ_ h=>h⟩
 have Z:∀b,b≠w.heap.size->J.cell b=I.cell b:=λb G=>by funext o;simp[J,ay.dH,G]
 have ai:du (w.alloc (.cells cs e)) J:=⟨λb o v B=>by
  by_cases G:b=w.heap.size
  ·subst G
   simp only[J,ay.dH,hK]at B
   rw[World.cell?_alloc_new]
   cases M:cs[o]? with
   |none=>simp[M,Y.1 o]at B
   |some x=>simpa [M]using B
  ·rw[Z b G]at B
   rw[uu w _ _ (F.sat.lt B)];exact F.sat.cell b o v B,λb ab B=>by
  have ad:=F.sat.mp b ab B
  exact dZ.to (Below.heap_alloc w _ b (F.sat.ny B)) ad,λb N=>(Below.heap_alloc w _ b (F.sat.kI N)).trans (F.sat.df b N),λg d h=>(F.sat.dz g d h).mono O⟩
 obtain⟨aj,ak⟩:=F.call (dN.alloc (dN.refl _ _) (eb _) _) (.of O (λb G=>Z b (by omega)) (λ_ _=>rfl)) ai
 refine⟨J,ak,aj,.slice _ 0 n c size ds (λk=>(cs[k]?).getD undef) U ag af aa (λk ae=>?_) (λk x M=>?_)⟩
 ·have:cs[k]?=some (cs[k]'(by omega)):=e7 (by omega)
  simp[J,ay.dH,this]
 have ae:k<n*size:=by rw[<-U,<-iA ds (λd N=>(aa d N).1)];exact(c5.1 M).1
 have:cs[k]?=some (cs[k]'(by omega)):=e7 (by omega)
 rw[this];exact(ah k _ x this M).mono O
def aH.drew(h:aH w0 I0 w I m L):aH w0 I0 w.drew I m L:=⟨h.below.drew,⟨h.sat.cell,h.sat.mp,h.sat.df,h.sat.dz⟩,h.ext,λid o B=>(h.obj id o B).cM (Le.refl I m L) (λ_ _=>rfl) (λ_ _=>⟨rfl,rfl⟩) ⟨λ_ _ _ _=>⟨rfl,rfl,rfl⟩,λq b j k=>.inl ⟨q,j,k⟩⟩,h.sep⟩
def JN:∀(ds:List D),(∀d∈ds,∃n,d=.int .i32 n)->flat ds=ds
 | [],_=>rfl
 |d::ds,h=>by
  obtain⟨n,rfl⟩:=h d (by simp)
  have j:=JN ds (λx k=>h x (by simp[k]))
  unfold flat at j⊢
  rw[hM,j];rfl
def CX(aa:cq P V.E)(ai:aH w0 I0 w I m L){O t:TypeId}{x:Value}{Y:T}(N:ar I m L x Y)(F:(pE V.E O t Y).ob) :
  (pE V.E O t Y).bA=.none/\∃u w' J,(convert O t x).run P w=.ok u w'/\Le I m L J m L/\aH w0 I0 w' J m L/\ar J m L u (pE V.E O t Y).t:=by
 have ag:∀{t:TypeId}{s b:Nat}{z:List D}{k:IntKind},V.E t=some ⟨s,b,z,.dS k⟩->P.underlying t=some (.int k):=by
  intro t s b z k M
  obtain⟨x,z',_,_,_,_,_,_,G,_⟩:=e9 (aa t _ M)
  simp only[iz]at G
  split at G
  ·rename_i av ad;simp at G;subst G;exact ad
  cases G
 unfold pE at F⊢
 split at F
 ·rename_i aB k av n ae M
  have af:=ag M
  have U:=ag ae
  have:=cz N;cases this
  refine⟨rfl,.int k (k.wrap n),w,I,?_,.refl ..,ai,.d _ _ (.int _ _)⟩
  unfold convert
  simp[hD U,hD af,Conv.intToInt]
 ·rename_i e s ae M
  split at F
  ·rename_i ad
   have af:=l4 aa M
   have aq:=ag ad
   have:=cz N;cases this
   have aA:(Conv.runesFrom s s.size 0 #[]).size<=16777216:=by have:=size_runesFrom s s.size 0 #[];simp at this;have az:s.size<=16777216:=F;omega
   have ao:=run_runes_of_string (P:=P) w O t e s (G3 aa ae) af aq (by omega)
   have hint:=Nk s s.size 0 #[] (by simp)
   generalize an:Conv.runesFrom s s.size 0 #[]=rs at *
   have Z:xE s=rs.toList.map Nj:=by unfold xE;rw[an]
   have U:∀d∈xE s,∃n,d=.int .i32 n:=by
    rw[Z];intro d ab
    obtain⟨v,au,rfl⟩:=gj.1 ab
    obtain⟨n,rfl⟩:=hint v au
    exact⟨n,rfl⟩
   obtain⟨J,aw,ax,ay⟩:=(ai.drew).VI e (rs++Array.replicate (grownCap w rs.size 0 e-rs.size) (.int .i32 0)) 1 (xE s) rs.size (grownCap w rs.size 0 e) (by simp[Z]) (λd ab=>by obtain⟨n,rfl⟩:=U d ab;simp[D.cells,D.one]) (grownCap_ge w rs.size 0 e) (by simp)
    (by
      have ak:grownCap w rs.size 0 e=rs.size+w.tape w.drawn (.appendCap rs.size 0 e)%(2 ^ 63-rs.size):=rfl
      have:w.tape w.drawn (Question.appendCap rs.size 0 e)%(2 ^ 63-rs.size)<2 ^ 63-rs.size:=q6 _ (by omega)
      rw[ak];unfold maxLen;omega)
    (
     λj x y N B=>by
     rw[JN _ U,Z]at B
     rw[et]at B
     have al:j<rs.size:=by
      cases ah:rs.toList[j]? with
      |none=>rw[ah]at B;simp at B
      |some z=>have:=(c5.1 ah).1;simpa using this
     rw[ik al]at N
     have aj:rs.toList[j]?=some x:=by simpa using N
     rw[aj]at B;simp at B;subst B
     obtain⟨n,rfl⟩:=hint x (dk aj)
     exact .int _ _)
   exact⟨rfl,_,_,J,ao,aw,ax,.d _ _ ay⟩
  exact F.elim
 exact F.elim
theorem aH.xp{ob:AO}(B:aH w0 I0 w I m l){w':World}{v:Value}{b0:Nat}(an:own v=some b0)(aB:w.heap.size<=b0)(G:w.grownBy w' none)(au:w.drawn<=w'.drawn)(ax:∀e s els,ob ≠ .row e s els/\ob ≠ .br e s els)(ay:dW w0.heap.size w' I (aP m l.length v) (l++[ob]) v ob) :
  Le I m l I (aP m l.length v) (l++[ob])/\aH w0 I0 w' I (aP m l.length v) (l++[ob]):=by
 have Z:∀k,k<l.length->(l++[ob])[k]?=l[k]?:=λk ae=>e1 (by omega)
 have aw:(l++[ob])[l.length]?=some ob:=by simp
 have ak:Le I m l I (aP m l.length v) (l++[ob]):=by
  refine⟨.refl I,by simp,λid U ao=>⟨?_,bW m v (by omega)⟩,λid U ai=>⟨?_,bW m v (by omega)⟩,λid aA s' els' U ad=>⟨els',?_⟩⟩
  ·unfold isVar at ao⊢;rw[Z id U];exact ao
  ·unfold isRow at ai⊢;rw[Z id U]at ai;exact ai
  rw[Z id U]at ad;exact ad
 have al:∀k,alive l k=true->∀b,own (m k)=some b->b<w.heap.size:=by
  intro k ae b ah
  obtain⟨o,F,M⟩:=bM.1 ae
  exact((B.obj k o F).lt M ah).1
 refine⟨ak,⟨B.below.trans ⟨G.os,G.tape,G.output,G.size,λk ae=>G.block k (by have:=B.below.size;omega) (by simp),λ_=>au⟩,⟨λb o u Y=>?_,λb aq Y=>?_,λb M=>(G.block b (B.sat.kI M) (by simp)).trans (B.sat.df b M),B.sat.dz⟩,B.ext,λid o F=>?_,λi j b aa hi aj N O=>?_⟩⟩
 ·exact(la (w:=w) (a:=⟨b,o,none⟩) (G.block b (B.sat.lt Y) (by simp))).trans (B.sat.cell b o u Y)
 ·have ad:=B.sat.mp b aq Y
  exact dZ.to (G.block b (B.sat.ny Y) (by simp)) ad
 ·by_cases U:id<l.length
  ·rw[Z id U]at F;rw[bW m v (by omega)]
   by_cases M:o=.dead
   ·subst M;trivial
   exact(B.obj id o F).cM ak (λb ah=>G.block b ((B.obj id o F).lt M ah).1 (by simp)) (λ_ _=>⟨rfl,rfl⟩) (.push (λb u az=>G.block b (B.sat.lt az) (by simp)) (by cases ob<;>first|rfl|exact absurd rfl (ax _ _ _).2))
  have:id=l.length:=by have:=(c5.1 F).1;simp at this;omega
  subst this
  rw[aw]at F;injection F with F;subst F
  rw[dM]
  exact ay
 have ab:∀k,k≠l.length->alive (l++[ob]) k=true->alive l k=true:=by
  intro k ae ar
  obtain⟨o,F,M⟩:=bM.1 ar
  have av:k<l.length:=by have:=(c5.1 F).1;simp at this;omega
  rw[Z k av]at F
  exact bM.2 ⟨o,F,M⟩
 by_cases af:i=l.length
 ·subst af;rw[dM]at N;rw[bW m v (hS aa)]at O
  rw[an]at N;injection N with N
  have:=al j (ab j (hS aa) aj) b O;omega
 by_cases ag:j=l.length
 ·subst ag;rw[dM]at O;rw[bW m v aa]at N
  rw[an]at O;injection O with O
  have:=al i (ab i aa hi) b N;omega
 rw[bW m v af]at N;rw[bW m v ag]at O
 exact B.sep i j b aa (ab i af hi) (ab j ag aj) N O
theorem aH.XE(M:aH w0 I0 w I m l){w':World}{v:Value}{b0:Nat}(G:own v=some b0)(j:w.heap.size<=b0)(B:w.grownBy w' none)(k:w.drawn<=w'.drawn)(F:dW w0.heap.size w' I m l v (.map [] [])) :
  Le I m l I (aP m l.length v) (l++[.map [] []])/\aH w0 I0 w' I (aP m l.length v) (l++[.map [] []]):=M.xp G j B k (by simp) F
def yp{j:ME}{i:Nat}{e:MapEntry}(h:j.1[i]?=some e):vz j i=e.born:=by simp[vz,h]
def F7{aw:T}(ax:cq P V.E)(M:aH w0 I0 w I m L){t:TypeId}{x:Operand}(ak:o.op=.range t x)(ag:ar I m L (ρ x) aw)(Z:(xw V.E t l nid aw).ob):cg P w0 I0 o ρ w I m l L nid (xw V.E t l nid aw):=by
 unfold xw at Z⊢
 split at Z
 ·rename_i O e id ao
  split at Z
  ·rename_i N vs l' G
   try simp only[G]
   rintro rfl rfl
   have af:P.underlying t=some (.map O e):=by
    obtain⟨x,z',_,_,_,_,_,_,k,_⟩:=e9 (ax t _ ao)
    simp only[iz]at k
    split at k
    ·rename_i aF aB ah;simp at k;obtain⟨rfl,rfl⟩:=k;exact ah
    cases k
   have aE:∃b,ρ x=.map (some b):=by
    generalize aq:ρ x=aG at ag
    cases ag with
    |map r _ aI aA=>
     simp only[dx,cV]at G
     split at G
     ·rename_i Y
      obtain⟨b,j,B,_⟩:=M.obj id _ Y
      have:=aA (by unfold isRow;rw[Y];rfl)
      rw[B]at this;injection this with this;exact⟨b,by rw[<-this]⟩
     ·rename_i Y
      obtain⟨b,j,B,_⟩:=M.obj id _ Y
      have:=aA (by unfold isRow;rw[Y];rfl)
      rw[B]at this;injection this with this;exact⟨b,by rw[<-this]⟩
     cases G
   obtain⟨b,az⟩:=aE
   obtain⟨J,aC,al,ay,aD⟩:=sD M ag G
   rw[az]at ay
   cases ay with
   |map _ j _ _ B aa ab ad ae=>
    have aj:=al.sat.mp b j B
    have an:=run_range_map (P:=P) w t O e b j.1 j.2 af aj.1
    have ai:(execOp ρ o).run P w=.ok (.value (.pointer (some ⟨w.heap.size,0,none⟩))) (w.alloc (.mapIter (some b) j.2 #[] j.2)):=by unfold execOp;simp[ak,az,an]
    simp only[ai,cp]
    obtain⟨au,av⟩:=al.xp (ob:=.iter N vs []) (w':=w.alloc (.mapIter (some b) j.2 #[] j.2)) (v:=.pointer (some ⟨w.heap.size,0,none⟩)) rfl (eb _) (q2 w _ _) (eb _) (by simp)
     ⟨w.heap.size,some b,j,#[],rfl,M.below.size,vt w _,⟨λr F=>by injection F with F;subst F;exact B,λh=>by cases h⟩,aa,ab,ad,ae,⟨rfl,by simp⟩,al.sat.dY (eb _)⟩
    refine⟨J,_,aC.trans au,av,?_⟩
    rw[<-aD]
    exact .ptr _ _ 0 (by unfold isVar;simp[AO.isVar]) (dM m _ _)
  exact Z.elim
 ·rename_i O e N vs ao
  rintro rfl rfl
  have af:P.underlying t=some (.map O e):=by
   obtain⟨x,z',_,_,_,_,_,_,k,_⟩:=e9 (ax t _ ao)
   simp only[iz]at k
   split at k
   ·rename_i aF aB ah;simp at k;obtain⟨rfl,rfl⟩:=k;exact ah
   cases k
  have G:=cz ag
  have fin:∀(U:Option Nat)(j:ME),((∀r,U=some r->I.mp r=some j)/\(U=none->j.1 = #[]))->j.1.size=N.length->j.1.size=vs.length->(∀(i:Nat)(e:MapEntry)(d:D),j.1[i]?=some e->N[i]?=some d->Rd I e.key d)->(∀(i:Nat)(e:MapEntry)(d:D),j.1[i]?=some e->vs[i]?=some d->Rd I e.val d) ->
    (execOp ρ o).run P w=.ok (.value (.pointer (some ⟨w.heap.size,0,none⟩))) (w.alloc (.mapIter U j.2 #[] j.2))->cp P ((execOp ρ o).run P w) λv w'=>∃J m',Le I m L J m' (L++[.iter N vs []])/\aH w0 I0 w' J m' (L++[.iter N vs []])/\ar J m' (L++[.iter N vs []]) v (.ptr L.length 0):=by
   intro U j B aa ab ad ae ai
   simp only[ai,cp]
   obtain⟨au,av⟩:=M.xp (ob:=.iter N vs []) (w':=w.alloc (.mapIter U j.2 #[] j.2)) (v:=.pointer (some ⟨w.heap.size,0,none⟩)) rfl (eb _) (q2 w _ _) (eb _) (by simp)
    ⟨w.heap.size,U,j,#[],rfl,M.below.size,vt w _,B,aa,ab,ad,ae,⟨rfl,by simp⟩,M.sat.dY (eb _)⟩
   exact⟨I,_,au,av,.ptr _ _ 0 (by unfold isVar;simp[AO.isVar]) (dM m _ _)⟩
  generalize aq:ρ x=aG at G
  cases G with
  |ub=>exact fin none (#[],0) ⟨λr F=>(by cases F),λ_=>rfl⟩ rfl rfl (by simp) (by simp) (by unfold execOp;simp[ak,aq,run_range_nilMap (P:=P) w t O e af])
  |map b j _ _ B aa ab ad ae=>
   have aj:=M.sat.mp b j B
   have an:=run_range_map (P:=P) w t O e b j.1 j.2 af aj.1
   exact fin (some b) j ⟨λr F=>by injection F with F;subst F;exact B,λh=>by cases h⟩ aa ab ad ae (by unfold execOp;simp[ak,aq,an])
 exact Z.elim
def TK{aa:T}(Y:aH w0 I0 w I m L)(ak:eH l L){x:Operand}(an:o.op=.entry x)(ag:ar I m L (ρ x) aa)(F:(vI l aa).ob):cg P w0 I0 o ρ w I m l L nid (vI l aa):=by
 unfold vI at F⊢
 split at F
 ·rename_i id
  split at F
  ·rename_i aC vs done ae
   split at F
   ·rename_i i hi
    split at F
    ·rename_i k v ad af
     try simp only[ae,hi,ad,af]
     obtain⟨b,ah,B,seen,aw,aF,ai,aj,aG,aI,ay,az,⟨aA,ax⟩,aE⟩:=Y.obj id _ (ak.get ae)
     generalize au:ρ x=aJ at ag
     cases ag with
     |ptr _ aB _ aD G=>
      rw[aw]at G;injection G with G;injection G with G;injection G with G;subst G
      have U:i<B.1.size:=ax i (List.mem_of_getLast? hi)
      obtain⟨r,rfl⟩:∃r,ah=some r:=by
       cases ah with
       |none=>have:=aj.2 rfl;rw[this]at U;simp at U
       |some r=>exact⟨r,rfl⟩
      have ab:=Y.sat.mp r B (aj.1 r rfl)
      have O:B.1[i]?=some B.1[i]:=e7 U
      obtain⟨Z,al⟩:∃Z,done=Z++[i]:=by
       obtain⟨ys,av⟩:=List.getLast?_eq_some_iff.1 hi
       exact⟨ys,av⟩
      have aq:seen=(Z.map (vz B)).toArray.push B.1[i].born:=by
       apply kB.1
       rw[aA,al];simp[yp O]
      rw[aq]at ai
      have ao:=run_entry_at (P:=P) w b r B.2 _ B.1 B.2 B.1[i] ai ab.1 (by simp) ab.2.2.1
      refine cg.val Y rfl (u:=.tuple #[B.1[i].key,B.1[i].val]) (by unfold execOp;simp[an,au,ao]) (.d _ _ (.aN _ _ rfl λj u d M N=>?_))
      rcases j with _|_|j
      ·simp at M N;subst M;subst N;exact ay i _ _ O ad
      ·simp at M N;subst M;subst N;exact az i _ _ O af
      simp at M
    exact F.elim
   exact F.elim
  exact F.elim
 exact F.elim
theorem Ew(j:aH w0 I0 w I m l){t:TypeId}(k:o.op=.makeMap t none):cg P w0 I0 o ρ w I m l L nid ⟨.map nid,.aP (l++[.map [] []]),True⟩:=by
 rintro rfl rfl
 have B:(execOp ρ o).run P w=.ok (.value (.map (some w.heap.size))) (w.alloc (.map #[] 0)):=by unfold execOp;simp[k,Instr.makeMap]
 simp only[B,cp]
 obtain⟨F,G⟩:=j.XE (w':=w.alloc (.map #[] 0)) (v:=.map (some w.heap.size)) rfl (eb _) (q2 w _ _) (eb _) ⟨_,(#[],0),rfl,j.below.size,⟨vt w _,MapKept.stamped_empty 0⟩,rfl,rfl,by simp,by simp,j.sat.dY (eb _)⟩
 exact⟨I,_,F,G,.map _ _ (by simp) (λ_=>dM m _ _)⟩
end
end Go.ag
namespace Go.ag
open Go Go.RowKit
variable [bq]
section
variable {P:Program}{V:Env}{w0 w w':World}{I0 I:ay}{m:Nat->Value}{l L:List AO}{nid:Nat}{o:Oper}{ρ:Operand->Value}{ρT:Operand->T}
def aaq(F:cq P V.E){t:TypeId}{sz B:Nat}{z:List D}{k:IntKind}(h:V.E t=some ⟨sz,B,z,.dS k⟩):P.underlying t=some (.int k):=by
 obtain⟨x,z',_,_,_,_,_,_,j,_⟩:=e9 (F t _ h)
 simp only[iz]at j
 split at j
 ·rename_i M G;simp at j;subst j;exact G
 cases j
theorem Sb(G:cq P V.E){t:TypeId}{sz ad n:Nat}{z:List D}{ds:List T}{e:TypeId}{parts:Array (Nat×Operand)}(ab:V.E t=some ⟨sz,ad,z,.array n e⟩)(ao:∀p∈parts.toList,ar I m L (ρ p.2) (ρT p.2))(ak:lF (λi=>some (i*bD V.E e,bD V.E e)) (z.map iO) (parts.toList.map λp=>(p.1,ρT p.2))=some ds)(ah:(V.E e).isSome=true) :
  ∃u,(Instr.build t (parts.map λ(i,x)=>(i,ρ x))).run P w=.ok u w/\ar I m L u (gk true ds):=by
 have au:=BZ G ab
 obtain⟨x,U,af,ax,ay,ag,Y,az,aA,aB⟩:=e9 (G t _ ab)
 have aj:nU I m L U.cells.toList (z.map iO):=by
  obtain⟨B,O,av⟩:=po I _ _ Y
  have B:U.cells.toList.length=z.length:=B
  refine⟨by simpa using B,λv k=>?_,λi v t k ht=>?_⟩
  ·obtain⟨j,an,rfl⟩:=gT.1 k
   have aa:j<z.length:=by omega
   exact(av j _ _ (c3 an) (c3 aa)).one (O _ (h6 aa))
  rw[et]at ht
  cases N:z[i]? with
  |none=>simp[N]at ht
  |some d=>simp[N]at ht;subst ht;exact Ho (xX Y k N)
 obtain⟨F,al,M⟩:=fF (ρ:=ρ) (ρT:=ρT) (m:=m) (L:=L) (λi=>some (i*bD V.E e,bD V.E e)) parts.toList U.cells _ ds aj ao ak
 obtain⟨aC,Z⟩:=kd.1 ah
 obtain⟨aw,_,B,O,_⟩:=e9 (G _ _ Z)
 have aq:aw.size=bD V.E e:=by simp[bD,Z,O]
 have ai:P.built t (parts.map λ(i,x)=>(i,ρ x)).toList=some F:=by
  unfold Program.built
  have ae:(parts.map λ(i,x)=>(i,ρ x)).toList=parts.toList.map λp=>(p.1,ρ p.2):=by simp
  simp only[af,au,ag,B,aq]
  rw[<-al,ae]
 refine⟨_,run_build w t _ _ ai,?_⟩
 have:=EL (I:=I) (m:=m) (L:=L) (i:=⟨F.size,0,[],.struct []⟩) (vs:=F.toList) (ts:=ds) M.1 (by simp) (by simp[TD.agg]) (λj v t k ht=>⟨M.2.2 j v t k ht,M.2.1 v (dk k)⟩)
 simpa [TD.agg]using this
def tu:∀{cs:List D},cs.all D.one=true->flat cs=cs
 | [],_=>rfl
 |d::cs,h=>by
  simp only[List.all_cons,db]at h
  have:d.cells=[d]:=by cases d<;>simp[D.one]at h<;>rfl
  simp only[flat,hM,this]
  have j:=tu h.2
  unfold flat at j
  rw[j];rfl
theorem Zi(U:cq P V.E){t e:TypeId}{sz ae n:Nat}{z:List D}(ai:V.E t=some ⟨sz,ae,z,.array n e⟩){v:Value}{cs:List D}(B:ar I m L v (.d (.box (.agg cs))))(G:(sv V.E n e cs).ob) :
  (sv V.E n e cs).bA=.none/\∃u,(Instr.sliceAt t v none none none).run P w=.ok u w/\ar I m L u (sv V.E n e cs).t:=by
 unfold sv at G⊢
 split at G
 ·rename_i h
  rw[if_pos h]
  obtain⟨af,ag,ah,aq,O⟩:=h
  refine⟨rfl,?_⟩
  have N:=BZ U ai
  have Y:P.arrayLen t=n:=by simp[Program.arrayLen,N]
  have aa:P.elem t=e:=by simp[Program.elem,N]
  have ak:P.underlying t=some (.array (P.arrayLen t) (P.elem t)):=by rw[Y,aa];exact N
  obtain⟨au,ab⟩:=kd.1 ag
  have aj:(sizeOf (P.elem t)).run P w=.ok 1 w:=by rw[aa,kY U ab];congr 1;simpa [bD,ab]using af
  have j:=cz B
  cases j with
  |box b _ val av an ao=>
   have ad:=run_sliceAt_array_all (P:=P) (w:=w) (t:=t) (a:=⟨b,0,none⟩) ak
   rw[aj,Y]at ad
   refine⟨_,ad,?_⟩
   refine .d _ _ ?_
   have M:∀d∈cs,d.one=true:=λd j=>dT.1 O d j
   have Z:∀d:D,d.one=true->d.cells=[d]:=by intro d j;cases d<;>simp[D.one]at j<;>rfl
   have al:∀(o:Nat),slicedAt ⟨b,0,none⟩ 0 n n 1=.slice (some ⟨b,0,none⟩) n n:=by
    intro o
    unfold slicedAt
    split
    ·simp
    simp[Addr.add]
   rw[al 0]
   refine .slice b 0 n n 1 cs val ah (eb _) (by unfold maxLen;omega) (λd j=>⟨by rw[Z d (M d j)];rfl,λx B=>by rw[Z d (M d j)]at B;simp at B;subst B;exact M _ j⟩) (λk F=>?_) (λk x F=>?_)
   ·have:=an k (by simp[D.cells];omega)
    simpa using this
   rw[tu O]at F
   exact ao k x (by simpa [D.cells]using F)
 exact G.elim
def Yr{v:Value}{d:D}{kk:IntKind}(h:Rd I v d)(j:pR kk d=true):∃n,v=.int kk n/\d=.int kk n:=by
 cases d<;>simp[pR]at j
 subst j
 cases h;exact⟨_,rfl,rfl⟩
def F9{v:Value}{d:D}{n:Nat}{kk:IntKind}(h:Rd I v d)(M:oF n kk d=true):∃ns:List Int,ns.length=n/\v=.agg (ns.map λn=>Value.int kk n).toArray/\d=.agg (ns.map λn=>D.int kk n):=by
 cases d<;>simp only[oF,db,ea]at M<;>try cases M
 rename_i cs aa O
 cases h with
 |agg vs _ Y ab Z=>
  have key:∀(cs:List D)(vs:List Value),vs.length=cs.length->cs.all (pR kk)=true->(∀(i:Nat) v d,vs[i]?=some v->cs[i]?=some d->Rd I v d)->∃ns:List Int,ns.length=cs.length/\vs=ns.map (λn=>Value.int kk n)/\cs=ns.map (λn=>D.int kk n):=by
   intro cs
   induction cs with
   |nil=>intro vs j _ _;exact⟨[],rfl,by simpa using j,rfl⟩
   |cons c cs U=>
    intro vs j k G
    cases vs with
    |nil=>simp at j
    |cons v vs=>
     simp only[List.all_cons,db]at k
     obtain⟨n,rfl,rfl⟩:=Yr (G 0 v c rfl rfl) k.1
     obtain⟨ns,N,B,F⟩:=U vs (by simpa using j) k.2 (λi v d a b=>G (i+1) v d (by simpa using a) (by simpa using b))
     exact⟨n::ns,by simp[N],by simp[B],by simp[F]⟩
  obtain⟨ns,N,B,F⟩:=key cs vs.toList (by simpa using Y) O (λi v d a b=>Z i v d (by simpa using a) b)
  refine⟨ns,by omega,?_,by rw[F]⟩
  congr 1
  apply kB.1
  simpa using B
def yn{kk:IntKind}:∀(a b:List Int),di (a.map λn=>D.int kk n) (b.map λn=>D.int kk n)=decide (a=b)
 | [],[]=>by simp[di]
 | [],_::_=>by simp[di]
 |_::_,[]=>by simp[di]
 |x::a,y::b=>by
  simp only[fa,di,gz,yn a b]
  rw[hC];simp
def uG{e:TypeId}{kk:IntKind}(j:P.underlying e=some (.int kk)):P.plainKey e=true:=by simp[Program.plainKey,j]
def Nd(d:Nat){e:TypeId}{kk:IntKind}(B:P.underlying e=some (.int kk))(F:P.cellsOf e=1)(a b:List Int):∀(is:List Nat),(∀i∈is,i<a.length/\i<b.length) ->
  (Op.eqItems (d+1) e (P.cellsOf e) (a.map λn=>Value.int kk n).toArray (b.map λn=>Value.int kk n).toArray is).run P w=.ok (is.all λi=>decide (a[i]?=b[i]?)) w
 | [],_=>by simp[Op.eqItems]
 |i::is,h=>by
  have hi:=h i (by simp)
  have G:(a.map λn=>Value.int kk n).toArray[i*P.cellsOf e]?=some (.int kk a[i]):=by simp[F,hi.1]
  have M:(b.map λn=>Value.int kk n).toArray[i*P.cellsOf e]?=some (.int kk b[i]):=by simp[F,hi.2]
  simp only[Op.eqItems,fv,tl w (uG B) G,tl w (uG B) M,Result.andThen_ok,aby w d e kk _ _ _ B]
  by_cases k:a[i]=b[i]
  ·have:=Nd d B F a b is (λj N=>h j (by simp[N]))
   simp only[k,BEq.rfl,p6,hQ,h8]
   rw[this]
   simp[k,hi.1,hi.2]
  simp[k,hi.1,hi.2,u6.2 k]
def O7{a b:List Int}(h:a.length=b.length):((List.range a.length).all λi=>decide (a[i]?=b[i]?))=decide (a=b):=by
 rw[hC]
 simp only[dT,hN,ea]
 constructor
 ·intro j
  apply hW 
  intro i
  by_cases hi:i<a.length
  ·exact j i hi
  rw[hF (by omega),hF (by omega)]
 rintro rfl i _;rfl
def YK{j e:TypeId}{n:Nat}{kk:IntKind}(G:P.underlying j=some (.array n e))(F:P.underlying e=some (.int kk)){i:TypeInfo}(hi:P.info? e=some i)(B:P.cellsOf e=1)(a b:List Int)(k:a.length=n)(M:b.length=n) :
  (Op.equal j (.agg (a.map λn=>Value.int kk n).toArray) (.agg (b.map λn=>Value.int kk n).toArray)).run P w=.ok (decide (a=b)) w:=by
 unfold Op.equal
 rw[show Op.maxDepth=9998+1+1 by rfl,run_equalIn_array w (9998+1) _ _ G hi,Nd 9998 F B a b _ (λi hi=>by simp at hi;omega),<-k,O7 (by omega)]
def YI{F e:TypeId}{n:Nat}{kk:IntKind}(U:P.underlying F=some (.array n e))(B:P.underlying e=some (.int kk)){Z:TypeInfo}(hi:P.info? e=some Z)(M:P.cellsOf e=1)(ns:List Int)(aa:ns.length=n)(em:Bool) :
  (Instr.checkKey em 10000 F (.agg (ns.map λn=>Value.int kk n).toArray)).run P w=.ok () w:=by
 rw[show(10000:Nat)=9998+1+1 by rfl]
 unfold Instr.checkKey
 simp only[fv,hD U,Result.andThen_ok]
 simp only[Std.Legacy.Range.forIn_eq_forIn_range',Std.Legacy.Range.size,Nat.sub_zero,Nat.add_one_sub_one,Nat.div_one]
 have k:∀i∈List.range' 0 n,i<ns.length:=λi hi=>by simp at hi;omega
 generalize List.range' 0 n=is at k
 induction is with
 |nil=>simp
 |cons j is Y=>
  have O:=k j (by simp)
  have G:(ns.map λn=>Value.int kk n).toArray[j*P.cellsOf e]?=some (.int kk ns[j]):=by simp[M,O]
  have N:(Instr.checkKey em (9998+1) e (.int kk ns[j])).run P w=.ok () w:=qs (d:=.int kk) (n:=9998) B (by simp[MapKept.IsKey]) em
  simp only[List.forIn_cons,fv,run_sizeOf w hi,Result.andThen_ok,tl w (uG B) G,N,Sem.run_pure]
  exact Y λi hi=>k i (by simp[hi])
structure AK(P:Program)(kt:TypeId)(n:Nat)(kk:IntKind):Prop where
 eq:∀(w:World)(a b:List Int),a.length=n->b.length=n->(Op.equal kt (.agg (a.map λn=>Value.int kk n).toArray) (.agg (b.map λn=>Value.int kk n).toArray)).run P w=.ok (decide (a=b)) w
 ck:∀(w:World)(ns:List Int),ns.length=n->∀em:Bool,(Instr.checkKey em 10000 kt (.agg (ns.map λn=>Value.int kk n).toArray)).run P w=.ok () w
 wide:(match P.underlying kt with|some (.array _ _)|some (.struct _)=>true|_=>false)=true
def one_cell(G:cq P V.E){j:TypeId}{s b:Nat}{z:List D}{kk:IntKind}(F:V.E j=some ⟨s,b,z,.dS kk⟩):P.underlying j=some (.int kk)/\(∃k,P.info? j=some k)/\P.cellsOf j=1:=by
 obtain⟨k,z,N,Z,ae,af,aa,ab,ag,O⟩:=e9 (G j _ F)
 refine⟨aaq G F,⟨k,N⟩,?_⟩
 have:P.cellsOf j=k.size:=by simp[Program.cellsOf,N]
 rw[this,Z]
 have Y:=aa
 have M:=ab
 simp only[TD.agg]at M
 have U:z.cells.toList.length=1:=by cases z<;>simp[kD,Value.cells]at M⊢
 obtain⟨ad,_,_⟩:=po ⟨λ_ _=>none,λ_=>none,λ_=>False⟩ _ _ Y
 have B:z.cells.toList.length=_:=ad
 rw[U]at B
 dsimp only at O B⊢
 exact O.symm.trans B.symm
theorem Nc(d:Nat){t0:TypeId}{kk:IntKind}(F:P.underlying t0=some (.int kk))(a b:List Int)(M:a.length=b.length):∀(k:List Field) (i:Nat),(∀g∈k,g.name ≠ "_")->k.map (λf=>(f.offset,f.type))=(List.range' i k.length).map (λj=>(j,t0))->i+k.length=a.length ->
  (Op.eqFields (d+1) (a.map λn=>Value.int kk n).toArray (b.map λn=>Value.int kk n).toArray k).run P w=.ok (decide (a.drop i=b.drop i)) w
 | [],i,_,_,B=>by
  simp only[List.length_nil,Nat.add_zero]at B
  simp[Op.eqFields,k6 (Nat.le_of_eq B.symm),k6 (Nat.le_of_eq (B.trans M).symm)]
 |g::k,i,U,N,B=>by
  simp only[List.length_cons,List.range'_succ,fa,o3,e0]at N B
  obtain⟨⟨ad,ae⟩,af⟩:=N
  have hi:i<a.length:=by omega
  have O:i<b.length:=by omega
  have aa:(a.map λn=>Value.int kk n).toArray[i]?=some (.int kk a[i]):=by simp[hi]
  have ab:(b.map λn=>Value.int kk n).toArray[i]?=some (.int kk b[i]):=by simp[O]
  have ag:g.name ≠ "_" :=U g (by simp)
  have ah:=Nc d F a b M k (i+1) (λg h=>U g (by simp[h])) af (by omega)
  simp only[Op.eqFields,Sem.run_ite,ag,ne_eq,not_false_eq_true,hK,fv,ad,ae,tl w (uG F) aa,tl w (uG F) ab,Result.andThen_ok,aby w d t0 kk _ _ _ F,ah]
  have Y:=hT hi
  have Z:=hT O
  have key:decide (a.drop i=b.drop i)=(decide (a[i]=b[i])&&decide (a.drop (i+1)=b.drop (i+1))):=by rw[Y,Z,hC];simp only[ea,db,o3]
  rw[key]
  by_cases G:a[i]=b[i]
  ·simp only[G,BEq.rfl,p6,hQ,h8,K2,n2]
  simp only[u6.2 G,Bool.not_false,hK,Sem.run_pure,G,decide_false,vx]
def YJ{O t0:TypeId}{kk:IntKind}{k:Array Field}(ad:P.underlying O=some (.struct k))(M:P.underlying t0=some (.int kk))(ns:List Int)(ab:ns.length=k.size)(G:k.toList.map (λf=>(f.offset,f.type))=(List.range k.size).map (λj=>(j,t0)))(em:Bool) :
  (Instr.checkKey em 10000 O (.agg (ns.map λn=>Value.int kk n).toArray)).run P w=.ok () w:=by
 rw[show(10000:Nat)=9998+1+1 by rfl]
 unfold Instr.checkKey
 simp only[fv,hD ad,Result.andThen_ok]
 rw[<-Array.forIn_toList]
 have F:∀g∈k.toList,g.type=t0/\g.offset<ns.length:=by
  intro g aa
  obtain⟨i,hi,rfl⟩:=gT.1 aa
  have B:(k.toList.map λf=>(f.offset,f.type))[i]?=some (k.toList[i].offset,k.toList[i].type):=by rw[et,c3 hi];rfl
  rw[G,et]at B
  have N:i<k.size:=by simpa using hi
  rw[ie N]at B
  simp only[Option.map_some,c4,e0]at B
  exact⟨B.2.symm,by rw[<-B.1,ab];exact N⟩
 generalize k.toList=fs at F
 induction fs with
 |nil=>simp
 |cons g fs ae=>
  obtain⟨Y,B⟩:=F g (by simp)
  have U:(ns.map λn=>Value.int kk n).toArray[g.offset]?=some (.int kk ns[g.offset]):=by simp[B]
  have Z:(Instr.checkKey em (9998+1) t0 (.int kk ns[g.offset])).run P w=.ok () w:=qs (d:=.int kk) (n:=9998) M (by simp[MapKept.IsKey]) em
  simp only[List.forIn_cons,fv,Sem.run_ite,Y,tl w (uG M) U,Z,Sem.run_pure,Result.andThen_ok]
  have:=ae λg G=>F g (by simp[G])
  split<;>simpa using this
def K7(M:cq P V.E){t:TypeId}{n:Nat}{kk:IntKind}{i:TI}(h:nB V.E t=some (n,kk,i)):∃B e,P.underlying t=some (.map B e)/\AK P B n kk/\V.E e=some i:=by
 unfold nB at h
 split at h
 ·rename_i B e ht
  split at h
  ·rename_i aD aC az k ar
   injection h with h;injection h with al U;injection U with U an;subst al;subst U;subst an
   obtain⟨x,z',_,_,_,_,_,_,G,_⟩:=e9 (M t _ ht)
   refine⟨B,e,?_,?_,ar⟩
   ·simp only[iz]at G
    split at G
    ·rename_i aB ay au;simp at G;obtain⟨rfl,rfl⟩:=G;exact au
    cases G
   unfold zj at k
   split at k
   ·rename_i n0 aA aa
    split at k
    ·rename_i aw Y
     simp only[c4,e0]at k
     obtain⟨rfl,rfl⟩:=k
     obtain⟨N,⟨aE,aj⟩,ak⟩:=one_cell M Y
     have ab:=BZ M aa
     exact⟨λw a b ae af=>YK ab N aj ak a b ae af,λw ns ai em=>YI ab N aj ak ns ai em,by simp[ab]⟩
    cases k
   ·rename_i fs aa
    cases fs with
    |nil=>cases k
    |cons p r=>
     obtain⟨ax,t0⟩:=p
     simp only at k
     split at k
     ·rename_i aw Y
      split at k
      ·rename_i Z
       simp only[c4,e0]at k
       obtain⟨rfl,rfl⟩:=k
       obtain⟨N,_,_⟩:=one_cell M Y
       obtain⟨F,O,ad,ao,aq⟩:=aar M aa Z
       have av:((ax,t0)::r).length=F.size:=by rw[ad];simp
       have ah:F.toList.map (λf=>(f.offset,f.type))=(List.range F.size).map (λj=>(j,t0)):=by
        rw[<-ad,<-av]
        cases r with
        |nil=>cases Z
        |cons p r=>exact hA Z
       refine⟨λw a b ae af=>?_,λw ns ai em=>YJ O N ns (by omega) ah em,by simp[O]⟩
       have ag:P.fieldsOf B=F:=by simp[Program.fieldsOf,O]
       unfold Op.equal
       rw[show Op.maxDepth=9998+1+1 by rfl,run_equalIn_struct w (9998+1) B _ _ (by rw[ag];exact O) aq,ag]
       have:=Nc (w:=w) 9998 N a b (by omega) F.toList 0 ao (by rw[ah,List.range_eq_range'];simp) (by simp;omega)
       rw[this];simp
      cases k
     cases k
   cases k
  cases h
 cases h
theorem Di{Y:TypeId}{n:Nat}{kk:IntKind}(Z:AK P Y n kk)(ns:List Int)(aa:ns.length=n):∀(k:List MapEntry)(B:List D)(i:Nat),k.length=B.length ->
  (∀(j:Nat)(x:MapEntry)(d:D),k[j]?=some x->B[j]?=some d->Rd I x.key d)->B.all (oF n kk)=true ->
  (jz (.agg (ns.map λn=>D.int kk n)) B i=none/\(Instr.findAsking Y (.agg (ns.map λn=>Value.int kk n).toArray) k i).run P w=.ok none w/\∀x∈k,x.key ≠ .agg (ns.map λn=>Value.int kk n).toArray) \/
  ∃j x,jz (.agg (ns.map λn=>D.int kk n)) B i=some (i+j)/\k[j]?=some x/\x.key=.agg (ns.map λn=>Value.int kk n).toArray/\B[j]?=some (.agg (ns.map λn=>D.int kk n))/\(Instr.findAsking Y (.agg (ns.map λn=>Value.int kk n).toArray) k i).run P w=.ok (some (i+j,x.val)) w
 | [],[],i,_,_,_=>.inl ⟨rfl,by simp[Instr.findAsking],by simp⟩
 |x::k,d::B,i,aj,ab,hk=>by
  simp only[List.all_cons,db]at hk
  obtain⟨as,ai,N,rfl⟩:=F9 (ab 0 x d rfl rfl) hk.1
  have U:=Z.eq w ns as aa ai
  by_cases F:ns=as
  ·subst F
   refine .inr ⟨0,x,by simp[jz,tR,yn],rfl,N,rfl,?_⟩
   simp only[Instr.findAsking,N,fv,U,Result.andThen_ok]
   simp
  rcases Di Z ns aa k B (i+1) (by simpa using aj) (λj e d G M=>ab (j+1) e d (by simpa using G) (by simpa using M)) hk.2 with ⟨G,M,ah⟩| ⟨j,ad,G,M,ae,af,ag⟩
  ·refine .inl ⟨by simp[jz,tR,yn,F,G],?_,λy hy=>?_⟩
   ·simp only[Instr.findAsking,N,fv,U,Result.andThen_ok]
    simp[F,M]
   rcases fb.1 hy with rfl|hy
   ·rw[N];intro O
    injection O with O
    have:=dn Array.toList O
    simp only[List.map_inj_left,List.toList_toArray]at this
    exact F ((List.map_inj_right (λa b h=>by injection h)).1 this.symm)
   exact ah y hy
  refine .inr ⟨j+1,ad,by simp only[jz,tR,yn,F];simp[G];omega,by simpa using M,ae,by simpa using af,?_⟩
  simp only[Instr.findAsking,N,fv,U,Result.andThen_ok]
  simp[F,ag];omega
def VW(ad:cq P V.E)(ay:aH w0 I0 w I m L)(au:eH l L){t:TypeId}{x k:Value}{U tk:T}{ok:Bool}(aA:ar I m L x U)(aw:ar I m L k tk)(G:(tY V.E t l U tk ok).ob) :
  (tY V.E t l U tk ok).bA=.none/\∃u,(Instr.lookup t x k ok).run P w=.ok u w/\ar I m L u (tY V.E t l U tk ok).t:=by
 unfold tY at G⊢
 split at G
 ·rename_i n kk i aB vs aL ao aq
  obtain⟨ab,e,ak,Z,aG⟩:=K7 ad ao
  obtain⟨Y,s1,s2,aD,aE,aF⟩:=EA ay au aA aq
  obtain⟨z,al,aI,aJ,aP⟩:=xD ad aG w
  split at G
  ·rename_i ag
   simp only[if_pos ag]
   obtain⟨ns,ah,rfl,rfl⟩:=F9 (cz aw) ag
   have ae:∀e:Bool,(Instr.checkKey e 10000 ab (.agg (ns.map λn=>Value.int kk n).toArray)).run P w=.ok () w:=Z.ck w ns ah
   have az:(match P.underlying ab with|some (.array _ _)|some (.struct _)=>true|_=>false)=true:=Z.wide
   have ai:∀r,(Instr.findAsking ab (.agg (ns.map λn=>Value.int kk n).toArray) Y.toList 0).run P w=.ok r w->(Instr.lookup t x (.agg (ns.map λn=>Value.int kk n).toArray) ok).run P w=.ok (if ok then .tuple #[match r with|some (_,v)=>v|none=>z,.bool r.isSome]else match r with|some (_,v)=>v|none=>z) w:=by
    intro r ax
    have aa:=run_findKey_eq w az (.agg (ns.map λn=>Value.int kk n).toArray) Y.toList
    rw[ax]at aa
    unfold Instr.lookup
    rcases aF with ⟨rfl,rfl⟩| ⟨b,aK,rfl,av⟩
    ·simp only[fv,hD ak,Result.andThen_ok,Sem.run_pure,ae,aa]
     cases r<;>simp[al]<;>split<;>simp
    simp only[fv,hD ak,Result.andThen_ok,Sem.run_pure,ih av,ae,aa]
    cases r<;>simp[al]<;>split<;>simp
   rcases Di (w:=w) Z ns ah Y.toList aB 0 (by simpa using s1) (λj e d O M=>aD j e d (by simpa using O) M) (by split at G<;>exact G)with ⟨O,M,_⟩| ⟨j,an,O,M,aM,aO,aC⟩
   ·simp only[O]
    refine⟨by trivial,_,ai _ M,?_⟩
    have aj:=OY (I:=I) aI aJ
    cases ok
    ·exact .d _ _ aj
    exact .d _ _ (.aN _ _ rfl λi v d F B=>by
     rcases i with _|_|i
     ·simp at F B;subst F;subst B;exact aj
     ·simp at F B;subst F;subst B;exact .bool _
     simp at F)
   simp only[O,hV]
   refine⟨by trivial,_,ai _ aC,?_⟩
   have af:j<vs.length:=by rw[<-s2];have:=(c5.1 M).1;simpa using this
   have F:=aE j an _ (by simpa using M) (c3 af)
   rw[Jg (c3 af)]
   cases ok
   ·exact .d _ _ F
   exact .d _ _ (.aN _ _ rfl λi v d N B=>by
    rcases i with _|_|i
    ·simp at N B;subst N;subst B;exact F
    ·simp at N B;subst N;subst B;exact .bool _
    simp at N)
  exact G.elim
 exact G.elim
def YO(kk:IntKind)(d:Nat):∀ns:List Int,Instr.sameBits (d+2) (.agg (ns.map λn=>Value.int kk n).toArray) (.agg (ns.map λn=>Value.int kk n).toArray)=true:=by
 intro ns
 simp only[Instr.sameBits,BEq.rfl,n2,dT]
 rintro⟨a,b⟩ j
 have key:∀l:List Int,(a,b)∈(l.map λn=>Value.int kk n).zip (l.map λn=>Value.int kk n)->∃n,a=.int kk n/\b=.int kk n:=by
  intro l
  induction l with
  |nil=>intro h;simp at h
  |cons x l k=>
   intro h
   simp only[fa,List.zip_cons_cons,fb,e0]at h
   rcases h with ⟨rfl,rfl⟩|h
   ·exact⟨x,rfl,rfl⟩
   exact k h
 obtain⟨n,rfl,rfl⟩:=key ns (by simpa using j)
 simp[Instr.sameBits]
theorem ZD(kk:IntKind)(ns:List Int)(w:World):(Instr.keyThatStays (.agg (ns.map λn=>Value.int kk n).toArray) (.agg (ns.map λn=>Value.int kk n).toArray)).run P w=.ok (.agg (ns.map λn=>Value.int kk n).toArray) w:=by
 unfold Instr.keyThatStays
 rw[show(10000:Nat)=9998+2 by rfl,YO kk 9998 ns];rfl
def XG(aR:cq P V.E)(au:aH w0 I0 w I m l){t:TypeId}{x k v:Value}{az tk ay:T}(aG:ar I m l x az)(ad:ar I m l k tk)(aT:ar I m l v ay)(U:(nA V.E t l az tk ay).ob) :
  ∃l' w',(nA V.E t l az tk ay).bA=.aP l'/\(Instr.mapUpdate t x k v).run P w=.ok () w'/\Le I m l I m l'/\aH w0 I0 w' I m l':=by
 unfold nA at U⊢
 split at U
 ·rename_i n kk i id aX d aO aQ
  have aA:=Bt aT aQ
  obtain⟨aJ,e,aM,aq,aY⟩:=K7 aR aO
  split at U
  ·rename_i aC
   simp only[if_pos aC]
   have ae:=cz ad
   obtain⟨ns,aD,rfl,rfl⟩:=F9 ae aC
   obtain⟨key,aB⟩:∃key,key=Value.agg (ns.map λn=>Value.int kk n).toArray:=⟨_,rfl⟩
   split at U
   ·rename_i aI vs O
    obtain⟨b,⟨M,G⟩,aa,aj,N,s1,s2,ak,ax,ah⟩:=au.obj id _ O
    replace N:w.heap[b]?=some (.map M G)/\MapKept.Stamped M G:=N
    simp only at s1 s2 ak ax
    have aV:x=.map (some b):=by
     cases aG with
     |map r _ ai af=>
      have:=af (by unfold isRow;rw[O];rfl)
      rw[aa]at this;exact this.symm
    subst aV
    have ag:∀e:Bool,(Instr.checkKey e 10000 aJ (.agg (ns.map λn=>Value.int kk n).toArray)).run P w=.ok () w:=aq.ck w ns aD
    have aU:(match P.underlying aJ with|some (.array _ _)|some (.struct _)=>true|_=>false)=true:=aq.wide
    have Y:=run_findKey_eq w aU (.agg (ns.map λn=>Value.int kk n).toArray) M.toList
    have aF:=ZD (P:=P) kk ns w
    have aE:own (m id)=some b:=by rw[aa];rfl
    rcases Di (w:=w) aq ns aD M.toList aI 0 (by simpa using s1) (λj e d aa aj=>ak j e d (by simpa using aa) aj) U with ⟨ai,af,aL⟩| ⟨j,aN,ai,af,aw,aW,aK⟩
    ·simp only[ai]
     rw[af]at Y
     rw[<-aB]at ae ag Y aL⊢
     have av:=lb (P:=P) (.map (M.push {key:=key,val:=v,born:=G}) (G+1)) N.1
     obtain⟨an,ao⟩:=p3 (o':=.map (M.push {key:=key,val:=v,born:=G}) (G+1)) N.1
     refine⟨_,{w with heap:=w.heap.setIfInBounds b (.map (M.push {key:=key,val:=v,born:=G}) (G+1))},rfl,?_,?_,?_⟩
     ·unfold Instr.mapUpdate
      simp only[fv,hD aM,Result.andThen_ok,ih N.1,ag,Y,av]
     ·exact Le.setKind O rfl rfl (by simp)
     refine au.lg O (by simp) aE ah rfl rfl (Le.setKind O rfl rfl (by simp)) rfl rfl rfl (eb _) (by simp) (λk ad=>ao k ad) ?_
     refine⟨b,(M.push {key:=key,val:=v,born:=G},G+1),aa,aj,⟨an,F0 N.2 (by simpa using aL)⟩,by simp[s1],by simp[s2],λi e d B F=>?_,λi e al B F=>?_,ah⟩
     ·rw[ra]at B
      split at B
      ·injection B with B;subst B
       rename_i hi;subst hi
       rw[s1,hz (eb _)]at F;simp at F;subst F;simpa using ae
      have hi:i<aI.length:=by have:=(e6.1 B).1;omega
      rw[e1 hi]at F;exact ak i e d B F
     rw[ra]at B
     split at B
     ·injection B with B;subst B
      rename_i hi;subst hi
      rw[s2,hz (eb _)]at F;simp at F;subst F;exact aA
     have hi:i<vs.length:=by have:=(e6.1 B).1;omega
     rw[e1 hi]at F;exact ax i e al B F
    simp only[ai,hV]
    rw[hV]at aK
    rw[aK]at Y
    rw[<-aB]at ae ag Y aw aF⊢
    have ab:M[j]?=some aN:=by simpa using af
    have av:=lb (P:=P) (.map (M.modify j λe=>{e with key:=key,val:=v}) G) N.1
    obtain⟨an,ao⟩:=p3 (o':=.map (M.modify j λe=>{e with key:=key,val:=v}) G) N.1
    refine⟨_,{w with heap:=w.heap.setIfInBounds b (.map (M.modify j λe=>{e with key:=key,val:=v}) G)},rfl,?_,Le.setKind O rfl rfl (by simp),?_⟩
    ·unfold Instr.mapUpdate
     simp only[fv,hD aM,Result.andThen_ok,ih N.1,ag,Y,ab,Option.map_some,Option.getD_some,aw,aF,av]
    refine au.lg O (by simp) aE ah rfl rfl (Le.setKind O rfl rfl (by simp)) rfl rfl rfl (eb _) (by simp) (λk ad=>ao k ad) ?_
    refine⟨b,(M.modify j λe=>{e with key:=key,val:=v},G),aa,aj,⟨an,x1 N.2 j _ (λ_ _=>rfl) (λx aG Z=>by rw[ab]at Z;injection Z with Z;subst Z;exact aw.symm)⟩,by simp[s1],by simp[s2],λi e d B F=>?_,λi e al B F=>?_,ah⟩
    ·rw[p0]at B
     split at B
     ·rename_i hi;subst hi
      rw[ab]at B;simp at B;subst B
      rw[aW]at F;injection F with F;subst F;exact ae
     exact ak i e d B F
    rw[p0]at B
    split at B
    ·rename_i hi;subst hi
     rw[ab]at B;simp at B;subst B
     have Z:j<vs.length:=by rw[<-s2];exact(e6.1 ab).1
     rw[e4,if_pos rfl,if_pos Z]at F
     injection F with F;subst F;exact aA
    rename_i aS
    rw[e4,if_neg aS]at F;exact ax i e al B F
   exact U.elim
  exact U.elim
 exact U.elim
end
end Go.ag
namespace Go.ag
open Go Go.RowKit
variable [bq]
section
variable {P:Program}{V:Env}{w0 w:World}{I0 I:ay}{m:Nat->Value}{l L:List AO}{nid:Nat}{o:Oper}{ρ:Operand->Value}{ρT:Operand->T}
def tn{c:Call}{b:Builtin}(B:c.callee=.builtin b)(F:o.op=.call c){s:Sem Value}(j:∀k,builtin b c.argTypes o.type k (c.args.map ρ)=(do pure (.value (<-s)))){u:Value}{w':World}(G:s.run P w=.ok u w') :
  (execOp ρ o).run P w=.ok (.value u) w':=by
 unfold execOp
 simp only[F,resolve,B,fv,Sem.run_pure,Result.andThen_ok,invoke,j,G]
def Dq{zd:D}:∀(n j:Nat),(flat (List.replicate n zd))[j]?=if j<n*zd.cells.length then zd.cells[j%zd.cells.length]? else none
 |0,j=>by simp[flat]
 |n+1,j=>by
  have F:=Dq (zd:=zd) n (j-zd.cells.length)
  rw[List.replicate_succ,show flat (zd::List.replicate n zd)=zd.cells++flat (List.replicate n zd) by simp[flat],hB]
  by_cases k:j<zd.cells.length
  ·rw[if_pos k,if_pos (by rw[D1];omega),Nat.mod_eq_of_lt k]
  rw[if_neg k,F,D1,<-Nat.mod_eq_sub_mod (by omega)]
  by_cases B:j<n*zd.cells.length+zd.cells.length
  ·rw[if_pos B,if_pos (by omega)]
  rw[if_neg B,if_neg (by omega)]
theorem OX{z:Value}{i:TI}(F:fY z.cells.toList i.zero=true)(N:kD z=i.desc.agg):(eM i.desc.agg i.zero).cells=i.zero/\z.cells.size=i.zero.length/\∀(j:Nat) v d,z.cells[j]?=some v->i.zero[j]?=some d->Rd I v d/\d.one=true/\v.oneCell'=true:=by
 have U:∀{vs:List Value}{ds:List D},fY vs ds=true->vs.length=ds.length:=by
  intro vs
  induction vs with
  |nil=>intro ds h;cases ds with|nil=>rfl|cons=>simp[fY]at h
  |cons v vs ab=>intro ds h;cases ds with
   |nil=>simp[fY]at h
   |cons d ds=>simp only[fY,db]at h;simp[ab h.2]
 have B:=U F
 have G:∀(j:Nat) v d,z.cells[j]?=some v->i.zero[j]?=some d->Rd I v d/\d.one=true/\v.oneCell'=true:=λj v d Z O=>by
  have:=Hn I (xX F (by simpa using Z) O)
  exact⟨this.1,this.2,this.1.one this.2⟩
 refine⟨?_,by simpa using B,G⟩
 unfold eM
 by_cases k:i.desc.agg=true
 ·rw[if_pos k];rfl
 rw[if_neg k]
 have M:z.cells = #[z]:=by
  have:kD z=false:=by rw[N];simpa using k
  cases z<;>first|rfl| (simp[kD]at this)
 rw[M]at B
 match aa:i.zero,B with
 | [d],_=>
  have Y:=(G 0 z d (by rw[M];rfl) (by rw[aa];rfl)).2.1
  cases d<;>first|rfl| (simp[D.one]at Y)
theorem ZQ(Z:cq P V.E)(ax:aH w0 I0 w I m l){t e:TypeId}{sz ak:Nat}{z:List D}(ay:V.E t=some ⟨sz,ak,z,.slice e⟩){v:Value}{id:Nat}{lo hi:Option Operand}(aB:ar I m l v (.row id))(av:∀a,lo=some a->ar I m l (ρ a) (ρT a))(aq:∀a,hi=some a->ar I m l (ρ a) (ρT a))(j:(k9 V.E e l id (lo.map ρT) (hi.map ρT)).ob) :
  (k9 V.E e l id (lo.map ρT) (hi.map ρT)).bA=.aP l/\∃u,(Instr.sliceAt t v (lo.map ρ) (hi.map ρ) none).run P w=.ok u w/\ar I m l u (k9 V.E e l id (lo.map ρT) (hi.map ρT)).t:=by
 have ai:=l4 Z ay
 have U:P.underlying t=some (.slice (P.elem t)):=by simp[Program.elem,ai]
 have ao:P.elem t=e:=by simp[Program.elem,ai]
 have hint:∀{a:T}{k:IntKind}{n:Int}{v:Value},dm a=some (k,n)->ar I m l v a->v=.int k n:=by
  intro a k n v G aw
  unfold dm at G
  split at G
  ·simp at G;obtain⟨rfl,rfl⟩:=G;have:=cz aw;cases this;rfl
  cases G
 unfold k9 at j⊢
 split at j
 ·rename_i aI size els M
  split at j
  ·rename_i ah
   rw[if_pos ah]
   obtain⟨az,aA⟩:=ah
   obtain⟨aD,ab⟩:=kd.1 aA
   have aC:aD.size=size:=by rw[az];simp[bD,ab]
   have ag:(sizeOf (P.elem t)).run P w=.ok size w:=by rw[ao,kY Z ab,aC]
   have au:id<l.length:=(c5.1 M).1
   obtain⟨A,n,c,rfl,ae⟩:∃A n c,v=.slice A n c/\m id=.slice A n c:=by
    cases aB with
    |row A n c _ aL aE=>exact⟨A,n,c,rfl,aE (by unfold isRow;rw[M];rfl)⟩
   obtain⟨xs,aj,_⟩:=ax.obj id _ M
   rw[ae]at aj
   have af:n=els.length/\n<=c:=by
    rcases aj.2 with ⟨B,F⟩| ⟨g,aG,cur,B,_,_,F,_⟩
    ·injection B with _ N O;subst N;subst O;exact⟨F.symm,eb _⟩
    injection B with _ N O;subst N;subst O;exact⟨rfl,F⟩
   obtain⟨rfl,af⟩:=af
   have aa:∀a b,(Instr.sliceAt t (.slice A els.length c) a b none).run P w=(Instr.slice t (.slice A els.length c) a b none).run P w:=λa b=>abo w t _ a b none U
   have fin:∀lo hi:Nat,lo<=hi->hi<=els.length->ar I m l (sliced A lo hi c size) (.sub id lo hi):=λlo hi B F=>
    .sub _ _ _ _ _ _ au λaJ aF aK ad=>by
     rw[M]at ad
     have:aF=size:=by
      rcases ad with h|h
      ·injection h with h;injection h with _ h _;exact h.symm
      injection h with h;cases h
     subst this
     exact⟨A,_,c,ae,B,F,rfl⟩
   cases lo with
   |none=>
    cases hi with
    |none=>exact j.elim
    |some b=>
     simp only[Option.map_none,Option.map_some]at j⊢
     split at j
     ·rename_i k h an
      have Y:=hint an (aq b rfl)
      simp only
      refine⟨trivial,_,by rw[aa,Y,run_slice_h w t A _ c U _ _ j.1 (by omega),ag];rfl,?_⟩
      exact fin 0 h.toNat (j2 _) (by omega)
     exact j.elim
   |some a=>
    cases hi with
    |some b=>exact j.elim
    |none=>
     simp only[Option.map_none,Option.map_some]at j⊢
     split at j
     ·rename_i k h al
      have Y:=hint al (av a rfl)
      simp only
      have:=run_slice_l w t A els.length c U k h j.1 (by omega)
      refine⟨trivial,_,by rw[aa,Y,this,ag];rfl,?_⟩
      exact fin h.toNat els.length (by omega) (eb _)
     exact j.elim
  exact j.elim
 exact j.elim
theorem GN{E:cm}{e:TypeId}{l:List AO}{id:Nat}{lo hi:Option T}:(k9 E e l id lo hi).bA=.aP l\/k9 E e l id lo hi=.bad:=by
 unfold k9
 repeat' split
 all_goals simp
theorem BM{E:cm}{e:TypeId}{l:List AO}{id:Nat}{lo hi:Option T}{mx:T}:(mM E e l id lo hi mx).bA=.aP l\/mM E e l id lo hi mx=.bad:=by
 unfold mM
 repeat' split
 all_goals simp
theorem ZN(Z:cq P V.E)(av:aH w0 I0 w I m l){t e:TypeId}{sz ai:Nat}{z:List D}(aw:V.E t=some ⟨sz,ai,z,.slice e⟩){v:Value}{id:Nat}{lo hi:Option Operand}{mx:Operand}(az:ar I m l v (.row id))(an:∀a,lo=some a->ar I m l (ρ a) (ρT a))(ak:∀a,hi=some a->ar I m l (ρ a) (ρT a))(aq:ar I m l (ρ mx) (ρT mx))(j:(mM V.E e l id (lo.map ρT) (hi.map ρT) (ρT mx)).ob) :
  (mM V.E e l id (lo.map ρT) (hi.map ρT) (ρT mx)).bA=.aP l/\(mM V.E e l id (lo.map ρT) (hi.map ρT) (ρT mx)).t=.undef/\∃u,(Instr.sliceAt t v (lo.map ρ) (hi.map ρ) (some (ρ mx))).run P w=.ok u w:=by
 have ag:=l4 Z aw
 have ah:P.underlying t=some (.slice (P.elem t)):=by simp[Program.elem,ag]
 have aj:P.elem t=e:=by simp[Program.elem,ag]
 have hint:∀{a:T}{k:IntKind}{n:Int}{v:Value},dm a=some (k,n)->ar I m l v a->v=.int k n:=by
  intro a k n v B au
  unfold dm at B
  split at B
  ·simp at B;obtain⟨rfl,rfl⟩:=B;have:=cz au;cases this;rfl
  cases B
 cases lo with
 |none=>unfold mM at j;simp only[Option.map_none]at j;split at j<;>simp_all [R.bad]
 |some a=>
 cases hi with
 |none=>unfold mM at j;simp only[Option.map_none]at j;split at j<;>simp_all [R.bad]
 |some b=>
 unfold mM at j⊢
 simp only[Option.map_some]at j⊢
 split at j
 ·rename_i aJ size els aF aG ab O U
  injection O with O;injection U with U;subst O;subst U
  split at j
  ·rename_i Y n aL h aM q B aa ae
   split at j
   ·rename_i af
    simp only[B,aa,ae,if_pos af]
    refine⟨trivial,trivial,?_⟩
    obtain⟨aK,ay⟩:=af
    obtain⟨aA,al⟩:=kd.1 ay
    have ax:(sizeOf (P.elem t)).run P w=.ok aA.size w:=by rw[aj,kY Z al]
    obtain⟨A,n0,c,rfl,ao⟩:∃A n c,v=.slice A n c/\m id=.slice A n c:=by
     cases az with
     |row A n c _ aN aB=>exact⟨A,n,c,rfl,aB (by unfold isRow;rw[ab];rfl)⟩
    obtain⟨xs,Y,_⟩:=av.obj id _ ab
    rw[ao]at Y
    have ad:n0=els.length/\n0<=c:=by
     rcases Y.2 with ⟨F,G⟩| ⟨g,aI,cur,F,_,_,G,_⟩
     ·injection F with _ M N;subst M;subst N;exact⟨G.symm,eb _⟩
     injection F with _ M N;subst M;subst N;exact⟨rfl,G⟩
    obtain⟨rfl,ad⟩:=ad
    have aC:=hint B (an a rfl)
    have aD:=hint aa (ak b rfl)
    have aE:=hint ae aq
    refine⟨_,by rw[abo w t _ _ _ _ ah,aC,aD,aE,run_slice_lhm w t A _ c ah _ _ _ n h q j.1 j.2.1 j.2.2.1 (by omega),ax];rfl⟩
   exact j.elim
  exact j.elim
 exact j.elim
def Wb{E:cm}{t:TypeId}{nid:Nat}{a b:T}(j:(lN E t l nid a b).ob):∃l',(lN E t l nid a b).bA=.aP l':=by
 revert j
 unfold lN
 repeat' split
 all_goals simp[R.bad]
theorem Wc(ag:cq P V.E)(O:aH w0 I0 w I m l){t:TypeId}{ak al:Value}{a b:T}(M:ar I m l ak a)(F:ar I m l al b)(G:(lN V.E t l l.length a b).ob) :
  ∃l' w' v m',(lN V.E t l l.length a b).bA=.aP l'/\(Instr.makeSlice t ak al).run P w=.ok v w'/\Le I m l I m' l'/\aH w0 I0 w' I m' l'/\ar I m' l' v (lN V.E t l l.length a b).t:=by
 have hint:∀{a:T}{k:IntKind}{n:Int}{v:Value},dm a=some (k,n)->ar I m l v a->v=.int k n:=by
  intro a k n v N aC
  unfold dm at N
  split at N
  ·simp at N;obtain⟨rfl,rfl⟩:=N;have:=cz aC;cases this;rfl
  cases N
 unfold lN at G⊢
 split at G
 ·rename_i e aK n aL c aE az aA
  have U:=l4 ag aE
  split at G
  ·rename_i i hi
   split at G
   ·rename_i ai
    simp only[hi,if_pos ai]
    obtain⟨an,rfl,av,aW⟩:=G
    have aG:=hint az M
    have aI:=hint aA F
    obtain⟨B,rfl⟩:=v7 an
    subst aG;subst aI
    obtain⟨x,z,aM,aN,aO,aQ,aR,aS,aX,aa⟩:=e9 (ag e i hi)
    obtain⟨ab,ad,ae⟩:=OX (I:=I) aR aS
    have aj:z.cells.size=i.size:=by rw[ad,aa]
    have au:x.bytes*B<=281474976710656:=by
     rw[aO,nn]
     have:((B*i.bytes:Nat):Int)<=140737488355328:=by rw[Int.natCast_mul];exact av
     omega
    obtain⟨w',af,ao,aq⟩:=run_make_full (P:=P) w w0.heap.size t e x z i.size U aM aQ aN aK aL B au (by unfold maxLen;omega) O.below.size
    have aD:(List.replicate B (eM i.desc.agg i.zero)).length=B:=by simp
    obtain⟨aT,aU,aV⟩:=O.Bn (w':=w') (v:=.slice (some ⟨w.heap.size,0,none⟩) B B) (row:=none) (lo:=l) (e:=e) (size:=i.size) (els:=List.replicate B (eM i.desc.agg i.zero)) rfl (λk a M=>.inr M) (λ_ _ _ h=>h)
     aq (gG _ _ _ _ _ af) (λb F=>by cases F) (λb F=>by cases F)
     (
      λb F=>by
      simp[own]at F;subst F
      refine⟨O.below.size,O.sat.dY (eb _),λk aB ay=>?_⟩
      obtain⟨a,M,ax⟩:=bM.1 aB
      have:=((O.obj k a M).lt ax ay).1;omega)
     (
      by rw[aD];exact ao) (λd aw=>by
      have:=List.eq_of_mem_replicate aw
      subst this
      rw[ab]
      refine⟨aa,λx aJ=>?_⟩
      obtain⟨j,Y,rfl⟩:=gT.1 aJ
      exact(ae j _ _ (e7 (by rw[ad];exact Y)) (c3 Y)).2.1) (λj u y U Z=>by
      rw[Dq,ab,aa]at Z
      split at Z
      ·rename_i Y
       have ah:j%i.size<z.cells.size:=by rw[aj];exact q6 _ ai
       have aF:u=z.cells[j%i.size]:=by
        simp[madeCells,aj,Y]at U
        rw[r0 z.cells _ ah]at U
        exact U.symm
       subst aF
       exact(ae _ _ y (e7 ah) Z).1
      cases Z) ⟨_,_,_,rfl⟩
    exact⟨_,w',_,_,rfl,af,aT,aU,aV⟩
   exact G.elim
  exact G.elim
 exact G.elim
def SN{E:cm}{t:TypeId}{x:T}(j:(lv E t l x).ob):∃l',(lv E t l x).bA=.aP l':=by
 revert j
 unfold lv
 repeat' split
 all_goals simp[R.bad]
theorem SO(ax:cq P V.E)(ak:aH w0 I0 w I m l){t ty:TypeId}{v:Value}{x:T}(al:ar I m l v x)(N:(lv V.E t l x).ob) :
  (lv V.E t l x).t=.d (.aN [])/\∃l' w',(lv V.E t l x).bA=.aP l'/\(Builtin.clear_ #[t] ty #[v]).run P w=.ok (.tuple #[]) w'/\Le I m l I m l'/\aH w0 I0 w' I m l':=by
 unfold lv at N⊢
 split at N
 ·rename_i e id lo hi a1
  have F:=l4 ax a1
  split at N
  ·rename_i i ab size els aB Z
   split at N
   ·rename_i ay
    simp only[aB,Z,if_pos ay]
    obtain⟨a6,rfl,aF⟩:=ay
    subst a6
    refine⟨trivial,?_⟩
    obtain⟨A,n,c,rfl,ai,n0,aa,ae,U,av,aw⟩:∃A n c,v=.slice A n c/\∃ai n0 aa,m id=.slice ai n0 aa/\lo<=els.length/\els.length<=n0/\Value.slice A n c=sliced ai lo els.length aa i.size:=by
     cases al with
     |sub A n c _ _ _ bw bl=>exact⟨A,n,c,rfl,bl ab i.size els (.inl Z)⟩
    obtain⟨xs,aJ,ao,bh,bu⟩:=ak.obj id _ Z
    rw[ae]at aJ
    obtain⟨bd,az⟩:=aJ
    injection aw with aL aC br
    have aW:n0=els.length:=by
     rcases az with ⟨U,av⟩| ⟨g,aK,cur,U,_⟩
     ·injection U with _ aw bq;omega
     injection U
    subst aW
    rcases Nat.eq_or_lt_of_le U with hlo|hlo
    ·
     have aV:n=0:=by omega
     subst aV
     have aG:l.set id (.row ab i.size (els.take lo++List.replicate (els.length-lo) (eM i.desc.agg i.zero)))=l:=by
      rw[show els.length-lo=0 by omega,hlo]
      simp
      apply hW
      intro k
      rw[e4]
      split
      ·rename_i aT;subst aT;rw[Z];simp;exact(c5.1 Z).1
      rfl
     refine⟨_,w,rfl,?_,?_,?_⟩
     ·cases A<;>simp[Builtin.clear_,hD F]
     ·rw[aG];exact .refl ..
     rw[aG];exact ak
    rcases az with ⟨U,av⟩| ⟨g,aK,cur,ba,aO,Y,aD,aQ,aA,a7⟩
    ·omega
    injection ba with bb _ bc
    subst bc
    subst bb
    have aM:A=some ⟨g,lo*i.size,none⟩:=by rw[aL,if_neg (by omega)];simp[Addr.add_lit]
    obtain⟨m',rfl⟩:∃m',n=m'+1:=⟨n-1,by omega⟩
    obtain⟨M,bn,bo,bp,ag⟩:=xD ax aB w
    obtain⟨aq,au,aj⟩:=OX (I:=I) bo bp
    have an:M.cells.size=i.size:=by rw[au,ag]
    have O:(Builtin.zeroCells M.cells (m'+1)).toList.length=(els.length-lo)*i.size:=by rw[Array.length_toList,size_zeroCells,an,aC]
    have aI:∀(j:Nat),j<(els.length-lo)*i.size->(Builtin.zeroCells M.cells (m'+1)).toList[j]?=M.cells[j%i.size]?:=λj B=>by
     have:j%i.size<M.cells.size:=by rw[an];exact q6 _ aF
     simp[Builtin.zeroCells,an,aC,B]
     rw[e7 this]
     exact dn some (r0 M.cells _ this)
    have aZ:∀u∈(Builtin.zeroCells M.cells (m'+1)).toList,u.oneCell'=true:=λu a8=>by
     obtain⟨j,B,rfl⟩:=gT.1 a8
     rw[O]at B
     have Y:=aI j B
     rw[c3 (by rw[O];exact B)]at Y
     have ae:j%i.size<i.zero.length:=by rw[ag];exact q6 _ aF
     exact(aj _ _ i.zero[j%i.size] Y.symm (c3 ae)).2.2
    have bt:(els.length-lo)*i.size+lo*i.size=els.length*i.size:=by rw[<-qd];congr 1;omega
    have aU:els.length*i.size<=cur.size:=by rw[aA];exact ka _ aD
    have af:=w1 P g (lo*i.size) ab (Builtin.zeroCells M.cells (m'+1)).toList 0 cur w Y (by rw[O];omega) aZ
    simp only[Nat.add_zero]at af
    generalize bg:(Builtin.zeroCells M.cells (m'+1)).toList=ah at *
    rw[O]at af
    generalize aX:(cur.toList.take (lo*i.size)++ah++cur.toList.drop (lo*i.size+(els.length-lo)*i.size)).toArray=new at af
    have aE:new.toList=cur.toList.take (lo*i.size)++ah++cur.toList.drop (lo*i.size+(els.length-lo)*i.size):=by subst aX;simp
    have aY:new.size=cur.size:=by
     rw[<-Array.length_toList,aE]
     simp only[e3,e8,rb,Array.length_toList,O]
     omega
    have bf:new.toList.take (els.length*i.size)=xs.take (lo*i.size)++ah:=by
     rw[aE,<-a7,GQ _ _ _ _ _ (by omega) (by rw[Array.length_toList];exact aU) O]
     rw[List.drop_of_length_le (by rw[e8];omega)]
     simp
    have ad:(els.take lo++List.replicate (els.length-lo) (eM i.desc.agg i.zero)).length=els.length:=by simp;omega
    obtain⟨bm,t2⟩:=ak.BU (n:=els.length) (c:=aa) (cur:=cur) (new:=new) (els':=els.take lo++List.replicate (els.length-lo) (eM i.desc.agg i.zero)) (xs:=xs.take (lo*i.size)++ah) Z ae Y
     ⟨by rw[ad];simp only[e3,e8,bd,O];omega,.inr ⟨g,aa,new,by rw[ad],aO,K1 w g cur new ab (0,0) Y,by rw[ad];exact aD,aQ,by rw[aY,aA],by rw[ad];exact bf⟩⟩
     (
      λd hd=>by
      rcases hP.1 hd with hd|hd
      ·exact ao d (na hd)
      have:=List.eq_of_mem_replicate hd
      subst this
      rw[aq]
      refine⟨ag,λx al=>?_⟩
      obtain⟨j,B,rfl⟩:=gT.1 al
      have aR:j<M.cells.size:=by rw[au];exact B
      exact(aj j _ _ (e7 aR) (c3 B)).2.1)
     (
      λj u y F G=>by
      have bs:(flat els).length=els.length*i.size:=iA els (λd hd=>(ao d hd).1)
      rw[Dp,JO els (λd hd=>(ao d hd).1),hB]at G
      rw[hB]at F
      have l1:(xs.take (lo*i.size)).length=lo*i.size:=by rw[e8];omega
      have bj:((flat els).take (lo*i.size)).length=lo*i.size:=by rw[e8];omega
      rw[l1]at F;rw[bj]at G
      by_cases B:j<lo*i.size
      ·rw[if_pos B]at F G
       rw[gl,if_pos B]at F G
       exact bh j u y F G
      rw[if_neg B]at F G
      rw[Dq,aq,ag]at G
      split at G
      ·rename_i aS
       rw[aI _ aS]at F
       exact(aj _ u y F G).1
      cases G)
    refine⟨_,_,rfl,?_,bm,t2⟩
    rw[aM]
    simp only[Builtin.clear_,z1,List.getElem?_cons_zero]
    simp[hD F,bn,bg,af]
   exact N.elim
  exact N.elim
 exact N.elim
def XM(U:cq P V.E)(ad:aH w0 I0 w I m L){t:TypeId}{mm k x:Operand}(ho:o.op=.mapUpdate t mm k x\/o.op=.insert t mm k x)(F:∀x∈o.op.operands,ar I m L (ρ x) (ρT x))(B:(mu V.E t l (ρT mm) (ρT k) (ρT x)).ob) :
  cg P w0 I0 o ρ w I m l L nid (mu V.E t l (ρT mm) (ρT k) (ρT x)):=by
 have ab:=F mm (by rcases ho with ho|ho<;>simp[ho,Op.operands])
 have aa:=F k (by rcases ho with ho|ho<;>simp[ho,Op.operands])
 have ae:=F x (by rcases ho with ho|ho<;>simp[ho,Op.operands])
 have Y:∃l',(mu V.E t l (ρT mm) (ρT k) (ρT x)).bA=.aP l'/\(mu V.E t l (ρT mm) (ρT k) (ρT x)).t=.undef:=by
  generalize ρT mm=ts at *;generalize ρT k=tk at *;generalize ρT x=ah at *
  unfold mu at B⊢
  repeat' split at B
  all_goals first|exact B.elim|skip
  all_goals simp only[*]
  all_goals exact⟨_,rfl,rfl⟩
 obtain⟨l',G,ht⟩:=Y
 unfold cg
 rw[G]
 rintro rfl af
 obtain⟨ag,w',j,M,N,O⟩:=XL U ad ab aa ae B
 rw[G]at j;injection j with j;subst j
 have Z:(execOp ρ o).run P w=.ok .skip w':=by unfold execOp;rcases ho with ho|ho<;>simp[ho,M]
 simp only[Z,cp]
 exact⟨I,m,N,O,by rw[ht];exact .undef _⟩
def XN(U:cq P V.E)(ad:aH w0 I0 w I m L){t:TypeId}{mm k x:Operand}(ho:o.op=.mapUpdate t mm k x\/o.op=.insert t mm k x)(F:∀x∈o.op.operands,ar I m L (ρ x) (ρT x))(B:(nA V.E t l (ρT mm) (ρT k) (ρT x)).ob) :
  cg P w0 I0 o ρ w I m l L nid (nA V.E t l (ρT mm) (ρT k) (ρT x)):=by
 have ab:=F mm (by rcases ho with ho|ho<;>simp[ho,Op.operands])
 have aa:=F k (by rcases ho with ho|ho<;>simp[ho,Op.operands])
 have ae:=F x (by rcases ho with ho|ho<;>simp[ho,Op.operands])
 have Y:∃l',(nA V.E t l (ρT mm) (ρT k) (ρT x)).bA=.aP l'/\(nA V.E t l (ρT mm) (ρT k) (ρT x)).t=.undef:=by
  generalize ρT mm=ts at *;generalize ρT k=tk at *;generalize ρT x=ah at *
  unfold nA at B⊢
  repeat' split at B
  all_goals first|exact B.elim|skip
  all_goals simp only[*]
  all_goals exact⟨_,rfl,rfl⟩
 obtain⟨l',G,ht⟩:=Y
 unfold cg
 rw[G]
 rintro rfl af
 obtain⟨ag,w',j,M,N,O⟩:=XG U ad ab aa ae B
 rw[G]at j;injection j with j;subst j
 have Z:(execOp ρ o).run P w=.ok .skip w':=by unfold execOp;rcases ho with ho|ho<;>simp[ho,M]
 simp only[Z,cp]
 exact⟨I,m,N,O,by rw[ht];exact .undef _⟩
def Mj(B:cq P V.E)(M:aH w0 I0 w I m L){t:TypeId}{mm k x:Operand}(F:o.op=.mapUpdate t mm k x\/o.op=.insert t mm k x)(G:∀x∈o.op.operands,ar I m L (ρ x) (ρT x))(j:(sg V.E t l (ρT mm) (ρT k) (ρT x)).ob) :
  cg P w0 I0 o ρ w I m l L nid (sg V.E t l (ρT mm) (ρT k) (ρT x)):=by
 unfold sg at j⊢
 split
 ·rename_i h;rw[if_pos h]at j;exact XN B M F G j
 rename_i h;rw[if_neg h]at j;exact XM B M F G j
theorem VX(F:cq P V.E)(N:aH w0 I0 w I m L)(G:eH l L){t:TypeId}{x k:Value}{B tk:T}{ok:Bool}(O:ar I m L x B)(M:ar I m L k tk)(j:(pU V.E t l B tk ok).ob) :
  (pU V.E t l B tk ok).bA=.none/\∃u,(Instr.lookup t x k ok).run P w=.ok u w/\ar I m L u (pU V.E t l B tk ok).t:=by
 unfold pU at j⊢
 split
 ·rename_i h;rw[if_pos h]at j;exact VW F N G O M j
 rename_i h;rw[if_neg h]at j;exact look_ok F N G O M j
theorem ox(Z:cA P V)(M:aH w0 I0 w I m L)(aE:eH l L)(N:∀x∈o.op.operands,ar I m L (ρ x) (ρT x))(j:(aX V ρT l nid o).ob):cg P w0 I0 o ρ w I m l L nid (aX V ρT l nid o):=by
 unfold aX at j⊢
 split at j
 ·
  rename_i x B
  exact cg.val M rfl (u:=ρ x) (by unfold execOp;simp[B]) (BY (N x (by simp[B,Op.operands])))
 ·
  rename_i x B
  exact cg.val M rfl (u:=ρ x) (by unfold execOp;simp[B]) (BY (N x (by simp[B,Op.operands])))
 ·
  rename_i c a b B
  exact FV M B N j
 ·
  rename_i e x B
  exact R9 M B (N x (by simp[B,Op.operands])) j
 ·
  rename_i e B
  split at j
  ·rename_i i hi
   try simp only[hi]
   exact O8 Z.E M B hi
  exact j.elim
 ·
  rename_i t a B
  obtain⟨F,u,G,Y⟩:=KT Z.E M aE (G1 (N a (by simp[B,Op.operands]))) j
  exact cg.val M F (by unfold execOp;simp[B,G]) Y
 ·
  rename_i t a x B
  split at j
  ·rename_i ah
   simp only[if_pos ah]
   have O:=N a (by simp[B,Op.operands])
   have U:=N x (by simp[B,Op.operands])
   generalize bN:ρT a=bP at *
   unfold mL at j⊢
   split at j
   ·rename_i id off y
    split at j
    ·rename_i t' cs ag
     split at j
     ·rename_i bg
      simp only[if_pos bg]
      rintro rfl aL
      generalize aG:ρ a=bc at O
      cases O with
      |ptr _ b _ aq al=>
       obtain⟨w',F,G⟩:=GJ Z.E M ag al U j ah.1 (by omega) bg
       have ab:(execOp ρ o).run P w=.ok .skip w':=by unfold execOp;simp[B,aG,F]
       simp only[ab,cp]
       exact⟨I,m,Le.Nx ag,G,.undef _⟩
     exact j.elim
    exact j.elim
   ·rename_i id k y aY
    split at j
    ·rename_i aZ size els ag
     split at j
     ·rename_i ay
      simp only[if_pos ay]
      rw[aY]at U ah
      obtain⟨aS,aT,aC⟩:=j
      rintro rfl aL
      generalize aG:ρ a=bc at O
      cases O with
      |bw aM _ _ _ aq al=>
       obtain⟨w',F,G,Y⟩:=YG (ty:=t) Z.E M ag (.bw aM id k 0 aq al) (cz U) aS aT aC (by simpa [bx]using ah.1) (by have:=ah.1;simp[bx]at this;omega)
       have ab:(execOp ρ o).run P w=.ok .skip w':=by unfold execOp;simp[B,aG,F]
       simp only[ab,cp]
       exact⟨I,m,G,Y,.undef _⟩
     rename_i ay
     simp only[if_neg ay]
     split at j
     ·rename_i cs az
      rw[aY]at U ah
      obtain⟨aS,aT,aC⟩:=j
      rintro rfl aL
      generalize aG:ρ a=bc at O
      have a1:els[k]?=some (.agg cs):=by
       unfold eK at az
       rw[c3 aC]at az⊢
       simp at az;rw[az]
      cases O with
      |bw aM _ _ _ aq al=>
       obtain⟨w',F,G,Y⟩:=M6 (ty:=t) Z.E M ag (.bw aM id k 0 aq al) (cz U) a1 aS aT aC (by simpa [bx]using ah.1) (by have:=ah.1;simp[bx]at this;omega)
       have ab:(execOp ρ o).run P w=.ok .skip w':=by unfold execOp;simp[B,aG,F]
       simp only[ab,cp]
       exact⟨I,m,G,Y,.undef _⟩
     exact j.elim
    exact j.elim
   ·rename_i id k off y aY
    split at j
    ·rename_i aZ size els ag
     split at j
     ·rename_i cs az
      rw[aY]at U ah
      obtain⟨aS,aT,aC⟩:=j
      rintro rfl aL
      generalize aG:ρ a=bc at O
      have a1:els[k]?=some (.agg cs):=by
       unfold eK at az
       rw[c3 aC]at az⊢
       simp at az;rw[az]
      cases O with
      |bw aM _ _ _ aq al=>
       obtain⟨w',F,G,Y⟩:=M6 (ty:=t) Z.E M ag (.bw aM id k (off+1) aq al) (cz U) a1 aS aT aC (by simpa [bx]using ah.1) (by have:=ah.1;simp[bx]at this;omega)
       have ab:(execOp ρ o).run P w=.ok .skip w':=by unfold execOp;simp[B,aG,F]
       simp only[ab,cp]
       exact⟨I,m,G,Y,.undef _⟩
     exact j.elim
    exact j.elim
   exact j.elim
  exact j.elim
 ·
  rename_i s x f B
  obtain⟨F,u,G,Y⟩:=Ur (w:=w) Z.E (G1 (N x (by simp[B,Op.operands]))) j
  exact cg.val M F (by unfold execOp;simp[B,G]) Y
 ·
  rename_i s x f B
  obtain⟨F,u,G,Y⟩:=Up (w:=w) Z.E (N x (by simp[B,Op.operands])) j
  exact cg.val M F (by unfold execOp;simp[B,G]) Y
 ·
  rename_i bE ty x y t' B
  have U:=N x (by simp[B,Op.operands])
  have ak:=N y (by simp[B,Op.operands])
  split at j
  ·rename_i a b F G
   rw[F]at U;rw[G]at ak
   unfold kN at j⊢
   split at j
   ·rename_i r ob an
    obtain⟨z,Y,af⟩:=R7 (w:=w) (x:=x) (y:=y) Z.eq (cz U) (cz ak) an j
    try simp only[F,G,an]
    exact cg.val M rfl (by unfold execOp;simp only[B,fv]at Y⊢;rw[Y];rfl) (.d _ _ af)
   exact j.elim
  exact j.elim
 ·
  rename_i bE ty x B
  have U:=N x (by simp[B,Op.operands])
  split at j
  ·rename_i a F
   rw[F]at U
   unfold kN at j⊢
   split at j
   ·rename_i r ob an
    obtain⟨z,Y,af⟩:=aan (P:=P) (w:=w) (cz U) an j
    try simp only[F,an]
    exact cg.val M rfl (by unfold execOp;simp[B,Y]) (.d _ _ af)
   exact j.elim
  exact j.elim
 ·
  rename_i t x i B
  obtain⟨F,u,G,Y⟩:=Vk Z.E M aE (G1 (N x (by simp[B,Op.operands]))) (N i (by simp[B,Op.operands])) j
  exact cg.val M F (by unfold execOp;simp[B,G]) Y
 ·
  rename_i t x lo hi B
  have U:=N x (by simp[B,Op.operands])
  split at j
  ·rename_i e size els ae aJ
   rw[aJ]at U
   split at j
   ·rename_i ay
    simp only[if_pos ay]
    obtain⟨F,u,G,Y⟩:=NH (w:=w) (lo:=lo) (hi:=hi) (ρ:=ρ) (ρT:=ρT) Z.E ae U (λa O=>N a (by subst O;simp[B,Op.operands])) (λa O=>N a (by subst O;simp[B,Op.operands]))
     (λs' aZ aj=>by injection aj with aj;injection aj with F G;subst F;exact ay) j
    exact cg.val M F (by unfold execOp;simp[B,G]) Y
   exact j.elim
  ·rename_i e id ae aJ
   rw[aJ]at U
   split at j
   ·rename_i a6
    simp only[if_pos a6]
    have aA:(k9 V.E e l id (lo.map ρT) (hi.map ρT)).bA=.aP l:=by
     unfold k9 at j⊢
     repeat' split at j
     all_goals first|exact j.elim|skip
     all_goals simp only[*]
     all_goals rfl
    unfold cg
    rw[aA]
    rintro rfl aL
    obtain⟨F,u,G,Y⟩:=ZQ (w:=w) (lo:=lo) (hi:=hi) (ρ:=ρ) (ρT:=ρT) Z.E M ae U (λa O=>N a (by subst O;simp[B,Op.operands])) (λa O=>N a (by subst O;simp[B,Op.operands])) j
    have ab:(execOp ρ o).run P w=.ok (.value u) w:=by unfold execOp;simp[B,G]
    simp only[ab,cp]
    exact⟨I,m,.refl ..,M,Y⟩
   rename_i a6
   simp only[if_neg a6]
   split at j
   ·rename_i size els l' av
    split at j
    ·rename_i ay
     simp only[if_pos ay]
     rintro rfl aL
     obtain⟨J,le,bb,br,_⟩:=sD M U av
     obtain⟨F,u,G,Y⟩:=NH (w:=w) (lo:=lo) (hi:=hi) (ρ:=ρ) (ρT:=ρT) (I:=J) (m:=m) (L:=l') Z.E ae (.d _ _ br) (λa O=>(N a (by subst O;simp[B,Op.operands])).mono le) (λa O=>(N a (by subst O;simp[B,Op.operands])).mono le)
      (λs' aZ aj=>by injection aj with aj;injection aj with F G;subst F;exact ay) j
     have ab:(execOp ρ o).run P w=.ok (.value u) w:=by unfold execOp;simp[B,G]
     simp only[ab,cp]
     exact⟨J,m,le,bb,Y⟩
    exact j.elim
   exact j.elim
  ·rename_i n e cs ae aJ
   rw[aJ]at U
   split at j
   ·rename_i bj
    simp only[if_pos bj]
    obtain⟨F,G⟩:=bj
    cases lo<;>cases hi<;>simp at F G
    obtain⟨F,u,G,Y⟩:=Zi (P:=P) (w:=w) Z.E ae U j
    exact cg.val M F (by unfold execOp;simp[B,G]) Y
   exact j.elim
  exact j.elim
 ·
  rename_i t x lo hi mx B
  have U:=N x (by simp[B,Op.operands])
  split at j
  ·rename_i e id ae aJ
   rw[aJ]at U
   have aA:(mM V.E e l id (lo.map ρT) (hi.map ρT) (ρT mx)).bA=.aP l:=by
    rcases BM (E:=V.E) (e:=e) (l:=l) (id:=id) (lo:=lo.map ρT) (hi:=hi.map ρT) (mx:=ρT mx)with h|h
    ·exact h
    rw[h]at j;exact j.elim
   unfold cg
   rw[aA]
   rintro rfl aL
   obtain⟨F,bl,u,G⟩:=ZN (w:=w) (lo:=lo) (hi:=hi) (mx:=mx) (ρ:=ρ) (ρT:=ρT) Z.E M ae U (λa O=>N a (by subst O;simp[B,Op.operands])) (λa O=>N a (by subst O;simp[B,Op.operands])) (N mx (by simp[B,Op.operands])) j
   have ab:(execOp ρ o).run P w=.ok (.value u) w:=by unfold execOp;simp[B,G]
   simp only[ab,cp,bl]
   exact⟨I,m,.refl ..,M,.undef _⟩
  exact j.elim
 ·
  rename_i t parts B
  split at j
  ·rename_i z fs ae
   split at j
   ·rename_i aQ
    split at j
    ·rename_i ds ao
     simp only[if_pos aQ]
     obtain⟨u,F,G⟩:=Se (P:=P) (w:=w) (I:=I) (m:=m) (L:=L) (ρ:=ρ) (ρT:=ρT) Z.E ae (λp ax=>N p.2 (by simp only[B,Op.operands];simp;exact⟨p.1,by simpa using ax⟩)) ao (λf bp=>dT.1 aQ f bp)
     exact cg.val M rfl (by unfold execOp;simp[B,F]) G
    exact j.elim
   exact j.elim
  ·rename_i z n e ae
   split at j
   ·rename_i aQ
    split at j
    ·rename_i ds ao
     simp only[if_pos aQ]
     obtain⟨u,F,G⟩:=Sb (P:=P) (w:=w) (I:=I) (m:=m) (L:=L) (ρ:=ρ) (ρT:=ρT) Z.E ae (λp ax=>N p.2 (by simp only[B,Op.operands];simp;exact⟨p.1,by simpa using ax⟩)) ao aQ
     exact cg.val M rfl (by unfold execOp;simp[B,F]) G
    exact j.elim
   exact j.elim
  exact j.elim
 ·
  rename_i t len parts B
  split at j
  ·rename_i e ae
   split at j
   ·rename_i aj
    simp only[if_pos aj]
    split at j
    ·rename_i aK
     simp only[if_pos aK]
     subst aK
     rintro rfl rfl
     have bq:parts = #[]:=by simpa using j
     subst bq
     have bt:=l4 Z.E ae
     obtain⟨i,hi⟩:=kd.1 aj.1
     have ay:bD V.E e=i.size:=by simp[bD,hi]
     have ab:(execOp ρ o).run P w=.ok (.value (.slice (some ⟨w.heap.size,0,none⟩) 0 0)) (w.alloc (.cells #[] e)):=by
      unfold execOp
      simp[B,Instr.buildSlice,hD bt,kY Z.E hi,Instr.fill,newRow,Array.range_zero']
     simp only[ab,cp]
     obtain⟨aq,al,bH⟩:=M.Bn (w':=w.alloc (.cells #[] e)) (v:=.slice (some ⟨w.heap.size,0,none⟩) 0 0) (row:=none) (lo:=L) (e:=e) (size:=bD V.E e) (els:=[]) (xs:=[]) rfl (λk a O=>.inr O) (λ_ _ _ h=>h)
      (q2 w _ _) (eb _) (λb an=>by cases an) (λb an=>by cases an)
      (
       λb an=>by
       simp[own]at an;subst an
       refine⟨M.below.size,M.sat.dY (eb _),λk aF aj=>?_⟩
       obtain⟨a,O,bo⟩:=bM.1 aF
       have:=((M.obj k a O).lt bo aj).1;omega)
      ⟨by simp,.inr ⟨w.heap.size,0,#[],rfl,M.below.size,vt w _,j2 _,j2 _,by simp,by simp⟩⟩ (by simp) (by simp[flat]) ⟨_,_,_,rfl⟩
     exact⟨I,_,aq,al,bH⟩
    rename_i aK
    simp only[if_neg aK]
    split at j
    ·rename_i ds bh
     split at j
     ·rename_i aU
      simp only[if_pos aU]
      obtain⟨bF,bG⟩:=K5 (I:=I) (m:=m) (L:=L) (ρ:=ρ) parts.toList ds (λp ax=>N p.2 (by simp only[B,Op.operands];simp;exact⟨p.1,by simpa using ax⟩)) bh
      obtain⟨w',J,F,G,Y,af⟩:=IC Z.E M ae (ρ:=ρ) bF bG aj aK aU
      unfold cg
      have ab:(execOp ρ o).run P w=.ok (.value (.slice (some ⟨w.heap.size,0,none⟩) len len)) w':=by unfold execOp;simp[B,F]
      simp only[R.ok,ab,cp]
      exact⟨J,G,Y,.d _ _ af⟩
     exact j.elim
    rename_i bh
    split at j
    ·rename_i ds l1 av
     split at j
     ·rename_i aU
      simp only[if_pos aU]
      rintro rfl rfl
      have aR:∀(i:Nat) v t,(parts.toList.map λp=>ρ p.2)[i]?=some v->(parts.toList.map λp=>ρT p.2)[i]?=some t->ar I m L v t:=λi v t ai ht=>by
       rw[et]at ai ht
       cases ax:parts.toList[i]? with
       |none=>simp[ax]at ai
       |some p=>
        simp[ax]at ai ht;subst ai;subst ht
        refine N p.2 ?_
        have:=dk ax
        simp only[B,Op.operands];simp;exact⟨p.1,by simpa using this⟩
      obtain⟨bL,bC,bb,bz,bB,_⟩:=oa _ L I (parts.toList.map λp=>ρ p.2) ds l1 M (by simp) aR av
      obtain⟨w',J,F,G,Y,af⟩:=IC Z.E bb ae (ρ:=ρ) (by simpa using bz) (λi p d ax bn=>bB i _ d (by rw[et,ax];rfl) bn) aj aK aU
      have ab:(execOp ρ o).run P w=.ok (.value (.slice (some ⟨w.heap.size,0,none⟩) len len)) w':=by unfold execOp;simp[B,F]
      simp only[ab,cp]
      exact⟨J,_,bC.trans G,Y,.d _ _ af⟩
     exact j.elim
    exact j.elim
   exact j.elim
  exact j.elim
 ·
  rename_i x i B
  have U:=N x (by simp[B,Op.operands])
  split at j
  ·rename_i ds aW
   rw[aW]at U
   split at j
   ·rename_i d av
    try simp only[aW,av]
    have:=cz U
    generalize aI:ρ x=bd at this
    cases this with
    |aN vs _ aq al=>
     have aV:i<vs.size:=by rw[aq];exact(c5.1 av).1
     have ai:vs[i]?=some vs[i]:=e7 aV
     exact cg.val M rfl (u:=vs[i]) (by unfold execOp;simp[B,aI,Instr.extract,aV]) (.d _ _ (al i _ _ ai av))
   exact j.elim
  ·rename_i ts aW
   rw[aW]at U
   split at j
   ·rename_i d av
    try simp only[aW,av]
    generalize aI:ρ x=bd at U
    cases U with
    |aN vs _ aq al=>
     have aV:i<vs.size:=by rw[aq];exact(c5.1 av).1
     have ai:vs[i]?=some vs[i]:=e7 aV
     exact cg.val M rfl (u:=vs[i]) (by unfold execOp;simp[B,aI,Instr.extract,aV]) (al i _ _ ai av)
   exact j.elim
  exact j.elim
 ·
  rename_i c B
  split at j
  ·rename_i f aa
   try simp only[aa]
   split at j
   ·rename_i g ao
    try simp only[ao]
    exact IE Z M aE N (by simp[ez,B,aa,ao]) j
   ·rename_i g ds ao
    try simp only[ao]
    exact IE Z M aE N (by simp[ez,B,aa,ao]) j
   exact j.elim
  ·rename_i aa
   try simp only[aa]
   split at j
   ·rename_i x t O ht
    try simp only[O,ht]
    have U:=N x (by simp[B,Op.operands,Call.operands,aa];rw[<-hX,O];simp)
    obtain⟨F,u,G,Y⟩:=VR (ty:=o.type) Z.E M aE U j
    refine cg.val M F (tn aa B (λk=>rfl) ?_) Y
    have au:c.args.map ρ = #[ρ x]:=by apply kB.1;simp[O]
    have aB:c.argTypes = #[t]:=by apply kB.1;simp[ht]
    rw[au,aB];exact G
   exact j.elim
  ·rename_i aa
   try simp only[aa]
   split at j
   ·rename_i s x t t' O ht
    try simp only[O,ht]
    split at j
    ·rename_i bs
     subst bs
     simp only[hK]
     have ae:=N s (by simp[B,Op.operands,Call.operands,aa];rw[<-hX,O];simp)
     have U:=N x (by simp[B,Op.operands,Call.operands,aa];rw[<-hX,O];simp)
     have au:c.args.map ρ = #[ρ s,ρ x]:=by apply kB.1;simp[O]
     have aB:c.argTypes = #[t,t]:=by apply kB.1;simp[ht]
     have aA:∃l',(iq V.E t l nid (ρT s) (ρT x)).bA=.aP l':=by
      generalize ρT s=ts at *;generalize ρT x=bI at *
      unfold iq at j⊢
      repeat' split at j
      all_goals first|exact j.elim|skip
      all_goals simp only[*]
      all_goals exact⟨_,rfl⟩
     obtain⟨l',aw⟩:=aA
     unfold cg
     rw[aw]
     rintro rfl ah
     obtain⟨ba,bJ,w',J,m',F,G,Y,af,aO⟩:=Pf (nid:=nid) (ty:=o.type) (t:=t) Z.E M ae U ah j
     rw[aw]at F;injection F with F;subst F
     have ab:(execOp ρ o).run P w=.ok (.value bJ) w':=tn aa B (λk=>rfl) (by rw[au,aB];exact G)
     simp only[ab,cp]
     exact⟨J,m',Y,af,aO⟩
    exact j.elim
   exact j.elim
  ·rename_i aa
   try simp only[aa]
   split at j
   ·rename_i x t O ht
    try simp only[O,ht]
    have U:=N x (by simp[B,Op.operands,Call.operands,aa];rw[<-hX,O];simp)
    have au:c.args.map ρ = #[ρ x]:=by apply kB.1;simp[O]
    have aB:c.argTypes = #[t]:=by apply kB.1;simp[ht]
    have aA:=SN j
    obtain⟨l',aw⟩:=aA
    unfold cg
    rw[aw]
    rintro rfl ah
    obtain⟨a7,ba,w',F,G,Y,af⟩:=SO (ty:=o.type) Z.E M U j
    rw[aw]at F;injection F with F;subst F
    have ab:(execOp ρ o).run P w=.ok (.value (.tuple #[])) w':=tn aa B (λk=>rfl) (by rw[au,aB];exact G)
    simp only[ab,cp]
    exact⟨I,m,Y,af,by rw[a7];exact .d _ _ (.aN _ _ rfl (by simp))⟩
   exact j.elim
  ·rename_i aa
   try simp only[aa]
   split at j
   ·rename_i x k t t2 O ht
    try simp only[O,ht]
    have U:=N x (by simp[B,Op.operands,Call.operands,aa];rw[<-hX,O];simp)
    have aF:=N k (by simp[B,Op.operands,Call.operands,aa];rw[<-hX,O];simp)
    have au:c.args.map ρ = #[ρ x,ρ k]:=by apply kB.1;simp[O]
    have aB:c.argTypes = #[t,t2]:=by apply kB.1;simp[ht]
    have aA:∃l',(nz V.E t l (ρT x) (ρT k)).bA=.aP l':=by
     generalize ρT x=ts at *;generalize ρT k=bI at *
     unfold nz at j⊢
     repeat' split at j
     all_goals first|exact j.elim|skip
     all_goals simp only[*]
     all_goals exact⟨_,rfl⟩
    obtain⟨l',aw⟩:=aA
    unfold cg
    rw[aw]
    rintro rfl ah
    obtain⟨a7,ba,w',F,G,Y,af⟩:=Tl (t2:=t2) (ty:=o.type) Z.E M U aF j
    rw[aw]at F;injection F with F;subst F
    have ab:(execOp ρ o).run P w=.ok (.value (.tuple #[])) w':=tn aa B (λk=>rfl) (by rw[au,aB];exact G)
    simp only[ab,cp]
    exact⟨I,m,Y,af,by rw[a7];exact .d _ _ (.aN _ _ rfl (by simp))⟩
   exact j.elim
  ·rename_i aa
   try simp only[aa]
   split at j
   ·rename_i k a bu b ad
    split at j
    ·rename_i aF
     subst aF
     simp only[hK]
     have aR:∃x y,c.args.toList=[x,y]/\ρT x=.d (.int k a)/\ρT y=.d (.int k b):=by
      match ag:c.args.toList,ad with
      | [x,y],ad=>simp at ad;exact⟨x,y,rfl,ad.1,ad.2⟩
      | [],ad=>simp at ad
      | [x],ad=>simp at ad
      |x::y::z::r,ad=>simp at ad
     obtain⟨x,y,ag,F,G⟩:=aR
     have U:=N x (by simp[B,Op.operands,Call.operands,aa];rw[<-hX,ag];simp)
     have ak:=N y (by simp[B,Op.operands,Call.operands,aa];rw[<-hX,ag];simp)
     rw[F]at U;rw[G]at ak
     have U:=cz U;have ak:=cz ak
     generalize aI:ρ x=bd at U;generalize a8:ρ y=bK at ak
     cases U;cases ak
     have au:c.args.map ρ = #[.int k a,.int k b]:=by apply kB.1;simp[ag,aI,a8]
     refine cg.val M rfl (u:=.int k (max a b)) (tn aa B (λk=>rfl) ?_) (.d _ _ (.int _ _))
     rw[au]
     simp only[Builtin.max_,List.foldlM_cons,List.foldlM_nil,Builtin.max2,fv,Sem.run_pure,Result.andThen_ok]
     congr 2
     rw[Int.max_def];split<;>split<;>omega
    exact j.elim
   exact j.elim
  ·rename_i aa
   try simp only[aa]
   split at j
   ·rename_i k a bu b ad
    split at j
    ·rename_i aF
     subst aF
     simp only[hK]
     have aR:∃x y,c.args.toList=[x,y]/\ρT x=.d (.int k a)/\ρT y=.d (.int k b):=by
      match ag:c.args.toList,ad with
      | [x,y],ad=>simp at ad;exact⟨x,y,rfl,ad.1,ad.2⟩
      | [],ad=>simp at ad
      | [x],ad=>simp at ad
      |x::y::z::r,ad=>simp at ad
     obtain⟨x,y,ag,F,G⟩:=aR
     have U:=N x (by simp[B,Op.operands,Call.operands,aa];rw[<-hX,ag];simp)
     have ak:=N y (by simp[B,Op.operands,Call.operands,aa];rw[<-hX,ag];simp)
     rw[F]at U;rw[G]at ak
     have U:=cz U;have ak:=cz ak
     generalize aI:ρ x=bd at U;generalize a8:ρ y=bK at ak
     cases U;cases ak
     have au:c.args.map ρ = #[.int k a,.int k b]:=by apply kB.1;simp[ag,aI,a8]
     refine cg.val M rfl (u:=.int k (min a b)) (tn aa B (λk=>rfl) ?_) (.d _ _ (.int _ _))
     rw[au]
     simp only[Builtin.min_,List.foldlM_cons,List.foldlM_nil,Builtin.min2,fv,Sem.run_pure,Result.andThen_ok]
     congr 2
     rw[Int.min_def];split<;>split<;>omega
    exact j.elim
   exact j.elim
  exact j.elim
 ·
  rename_i t B
  exact λF G=>Ew (L:=L) (F▸M) B F G
 ·
  rename_i t mm k x B
  exact Mj Z.E M (.inl B) N j
 ·
  rename_i t mm k x B
  exact Mj Z.E M (.inr B) N j
 ·
  rename_i t x k ok B
  obtain⟨F,u,G,Y⟩:=VX (ok:=ok) Z.E M aE (N x (by simp[B,Op.operands])) (N k (by simp[B,Op.operands])) j
  exact cg.val M F (by unfold execOp;simp[B,G]) Y
 ·
  rename_i t x i B
  obtain⟨F,u,G,Y⟩:=Vj (P:=P) (w:=w) Z.E (N x (by simp[B,Op.operands])) (N i (by simp[B,Op.operands])) j
  exact cg.val M F (by unfold execOp;simp[B,G]) Y
 ·
  rename_i bO t x B
  obtain⟨F,u,w',J,G,Y,af,aO⟩:=CX Z.E M (N x (by simp[B,Op.operands])) j
  unfold cg
  rw[F]
  have ab:(execOp ρ o).run P w=.ok (.value u) w':=by unfold execOp;simp[B,G]
  simp only[ab,cp]
  exact⟨J,Y,af,aO⟩
 ·
  rename_i g first caps B
  split at j
  ·rename_i ao
   try simp only[if_pos ao]
   have bf:first = #[]:=Array.isEmpty_iff.1 ao
   refine cg.val M rfl (u:=.func (.func g) #[] (caps.map ρ)) (by unfold execOp;simp[B,bf,Instr.makeFunc]) (SR (.aD _ _ _ (by simp) λi v t ai ht=>?_))
   rw[Array.getElem?_map]at ai
   rw[et]at ht
   cases O:caps[i]? with
   |none=>rw[O]at ai;cases ai
   |some a=>
    rw[O]at ai
    have bm:caps.toList[i]?=some a:=by simpa using O
    rw[bm]at ht
    simp at ai ht;subst ai;subst ht
    exact N a (by simp[B,Op.operands,bf];exact Array.mem_of_getElem? O)
  exact j.elim
 ·
  rename_i t x B
  exact F7 Z.E M B (N x (by simp[B,Op.operands])) j
 ·
  rename_i x B
  exact TK M aE B (N x (by simp[B,Op.operands])) j
 ·
  rename_i t a b B
  obtain⟨l',aw⟩:=Wb j
  unfold cg
  rw[aw]
  rintro rfl rfl
  obtain⟨ba,w',v,m',F,G,Y,af,aO⟩:=Wc (t:=t) Z.E M (N a (by simp[B,Op.operands])) (N b (by simp[B,Op.operands])) j
  rw[aw]at F;injection F with F;subst F
  have ab:(execOp ρ o).run P w=.ok (.value v) w':=by unfold execOp;simp[B,G]
  simp only[ab,cp]
  exact⟨I,m',Y,af,aO⟩
 exact j.elim
def qW{V:Env}{ρT:Operand->T}{l:List AO}{nid:Nat}{o:Oper}(k:(aX V ρT l nid o).ob):∀c,o.op ≠ .defer c:=by
 intro c j
 obtain⟨F,G,ty,M,B,g⟩:=o
 simp only at j
 subst j
 simp only[aX,R.bad]at k
def vC{E:cm}{ρT:Operand->T}{o:Oper}{x:FuncId×List T}(h:ez E ρT o=some x):∀c,o.op ≠ .defer c:=by
 intro c j
 unfold ez at h
 rw[j]at h;cases h
end
end Go.ag
namespace Go.ag
open Go Go.RowKit
variable [bq][bX]
abbrev PC:=List (Nat×Bool×Bool)
def GM(j pc:PC):Bool:=j.all λx=>pc.any λy=>x.1 == y.1&&x.2.2 == y.2.2
def xK:PC->PC->Prop
 | [],_=>True
 |x::r,pc=>(match pc.find? (λy=>x.1 == y.1&&x.2.2 == y.2.2)with|some y=>x.2.1=y.2.1|none=>False)/\xK r pc
def strip(pc:PC)(t:T):T×Prop:=
 match t with
 |.cond j u=>if GM j pc=true then(u,xK j pc)else(t,True)
 |t=>(t,True)
def Kt:∀{pc:PC},holds pc->∀y∈pc,y.2.1=y.2.2
 | [],_,y,hy=>by cases hy
 | (_,c,b)::r,h,y,hy=>by
  rcases fb.1 hy with rfl|hy
  ·exact h.1
  exact Kt h.2 y hy
def N6:∀{M pc:PC},xK M pc->holds pc->holds M
 | [],_,_,_=>trivial
 | (j,c,b)::r,pc,h,F=>by
  obtain⟨k,N⟩:=h
  refine⟨?_,N6 N F⟩
  split at k
  ·rename_i y G
   have B:=j5 G
   simp only[db,sk]at B
   have:=Kt F y (gW G)
   simp only at k
   rw[k,this,<-B.2]
  exact k.elim
theorem Ks:∀{a b:PC},holds (a++b)↔holds a/\holds b
 | [],b=>by simp[holds]
 | (_,c,d)::r,b=>by simp only[List.cons_append,holds,Ks (a:=r),mo]
def dA(ops:List Oper)(s:Tm):Option (Nat×Bool)->Option PC
 |none=>some []
 |some (j,b)=>match (ops[j]?).bind (·.dst)with
  |some d=>match get s d with
   |.d (.bool c)=>some [(j,c,b)]
   |.cond pc (.d (.bool c))=>some (pc++[(j,c,b)])
   |.cond [(0,true,false)] .undef=>some [(0,true,false)]
   |_=>none
  |none=>none
def lR:List Prop->Prop
 | []=>True
 |p::r=>p/\lR r
def zL:∀{l:List Prop},lR l->∀p∈l,p
 | [],_,p,hp=>by cases hp
 |q::r,h,p,hp=>by
  rcases fb.1 hp with rfl|hp
  ·exact h.1
  exact zL h.2 p hp
def dJ(n:Nat):Option Nat->Bool
 |none=>true
 |some d=>decide (d<n)
def after(s:St)(j:Option Nat)(pc:PC)(r:R):Option St:=
 match pc,r.bA with
 | [],.none=>some ⟨bR s.t j r.t,s.l⟩
 | [],.new a=>some ⟨bR s.t j r.t,s.l++[a]⟩
 | [],.aP l'=>some ⟨bR s.t j r.t,l'⟩
 |pc,.none=>some ⟨bR s.t j (.cond pc r.t),s.l⟩
 |_,_=>none
def fT(V:Env)(pc:PC)(s:St)(o:Oper):R:=
 match pc with
 | []=>aX V (bN s.t) s.l s.l.length o
 |_::_=>
  let ρ:=λx=>strip pc (bN s.t x)
  let r:=aX V (λx=>(ρ x).1) s.l s.l.length o
  ⟨r.t,r.bA,r.ob/\lR (o.op.operands.toList.map λx=>(ρ x).2)⟩
def stepT(pc:PC)(s:Tm)(x:Operand):T:=match pc with| []=>bN s x|_::_=>(strip pc (bN s x)).1
def gone:T:=.cond [(0,true,false)] .undef
def Kj{I:ay}{m:Nat->Value}{l:List AO}:ar I m l Go.undef gone:=.cond _ _ _ (λh=>by simp[holds]at h) (λ_=>rfl)
abbrev Way:=Option (List Nat)
def BG(k:List Nat)(j:Option Nat):Bool:=match j with|some d=>k.contains d|none=>false
def dP(V:Env)(n:Nat)(ops:List Oper)(md:Way):List Oper->St->(St->Prop)->Prop
 | [],s,K=>K s
 |o::r,s,K=>
  match dA ops s.t o.guard with
  |none=>False
  |some pc=>
   match md with
   |none=>
    (match fT V pc s o with
    | ⟨t,bA,ob⟩=>(holds pc->ob)/\dJ n o.dst=true/\match after s o.dst pc ⟨t,bA,True⟩with|some s'=>dP V n ops md r s' K|none=>False)
   |some j=>
    if BG j o.dst=true then(holds pc->False)/\dJ n o.dst=true/\dP V n ops md r ⟨bR s.t o.dst gone,s.l⟩ K
    else holds pc/\(match fT V [] s o with
    | ⟨t,bA,ob⟩=>ob/\dJ n o.dst=true/\match after s o.dst [] ⟨t,bA,True⟩with|some s'=>dP V n ops md r s' K|none=>False)
theorem yO{V:Env}{n:Nat}{ops:List Oper}{md:Way}{K M:St->Prop}(k:∀s,K s->M s):∀(r:List Oper)(s:St),dP V n ops md r s K->dP V n ops md r s M
 | [],s,h=>k s h
 |o::r,s,h=>by
  simp only[dP]at h⊢
  split at h
  ·exact h
  cases md with
  |none=>
   obtain⟨B,F,j⟩:=h
   refine⟨B,F,?_⟩
   split at j
   ·exact yO k r _ j
   exact j
  |some O=>
   simp only at h⊢
   split at h
   ·rename_i G
    rw[if_pos G]
    exact⟨h.1,h.2.1,yO k r _ h.2.2⟩
   rename_i G
   rw[if_neg G]
   obtain⟨N,B,F,j⟩:=h
   refine⟨N,B,F,?_⟩
   split at j
   ·exact yO k r _ j
   exact j
def mark(D:Nat):Deferred:={target:=.collected D,args:= #[]}
def ei(B:Nat)(I:ay)(ds:List Deferred):Prop:=∃j:List Nat,ds=j.map mark/\j.Nodup/\(∀D∈j,B<=D/\¬bX.cM D/\I.df D)/\∀b,bX.cM b->I.df b
theorem ei.oM{B:Nat}{I J:ay}{ds:List Deferred}(h:ei B I ds)(F:∀b,I.df b->J.df b):ei B J ds:=by
 obtain⟨G,M,N,j,O⟩:=h
 exact⟨G,M,N,λD k=>⟨(j D k).1,(j D k).2.1,F _ (j D k).2.2⟩,λb U=>F _ (O b U)⟩
theorem ei.mono{B:Nat}{I J:ay}{ds:List Deferred}(h:ei B I ds)(j:I.le J):ei B J ds:=h.oM j.df
theorem ei.nil{B:Nat}{I:ay}(h:∀b,bX.cM b->I.df b):ei B I []:=⟨[],rfl,.nil,by simp,h⟩
def ei.xr{B:Nat}{I J:ay}{a:Act}{j:Option Nat}{v:Value}(h:ei B I a.defers)(k:∀b,I.df b->J.df b):ei B J (a.put j v).defers:=by
 have:(a.put j v).defers=a.defers:=by cases j<;>rfl
 rw[this];exact h.oM k
def ei.put{B:Nat}{I J:ay}{a:Act}{j:Option Nat}{v:Value}(h:ei B I a.defers)(k:I.le J):ei B J (a.put j v).defers:=h.xr k.df
theorem ei.cons{B:Nat}{I J:ay}{ds:List Deferred}{D:Nat}(h:ei B I ds)(G:∀b,I.df b->J.df b)(U:B<=D)(F:¬I.df D)(Y:J.df D):ei B J (mark D::ds):=by
 obtain⟨M,N,O,j,k⟩:=h
 refine⟨D::M,by rw[N];rfl,h9.2 ⟨λab=>F (j D ab).2.2,O⟩,λx hx=>?_,λb Z=>G _ (k b Z)⟩
 rcases fb.1 hx with rfl|hx
 ·exact⟨U,λaa=>F (k _ aa),Y⟩
 exact⟨(j x hx).1,(j x hx).2.1,G _ (j x hx).2.2⟩
structure Rel(w0:World)(I0:ay)(n:Nat)(s:St)(a:Act)(w:World):Prop where
 size:a.tmps.size=n
 rel:∃I m,aH w0 I0 w I m s.l/\ei w0.heap.size I a.defers/\∀k,ar I m s.l (a.tmps.getD k undef) (get s.t k)
section
variable {P:Program}{V:Env}{w0 w:World}{I0 I:ay}{m:Nat->Value}{l L:List AO}{n:Nat}
def CV(v:Value):ar I m L v (qT v):=by
 unfold qT
 split
 ·exact .d _ _ (.bool _)
 ·exact .d _ _ (.int _ _)
 ·exact .d _ _ (.str _)
 ·exact .bC _
 ·exact .d _ _ .dX
 ·exact .d _ _ .ub
 ·exact .d _ _ .iU
 ·exact .d _ _ .qa
 exact .undef _
def DM{s:Tm}{a:Act}(N:∀g d,bq.iS g=some d->Rd I (.pointer (some ⟨g,0,none⟩)) (.box d))(g:Nat):ar I m L (a.eval (.global g)) (bN s (.global g)):=by
 show ar I m L (.pointer (some ⟨g,0,none⟩)) (match bq.iS g with|some d=>.bB d.cells.length [d] 0 0|none=>.undef)
 cases M:bq.iS g with
 |none=>exact .undef _
 |some d=>
  have:=N g d M
  cases this with
  |box _ _ val B F G=>
   have:=ar.bB (I:=I) (m:=m) (l:=L) g 0 d.cells.length [d] 0 0 val (by simp) (λx k=>by simp at k;subst k;exact⟨rfl,B⟩) (λj O=>by rw[hV];exact F j (by simpa using O)) (λj x k=>G j x (by simpa [flat]using k))
   simpa using this
def mg{s:Tm}{a:Act}(j:∀g d,bq.iS g=some d->Rd I (.pointer (some ⟨g,0,none⟩)) (.box d))(h:∀k,ar I m L (a.tmps.getD k undef) (get s k))(x:Operand):ar I m L (a.eval x) (bN s x):=by
 cases x with
 |tmp t=>exact h t
 |const v=>exact CV v
 |global g=>exact DM j g
 |func f=>exact .d _ _ (.fn f)
def GL{pc:PC}{v:Value}{t:T}(h:ar I m L v t)(B:holds pc)(j:(strip pc t).2):ar I m L v (strip pc t).1:=by
 unfold strip at j⊢
 split at j
 ·rename_i F u
  split at j
  ·rename_i k
   simp only[if_pos k]
   exact xx h (N6 j B)
  rename_i k
  simp only[if_neg k]
  exact h
 exact h
theorem DK(s:Tm)(d:Nat)(t:T)(k:Nat):get ((d,t)::s) k=if d=k then t else get s k:=rfl
def lU{s:Tm}{a:Act}{j:Option Nat}{v:Value}{t:T}(G:a.tmps.size=n)(F:dJ n j=true)(h:∀k,ar I m L (a.tmps.getD k undef) (get s k))(M:ar I m L v t) :
  ∀k,ar I m L ((a.put j v).tmps.getD k undef) (get (bR s j t) k):=by
 intro k
 cases j with
 |none=>exact h k
 |some d=>
  simp only[dJ,ea]at F
  simp only[bR,DK,Act.put]
  by_cases B:d=k
  ·subst B
   rw[if_pos rfl]
   have:(a.tmps.setIfInBounds d v).getD d undef=v:=by simp[gg,G,F]
   rw[this];exact M
  rw[if_neg B]
  have:(a.tmps.setIfInBounds d v).getD k undef=a.tmps.getD k undef:=by simp[gg,B]
  rw[this];exact h k
theorem Hg{ops:List Oper}{s:Tm}{a:Act}{o:Oper}{pc:PC}(h:∀j b d,o.guard=some (j,b)->(ops[j]?).bind (·.dst)=some d->ar I m L (a.tmps.getD d undef) (get s d))(k:dA ops s o.guard=some pc):Region.wanted o (yielded ops.toArray a.tmps)=true↔holds pc:=by
 cases N:o.guard with
 |none=>rw[N]at k;simp[dA]at k;subst k;simp[Region.wanted,N,holds]
 |some ai=>
  obtain⟨j,b⟩:=ai
  rw[N]at k
  simp only[dA]at k
  split at k
  ·rename_i d ab
   have ah:yielded ops.toArray a.tmps j=match a.tmps[d]? with|some (.bool c)=>some c|_=>none:=by
    unfold yielded
    have:((ops.toArray[j]?).bind (·.dst))=some d:=by simpa using ab
    rw[this];rfl
   have ad:∀v,a.tmps.getD d undef=v->v≠undef->a.tmps[d]?=some v:=by
    intro v B ag
    rw[gg]at B
    cases ae:a.tmps[d]? with
    |none=>rw[ae]at B;exact absurd B.symm ag
    |some u=>rw[ae]at B;simp at B;rw[B]
   have F:=h j b d N ab
   simp only[Region.wanted,N,ah,sk]
   split at k
   ·rename_i c M
    simp at k;subst k
    rw[M]at F
    have:=cz F
    generalize B:a.tmps.getD d undef=v at this
    cases this
    rw[ad _ B (by unfold undef;simp)]
    simp[holds]
   ·rename_i aj c M
    simp at k;subst k
    rw[M]at F
    generalize B:a.tmps.getD d undef=v at F
    cases F with
    |cond _ _ _ aa U=>
     rw[Ks]
     by_cases O:holds aj
     ·have:=cz (aa O)
      cases this
      rw[ad _ B (by unfold undef;simp)]
      simp[holds,O]
     have Z:=U O
     subst Z
     constructor
     ·intro G
      exfalso
      split at G
      ·rename_i af Y
       rw[gg,Y]at B
       simp[undef]at B
      cases G
     rintro⟨h,_⟩;exact absurd h O
   ·rename_i M
    simp at k;subst k
    rw[M]at F
    generalize B:a.tmps.getD d undef=v at F
    cases F with
    |cond _ _ _ aa U=>
     have Z:=U (by simp[holds])
     subst Z
     constructor
     ·intro G
      exfalso
      split at G
      ·rename_i af Y
       rw[gg,Y]at B
       simp[undef]at B
      cases G
     intro G;simp[holds]at G
   cases k
  cases k
theorem ph{ops:List Oper}{s:Tm}{a:Act}{o:Oper}{pc:PC}(h:∀k,ar I m L (a.tmps.getD k undef) (get s k))(j:dA ops s o.guard=some pc):Region.wanted o (yielded ops.toArray a.tmps)=true↔holds pc:=Hg (λ_ _ d _ _=>h d) j
def LX(ak:cA P V){ops:List Oper}{Q:Exit->Act->World->Prop}{o:Oper}{pc aB:PC}{s s':St}{a:Act}{w:World}(aI:Rel w0 I0 n s a w)(aD:dA ops s.t o.guard=some aB)(aH:holds aB↔holds pc)(ad:holds pc->(fT V pc s o).ob)(ah:dJ n o.dst=true){t:T}{au:qE}(aC:(fT V pc s o).t=t/\(fT V pc s o).bA=au)(j:after s o.dst pc ⟨t,au,True⟩=some s'){aj:Act->World->Prop}(af:∀aq w',Rel w0 I0 n s' aq w'->aj aq w') :
  if Region.wanted o (yielded ops.toArray a.tmps)=true then o.wpIn dc 0 P a w aj Q else(∀f,o.about P w a.eval=some f->dc.fn f)/\aj (a.put o.dst undef) w:=by
  obtain⟨M,I,m,aa,ag,ht⟩:=aI
  obtain⟨rfl,rfl⟩:=aC
  have aA:=(ph ht aD).trans aH
  by_cases N:holds pc
  ·rw[if_pos (aA.2 N)]
   have ad:=ad N
   have an:∀x∈o.op.operands,ar I m s.l (a.eval x) (stepT pc s.t x):=λx ao=>by
    cases pc with
    |nil=>exact mg aa.sat.dz ht x
    |cons y pc=>exact GL (mg aa.sat.dz ht x) N (zL ad.2 _ (gj.2 ⟨x,by simpa using ao,rfl⟩))
   have aJ:(fT V pc s o).t=(aX V (stepT pc s.t) s.l s.l.length o).t/\(fT V pc s o).bA=(aX V (stepT pc s.t) s.l s.l.length o).bA/\((fT V pc s o).ob->(aX V (stepT pc s.t) s.l s.l.length o).ob):=by
    cases pc with
    |nil=>exact⟨rfl,rfl,id⟩
    |cons y pc=>exact⟨rfl,rfl,λh=>h.1⟩
   obtain⟨ax,ay,az⟩:=aJ
   have aw:=az ad
   clear ad az
   have ai:=aw
   clear aw
   rw[ax,ay]at j
   clear ax ay
   have al:=qW ai
   generalize Z:aX V (stepT pc s.t) s.l s.l.length o=ae at *
   cases F:ae.bA with
   |none=>
    have B:=ox (nid:=s.l.length) ak aa (eH.refl _) an (by rw[Z];exact ai)
    rw[Z]at B
    unfold cg at B
    rw[F]at B
    refine cp.wpIn al (B.mono λv w' ⟨J,G,ab,U⟩=>?_)
    have O:s'=⟨bR s.t o.dst (if pc=[]then ae.t else .cond pc ae.t),s.l⟩:=by
     unfold after at j
     simp only[F]at j
     cases pc<;>simp at j<;>simp[<-j]
    subst O
    refine af _ _ ⟨by cases o.dst<;>simp[Act.put,M],J,m,ab,ag.put G.dg,lU M ah (λk=>(ht k).mono G) ?_⟩
    split
    ·exact U
    exact .cond _ _ _ (λ_=>U) (λaG=>absurd N aG)
   |new x=>
    have Y:pc=[]:=by
     unfold after at j;simp only[F]at j
     cases pc<;>simp at j;rfl
    subst Y
    have O:s'=⟨bR s.t o.dst ae.t,s.l++[x]⟩:=by unfold after at j;simp only[F]at j;simp at j;exact j.symm
    subst O
    obtain⟨aL,av⟩:=aa.push
    have B:=ox (nid:=s.l.length) ak aL (L:=s.l++[.dead]) (λid aF=>e1 aF) (λx ao=>(an x ao).mono av) (by rw[Z];exact ai)
    rw[Z]at B
    unfold cg at B
    rw[F]at B
    refine cp.wpIn al ((B (by simp)).mono λv w' ⟨m',G,ab,U⟩=>?_)
    have aK:(s.l++[AO.dead]).set s.l.length x=s.l++[x]:=by simp
    rw[aK]at G ab U
    exact af _ _ ⟨by cases o.dst<;>simp[Act.put,M],I,m',ab,ag.put (.refl I),lU M ah (λk=>(ht k).mono (av.trans G)) U⟩
   |aP l'=>
    have Y:pc=[]:=by
     unfold after at j;simp only[F]at j
     cases pc<;>simp at j;rfl
    subst Y
    have O:s'=⟨bR s.t o.dst ae.t,l'⟩:=by unfold after at j;simp only[F]at j;simp at j;exact j.symm
    subst O
    have B:=ox (nid:=s.l.length) ak aa (eH.refl _) an (by rw[Z];exact ai)
    rw[Z]at B
    unfold cg at B
    rw[F]at B
    refine cp.wpIn al ((B rfl rfl).mono λv w' ⟨J,m',G,ab,U⟩=>?_)
    exact af _ _ ⟨by cases o.dst<;>simp[Act.put,M],J,m',ab,ag.put G.dg,lU M ah (λk=>(ht k).mono G) U⟩
  rw[if_neg (λaE=>N (aA.1 aE))]
  have Y:pc≠[]:=by rintro rfl;exact N trivial
  have F:(fT V pc s o).bA=.none:=by
   unfold after at j
   generalize (fT V pc s o).bA=e at *
   cases pc with
   |nil=>exact absurd rfl Y
   |cons x pc=>cases e<;>simp at j<;>rfl
  have O:s'=⟨bR s.t o.dst (.cond pc (fT V pc s o).t),s.l⟩:=by
   unfold after at j
   simp only[F]at j
   cases pc with
   |nil=>exact absurd rfl Y
   |cons x pc=>simp at j;exact j.symm
  subst O
  exact⟨λf _=>l8 f,af _ _ ⟨by cases o.dst<;>simp[Act.put,M],I,m,aa,ag.put (.refl I),lU M ah ht (.cond _ _ _ (λh=>absurd h N) (λ_=>rfl))⟩⟩
def Jt(Y:cA P V){ops:List Oper}{md:Way}{Q:Exit->Act->World->Prop}{K:St->Prop}{o:Oper}{r:List Oper}{s:St}{a:Act}{w:World}(O:Rel w0 I0 n s a w)(h:dP V n ops md (o::r) s K){B:Act->World->Prop}(F:∀s' j w',dP V n ops md r s' K->Rel w0 I0 n s' j w'->B j w') :
  if Region.wanted o (yielded ops.toArray a.tmps)=true then o.wpIn dc 0 P a w B Q else(∀f,o.about P w a.eval=some f->dc.fn f)/\B (a.put o.dst undef) w:=by
  simp only[dP]at h
  split at h
  ·exact h.elim
  rename_i ag G
  cases md with
  |none=>
   simp only at h
   obtain⟨M,k,h⟩:=h
   split at h
   ·rename_i s' U
    exact LX Y O G J4 M k ⟨rfl,rfl⟩ U λj w' N=>F s' j w' h N
   exact h.elim
  |some ah=>
   simp only at h
   split at h
   ·obtain⟨ad,k,h⟩:=h
    obtain⟨Z,I,m,ae,aa,ht⟩:=O
    rw[if_neg (λab=>ad ((ph ht G).1 ab))]
    exact⟨λf _=>l8 f,F _ _ _ h ⟨by cases o.dst<;>simp[Act.put,Z],I,m,ae,aa.put (.refl I),lU Z k ht Kj⟩⟩
   obtain⟨af,M,k,h⟩:=h
   split at h
   ·rename_i s' U
    exact LX Y O G (pc:=[]) ⟨λ_=>trivial,λ_=>af⟩ (λ_=>M) k ⟨rfl,rfl⟩ U λj w' N=>F s' j w' h N
   exact h.elim
theorem Dd(B:cA P V){ops:List Oper}{md:Way}{Q:Exit->Act->World->Prop}{K:St->Prop}(k:∀s a w,K s->Rel w0 I0 n s a w->Q .normal a w):∀(r:List Oper)(s:St)(a:Act)(w:World),Rel w0 I0 n s a w->dP V n ops md r s K->wpListIn dc 0 P ops.toArray Q r a w
 | [],s,a,w,j,h=>k s a w h j
 |o::r,s,a,w,j,h=>by
  unfold wpListIn
  exact Jt B j h λs' F w' G M=>Dd B k r s' F w' M G
end
end Go.ag
namespace Go.ag
open Go Go.RowKit
variable [bq]
def waits(o:Oper):List Nat:=(o.after.toList.filter (Region.binds .any)).map (·.on)
def tmpsOf(o:Oper):List Nat:=o.op.operands.toList.filterMap λ|.tmp t=>some t|_=>none
def fU(ops:List Oper)(o:Oper):List Nat:=tmpsOf o++(match o.guard with|some (j,_)=>((ops[j]?).bind (·.dst)).toList|none=>[])
def nu(ops:List Oper):Bool:=(List.range ops.length).all λi=>match ops[i]? with|some o=>(waits o).all (· < i)|none=>true
def ZZ(ops:List Oper)(n1:Nat):Bool:=(List.range ops.length).all λi=>decide (i<n1)||match ops[i]? with|some o=>(List.range i).all (λj=>(waits o).contains j)|none=>true
def qq(ops:List Oper)(n1:Nat):Bool:=(List.range n1).all λi=>match ops[i]? with
 |some o=>(List.range n1).all λj=>match ops[j]? with
  |some q=>(match q.dst with
   |some d=>(decide (i=j)||o.dst != some d)&&(!(fU ops o).contains d||(decide (j<i)&&(waits o).contains j))
   |none=>true)
  |none=>true
 |none=>false
def gd(V:Env)(n:Nat)(ops:List Oper)(md:Way)(l0:List AO):List Oper->(k:Nat)->Tm->List (Nat×AO)->(Tm->List (Nat×AO)->Prop)->Prop
 | [],_,tm,news,K=>K tm news
 |o::r,k,tm,news,K=>
  match dA ops tm o.guard with
  |none=>False
  |some pc=>
   match md with
   |none=>
    let ρ:=λx=>strip pc (bN tm x)
    (match aX V (λx=>(ρ x).1) l0 (l0.length+news.length) o with
    | ⟨t,bA,ob⟩=>
     (holds pc->ob/\lR (o.op.operands.toList.map λx=>(ρ x).2))/\dJ n o.dst=true /\
     match pc,bA with
     | [],.none=>gd V n ops md l0 r (k+1) (bR tm o.dst t) news K
     | [],.new a=>gd V n ops md l0 r (k+1) (bR tm o.dst t) (news++[(k,a)]) K
     |pc,.none=>gd V n ops md l0 r (k+1) (bR tm o.dst (.cond pc t)) news K
     |_,_=>False)
   |some j=>
    if BG j o.dst=true then o.guard.isSome=true/\(holds pc->False)/\dJ n o.dst=true/\gd V n ops md l0 r (k+1) (bR tm o.dst gone) news K
    else holds pc/\(match aX V (λx=>(strip [] (bN tm x)).1) l0 (l0.length+news.length) o with
    | ⟨t,bA,ob⟩=>
     (ob/\lR (o.op.operands.toList.map λx=>(strip [] (bN tm x)).2))/\dJ n o.dst=true /\
     match bA with
     |.none=>gd V n ops md l0 r (k+1) (bR tm o.dst t) news K
     |.new a=>gd V n ops md l0 r (k+1) (bR tm o.dst t) (news++[(k,a)]) K
     |_=>False)
structure Rec where
 tm:Tm
 pc:PC
 t:T
 ob:Prop
 new:Option AO
 nid:Nat
def Rec.out(r:Rec):T:=if r.pc=[]then r.t else .cond r.pc r.t
structure Ht(V:Env)(n:Nat)(ops:List Oper)(l0:List AO)(o:Oper)(r:Rec):Prop where
 guard:∃qc,dA ops r.tm o.guard=some qc/\(holds qc↔holds r.pc)
 US:o.guard=none->r.pc=[]
 res:holds r.pc->aX V (λx=>(strip r.pc (bN r.tm x)).1) l0 r.nid o=⟨r.t,(match r.new with|some a=>.new a|none=>.none),r.ob⟩
 ob:holds r.pc->r.ob/\lR (o.op.operands.toList.map λx=>(strip r.pc (bN r.tm x)).2)
 dst:dJ n o.dst=true
 new:r.new.isSome=true->r.pc=[]
 gone:¬holds r.pc->r.new=none
def cy:Nat->List Rec->List (Nat×AO)
 |_,[]=>[]
 |k,r::rs=>(match r.new with|some a=>[(k,a)]|none=>[])++cy (k+1) rs
def fc:Tm->List Oper->List Rec->Tm
 |tm,o::os,r::rs=>fc (bR tm o.dst r.out) os rs
 |tm,_,_=>tm
def jM(V:Env)(n:Nat)(ops:List Oper)(l0:List AO):List Oper->Nat->Tm->Nat->List Rec->Prop
 | [],_,_,_,rs=>rs=[]
 |o::os,k,tm,c,rs=>∃r j,rs=r::j/\r.tm=tm/\r.nid=l0.length+c/\Ht V n ops l0 o r/\jM V n ops l0 os (k+1) (bR tm o.dst r.out) (c+(if r.new.isSome then 1 else 0)) j
def pJ{V:Env}{n:Nat}{ops:List Oper}{md:Way}{l0:List AO}{K:Tm->List (Nat×AO)->Prop}:∀(r:List Oper)(k:Nat)(tm:Tm)(j:List (Nat×AO)),gd V n ops md l0 r k tm j K ->
  ∃rs,jM V n ops l0 r k tm j.length rs/\K (fc tm r rs) (j++cy k rs)
 | [],k,tm,j,h=>⟨[],rfl,by simpa [fc,cy,gd]using h⟩
 |o::r,k,tm,j,h=>by
  simp only[gd]at h
  split at h
  ·exact h.elim
  rename_i pc M
  have ae:o.guard=none->pc=[]:=λe=>by rw[e]at M;simpa [dA]using M.symm
  cases md with
  |none=>
   simp only at h
   generalize O:aX V (λx=>(strip pc (bN tm x)).1) l0 (l0.length+j.length) o=Y at h
   obtain⟨t,ad,ob⟩:=Y
   simp only at h
   obtain⟨N,G,h⟩:=h
   split at h
   ·obtain⟨rs,B,F⟩:=pJ r (k+1) _ _ h
    refine⟨⟨tm,[],t,ob,none,l0.length+j.length⟩::rs,⟨_,rs,rfl,rfl,rfl,⟨⟨_,M,J4⟩,λ_=>rfl,λ_=>O,N,G,by simp,λ_=>rfl⟩,by simpa [Rec.out]using B⟩,?_⟩
    simpa [fc,cy,Rec.out]using F
   ·rename_i a
    obtain⟨rs,B,F⟩:=pJ r (k+1) _ _ h
    refine⟨⟨tm,[],t,ob,some a,l0.length+j.length⟩::rs,⟨_,rs,rfl,rfl,rfl,⟨⟨_,M,J4⟩,λ_=>rfl,λ_=>O,N,G,by simp,λh=>(h trivial).elim⟩,by simpa [Rec.out]using B⟩,?_⟩
    simpa [fc,cy,Rec.out]using F
   ·rename_i af
    obtain⟨rs,B,F⟩:=pJ r (k+1) _ _ h
    have aa:pc≠[]:=λe=>af e
    refine⟨⟨tm,pc,t,ob,none,l0.length+j.length⟩::rs,⟨_,rs,rfl,rfl,rfl,⟨⟨_,M,J4⟩,ae,λ_=>O,N,G,by simp,λ_=>rfl⟩,by simpa [Rec.out,aa]using B⟩,?_⟩
    simpa [fc,cy,Rec.out,aa]using F
   exact h.elim
  |some ah=>
   simp only at h
   split at h
   ·obtain⟨Z,ag,G,h⟩:=h
    obtain⟨rs,B,F⟩:=pJ r (k+1) _ _ h
    have U:¬holds [((0:Nat),true,false)]:=by simp[holds]
    refine⟨⟨tm,[(0,true,false)],.undef,True,none,l0.length+j.length⟩::rs,⟨_,rs,rfl,rfl,rfl,⟨⟨_,M,⟨λh=>(ag h).elim,λh=>(U h).elim⟩⟩,λe=>(by rw[e]at Z;cases Z),λh=>(U h).elim,λh=>(U h).elim,G,by simp,λ_=>rfl⟩,by simpa [Rec.out,gone]using B⟩,?_⟩
    simpa [fc,cy,Rec.out,gone]using F
   obtain⟨ab,h⟩:=h
   generalize O:aX V (λx=>(strip [] (bN tm x)).1) l0 (l0.length+j.length) o=Y at h
   obtain⟨t,ad,ob⟩:=Y
   simp only at h
   obtain⟨N,G,h⟩:=h
   split at h
   ·obtain⟨rs,B,F⟩:=pJ r (k+1) _ _ h
    refine⟨⟨tm,[],t,ob,none,l0.length+j.length⟩::rs,⟨_,rs,rfl,rfl,rfl,⟨⟨_,M,⟨λ_=>trivial,λ_=>ab⟩⟩,λ_=>rfl,λ_=>O,λ_=>N,G,by simp,λ_=>rfl⟩,by simpa [Rec.out]using B⟩,?_⟩
    simpa [fc,cy,Rec.out]using F
   ·rename_i a
    obtain⟨rs,B,F⟩:=pJ r (k+1) _ _ h
    refine⟨⟨tm,[],t,ob,some a,l0.length+j.length⟩::rs,⟨_,rs,rfl,rfl,rfl,⟨⟨_,M,⟨λ_=>trivial,λ_=>ab⟩⟩,λ_=>rfl,λ_=>O,λ_=>N,G,by simp,λh=>(h trivial).elim⟩,by simpa [Rec.out]using B⟩,?_⟩
    simpa [fc,cy,Rec.out]using F
   exact h.elim
def jM.len{V:Env}{n:Nat}{ops:List Oper}{l0:List AO}:∀{r:List Oper}{k:Nat}{tm:Tm}{c:Nat}{rs:List Rec},jM V n ops l0 r k tm c rs->rs.length=r.length
 | [],_,_,_,rs,h=>by simp only[jM]at h;subst h;rfl
 |o::r,k,tm,c,rs,h=>by
  obtain⟨x,B,rfl,_,_,_,j⟩:=h
  simp[j.len]
theorem jM.at_{V:Env}{n:Nat}{ops:List Oper}{l0:List AO}:∀{r:List Oper}{k:Nat}{tm:Tm}{c:Nat}{rs:List Rec},jM V n ops l0 r k tm c rs->∀(i:Nat) o x,r[i]?=some o->rs[i]?=some x ->
  Ht V n ops l0 o x/\x.tm=fc tm (r.take i) (rs.take i)/\x.nid=l0.length+c+(cy k (rs.take i)).length
 | [],_,_,_,rs,h,i,o,x,j,B=>by simp at j
 |q::r,k,tm,c,rs,h,i,o,x,j,B=>by
  obtain⟨y,aa,rfl,N,Z,O,U⟩:=h
  rcases i with _|i
  ·simp at j B;subst j;subst B
   exact⟨O,by simp[fc];exact N,by simp[cy];omega⟩
  simp at j B
  obtain⟨F,G,M⟩:=U.at_ i o x j B
  refine⟨F,by simpa [fc]using G,?_⟩
  rw[M]
  cases Y:y.new<;>simp[cy,Y]<;>omega
def vW:∀(r:List Oper)(rs:List Rec)(tm:Tm)(t:Nat),(∀o∈r,o.dst≠some t)->get (fc tm r rs) t=get tm t
 | [],rs,tm,t,_=>by cases rs<;>rfl
 |o::r,[],tm,t,_=>rfl
 |o::r,x::rs,tm,t,h=>by
  simp only[fc]
  rw[vW r rs _ t (λq k=>h q (by simp[k]))]
  have:=h o (by simp)
  cases j:o.dst with
  |none=>rfl
  |some d=>simp only[bR,DK];rw[if_neg (λe=>this (by rw[j,e]))]
def y1:∀(r:List Oper)(rs:List Rec)(tm:Tm)(t i:Nat)(o:Oper)(x:Rec),r[i]?=some o->rs[i]?=some x->o.dst=some t->(∀j q,r[j]?=some q->j≠i->q.dst≠some t)->get (fc tm r rs) t=x.out
 | [],rs,tm,t,i,o,x,k,_,_,_=>by simp at k
 |q::r,[],tm,t,i,o,x,_,B,_,_=>by simp at B
 |q::r,y::rs,tm,t,i,o,x,k,B,G,hu=>by
  simp only[fc]
  rcases i with _|i
  ·simp at k B;subst k;subst B
   rw[vW r rs _ t (λN F=>by
    obtain⟨j,M,rfl⟩:=gT.1 F
    exact hu (j+1) _ (by simpa using c3 M) (by omega))]
   rw[G];simp[bR,DK]
  simp at k B
  exact y1 r rs _ t i o x k B G (λj N F M=>hu (j+1) N (by simpa using F) (by omega))
def zC:∀(rs:List Rec)(k:Nat),(∀p∈cy k rs,k<=p.1/\p.1<k+rs.length)/\(∀(i:Nat) x a,rs[i]?=some x->x.new=some a->(cy k rs)[(cy k (rs.take i)).length]?=some (k+i,a)) /\
  (∀(p q:Nat) x y,(cy k rs)[p]?=some x->(cy k rs)[q]?=some y->x.1=y.1->p=q)
 | [],k=>by simp[cy]
 |r::rs,k=>by
  obtain⟨M,O,U⟩:=zC rs (k+1)
  cases F:r.new with
  |none=>
   simp only[cy,F,List.nil_append]
   refine⟨λp hp=>by have:=M p hp;simp;omega,λi x a j B=>?_,U⟩
   rcases i with _|i
   ·simp at j;subst j;rw[F]at B;cases B
   simp at j
   have:=O i x a j B
   simp only[List.take_succ_cons,cy,F,List.nil_append]
   rw[this];congr 2;omega
  |some b=>
   simp only[cy,F,List.cons_append,List.nil_append]
   refine⟨λp hp=>?_,λi x a j B=>?_,λp q x y j G N=>?_⟩
   ·rcases fb.1 hp with rfl|hp
    ·simp
    have:=M p hp;simp;omega
   ·rcases i with _|i
    ·simp at j;subst j;rw[F]at B;injection B with B;subst B;simp[cy]
    simp at j
    have:=O i x a j B
    simp only[List.take_succ_cons,cy,F,List.cons_append,List.nil_append,List.length_cons,List.getElem?_cons_succ]
    rw[this];congr 2;omega
   rcases p with _|p<;>rcases q with _|q
   ·rfl
   ·simp at j G;subst j
    have:=(M y (dk G)).1;simp at N;omega
   ·simp at j G;subst G
    have:=(M x (dk j)).1;simp at N;omega
   simp at j G
   rw[U p q x y j G N]
def ER:∀(rs:List Rec)(k:Nat) p,p∈cy k rs->∃i x,p.1=k+i/\rs[i]?=some x/\x.new=some p.2
 | [],k,p,h=>by simp[cy]at h
 |r::rs,k,p,h=>by
  simp only[cy,hP]at h
  rcases h with h|h
  ·cases j:r.new with
   |none=>simp[j]at h
   |some a=>simp[j]at h;subst h;exact⟨0,r,rfl,rfl,j⟩
  obtain⟨i,x,G,B,F⟩:=ER rs (k+1) p h
  exact⟨i+1,x,by omega,by simpa using B,F⟩
def eg(l0:List AO)(j:List (Nat×AO))(L:Nat->Bool):List AO:=l0++j.map λp=>if L p.1=true then p.2 else .dead
theorem LM{l0:List AO}{j:List (Nat×AO)}{L:Nat->Bool}{p:Nat}{k:Nat}{a:AO}(h:j[p]?=some (k,a)):(eg l0 j L)[l0.length+p]?=some (if L k=true then a else .dead):=by
 unfold eg
 rw[hz (by omega),s4,et,h];rfl
theorem WS{l0:List AO}{k:List (Nat×AO)}{L:Nat->Bool}:eH l0 (eg l0 k L):=λ_ j=>e1 j
def WU{l0:List AO}{B:List (Nat×AO)}{L F:Nat->Bool}{p k:Nat}{a:AO}(h:B[p]?=some (k,a))(N:∀q x,B[q]?=some x->x.1=k->q=p)(M:∀j,F j=if j=k then true else L j) :
  (eg l0 B L).set (l0.length+p) a=eg l0 B F:=by
 apply hW
 intro i
 rw[e4]
 by_cases hi:l0.length+p=i
 ·subst hi
  rw[if_pos rfl,if_pos (by unfold eg;have:=(c5.1 h).1;simp;omega),LM h,M k];simp
 rw[if_neg hi]
 unfold eg
 by_cases G:i<l0.length
 ·rw[e1 G,e1 G]
 rw[hz (by omega),hz (by omega),et,et]
 cases O:B[i-l0.length]? with
 |none=>rfl
 |some x=>
  have:x.1≠k:=λe=>hi (by have:=N _ x O e;omega)
  simp[M,this]
def WT{l0:List AO}{j:List (Nat×AO)}{L k:Nat->Bool}(h:∀x∈j,L x.1=k x.1):eg l0 j L=eg l0 j k:=by
 unfold eg
 congr 1
 apply hE
 intro x B
 rw[h x B]
end Go.ag
namespace Go.ag
open Go Go.RowKit
variable [bq][bX]
def JE{α:Type}[DecidableEq α]:∀(l:List α)(f:α->Bool)(i:α),l.Nodup->i∈l->f i=true->(l.filter λk=>f k&&decide (k≠i)).length+1=(l.filter f).length
 | [],f,i,_,hi,_=>by cases hi
 |x::l,f,i,B,hi,j=>by
  have N:x∉l:=(h9.1 B).1
  by_cases h:x=i
  ·subst h
   have:l.filter (λk=>f k&&decide (k≠x))=l.filter f:=by
    apply abp
    intro k M
    have:k≠x:=λe=>N (e▸M)
    simp[this]
   have:=dn List.length this
   simp at this
   simp[j,this]
  have G:i∈l:=by
   rcases fb.1 hi with e|e
   ·exact absurd e.symm h
   exact e
  have O:=JE l f i (h9.1 B).2 G j
  cases F:f x<;>simp[F,h]<;>simp at O<;>omega
def lh(j:Nat)(k:Array Bool):Nat:=((List.range j).filter λi=>!k.getD i false).length
def G9{j i:Nat}{B:Array Bool}(G:B.size=j)(hi:i<j)(M:B.getD i false=false):lh j (B.setIfInBounds i true)+1=lh j B:=by
 unfold lh
 rw[<-JE (List.range j) (λi=>!B.getD i false) i List.nodup_range (hN.2 hi) (by simp only[M];rfl)]
 congr 2
 apply abp
 intro k F
 have F:=hN.1 F
 simp only[gg,J5]
 by_cases h:i=k
 ·subst h;simp[G,hi]
 simp[h,hS h]
def yY{B i k:Nat}{j:Array Bool}(F:j.size=B)(hi:i<B):(j.setIfInBounds i true).getD k false=if k=i then true else j.getD k false:=by
 simp only[gg,J5]
 by_cases h:i=k
 ·subst h;simp[F,hi]
 simp[h,hS h]
def UN{k i:Nat}{j:Array Bool}(B:j.size=k)(hi:i<k):j.getD i true=j.getD i false:=by simp[gg,e7 (show i<j.size by omega)]
section
variable {P:Program}{V:Env}{w0:World}{I0:ay}{n:Nat}{md:Way}{ops:List Oper}{Q:Exit->Act->World->Prop}{K:St->Prop}
def wk(h:nu ops=true){i:Nat}{o:Oper}(k:ops[i]?=some o):∀j∈waits o,j<i:=by
 have:=dT.1 h i (hN.2 (c5.1 k).1)
 simp only[k,dT,ea]at this
 exact this
def tail_at{n1:Nat}(h:ZZ ops n1=true){i:Nat}{o:Oper}(k:ops[i]?=some o)(hi:n1<=i):∀j,j<i->j∈waits o:=by
 intro j B
 have:=dT.1 h i (hN.2 (c5.1 k).1)
 simp only[k,hR,ea,dT,hN,iu]at this
 rcases this with h|h
 ·omega
 exact h j B
def sf{n1:Nat}(h:qq ops n1=true){i j:Nat}{o q:Oper}(hi:i<n1)(F:j<n1)(M:ops[i]?=some o)(N:ops[j]?=some q){d:Nat}(B:q.dst=some d) :
  (i≠j->o.dst≠some d)/\(d∈fU ops o->j<i/\j∈waits o):=by
 have:=dT.1 h i (hN.2 hi)
 simp only[M]at this
 have:=dT.1 this j (hN.2 F)
 simp only[N,B,db,hR,ea,gL,bne_iff_ne,ne_eq,iu]at this
 obtain⟨k,h2⟩:=this
 refine⟨λG=>k.resolve_left G,λO=>?_⟩
 rcases h2 with h2|h2
 ·have:=iu.2 O
  rw[h2]at this;cases this
 exact h2
def qu{B:Array Bool}{i:Nat}(O:B.size=ops.length)(hi:i<ops.length){o:Oper}(F:ops[i]?=some o):i∈Region.ready .any ops.toArray B↔B.getD i false=false/\∀j∈waits o,B.getD j false=true:=by
 rw[mem_ready]
 rw[UN O hi]
 refine and_congr_right λ_=>⟨?_,λh=>⟨o,by simpa using F,λe k M=>h e.on ?_⟩⟩
 ·rintro⟨o',G,h⟩ j N
  have:o'=o:=by simp[F]at G;exact G.symm
  subst this
  obtain⟨e,k,rfl⟩:=gj.1 N
  have k:=hI.1 k
  exact h e (by simpa using k.1) k.2
 exact gj.2 ⟨e,hI.2 ⟨by simpa using k,M⟩,rfl⟩
def xy{k:Array Bool}{i:Nat}(h:i∈Region.ready .any ops.toArray k):i<ops.length:=by
 obtain⟨_,o,j,_⟩:=mem_ready.1 h
 have:=(e6.1 j).1
 simpa using this
structure Inv(w0:World)(I0:ay)(n n1:Nat)(ops:List Oper)(s0:St)(rs:List Rec)(listed:Array Bool)(a:Act)(w:World):Prop where
 size:a.tmps.size=n
 rel:∃I m,aH w0 I0 w I m (eg s0.l (cy 0 rs) λi=>listed.getD i false)/\ei w0.heap.size I a.defers /\
  (∀(i:Nat) o x d,i<n1->ops[i]?=some o->rs[i]?=some x->listed.getD i false=true->o.dst=some d->ar I m (eg s0.l (cy 0 rs) λi=>listed.getD i false) (a.tmps.getD d undef) x.out) /\
  (∀d,(∀(i:Nat) o,i<n1->ops[i]?=some o->listed.getD i false=true->o.dst≠some d)->ar I m (eg s0.l (cy 0 rs) λi=>listed.getD i false) (a.tmps.getD d undef) (get s0.t d))
end
end Go.ag
namespace Go.ag
open Go Go.RowKit
variable [bq][bX]
def ay.eZ(I:ay)(D:Nat):ay:=⟨I.cell,I.mp,λb=>I.df b/\b≠D⟩
theorem Rd.eZ{I:ay}{D:Nat}{v:Value}{d:ag.D}(h:Rd I v d):Rd (I.eZ D) v d:=Rd.oM (J:=I.eZ D) (I:=I) (λ_ _ _ h=>h) (λ_ _ h=>h) h
theorem ar.eZ{I:ay}{m:Nat->Value}{l:List AO}{D:Nat}{v:Value}{t:T}(h:ar I m l v t):ar (I.eZ D) m l v t:=by
 induction h with
 |undef v=>exact .undef v
 |d v x r=>exact .d v x r.eZ
 |bC s=>exact .bC s
 |ptr id b off B F=>exact .ptr id b off B F
 |bB b o size els k off val B F M N=>exact .bB b o size els k off val B F M (λj x U=>(N j x U).eZ)
 |row A n c id B F=>exact .row A n c id B F
 |bJ A n c id x B F M=>exact .bJ A n c id x B F M.eZ
 |bw a id k off B F=>exact .bw a id k off B F
 |map r id B F=>exact .map r id B F
 |aN vs ts B _ G=>exact .aN vs ts B G
 |cond v pc t _ O G=>exact .cond v pc t G O
 |aD g vs ts B _ G=>exact .aD g vs ts B G
 |bf id b B F=>exact .bf id b B F
 |cE id b n c B F M N=>exact .cE id b n c B F M N
 |sub A n c id lo hi B F=>exact .sub A n c id lo hi B F
 |agg vs ts B F _ G=>exact .agg vs ts B F G
def aH.shut{w0 w:World}{I0 I:ay}{m:Nat->Value}{l:List AO}(h:aH w0 I0 w I m l){D:Nat}(ak:I.df D)(aC:w0.heap.size<=D)(o':Obj):aH w0 I0 (w.putObj D o') (I.eZ D) m l:=by
 have aE:=h.sat.kI ak
 have ah:∀b,b≠D->(w.putObj D o').heap[b]?=w.heap[b]?:=λb af=>World.putObj_heap_other af
 have ar:∀{b o v},I.cell b o=some v->b≠D:=λ{b o v} ab e=>by
  subst e
  have:=h.sat.cell b o v ab
  unfold World.cell? at this
  rw[h.sat.df b ak]at this;simp at this
 have av:∀{b Y},I.mp b=some Y->b≠D:=λ{b Y} ab e=>by
  subst e
  have:=(h.sat.mp b Y ab).1
  rw[h.sat.df b ak]at this;cases this
 refine⟨h.below.trans ⟨rfl,rfl,rfl,by simp,λk aD=>ah k (by omega),λ_=>eb _⟩,⟨λb o v ab=>?_,λb Y ab=>dZ.to (ah b (av ab)) (h.sat.mp b Y ab),λb B=>(ah b B.2).trans (h.sat.df b B.1),λg d au=>(h.sat.dz g d au).eZ⟩,
  ⟨h.ext.lc,h.ext.lm,λb af B=>⟨h.ext.ld b af B,by omega⟩,h.ext.cell,h.ext.mp⟩,λid o aw=>?_,h.sep⟩
 ·exact(la (w:=w) (a:=⟨b,o,none⟩) (ah b (ar ab))).trans (h.sat.cell b o v ab)
 have Z:=h.obj id o aw
 by_cases aq:o=.dead
 ·subst aq;trivial
 have ae:∀b,own (m id)=some b->(w.putObj D o').heap[b]?=w.heap[b]?:=λb af=>ah b (λe=>by subst e;exact Z.lP h.sat aq af ak)
 cases o with
 |dead=>trivial
 |var ty cs=>
  obtain⟨b,vs,F,N,O,U,G,aa⟩:=Z
  exact⟨b,vs,F,N,(ae b (by rw[F];rfl)).trans O,U,λi x t ai ht=>⟨(G i x t ai ht).1.eZ,(G i x t ai ht).2⟩,aa⟩
 |row e size els=>
  obtain⟨xs,N,O,U,G⟩:=Z
  exact⟨xs,wH N ae,O,λj x y ai al=>(U j x y ai al).eZ,G⟩
 |br e size els=>
  obtain⟨xs,N,O,U,G⟩:=Z
  exact⟨xs,wH N ae,O,λj x y ai al=>(U j x y ai al).eZ,G⟩
 |map an vs=>
  obtain⟨b,Y,F,N,O,U,G,aa,ad,ag⟩:=Z
  exact⟨b,Y,F,N,dZ.to (ae b (by rw[F];rfl)) O,U,G,λi e d M B=>(aa i e d M B).eZ,λi e d M B=>(ad i e d M B).eZ,ag⟩
 |dR an vs=>
  obtain⟨b,Y,F,N,O,U,G,aa,ad,ag,aj⟩:=Z
  exact⟨b,Y,F,N,dZ.to (ae b (by rw[F];rfl)) O,U,G,λi e d M B=>(aa i e d M B).eZ,λi e d M B=>(ad i e d M B).eZ,ag,aj⟩
 |bz e size an vs aF=>
  obtain⟨b,Y,F,N,O,U,G,aa,ad,ag,aj,ao⟩:=Z
  exact⟨b,Y,F,N,dZ.to (ae b (by rw[F];rfl)) O,U,G,λi e d M B=>(aa i e d M B).eZ,λi e d M B=>(ad i e d M B).eZ,ag,aj,ao.cM (λ_ _ h=>h.eZ) ⟨λb u az _=>⟨ah b (ar az),rfl,rfl⟩,λq b ax af=>.inl ⟨q,ax,af⟩⟩ aj G⟩
 |iter an vs done=>
  obtain⟨b,aA,Y,seen,F,N,O,U,G,aa,ad,ag,aj,ao⟩:=Z
  exact⟨b,aA,Y,seen,F,N,(ae b (by rw[F];rfl)).trans O,U,G,aa,λi e d M B=>(ad i e d M B).eZ,λi e d M B=>(ag i e d M B).eZ,aj,ao⟩
 |frame base vals t=>exact⟨Z.1,Z.2.1,λk=>(Z.2.2 k).eZ⟩
 |loop base n ps bc aB t st cY=>
  obtain⟨b,r,F,N,O,U,G,aa,ad⟩:=Z
  exact⟨b,r,F,N,(ae b (by rw[F];rfl)).trans O,U,G,λk=>(aa k).eZ,ad⟩
theorem Nz{P:Program}{F:Fence}{n:Nat}{w0:World}{I0:ay}{m:Nat->Value}{l:List AO}:∀(j:List Nat)(w:World)(I:ay),aH w0 I0 w I m l->j.Nodup->(∀D∈j,w0.heap.size<=D/\I.df D) ->
  ∃w' J,aH w0 I0 w' J m l/\(∀b,b∉j->I.df b->J.df b)/\(∀v t,ar I m l v t->ar J m l v t)/\∀(fn:Func)(k:Array Value)(R:Ending->World->Prop),(∃v,(results fn k).run P w'=.ok v w'/\R (.returned v) w')->LeavesInM F n P fn k R (j.map mark) .returning w
 | [],w,I,h,_,_=>⟨w,I,h,λ_ _ h=>h,λ_ _ h=>h,λ_ _ _ G=>G⟩
 |D::j,w,I,h,ad,B=>by
  obtain⟨U,N⟩:=B D (by simp)
  obtain⟨aa,ab⟩:=h9.1 ad
  obtain⟨w',J,af,ag,ah,ai⟩:=Nz (P:=P) (F:=F) (n:=n) j (w.putObj D (.deferred none)) (I.eZ D) (h.shut N U _) ab λx M=>⟨(B x (by simp[M])).1,(B x (by simp[M])).2,λe=>aa (e▸M)⟩
  refine⟨w',J,af,λb O Y=>ag b (λZ=>O (by simp[Z])) ⟨Y,λe=>O (by simp[e])⟩,λv t ae=>ah v t ae.eZ,λfn k R G=>?_⟩
  exact⟨by simp,.inl ⟨D,_,rfl,run_takeDeferred (h.sat.df D N),ai fn k R G⟩⟩
theorem CG{P:Program}{f:FuncId}{fn:Func}{c:Code}{j:Array Value}{w:World}{R:Ending->World->Prop}(F:bX.r=none)(B:P.funcs[f]?=some fn)(k:fn.body=some c)(h:c.wpIn dc 0 P (bodyPostM dc 0 P fn R) {tmps:=j++Array.replicate (fn.ntmps-j.size) undef,defers:=[]} w):Calls P f j w R:=by
 have e:dc=Fence.wide:=by unfold dc;rw[F];rfl
 rw[e]at h
 exact(vi (n:=0)).1 (callsIn_of_wp_marks B k trivial h)
theorem C4{P:Program}{fn:Func}{e:Exit}{a:Act}{w0 w:World}{I0 I:ay}{m:Nat->Value}{l:List AO}(Y:e=.ret\/e=.normal)(h:aH w0 I0 w I m l)(U:ei w0.heap.size I a.defers) :
  ∃w' J,aH w0 I0 w' J m l/\(∀b,bX.cM b->J.df b)/\(∀v t,ar I m l v t->ar J m l v t)/\∀(R:Ending->World->Prop),(∃v,(results fn a.tmps).run P w'=.ok v w'/\R (.returned v) w')->bodyPostM dc 0 P fn R e a w:=by
 obtain⟨G,M,N,j,O⟩:=U
 obtain⟨w',J,ab,ad,ae,af⟩:=Nz (P:=P) (F:=dc) (n:=0) G w I h N λD k=>⟨(j D k).1,(j D k).2.2⟩
 refine⟨w',J,ab,λb B=>ad b (λZ=>(j b Z).2.1 B) (O b B),ae,λR aa=>?_⟩
 have:=af fn a.tmps R aa
 rw[<-M]at this
 rcases Y with rfl|rfl<;>exact this
end Go.ag
namespace Go.ag
open Go Go.RowKit
variable [bq][bX]
def aL(P:Program)(w0:World)(I0:ay)(n:Nat)(c:Code)(s:St)(Q:Exit->St->Prop):Prop:=∀a w,Rel w0 I0 n s a w->c.wpIn dc 0 P (λe j w'=>∃s',Q e s'/\Rel w0 I0 n s' j w') a w
def Sub(s s':St):Prop:=∀w0 I0 n a w,Rel w0 I0 n s a w->Rel w0 I0 n s' a w
theorem Sub.refl(s:St):Sub s s:=λ_ _ _ _ _ h=>h
section
variable {P:Program}{V:Env}{w0:World}{I0:ay}{n:Nat}{Q Q':Exit->St->Prop}{s s':St}{x y:Code}
theorem aL.mono(h:aL P w0 I0 n x s Q)(B:∀e s,Q e s->Q' e s):aL P w0 I0 n x s Q':=λa w F=>n4 (λe _ _ ⟨s',j,k⟩=>⟨s',B e s' j,k⟩) (h a w F)
theorem aL.sub(k:Sub s s')(h:aL P w0 I0 n x s' Q):aL P w0 I0 n x s Q:=λa w j=>h a w (k _ _ _ _ _ j)
def qw(K:St->Prop)(Q:Exit->St->Prop):Exit->St->Prop
 |.normal,s=>K s
 |e,s=>Q e s
theorem aL.seq(h:aL P w0 I0 n x s (qw (λs'=>aL P w0 I0 n y s' Q) Q)):aL P w0 I0 n (x.seq y) s Q:=λa w F=>wpIn_seq (n4 (λe B w' ⟨s',j,k⟩=>by cases e<;>first|exact j B w' k|exact⟨s',j,k⟩) (h a w F))
@[reducible] def ch:bX:=⟨none,λ_=>False⟩
def yo:T->Option Bool
 |.d (.bool b)=>some b
 |_=>none
theorem aL.cond{c:Operand}{b:Bool}(j:yo (bN s.t c)=some b)(F:b=true->aL P w0 I0 n x s Q)(G:b=false->aL P w0 I0 n y s Q):aL P w0 I0 n (.cond c x y) s Q:=λa w k=>by
 have U:=k
 obtain⟨_,I,m,Y,_,ht⟩:=U
 have B:=mg Y.sat.dz ht c
 have O:bN s.t c=.d (.bool b):=by
  unfold yo at j
  split at j
  ·rename_i Z N;injection j with j;rw[N,j]
  cases j
 rw[O]at B
 have:=cz B
 generalize M:a.eval c=v at this
 cases this
 refine wpIn_cond M ?_
 cases b with
 |true=>exact F rfl a w k
 |false=>exact G rfl a w k
def Kv(id:Nat)(Q:Exit->St->Prop):Exit->St->Prop
 |.exit j,s=>if j=id then Q .normal s else Q (.exit j) s
 |e,s=>Q e s
def aL.block{id:Nat}(h:aL P w0 I0 n x s (Kv id Q)):aL P w0 I0 n (.block id x) s Q:=λa w F=>
 wpIn_block (n4 (λe G w' ⟨s',j,k⟩=>by
  cases e<;>first|exact⟨s',j,k⟩|skip
  simp only[Kv]at j
  simp only[Exit.inBlock]
  split<;>rename_i B
  ·rw[if_pos B]at j;exact⟨s',j,k⟩
  rw[if_neg B]at j;exact⟨s',j,k⟩) (h a w F))
theorem aL.exit{id:Nat}(h:Q (.exit id) s):aL P w0 I0 n (.exit id) s Q:=λ_ _ j=>wpIn_exit ⟨s,h,j⟩
theorem aL.ret(h:Q .ret s):aL P w0 I0 n .ret s Q:=λ_ _ j=>wpIn_ret ⟨s,h,j⟩
theorem aL.skip(h:Q .normal s):aL P w0 I0 n .skip s Q:=λ_ _ j=>wpIn_skip ⟨s,h,j⟩
theorem aL.loop{X:Type}(F:X->St)(p:X->Prop)(j:X->Nat)(B:X)(O:p B)(U:Sub s (F B))(ab:∀z,p z->aL P w0 I0 n x (F z) (qw (λs'=>∃z',p z'/\j z'<j z/\Sub s' (F z')) Q)):aL P w0 I0 n (.loop x) s Q:=λa w G=>by
 refine wpIn_loop_ghost (λk a w=>∃z,p z/\j z=k/\Rel w0 I0 n (F z) a w) (j B) ⟨B,O,rfl,U _ _ _ _ _ G⟩ λk a w ⟨z,Y,ae,G⟩=>?_
 refine n4 (λe ad w' ⟨s',M,N⟩=>?_) (ab z Y a w G)
 cases e<;>first|exact⟨s',M,N⟩|skip
 obtain⟨z',Z,af,aa⟩:=M
 exact⟨j z',by omega,z',Z,rfl,aa _ _ _ _ _ N⟩
def fq(V:Env)(s:St):ResultVar->T×Prop
 |.tmp t=>(get s.t t,True)
 |.cell a ty=>match fo V.E ty s.l (get s.t a)with| ⟨t,.none,ob⟩=>(t,ob)|_=>(.undef,False)
def xA(V:Env)(s:St)(j:List ResultVar)(r:D):Prop:=
 lR (j.map λv=>(fq V s v).2)/\match fh s.l (j.map λv=>(fq V s v).1)with
  |some ([d],_)=>d=r
  |some (ds,_)=>D.aN ds=r
  |none=>False
def xz(j:Array Value):ResultVar->Sem Value
 |.tmp t=>pure (j.getD t undef)
 |.cell b t=>do loadVar t (<-asAddr (j.getD b undef))
def Gi(fn:Func)(j:Array Value):results fn j=(do
  let vs <-fn.results.mapM (xz j)
  pure (if h:vs.size=1 then vs[0]else .tuple vs)):=by
 unfold results
 congr 1
theorem BA(Z:cq P V.E){I:ay}{m:Nat->Value}{w:World}{a:Act}(ab:aH w0 I0 w I m s.l)(ht:∀k,ar I m s.l (a.tmps.getD k undef) (get s.t k)):∀(F:List ResultVar),lR (F.map λv=>(fq V s v).2) ->
  ∃vs:List Value,(F.mapM (xz a.tmps)).run P w=.ok vs w/\vs.length=F.length/\∀(i:Nat) v t,vs[i]?=some v->(F.map λv=>(fq V s v).1)[i]?=some t->ar I m s.l v t
 | [],_=>⟨[],by simp,rfl,by simp⟩
 |q::F,h=>by
  obtain⟨j,ad⟩:=h
  obtain⟨vs,af,ag,ah⟩:=BA Z ab ht F ad
  have ae:∃v,(xz a.tmps q).run P w=.ok v w/\ar I m s.l v (fq V s q).1:=by
   cases q with
   |tmp t=>exact⟨_,by simp[xz],ht t⟩
   |cell b ty=>
    simp only[fq]at j⊢
    have O:=ht b
    split at j
    ·rename_i t ob B
     obtain⟨_,u,G,U⟩:=KT Z ab (eH.refl _) (ty:=ty) O (by rw[B];exact j)
     rw[B]at U
     refine⟨u,?_,by simpa [B]using U⟩
     have:∃Y,a.tmps.getD b undef=.pointer (some Y):=by
      generalize a.tmps.getD b undef=v at O
      generalize get s.t b=ai at O B
      cases O<;>first|exact⟨_,rfl⟩| (simp only[fo,R.bad,R.mk.injEq]at B;rw[<-B.2.2]at j;exact j.elim)
     obtain⟨Y,aa⟩:=this
     rw[aa]at G
     simp only[Instr.loadAt,Instr.sureAddr,fv,Sem.run_pure,Result.andThen_ok]at G
     simp only[xz,aa,asAddr,fv,Sem.run_pure,Result.andThen_ok]
     exact G
    exact j.elim
  obtain⟨v,G,U⟩:=ae
  refine⟨v::vs,?_,by simp[ag],λi u t N M=>?_⟩
  ·rw[k8]
   simp only[fv,G,Result.andThen_ok,af,Sem.run_pure]
  rcases i with _|i
  ·simp at N M;subst N;subst M;exact U
  simp at N M;exact ah i u t N (by simpa using M)
def lY:Nat->List D->Tm
 |_,[]=>[]
 |k,d::ds=>(k,.d d)::lY (k+1) ds
def N3:∀(ds:List D)(k j:Nat),get (lY k ds) j=if k<=j then(match ds[j-k]? with|some d=>.d d|none=>.undef)else .undef
 | [],k,j=>by simp[lY,get]
 |d::ds,k,j=>by
  simp only[lY,get]
  by_cases h:k=j
  ·subst h;simp
  rw[if_neg h,N3 ds (k+1) j]
  by_cases B:k<=j
  ·rw[if_pos (by omega),if_pos B,show j-k=(j-(k+1))+1 by omega];simp
  rw[if_neg (by omega),if_neg B]
def jf:Nat->List T->Tm
 |_,[]=>[]
 |k,t::ts=>(k,t)::jf (k+1) ts
def GG:∀(ts:List T)(k j:Nat),get (jf k ts) j=if k<=j then(ts[j-k]?).getD .undef else .undef
 | [],k,j=>by simp[jf,get]
 |d::ds,k,j=>by
  simp only[jf,get]
  by_cases h:k=j
  ·subst h;simp
  rw[if_neg h,GG ds (k+1) j]
  by_cases B:k<=j
  ·rw[if_pos (by omega),if_pos B,show j-k=(j-(k+1))+1 by omega];simp
  rw[if_neg (by omega),if_neg B]
def xS:List T->T
 | [t]=>t
 |ts=>.aN ts
def sP(V:Env)(s2:St)(k:List ResultVar)(base:Nat)(vals:Nat->Value)(ft:Tm)(K:T->List AO->Prop):Prop:=∃j,Sub s2 j/\lR (k.map λv=>(fq V j v).2)/\j.l[base]?=some (.frame base vals ft)/\K (xS (k.map λv=>(fq V j v).1)) j.l
theorem iP.of{f:FuncId}{fn:Func}{c:Code}{ts:List T}{l:List AO}{K:T->List AO->Prop}(av:cA P V)(aB:Enters P f)(aD:P.funcs[f]?=some fn)(ay:fn.body=some c)(a8:ts.length<=fn.ntmps)(h:∀(R:bX),R.r=none->∀w0 I0 vals ft(Q:Exit->St->Prop),(∀e s2,(e=.ret\/e=.normal)->sP V s2 fn.results.toList l.length vals ft K->Q e s2)->aL P w0 I0 fn.ntmps c ⟨jf 0 ts,l++[.frame l.length vals ft]⟩ Q):iP P f ts l K:=by
 refine⟨aB,λw0 I0 w I m O vals ft aa aR ax aG=>?_⟩
 let R:bX:=⟨none,I.df⟩
 refine CG (R:=λe w'=>∃v,e=.returned v/\∃t l' J m',K t l'/\aH w0 I0 w' J m' l'/\ar J m' l' v t/\(∀b,I.df b->J.df b)/\∀k,ar J m' l' (vals k) (get ft k)) rfl aD ay ?_
 have an:aH w0 I0 w I (aP m l.length (.bool false)) (l++[.frame l.length vals ft])/\Le I m l I (aP m l.length (.bool false)) (l++[.frame l.length vals ft]):=by
  have Z:∀k,k<l.length->(l++[AO.frame l.length vals ft])[k]?=l[k]?:=λk U=>e1 U
  have aQ:(l++[AO.frame l.length vals ft])[l.length]?=some (.frame l.length vals ft):=by simp
  have ah:Le I m l I (aP m l.length (.bool false)) (l++[.frame l.length vals ft]):=by
   refine⟨.refl I,by simp,λid N G=>⟨?_,bW m _ (by omega)⟩,λid N Y=>⟨?_,bW m _ (by omega)⟩,λid au s' els' N ag=>⟨els',?_⟩⟩
   ·unfold isVar at G⊢;rw[Z id N];exact G
   ·unfold isRow at Y⊢;rw[Z id N]at Y;exact Y
   rw[Z id N]at ag;exact ag
  have aq:∀k,k≠l.length->alive (l++[AO.frame l.length vals ft]) k=true->alive l k=true:=by
   intro k U aw
   obtain⟨o,F,M⟩:=bM.1 aw
   have aM:k<l.length:=by have:=(c5.1 F).1;simp at this;omega
   rw[Z k aM]at F
   exact bM.2 ⟨o,F,M⟩
  refine⟨⟨aa.below,aa.sat,aa.ext,λid o F=>?_,λi j b aI hi aJ ae af=>?_⟩,ah⟩
  ·by_cases N:id<l.length
   ·rw[Z id N]at F;rw[bW m _ (by omega)]
    by_cases M:o=.dead
    ·subst M;trivial
    exact(aa.obj id o F).cM ah (λ_ _=>rfl) (λ_ _=>⟨rfl,rfl⟩) (.push (λ_ _ _=>rfl) rfl)
   have:id=l.length:=by have:=(c5.1 F).1;simp at this;omega
   subst this
   rw[aQ]at F;injection F with F;subst F
   rw[dM]
   refine⟨rfl,by simp,λk=>?_⟩
   have e:(l++[AO.frame l.length vals ft]).take l.length=l:=by simp
   rw[e]
   refine(aG k).mono ⟨.refl I,eb _,λid N G=>⟨G,bW m _ (by omega)⟩,λid N Y=>⟨Y,bW m _ (by omega)⟩,λid au s' els' N ag=>⟨els',ag⟩⟩
  by_cases aj:i=l.length
  ·subst aj;rw[dM]at ae;cases ae
  by_cases ak:j=l.length
  ·subst ak;rw[dM]at af;cases af
  rw[bW m _ aj]at ae;rw[bW m _ ak]at af
  exact aa.sep i j b aI (aq i aj hi) (aq j ak aJ) ae af
 obtain⟨an,ah⟩:=an
 have aU:Rel w0 I0 fn.ntmps ⟨jf 0 ts,l++[.frame l.length vals ft]⟩ {tmps:=O++Array.replicate (fn.ntmps-O.size) undef,defers:=[]} w:=by
  refine⟨by simp;omega,I,_,an,ei.nil λ_ h=>h,λk=>?_⟩
  rw[GG]
  simp only[j2,hK,Nat.sub_zero]
  cases M:ts[k]? with
  |none=>exact .undef _
  |some d=>
   have U:k<O.size:=by rw[aR];exact(c5.1 M).1
   have G:O[k]?=some O[k]:=e7 U
   have:(O++Array.replicate (fn.ntmps-O.size) undef).getD k undef=O[k]:=by rw[gg,ik U,G];rfl
   rw[this]
   exact(ax k _ d G M).mono ah
 refine n4 (λe a bb ⟨s2,⟨al,ad,aV,aS,aF,U⟩,Y⟩=>?_) (h R rfl w0 I0 vals ft (λe s2=>(e=.ret\/e=.normal)/\sP V s2 fn.results.toList l.length vals ft K) (λe s2 al aY=>⟨al,aY⟩) _ _ aU)
 obtain⟨_,a7,m',aX,az,aW⟩:=aV _ _ _ _ _ Y
 obtain⟨w',J,ao,aK,aA,aC⟩:=C4 (P:=P) (fn:=fn) (a:=a) al aX az
 refine aC _ ?_
 have ht:∀k,ar J m' ad.l (a.tmps.getD k undef) (get ad.t k):=λk=>aA _ _ (aW k)
 obtain⟨ab,aZ,a1,ai⟩:=BA (P:=P) av.E ao ht fn.results.toList aS
 have aT:(results fn a.tmps).run P w'=.ok (if h:ab.length=1 then ab[0]else .tuple ab.toArray) w':=by
  rw[Gi]
  simp only[fv,vc,Sem.run_map,aZ,Result.andThen_ok,Sem.run_pure]
  simp
 have aE:=ao.obj _ _ aF
 refine⟨_,aT,_,rfl,_,_,J,m',U,ao,?_,aK,λk=>(aE.2.2 k).mono (Le.vg J m' ad.l l.length)⟩
 have B:ab.length=(fn.results.toList.map λv=>(fq V ad v).1).length:=by simp[a1]
 generalize (fn.results.toList.map λv=>(fq V ad v).1)=a6 at B ai
 match a6,B with
 | [t],B=>
  have aO:ab.length=1:=B
  rw[dif_pos aO]
  exact ai 0 _ t (c3 (by omega)) rfl
 | [],B=>
  rw[dif_neg (by simp at B;simp[B])]
  exact .aN _ _ (by simpa using B) (λi v d G M=>ai i v d (by simpa using G) M)
 |t1::t2::ba,B=>
  rw[dif_neg (by rw[B];simp)]
  exact .aN _ _ (by simpa using B) (λi v d G M=>ai i v d (by simpa using G) M)
theorem fE.of{f:FuncId}{fn:Func}{c:Code}{ds:List D}{r:D}(ae:cA P V)(ak:P.funcs[f]?=some fn)(af:fn.body=some c)(aG:ds.length<=fn.ntmps)(h:∀(R:bX),R.r=none->∀w0 I0,aL P w0 I0 fn.ntmps c ⟨lY 0 ds,[]⟩ λe s=>(e=.ret\/e=.normal)/\xA V s fn.results.toList r):fE P f ds r:=by
 intro w I vs ax al au
 let R:bX:=⟨none,I.df⟩
 refine CG (R:=λe w'=>∃v J,e=.returned v/\dN w.heap.size w w'/\fD w.heap.size I J/\du w' J/\Rd J v r) rfl ak af ?_
 have av:Rel w I fn.ntmps ⟨lY 0 ds,[]⟩ {tmps:=vs++Array.replicate (fn.ntmps-vs.size) undef,defers:=[]} w:=by
  refine⟨by simp;omega,I,λ_=>undef,⟨dN.refl _ _,ax,fD.refl _ _,by simp,by simp[alive,isVar,isRow]⟩,ei.nil λ_ h=>h,λk=>?_⟩
  rw[N3]
  simp only[j2,hK,Nat.sub_zero]
  cases j:ds[k]? with
  |none=>exact .undef _
  |some d=>
   have aa:k<vs.size:=by rw[al];exact(c5.1 j).1
   have N:vs[k]?=some vs[k]:=e7 aa
   have:(vs++Array.replicate (fn.ntmps-vs.size) undef).getD k undef=vs[k]:=by rw[gg,ik aa,N];rfl
   rw[this]
   exact .d _ _ (au k _ d N j)
 refine n4 (λe a aH ⟨s,⟨ai,ao,M⟩,aq⟩=>?_) (h R rfl w I _ _ av)
 obtain⟨_,aF,m,az,ag,ay⟩:=aq
 obtain⟨w',J,O,_,ah,aj⟩:=C4 (P:=P) (fn:=fn) (a:=a) ai az ag
 refine aj _ ?_
 have ht:∀k,ar J m s.l (a.tmps.getD k undef) (get s.t k):=λk=>ah _ _ (ay k)
 obtain⟨F,aE,ab,ad⟩:=BA (P:=P) ae.E O ht fn.results.toList ao
 have fin:∃v,(results fn a.tmps).run P w'=.ok v w'/\∃J',fD w.heap.size I J'/\du w' J'/\Rd J' v r:=by
  have aw:(results fn a.tmps).run P w'=.ok (if h:F.length=1 then F[0]else .tuple F.toArray) w':=by
   rw[Gi]
   simp only[fv,vc,Sem.run_map,aE,Result.andThen_ok,Sem.run_pure]
   simp
  refine⟨_,aw,?_⟩
  split at M
  ·rename_i d l' j
   obtain⟨J',le,G,B,U,_⟩:=oa _ _ _ F [d] l' O (by simp[ab]) ad j
   subst M
   have B:F.length=1:=B
   refine⟨J',G.ext,G.sat,?_⟩
   rw[dif_pos B]
   exact U 0 _ d (c3 (by omega)) rfl
  ·rename_i Y l' an j
   obtain⟨J',le,G,B,U,_⟩:=oa _ _ _ F Y l' O (by simp[ab]) ad j
   subst M
   refine⟨J',G.ext,G.sat,?_⟩
   by_cases Z:F.length=1
   ·rw[Z]at B
    match Y,B with
    | [d],_=>exact(an d rfl).elim
   rw[dif_neg Z]
   exact .aN _ _ (by simp[B]) (λi v d N j=>U i v d (by simpa using N) j)
  exact M.elim
 obtain⟨v,aA,J',aB,aC,aD⟩:=fin
 exact⟨v,aA,v,J',rfl,O.below,aB,aC,aD⟩
end
end Go.ag
namespace Go.ag
open Go Go.RowKit
def cq.EX{P:Program}{k:List (Nat×TI)}(h:k.all (λp=>xP P p.1 p.2)=true):cq P (λt=>(k.find? λp=>p.1 == t).map (·.2)):=by
 intro t i ht
 cases j:k.find? (λp=>p.1 == t)with
 |none=>simp[j]at ht
 |some p=>
  simp[j]at ht
  have B:=j5 j
  have F:=dT.1 h p (gW j)
  simp at B
  subst B;subst ht
  exact F
theorem Enters.of{P:Program}{f:FuncId}{fn:Func}(j:P.funcs[f]?=some fn)(h:(fn.name == "runtime.NumGoroutine")=false/\fn.body.isNone=false):Enters P f:=by
 intro k w
 simp only[callFunc,fv,run_program,Result.andThen_ok,j,h.1,h.2,hQ,h8,Sem.run_pure]
variable [bq][bX]
section
variable {P:Program}{V:Env}{w0:World}{I0:ay}{n:Nat}{Q:Exit->St->Prop}{s s1:St}{y:Code}
end
end Go.ag