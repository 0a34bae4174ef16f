import Derived.Test.YthhlipkkjippfaaGreatDoorX1
import Derived.Maps.RangeRun
import Derived.Laws.IdiomStrings
import Derived.MapKept
import Derived.WideKeyRuns
import Derived.Laws.OwnMore
import Derived.RangeFuncRecord
import Derived.Deep.LoopGhost
import Derived.KernelRfl
set_option linter.all false
namespace Go.ak
open Go Go.RowKit
variable [bm]
section
variable {P:Program}{V:Env}{w0 w:World}{I0 I:aD}{m:Nat->Value}{l L:List AO}{nid:Nat}{o:Oper}{ρ:Operand->Value}{ρT:Operand->T}
def Pd(base:Nat)(t ty e:TypeId)(i:TypeInfo)(size:Nat)(ht:P.underlying t=some (.slice e))(hi:P.info? e=some i)(v:Value)(n:Nat)(xs:List Value)(k:w.ownsRow base e size v n xs)(c:Nat):(Builtin.append_ #[t,t] ty #[v,.slice none 0 c]).run P w=.ok v w:=by
 rcases k.2 with ⟨rfl,rfl⟩| ⟨g,B,cur,rfl,_,_,j,_⟩
 ·simp[Builtin.append_,hE ht,sizeOf,typeInfo,hi,Builtin.lenOf,Builtin.firstCells]
 simp[Builtin.append_,hE ht,sizeOf,typeInfo,hi,Builtin.lenOf,Builtin.firstCells,j,storeCells]
theorem Pe(av:ct P V.E)(az:cZ w I){t ty e:TypeId}{i:TI}(k:P.underlying t=some (.slice e))(hi:V.E e=some i)(ag:0<i.size){base:Nat}{v au:Value}{n ar:Nat}{xs:List Value}{new:List D}(Y:w.ownsRow base e i.size v n xs)(aA:Rd I au (.slice ar new))(hsz:ar=i.size\/new.isEmpty=true)(ae:(n+new.length)*i.bytes<=140737488355328)(an:n+new.length<=9223372036854775807)(af:base<=w.heap.size) :
  ∃B w' aq,(Builtin.append_ #[t,t] ty #[v,au]).run P w=.ok B w'/\w'.ownsRow base e i.size B (n+new.length) (xs++aq)/\w.grownBy w' v.ownBlock/\(B.ownBlock=v.ownBlock\/B.ownBlock=some w.heap.size) /\
   (∀d∈new,d.cells.length=i.size/\∀x∈d.cells,x.one=true)/\(∀(j:Nat) x y,aq[j]?=some x->(flat new)[j]?=some y->Rd I x y):=by
 obtain⟨x,ad,aa,ai,aj,ak,aB,aG,aH,aI⟩:=fq (av e i hi);have ah:ad.cells.size=i.size:=by have:=(qQ I _ _ aB).1;rw[Array.length_toList]at this;omega
 cases aA with
 |ko A c _ aF=>
  cases A with
  |none=>exact⟨v,w,[],Pd base t ty e x i.size k aa v n xs Y c,by simpa using Y,World.grownBy.refl w _,.inl rfl,by simp,by simp⟩
  |some a=>
   obtain⟨B,w',G,M,N,_,O⟩:=w1 (P:=P) w base t ty e x ad i.size i.bytes k aa ak ai aj ah ag v n xs Y a 0 c [] (by simp) (by simp) (by simp) (by unfold maxLen;simp at an;omega) (by simpa using ae) af;exact⟨B,w',[],G,by simpa using M,N,O,by simp,by simp⟩
 |slice b off aJ c size els val aC aK aL ab aD aE=>
  subst aC;rcases hsz with hsz|hsz
  ·subst hsz;have ax:∀(j:Nat) u,((List.range (new.length*i.size)).map val)[j]?=some u->w.cell? ((⟨b,off,none⟩:Addr).add j)=some u:=by
    intro j u k;rw[e3]at k;by_cases F:j<new.length*i.size
    ·rw[ia F]at k;simp at k;rw[qc,az.cell _ _ _ (aD j F),k]
    rw[hJ (by simp;omega)]at k;cases k
   have ao:∀(j:Nat) x y,((List.range (new.length*i.size)).map val)[j]?=some x->(flat new)[j]?=some y->Rd I x y:=by
    intro j u y k Z;have F:j<new.length*i.size:=by rw[<-iC new (λd U=>(ab d U).1)];exact(db.1 Z).1
    rw[e3,ia F]at k;simp at k;subst k;exact aE j y Z
   have ay:∀u∈(List.range (new.length*i.size)).map val,u.oneCell'=true:=by
    intro u k;obtain⟨j,F,rfl⟩:=hF.1 k;have al:j<(flat new).length:=by rw[iC new (λd U=>(ab d U).1)];simpa using F
    have Z:(flat new)[j]?=some (flat new)[j]:=c5 al;refine(ao j _ _ (c5 F) Z).one ?_;obtain⟨d,U,aw⟩:=k0.1 (ie al);exact(ab d U).2 _ aw
   obtain⟨B,w',G,M,N,_,O⟩:=w1 (P:=P) w base t ty e x ad i.size i.bytes k aa ak ai aj ah ag v n xs Y ⟨b,off,none⟩ new.length c ((List.range (new.length*i.size)).map val) (by simp) ax ay (by unfold maxLen;omega) ae af;exact⟨B,w',_,G,M,N,O,ab,ao⟩
  have:new=[]:=by simpa using hsz
  subst this;obtain⟨B,w',G,M,N,_,O⟩:=w1 (P:=P) w base t ty e x ad i.size i.bytes k aa ak ai aj ah ag v n xs Y ⟨b,off,none⟩ 0 c [] (by simp) (by simp) (by simp) (by unfold maxLen;simp at an;omega) (by simpa using ae) af;exact⟨B,w',[],G,by simpa using M,N,O,by simp,by simp⟩
theorem HP(base:Nat)(t ty e:TypeId)(i:TypeInfo)(z:Value)(size bytes:Nat)(ht:P.underlying t=some (.slice e))(hi:P.info? e=some i)(af:i.zero=some z)(ae:i.size=size)(aa:i.bytes=bytes)(ao:z.cells.size=size)(an:0<size)(v:Value)(n:Nat)(xs:List Value)(M:w.ownsRow base e size v n xs)(a:Addr)(m c:Nat)(F:List Value)(hl:F.length=m*size)(O:∀j u,F[j]?=some u->w.cell? (a.add j)=some u)(Y:∀u∈F,u.oneCell'=true)(Z:n+m<=maxLen)(ab:(n+m)*bytes<=140737488355328)(ah:base<=w.heap.size) :
  ∃G w',(Builtin.append_ #[t,t] ty #[v,.slice (some a) m c]).run P w=.ok G w'/\w'.ownsRow base e size G (n+m) (xs++F)/\w.grownBy w' v.ownBlock/\(G.ownBlock=v.ownBlock\/(G.ownBlock=some w.heap.size/\w.grownBy w' none)):=by
 obtain⟨G,w',U,aq,ag,_,r5⟩:=w1 (P:=P) w base t ty e i z size bytes ht hi af ae aa ao an v n xs M a m c F hl O Y Z ab ah;refine⟨G,w',U,aq,ag,?_⟩;rcases r5 with r5|r5
 ·exact .inl r5
 subst ae;subst aa;rcases M.2 with ⟨rfl,rfl⟩| ⟨g,N,cur,rfl,ar,ak,av,au,ai,ax⟩
 ·exact .inr ⟨r5,ag⟩
 have aw:n+m<=9223372036854775807:=by simp only[maxLen]at Z;omega
 by_cases ad:n+m<=N
 ·have aj:n*i.size+F.length<=cur.size:=by rw[hl,ai,<-p5];exact la _ ad
  have B:=run_append_room (P:=P) w t ty e i ht hi g n N cur ak a m c F hl O Y ad aj;rw[U]at B;injection B with B _;subst B;exact .inl rfl
 have holds:∀j u,xs[j]?=some u->w.cell? ((⟨g,0,none⟩:Addr).add j)=some u:=M.cells (g:=g) rfl;have B:=run_append_grow (P:=P) w t ty e i z ht hi af ⟨g,0,none⟩ n N xs M.1 holds a m c F hl O (by omega) (by omega) (growslice_fits (by omega) ab);rw[U]at B;injection B with _ B;subst B;exact .inr ⟨r5,rfl,rfl,rfl,by simp,λk al h=>(q0 w.drew _ none).block k al h⟩
theorem abf(av:ct P V.E)(az:cZ w I){t ty e:TypeId}{i:TI}(k:P.underlying t=some (.slice e))(hi:V.E e=some i)(ag:0<i.size){base:Nat}{v au:Value}{n ar:Nat}{xs:List Value}{new:List D}(Y:w.ownsRow base e i.size v n xs)(aA:Rd I au (.slice ar new))(hsz:ar=i.size\/new.isEmpty=true)(ae:(n+new.length)*i.bytes<=140737488355328)(an:n+new.length<=9223372036854775807)(af:base<=w.heap.size) :
  ∃B w' aq,(Builtin.append_ #[t,t] ty #[v,au]).run P w=.ok B w'/\w'.ownsRow base e i.size B (n+new.length) (xs++aq)/\w.grownBy w' v.ownBlock/\(B.ownBlock=v.ownBlock\/(B.ownBlock=some w.heap.size/\w.grownBy w' none)) /\
   (∀d∈new,d.cells.length=i.size/\∀x∈d.cells,x.one=true)/\(∀(j:Nat) x y,aq[j]?=some x->(flat new)[j]?=some y->Rd I x y):=by
 obtain⟨x,ad,aa,ai,aj,ak,aB,aG,aH,aI⟩:=fq (av e i hi);have ah:ad.cells.size=i.size:=by have:=(qQ I _ _ aB).1;rw[Array.length_toList]at this;omega
 cases aA with
 |ko A c _ aF=>
  cases A with
  |none=>exact⟨v,w,[],Pd base t ty e x i.size k aa v n xs Y c,by simpa using Y,World.grownBy.refl w _,.inl rfl,by simp,by simp⟩
  |some a=>
   obtain⟨B,w',G,M,N,O⟩:=HP (P:=P) base t ty e x ad i.size i.bytes k aa ak ai aj ah ag v n xs Y a 0 c [] (by simp) (by simp) (by simp) (by unfold maxLen;simp at an;omega) (by simpa using ae) af;exact⟨B,w',[],G,by simpa using M,N,O,by simp,by simp⟩
 |slice b off aJ c size els val aC aK aL ab aD aE=>
  subst aC;rcases hsz with hsz|hsz
  ·subst hsz;have ax:∀(j:Nat) u,((List.range (new.length*i.size)).map val)[j]?=some u->w.cell? ((⟨b,off,none⟩:Addr).add j)=some u:=by
    intro j u k;rw[e3]at k;by_cases F:j<new.length*i.size
    ·rw[ia F]at k;simp at k;rw[qc,az.cell _ _ _ (aD j F),k]
    rw[hJ (by simp;omega)]at k;cases k
   have ao:∀(j:Nat) x y,((List.range (new.length*i.size)).map val)[j]?=some x->(flat new)[j]?=some y->Rd I x y:=by
    intro j u y k Z;have F:j<new.length*i.size:=by rw[<-iC new (λd U=>(ab d U).1)];exact(db.1 Z).1
    rw[e3,ia F]at k;simp at k;subst k;exact aE j y Z
   have ay:∀u∈(List.range (new.length*i.size)).map val,u.oneCell'=true:=by
    intro u k;obtain⟨j,F,rfl⟩:=hF.1 k;have al:j<(flat new).length:=by rw[iC new (λd U=>(ab d U).1)];simpa using F
    have Z:(flat new)[j]?=some (flat new)[j]:=c5 al;refine(ao j _ _ (c5 F) Z).one ?_;obtain⟨d,U,aw⟩:=k0.1 (ie al);exact(ab d U).2 _ aw
   obtain⟨B,w',G,M,N,O⟩:=HP (P:=P) base t ty e x ad i.size i.bytes k aa ak ai aj ah ag v n xs Y ⟨b,off,none⟩ new.length c ((List.range (new.length*i.size)).map val) (by simp) ax ay (by unfold maxLen;omega) ae af;exact⟨B,w',_,G,M,N,O,ab,ao⟩
  have:new=[]:=by simpa using hsz
  subst this;obtain⟨B,w',G,M,N,O⟩:=HP (P:=P) base t ty e x ad i.size i.bytes k aa ak ai aj ah ag v n xs Y ⟨b,off,none⟩ 0 c [] (by simp) (by simp) (by simp) (by unfold maxLen;simp at an;omega) (by simpa using ae) af;exact⟨B,w',[],G,by simpa using M,N,O,by simp,by simp⟩
def uz{B:Nat}{e:TypeId}{size n:Nat}{v:Value}{xs:List Value}(h:w.ownsRow B e size v n xs):own v=v.ownBlock/\∃A n c,v=.slice A n c:=by
 rcases h.2 with ⟨rfl,_⟩| ⟨g,j,cur,rfl,_⟩
 ·exact⟨rfl,_,_,_,rfl⟩
 exact⟨rfl,_,_,_,rfl⟩
theorem Rb(aP:ct P V.E)(bw:aJ w0 I0 w I m l){t ty:TypeId}{vs bm:Value}{s x:T}(a6:az I m l vs s)(bC:az I m l bm x)(aK:nid=l.length)(G:(iO V.E t l nid s x).ob) :
  ∃l' M w' J m',(iO V.E t l nid s x).bE=.aQ l'/\(Builtin.append_ #[t,t] ty #[vs,bm]).run P w=.ok M w'/\Le I m l J m' l'/\aJ w0 I0 w' J m' l'/\az J m' l' M (iO V.E t l nid s x).t:=by
 subst aK;unfold iO at G⊢;split at G
 ·rename_i e bx;split at G
  ·rename_i i hi;have au:=mW aP bx;split at G
   ·rename_i bJ new l1 af;obtain⟨J,ax,F,bf,aH⟩:=sG bw bC af;split at G
    ·rename_i ar;rw[if_pos ar];split at G
     ·
      rename_i ns;cases a6;obtain⟨M,w',ad,ao,aj,av,h4,aA,aB⟩:=Pe (ty:=ty) aP F.sat au hi ar.2 (World.ownsRow_nil w w0.heap.size e i.size) bf (ar.1) (by simpa using G.1) (by simpa using G.2) F.below.size;obtain⟨ak,bc⟩:=uz aj;have aF:∀b,own M=some b->w0.heap.size<=b/\J.dX b/\∀k,alive l1 k=true->own (m k)≠some b:=by
       intro b hb;have:b=w.heap.size:=by
        rw[ak]at hb;rcases h4 with h4|h4
        ·rw[h4]at hb;cases hb
        rw[h4]at hb;injection hb with hb;exact hb.symm
       subst this;refine⟨F.below.size,F.sat.dX (ec _),λk N ag=>?_⟩;obtain⟨a,B,aa⟩:=bN.1 N;have:=((F.obj k a B).lt aa ag).1;omega
      obtain⟨ae,Z,O⟩:=F.Cs (v:=M) (lo:=l1) (e:=e) (size:=i.size) (els:=new) rfl (λk a B=>.inr B) (λ_ _ _ h=>h) av (gO _ _ _ _ _ ao) (λb hb=>by simp[Value.ownBlock]at hb) (λb hb=>by simp[Value.ownBlock]at hb) aF (by simpa using aj) aA (by simpa using aB) bc;rw[aH]at ae Z O;exact⟨_,M,w',J,_,rfl,ao,ax.trans ae,Z,O⟩
     ·
      rename_i id;split at G
      ·rename_i aV size els Y;split at G
       ·rename_i aY;obtain⟨rfl,a8,_⟩:=aY;subst a8;rw[if_pos ⟨rfl,rfl,aH.symm⟩];have a7:=a6.mono ax;obtain⟨A,n,c,bB,aq⟩:∃A n c,vs=.slice A n c/\m id=vs:=by
         cases a7 with
         |row A n c _ bF bd=>exact⟨A,n,c,rfl,bd (by simp[isRow,Y,AO.isRow])⟩
        obtain⟨xs,ai,aN,bb,aO⟩:=F.obj id _ Y;rw[aq]at ai aO;obtain⟨M,w',ad,ao,aj,av,h4,aA,aB⟩:=Pe (ty:=ty) aP F.sat au hi ar.2 ai bf ar.1 G.1 G.2 F.below.size;obtain⟨ak,bc⟩:=uz aj;obtain⟨al,_⟩:=uz ai;have aZ:id<l1.length:=(db.1 Y).1;have aI:∀(k:Nat) a,(l1.set id .dead)[k]?=some a->a=.dead\/l1[k]?=some a:=by
         intro k a B;rw[e0]at B;split at B
         ·first
           | (injection B with B;exact .inl B.symm)
           | (split at B<;>first| (injection B with B;exact .inl B.symm)|cases B)
         exact .inr B
        have aC:∀k,alive (l1.set id .dead) k=true->k≠id/\alive l1 k=true:=by
         intro k N;obtain⟨a,B,aa⟩:=bN.1 N;refine⟨?_,bN.2 ⟨a,(aI k a B).resolve_left aa,aa⟩⟩;rintro rfl;rw[e0,if_pos rfl,if_pos aZ]at B;injection B with B;exact aa B.symm
        have aM:∀b,own vs=some b->w0.heap.size<=b/\J.dX b/\∀k,alive (l1.set id .dead) k=true->own (m k)≠some b:=by
         intro b hb;refine⟨((F.obj id _ Y).lt (by simp) (by rw[aq];exact hb)).2,aO b hb,λk N ag=>?_⟩;obtain⟨aL,a1⟩:=aC k N;exact F.sep k id b aL a1 (bN.2 ⟨_,Y,by simp⟩) ag (by rw[aq];exact hb)
        have aF:∀b,own M=some b->w0.heap.size<=b/\J.dX b/\∀k,alive (l1.set id .dead) k=true->own (m k)≠some b:=by
         intro b hb;rw[ak]at hb;rcases h4 with h4|h4
         ·rw[h4,<-al]at hb;exact aM b hb
         rw[h4]at hb;injection hb with hb;subst hb;refine⟨F.below.size,F.sat.dX (ec _),λk N ag=>?_⟩;obtain⟨a,B,aa⟩:=bN.1 (aC k N).2;have:=((F.obj k a B).lt aa ag).1;omega
        obtain⟨ae,Z,O⟩:=F.Cs (v:=M) (lo:=l1.set id .dead) (e:=aV) (size:=i.size) (els:=els++new) (xs:=xs++ad) (by simp) aI
         (
          λk a aX N=>by
          rw[e0,if_neg ?_];exact N;rintro rfl;rw[Y]at N;cases N;cases aX)
         av (gO _ _ _ _ _ ao) (λb hb=>aM b (by rw[al];exact hb)) (λb hb=>F.sat.AA ai (by rw[al];exact hb)) aF (by simpa using aj)
         (λd af=>by rcases hD.1 af with h|h;exact aN d h;exact aA d h)
         (
          λj u y ab ah=>by
          rw[EF,hC]at ah;rw[hC]at ab;have:xs.length=(flat els).length:=by rw[iC els (λd af=>(aN d af).1)];exact ai.1
          rw[this]at ab;by_cases aG:j<(flat els).length
          ·rw[if_pos aG]at ah ab;exact bb j u y ab ah
          rw[if_neg aG]at ah ab;exact aB _ u y ab ah) bc
        rw[aH]at ae Z O;exact⟨_,M,w',J,_,rfl,ao,ax.trans ae,Z,O⟩
       exact G.elim
      exact G.elim
     ·
      rename_i id bK;split at G
      ·rename_i aV size els Y;split at G
       ·rename_i aY;obtain⟨rfl,a8,_⟩:=aY;subst a8;rw[if_pos ⟨rfl,rfl,aH.symm⟩];have a7:=a6.mono ax;obtain⟨A,n,c,bB,aq⟩:∃A n c,vs=.slice A n c/\m id=vs:=by
         cases a7 with
         |bI A n c _ _ bF bd _=>exact⟨A,n,c,rfl,bd (by simp[isRow,Y,AO.isRow])⟩
        obtain⟨xs,ai,aN,bb,aO⟩:=F.obj id _ Y;rw[aq]at ai aO;obtain⟨M,w',ad,ao,aj,av,h4,aA,aB⟩:=abf (ty:=ty) aP F.sat au hi ar.2 ai bf ar.1 G.1 G.2 F.below.size;obtain⟨ak,bn,bD,bo,bA⟩:=uz aj;obtain⟨al,_⟩:=uz ai;have aZ:id<l1.length:=(db.1 Y).1;have aI:∀(k:Nat) a,(l1.set id .dead)[k]?=some a->a=.dead\/l1[k]?=some a:=by
         intro k a B;rw[e0]at B;split at B
         ·first
           | (injection B with B;exact .inl B.symm)
           | (split at B<;>first| (injection B with B;exact .inl B.symm)|cases B)
         exact .inr B
        have aC:∀k,alive (l1.set id .dead) k=true->k≠id/\alive l1 k=true:=by
         intro k N;obtain⟨a,B,aa⟩:=bN.1 N;refine⟨?_,bN.2 ⟨a,(aI k a B).resolve_left aa,aa⟩⟩;rintro rfl;rw[e0,if_pos rfl,if_pos aZ]at B;injection B with B;exact aa B.symm
        have aM:∀b,own vs=some b->w0.heap.size<=b/\∀k,alive (l1.set id .dead) k=true->own (m k)≠some b:=by
         intro b hb;refine⟨((F.obj id _ Y).lt (by simp) (by rw[aq];exact hb)).2,λk N ag=>?_⟩;obtain⟨aL,a1⟩:=aC k N;exact F.sep k id b aL a1 (bN.2 ⟨_,Y,by simp⟩) ag (by rw[aq];exact hb)
        have aF:∀b,own M=some b->w0.heap.size<=b/\∀k,alive (l1.set id .dead) k=true->own (m k)≠some b:=by
         intro b hb;rw[ak]at hb;rcases h4 with h4| ⟨h4,_⟩
         ·rw[h4,<-al]at hb;exact aM b hb
         rw[h4]at hb;injection hb with hb;subst hb;refine⟨F.below.size,λk N ag=>?_⟩;obtain⟨a,B,aa⟩:=bN.1 (aC k N).2;have:=((F.obj k a B).lt aa ag).1;omega
        have bs:∀b,own M=some b->I.le J->(∀(o:Nat) u,J.cell b o=some u->(xs++ad)[o]?=some u)/\J.mp b=none/\∀o,(xs++ad).length<=o->J.cell b o=none:=by
         intro b hb _;rw[ak]at hb;rcases h4 with h4| ⟨h4,_⟩
         ·rw[h4,<-al]at hb;obtain⟨ae,Z,O⟩:=aO b hb;refine⟨λo u hc=>?_,ae,λo aT=>O o (by rw[dT]at aT;omega)⟩;rcases p6 o xs.length with an|hge
          ·have:=Z o xs[o] (c5 an);rw[hc]at this;injection this with this;rw[e1 an,c5 an,this]
          rw[O o hge]at hc;cases hc
         rw[h4]at hb;injection hb with hb;subst hb;have aK:=F.sat.dX (ec _);exact⟨λo u hc=>(by rw[aK.1 o]at hc;cases hc),aK.2,λo _=>aK.1 o⟩
        obtain⟨U,aR,bq,aw,aW⟩:∃U:aD,J.le U/\(∀b,U.df b↔J.df b)/\(∀b,own M=some b->U.mp b=none/\(∀(o:Nat) u,(xs++ad)[o]?=some u->U.cell b o=some u)/\∀o,(xs++ad).length<=o->U.cell b o=none)/\∀b,own M≠some b->U.cell b=J.cell b/\U.mp b=J.mp b:=by
         cases bt:own M with
         |none=>exact⟨J,.refl J,λ_=>Iff.rfl,λ_ hb=>absurd hb (by simp),λ_ _=>⟨rfl,rfl⟩⟩
         |some b=>
          obtain⟨ae,Z,O⟩:=bs b bt ax.du;refine⟨J.dz b (xs++ad),⟨λaU o u hc=>?_,λ_ _ h=>h,λ_ h=>h⟩,λ_=>Iff.rfl,λaU aE=>?_,λaU aE=>⟨?_,rfl⟩⟩
          ·by_cases bg:aU=b
           ·subst bg;simp only[aD.dz,hK];rw[ae o u hc]
           simp only[aD.dz,if_neg bg];exact hc
          ·injection aE with aE;subst aE;refine⟨Z,λo u au=>?_,λo aT=>?_⟩
           ·simp only[aD.dz,hK];rw[au]
           simp only[aD.dz,hK];rw[hJ aT];exact O o aT
          funext o;simp only[aD.dz];rw[if_neg (λe=>aE (by rw[e]))]
        have bz:cZ w' U:=by
         have bp:∀b,own M=some b->∀(o:Nat) u,(xs++ad)[o]?=some u->w'.cell? ⟨b,o,none⟩=some u:=by
          intro b hb o u au;have:=aj.cells (g:=b) (by rw[<-ak];exact hb) o u au;rwa [Addr.add_lit,hT]at this
         have ba:∀b,(∃o u,J.cell b o=some u)\/(∃ay,J.mp b=some ay)\/J.df b->own M≠some b->w'.heap[b]?=w.heap[b]?:=by
          intro b hb aL;have an:b<w.heap.size:=by
           rcases hb with ⟨o,u,hc⟩| ⟨ay,hc⟩|hc
           ·exact F.sat.lt hc
           ·exact F.sat.nM hc
           exact F.sat.kW hc
          rcases h4 with h4| ⟨_,h4⟩
          ·exact av.block b an (λag=>aL (by rw[ak,h4];exact ag.symm))
          exact h4.block b an (by simp)
         refine⟨λb o u hc=>?_,λb ay hc=>?_,λb af=>?_,λg d br=>(F.sat.dK g d br).mono aR⟩
         ·by_cases hb:own M=some b
          ·obtain⟨_,Z,O⟩:=aw b hb;rcases p6 o (xs++ad).length with an|hge
           ·have:=Z o _ (c5 an);rw[hc]at this;injection this with this;exact bp b hb o u (by rw[c5 an,this])
           rw[O o hge]at hc;cases hc
          rw[(aW b hb).1]at hc;exact(ma (w:=w) (a:=⟨b,o,none⟩) (ba b (.inl ⟨o,u,hc⟩) hb)).trans (F.sat.cell b o u hc)
         ·by_cases hb:own M=some b
          ·rw[(aw b hb).1]at hc;cases hc
          rw[(aW b hb).2]at hc;exact dR.to (ba b (.inr (.inl ⟨ay,hc⟩)) hb) (F.sat.mp b ay hc)
         have aS:J.df b:=by
          have:U.df b->J.df b:=λh=>(bq b).1 h;exact this af
         by_cases hb:own M=some b
         ·exfalso;rw[ak]at hb;rcases h4 with h4| ⟨h4,_⟩
          ·rw[h4,<-al]at hb;exact F.sat.AA ai hb aS
          rw[h4]at hb;injection hb with hb;have:=F.sat.kW aS;omega
         exact(ba b (.inr (.inr aS)) hb).trans (F.sat.df b aS)
        have bh:∀d∈els++new,d.cells.length=i.size/\∀x∈d.cells,x.one=true:=λd af=>by rcases hD.1 af with h|h;exact aN d h;exact aA d h
        have bl:∀(j:Nat) u y,(xs++ad)[j]?=some u->(flat (els++new))[j]?=some y->Rd U u y:=by
         intro j u y ab ah;rw[EF,hC]at ah;rw[hC]at ab;have:xs.length=(flat els).length:=by rw[iC els (λd af=>(aN d af).1)];exact ai.1
         rw[this]at ab;by_cases aG:j<(flat els).length
         ·rw[if_pos aG]at ah ab;exact(bb j u y ab ah).mono aR
         rw[if_neg aG]at ah ab;exact(aB _ u y ab ah).mono aR
        obtain⟨ae,Z,O⟩:=F.ZK (v:=M) (row:=vs.ownBlock) (lo:=l1.set id .dead) (e:=aV) (size:=i.size) (els:=els++new) (J:=U) (by simp) aI
         (
          λk a aX N=>by
          rw[e0,if_neg ?_];exact N;rintro rfl;rw[Y]at N;cases N;cases aX)
         av (
           gO _ _ _ _ _ ao) (λb hb=>aM b (by rw[al];exact hb)) (λb hb=>(by
          have bj:∀b,own vs=some b->J.cell b 0=none\/∃q,cA l1 q=true/\own (m q)=some b:=λb hb=>.inr ⟨id,by unfold cA;rw[Y];rfl,by rw[aq];exact hb⟩;rcases hb with hb|hb
          ·exact bj b (by rw[al];exact hb)
          rw[ak]at hb;rcases h4 with h4| ⟨h4,_⟩
          ·rw[h4,<-al]at hb;exact bj b hb
          rw[h4]at hb;injection hb with hb;subst hb;exact .inl ((F.sat.dX (ec _)).1 0))) aR aW bz aF
         ⟨xs++ad,by simpa using aj,bh,bl,λb hb=>⟨(aw b hb).1,(aw b hb).2.1,(aw b hb).2.2⟩⟩ ⟨bn,bD,bo,bA⟩
        rw[aH]at ae Z O;refine⟨_,M,w',U,_,rfl,ao,ax.trans ae,Z,?_⟩;have bu:Rd U M (.slice i.size (els++new)):=vk (by simpa using aj) bh bl λb hb=>(aw b hb).2.1;cases O with
        |row A n c _ bG bH=>exact .bI A n c _ _ bG bH bu
       exact G.elim
      exact G.elim
     exact G.elim
    exact G.elim
   exact G.elim
  exact G.elim
 exact G.elim
def C4{E:cn}{t:TypeId}{v:Value}{x:T}(h:az I m L v x):az I m L v (typed E t x):=by
 unfold typed;split
 ·cases h;exact .bq _
 exact h
theorem C2{E:cn}:∀(ts:List TypeId)(vs:List Value)(xs:List T),(∀(i:Nat) v x,vs[i]?=some v->xs[i]?=some x->az I m L v x)->(fW E ts xs).length=xs.length/\∀(i:Nat) v x,vs[i]?=some v->(fW E ts xs)[i]?=some x->az I m L v x
 | [],vs,xs,h=>by simp[fW];exact h
 |t::ts,vs,[],h=>by simp[fW]
 |t::ts,vs,x::xs,h=>by
  match vs with
  | []=>simp[fW];exact(C2 (E:=E) ts [] xs (by simp)).1
  |v::vs=>
   obtain⟨B,F⟩:=C2 (E:=E) ts vs xs (λi v x hv G=>h (i+1) v x (by simpa using hv) (by simpa using G));simp only[fW];refine⟨by simp[B],λi u y j k=>?_⟩;rcases i with _|i
   ·simp at j k;subst j;subst k;exact C4 (h 0 v x rfl rfl)
   simp at j k;exact F i u y j k
def eD(E:cn)(ρ:Operand->T)(o:Oper):Option (FuncId×List T):=match o.op with
 |.call c=>(match c.callee with
  |.value f=>(match ρ f with
   |.aH g ts=>some (g,fW E c.argTypes.toList (c.args.toList.map ρ)++ts)
   |.d (.fn g)=>some (g,fW E c.argTypes.toList (c.args.toList.map ρ))
   |.d (.aH g ds)=>some (g,fW E c.argTypes.toList (c.args.toList.map ρ)++ds.map .d)
   |_=>none)
  |_=>none)
 |_=>none
def Vh{E:cn}{ρ ρ':Operand->T}{o:Oper}(h:∀x∈o.op.operands,ρ x=ρ' x):eD E ρ o=eD E ρ' o:=by
 unfold eD;split
 ·rename_i c j;split
  ·rename_i f F;have k:=h f (by simp[j,Op.operands,Call.operands,F]);have B:c.args.toList.map ρ=c.args.toList.map ρ':=hN λx G=>h x (by simp[j,Op.operands,Call.operands];right;simpa using G);rw[k,B]
  rfl
 rfl
theorem pY{E:cn}{g:FuncId}{ts:List T}(ab:Enters P g)(ah:∀x∈o.op.operands,az I m L (ρ x) (ρT x))(h:eD E ρT o=some (g,ts)) :
  ∃U:Array Value,(execOp ρ o).run P w=.ok (.enter g U) w/\U.size=ts.length/\∀(i:Nat) v x,U[i]?=some v->ts[i]?=some x->az I m L v x:=by
 unfold eD at h;split at h
 ·rename_i c O;split at h
  ·rename_i f N;have F:=ah f (by simp[O,Op.operands,Call.operands,N]);have ai:∀(i:Nat) v x,(c.args.toList.map ρ)[i]?=some v->(c.args.toList.map ρT)[i]?=some x->az I m L v x:=by
    intro i v x hv j;rw[e3]at hv j;cases Y:c.args.toList[i]? with
    |none=>simp[Y]at hv
    |some a=>
     simp[Y]at hv j;subst hv;subst j;refine ah a ?_;simp only[O,Op.operands,Call.operands,N];have:=dd Y;simp at this⊢;exact .inr this
   obtain⟨k,Z⟩:=C2 (E:=E) c.argTypes.toList _ _ ai;generalize ad:ρ f=ak at F;split at h
   ·rename_i ag cs M;rw[M]at F;injection h with h;injection h with G B;subst G;cases F with
    |aH _ vs _ ae af=>
     refine⟨c.args.map ρ++vs,?_,?_,λi v x hv j=>?_⟩
     ·unfold execOp;simp only[O,resolve,N,ad,Deferred.ofValue,e8,Sem.run_pure,Result.andThen_ok,invoke];simpa using ab (c.args.map ρ++vs) w
     ·rw[<-B];simp[k,ae]
     rw[<-B]at j;by_cases hi:i<(c.args.map ρ).size
     ·rw[j1 hi]at hv;rw[e1 (by rw[k];simpa using hi)]at j;exact Z i v x (by simpa using hv) j
     rw[q7 (by omega)]at hv;rw[hI (by rw[k];simpa using hi)]at j;rw[k]at j;simp at hv j hi;exact af _ v x hv j
   ·rename_i ag M;rw[M]at F;injection h with h;injection h with G B;subst G;have:=cw F;cases this;refine⟨c.args.map ρ,?_,by rw[<-B,k];simp,λi v x hv j=>Z i v x (by simpa using hv) (by rw[B];exact j)⟩;unfold execOp;simp only[O,resolve,N,ad,Deferred.ofValue,e8,Sem.run_pure,Result.andThen_ok,invoke];simpa using ab (c.args.map ρ) w
   ·rename_i ag cs M;rw[M]at F;injection h with h;injection h with G B;subst G;have aj:=cw F;cases aj with
    |aH _ vs _ ae af=>
     refine⟨c.args.map ρ++vs,?_,?_,λi v x hv j=>?_⟩
     ·unfold execOp;simp only[O,resolve,N,ad,Deferred.ofValue,e8,Sem.run_pure,Result.andThen_ok,invoke];simpa using ab (c.args.map ρ++vs) w
     ·rw[<-B];simp[k,ae]
     rw[<-B]at j;by_cases hi:i<(c.args.map ρ).size
     ·rw[j1 hi]at hv;rw[e1 (by rw[k];simpa using hi)]at j;exact Z i v x (by simpa using hv) j
     rw[q7 (by omega)]at hv;rw[hI (by rw[k];simpa using hi)]at j;rw[k,e3]at j;simp only[hP,Array.length_toList]at j;simp only[Array.size_map]at hv;cases aa:cs[i-c.args.size]? with
     |none=>rw[aa]at j;simp at j
     |some d=>rw[aa]at j;simp at j;subst j;exact .d _ _ (af _ v d hv aa)
   cases h
  cases h
 cases h
def Iv{v:Value}{t:T}(h:az I m L v t):az I m L v (unbox t):=by
 unfold unbox;split
 ·have:=cw h;cases this with
  |box _ _ val B M N=>
   rename_i d b;have:=az.bu (I:=I) (m:=m) (l:=L) b 0 d.cells.length [d] 0 0 val (by simp) (λx k=>by simp at k;subst k;exact⟨rfl,B⟩) (λj F=>by rw[hT];exact M j (by simpa using F)) (λj x k=>N j x (by simpa [flat]using k));simpa using this
 ·rename_i f;have:=cw h;cases this with
  |self b _ B=>
   refine az.bu b 0 1 [.aH f [.self f]] 0 0 (λ_=>.func (.func f) #[] #[.pointer (some ⟨b,0,none⟩)]) (by simp) (λx k=>by simp at k;subst k;simp[D.cells,D.one]) (λj F=>?_) (λj x k=>?_)
   ·have:j=0:=by simp at F;exact F
    subst this;exact B
   have k:([D.aH f [.self f]]:List D)[j]?=some x:=by simpa [flat,D.cells]using k
   cases j with
   |zero=>
    simp at k;subst k;refine .aH f _ _ rfl λi v d hv G=>?_;cases i with
    |zero=>simp at hv G;subst hv;subst G;exact .self b f B
    |succ i=>simp at G
   |succ j=>simp at k
 exact h
def VC{t:T}{d:D}(h:fz t=some d):t=.d d:=by
 unfold fz at h;split at h
 ·injection h with h;subst h;rfl
 cases h
def wJ:∀{ts:List T}{ds:List D},ts.mapM fz=some ds->ts=ds.map .d
 | [],ds,h=>by simp at h;subst h;rfl
 |t::ts,ds,h=>by
  rw[l2]at h;cases ht:fz t with
  |none=>simp[ht]at h
  |some d=>
   cases j:ts.mapM fz with
   |none=>simp[ht,j]at h
   |some k=>
    simp[ht,j]at h;subst h;rw[VC ht,wJ j];rfl
def Vi{v:Value}{g:FuncId}{ts:List T}(h:az I m L v (.aH g ts)):az I m L v (nq g ts):=by
 unfold nq;split
 ·rename_i ds k;have:=wJ k;subst this;cases h with
  |aH _ vs _ B F=>
   exact .d _ _ (.aH _ _ _ (by simpa using B) λi v d hv j=>cw (F i v (.d d) hv (by simp[j])))
 exact h
def UJ(ao:c6 P V)(af:aJ w0 I0 w I m L)(au:eQ l L){g:FuncId}{ts:List T}(aE:∀x∈o.op.operands,az I m L (ρ x) (ρT x))(av:eD V.E ρT o=some (g,ts))(B:(vX V.C g l ts).ob):cm P w0 I0 o ρ w I m l L nid (vX V.C g l ts):=by
 unfold vX at B⊢;split at B
 ·rename_i ds l' ab;split at B
  ·rename_i x ob al;obtain⟨ay,aw⟩:=ao.C g ds x ob al B;obtain⟨k,ag,aC,aq⟩:=pY (P:=P) (w:=w) (ρ:=ρ) ay aE av;have ad:k.toList.length=ts.length:=by simpa using aC
   have aa:∀(i:Nat) v x,k.toList[i]?=some v->ts[i]?=some x->az I m L v x:=λi v x hv U=>aq i v x (by simpa using hv) U;have ah:∀(j:List AO)(J:aD),Le I m L J m j->aJ w0 I0 w J m j->k.toList.length=ds.length->(∀(i:Nat) v d,k.toList[i]?=some v->ds[i]?=some d->Rd J v d) ->
     Calls P g k w λe M=>∃v,e=.returned v/\∃J',Le I m L J' m j/\aJ w0 I0 M J' m j/\az J' m j v (.d x):=by
    intro j J aB ae aA G;refine(aw w J k ae.sat (by simpa using aA) (λi v d hv ax=>G i v d (by simpa using hv) ax)).mono ?_;rintro e M ⟨v,J',F,ar,U,aG,aF⟩;obtain⟨aH,aI⟩:=ae.call ar U aG;exact⟨v,F,J',aB.trans aI,aH,.d _ _ aF⟩
   unfold cm;by_cases O:ts.all (pw l)=true
   ·simp only[if_pos O,ag,cr];have an:=Jh ts au O ab;obtain⟨J,Y,Z,N,G,_⟩:=nj ts L I _ ds L af ad aa an;exact(ah L J Y Z N G).mono λe M ⟨v,F,J',h⟩=>⟨v,F,J',h⟩
   simp only[if_neg O,ag,cr];rintro rfl aK;obtain⟨J,Y,Z,N,G,_⟩:=nj ts L I _ ds l' af ad aa ab;exact(ah l' J Y Z N G).mono λe M ⟨v,F,J',ai,aj,ak⟩=>⟨v,F,J',m,ai,aj,ak⟩
  exact B.elim
 exact B.elim
def Ku(k:c6 P V)(M:aJ w0 I0 w I m L)(ab:eQ l L){g:FuncId}{ts:List T}(G:∀x∈o.op.operands,az I m L (ρ x) (ρT x))(B:eD V.E ρT o=some (g,ts))(j:(th V g l ts).ob):cm P w0 I0 o ρ w I m l L nid (th V g l ts):=by
 unfold th at j⊢;split at j
 ·rename_i t l' ob Z;obtain⟨af,ad⟩:=k.F g _ l _ Z j;obtain⟨N,ah,ag,aa⟩:=pY (P:=P) (w:=w) (ρ:=ρ) af G B;unfold cm;rintro rfl ai;simp only[ah,cr];exact(ad w0 I0 w I m N M ag aa).mono λe w' ⟨v,ae,J,m',O,U,Y⟩=>⟨v,ae,J,m',O,U,Y⟩
 exact UJ k M ab G B j
def PK{I:aD}{v:Value}{s:Nat}{els:List D}(h:Rd I v (.slice s els)):∃A c,v=.slice A els.length c:=by
 generalize j:D.slice s els=B at h;cases h<;>first| (cases j;done)|skip
 ·injection j with _ j;subst j;exact⟨_,_,rfl⟩
 rename_i k _ _ _ _ _;injection j with _ j;subst j;exact⟨_,_,by rw[k]⟩
def FT(ab:aJ w0 I0 w I m L)(U:eQ l L){v:Value}{t:T}{af vs:List D}(ad:az I m L v t)(k:mapOf l t=some (af,vs)) :
  ∃j:Array MapEntry,j.size=af.length/\j.size=vs.length/\(∀(i:Nat)(e:MapEntry)(d:D),j[i]?=some e->af[i]?=some d->Rd I e.key d)/\(∀(i:Nat)(e:MapEntry)(d:D),j[i]?=some e->vs[i]?=some d->Rd I e.val d) /\
   ((v=.map none/\j = #[])\/∃b ak,v=.map (some b)/\w.heap[b]?=some (.map j ak)):=by
 unfold mapOf at k;split at k
 ·injection k with k;injection k with B F;subst B;subst F;have:=cw ad;cases this with
  |uo=>exact⟨#[],rfl,rfl,by simp,by simp,.inl ⟨rfl,rfl⟩⟩
  |map b j _ _ G ae M N O=>
   have al:=ab.sat.mp b j G;exact⟨j.1,ae,M,N,O,.inr ⟨b,j.2,rfl,al.1⟩⟩
 ·rename_i id;split at k
  ·rename_i ag aj hl;injection k with k;injection k with B F;subst B;subst F;obtain⟨b,j,G,ae,M,N,O,Z,aa,ai⟩:=ab.obj id _ (U.get hl);cases ad with
   |map r _ ah Y=>
    have:=Y (by unfold isRow;rw[U.get hl];rfl);rw[G]at this;exact⟨j.1,N,O,Z,aa,.inr ⟨b,j.2,this.symm,M.1⟩⟩
  ·rename_i ag aj hl;injection k with k;injection k with B F;subst B;subst F;obtain⟨b,j,G,ae,M,N,O,Z,aa,ai⟩:=ab.obj id _ (U.get hl);cases ad with
   |map r _ ah Y=>
    have:=Y (by unfold isRow;rw[U.get hl];rfl);rw[G]at this;exact⟨j.1,N,O,Z,aa,.inr ⟨b,j.2,this.symm,M.1⟩⟩
  ·rename_i an s' ag aj ao hl;injection k with k;injection k with B F;subst B;subst F;obtain⟨b,j,G,ae,M,N,O,Z,aa,ai,_⟩:=ab.obj id _ (U.get hl);cases ad with
   |map r _ ah Y=>
    have:=Y (by unfold isRow;rw[U.get hl];rfl);rw[G]at this;exact⟨j.1,N,O,Z,aa,.inr ⟨b,j.2,this.symm,M.1⟩⟩
  cases k
 cases k
theorem XS(O:ct P V.E)(Y:aJ w0 I0 w I m L)(U:eQ l L){v:Value}{x:T}{ty t:TypeId}(M:az I m L v x)(j:(kU V.E t l x).ob) :
  (kU V.E t l x).bE=.none/\∃u,(Builtin.len_ #[t] ty #[v]).run P w=.ok u w/\az I m L u (kU V.E t l x).t:=by
 have fin:∀(A:Option Addr)(n c:Nat)(e:TypeId),P.underlying t=some (.slice e)->(Builtin.len_ #[t] ty #[.slice A n c]).run P w=.ok (.int .i64 n) w:=by
  intro A n c e k;simp[Builtin.len_,hE k,goInt]
 unfold kU at j⊢;split at j
 ·rename_i G;have k:=Qw O G;split at j
  ·have:=cw M;cases this;exact⟨rfl,_,by simp[Builtin.len_,hE k,goInt],.d _ _ (.int _ _)⟩
  exact j.elim
 ·rename_i e G;have k:=mW O G;split at j
  ·rename_i s els;obtain⟨A,c,rfl⟩:=PK (cw M);exact⟨rfl,_,fin _ _ _ _ k,.d _ _ (.int _ _)⟩
  ·cases M;exact⟨rfl,_,fin _ _ _ _ k,.d _ _ (.int _ _)⟩
  ·rename_i id;have go:∀e size els,l[id]?=some (.row e size els)\/l[id]?=some (.bn e size els)->∃A c,v=.slice A els.length c:=by
    intro e size els ho;have ab:L[id]?=some (.row e size els)\/L[id]?=some (.bn e size els):=by rcases ho with ho|ho;exact .inl (U.get ho);exact .inr (U.get ho)
    cases M with
    |row A n c _ av aj=>
     have N:=aj (by unfold isRow;rcases ab with h|h<;>simp[h,AO.isRow]);have:∃xs,w.ownsRow w0.heap.size e size (m id) els.length xs:=by
      rcases ab with h|h
      ·obtain⟨xs,B,_⟩:=Y.obj id _ h;exact⟨xs,B⟩
      obtain⟨xs,B,_⟩:=Y.obj id _ h;exact⟨xs,B⟩
     obtain⟨xs,B⟩:=this;rw[N]at B;rcases B.2 with ⟨q,ak⟩| ⟨g,ao,cur,q,_⟩
     ·injection q with al Z an;rw[ak,<-Z];exact⟨_,_,rfl⟩
     injection q with al Z an;rw[<-Z];exact⟨_,_,rfl⟩
   split at j
   ·rename_i e size els ho;obtain⟨A,c,rfl⟩:=go e size els (.inl ho);exact⟨rfl,_,fin _ _ _ _ k,.d _ _ (.int _ _)⟩
   ·rename_i e size els ho;obtain⟨A,c,rfl⟩:=go e size els (.inr ho);exact⟨rfl,_,fin _ _ _ _ k,.d _ _ (.int _ _)⟩
   exact j.elim
  exact j.elim
 ·rename_i ai e G;have k:P.underlying t=some (.map ai e):=by
   obtain⟨x,z',_,_,_,_,_,_,F,_⟩:=fq (O t _ G);simp only[iB]at F;split at F
   ·rename_i au ar af;simp at F;obtain⟨rfl,rfl⟩:=F;exact af
   cases F
  split at j
  ·rename_i ah vs N;obtain⟨ad,aa,_,_,_,ae⟩:=FT Y U M N
   try simp only[N]
   rcases ae with ⟨rfl,rfl⟩| ⟨b,aq,rfl,ag⟩
   ·refine⟨rfl,_,by simp[Builtin.len_,hE k,goInt];rfl,?_⟩;have:ah.length=0:=by simpa using aa.symm
    rw[this];exact .d _ _ (.int _ _)
   refine⟨rfl,.int .i64 ad.size,by simp[Builtin.len_,hE k,goInt,jb ag],?_⟩;rw[aa];exact .d _ _ (.int _ _)
  exact j.elim
 exact j.elim
end
section
variable {P:Program}{V:Env}{w0 w w':World}{I0 I:aD}{m:Nat->Value}{l L:List AO}{nid:Nat}{o:Oper}{ρ:Operand->Value}{ρT:Operand->T}
def Le.setKind{id:Nat}{a j:AO}(h:l[id]?=some a)(hv:j.isVar=a.isVar)(M:j.isRow=a.isRow)(N:∀e size els,j=.row e size els\/j=.bn e size els->∃els',a=.row e size els'\/a=.bn e size els'):Le I m l I m (l.set id j):=by
 refine⟨.refl I,by simp,λk _ F=>⟨(lY h hv.symm k).trans F,rfl⟩,λk _ F=>⟨(lW h M.symm k).symm.trans F,rfl⟩,λk e size els F B=>?_⟩;by_cases G:k=id
 ·subst G;rw[e0,if_pos rfl,if_pos (db.1 h).1]at B;simp only[c4]at B;obtain⟨els',q⟩:=N e size els B;exact⟨els',by rw[h];rcases q with rfl|rfl<;>simp⟩
 rw[e0,if_neg (hU G)]at B;exact⟨els,B⟩
theorem aJ.lD(F:aJ w0 I0 w I m l){id b:Nat}{a O:AO}(M:l[id]?=some a)(ab:a ≠ .dead)(aa:own (m id)=some b)(Z:I.dX b)(hv:O.isVar=a.isVar)(ah:O.isRow=a.isRow)(av:Le I m l I m (l.set id O))(ax:w'.os=w.os)(aA:w'.tape=w.tape)(ay:w'.output=w.output)(ao:w.drawn<=w'.drawn)(az:w.heap.size<=w'.heap.size)(Y:∀k,k≠b->w'.heap[k]?=w.heap[k]?)(aw:dZ w0.heap.size w' I m (l.set id O) (m id) O):aJ w0 I0 w' I m (l.set id O):=by
 have aC:=(F.obj id a M).lt ab aa;have ar:id<l.length:=(db.1 M).1;have ak:alive l id=true:=bN.2 ⟨_,M,ab⟩;refine⟨F.below.trans ⟨ax,aA,ay,az,λk aB=>Y k (by omega),λ_=>ao⟩,⟨λB q u N=>?_,λB aj N=>?_,λB ag=>(Y B (λe=>by subst e;exact(F.obj id a M).l5 F.sat ab aa ag)).trans (F.sat.df B ag),F.sat.dK⟩,F.ext,λj q G=>?_,λi j B au hi G al an=>?_⟩
 ·have ae:B≠b:=by rintro rfl;rw[Z.1]at N;cases N
  exact(ma (w:=w) (a:=⟨B,q,none⟩) (Y B ae)).trans (F.sat.cell B q u N)
 ·have ae:B≠b:=by rintro rfl;rw[Z.2]at N;cases N
  have aq:=F.sat.mp B aj N;exact dR.to (Y B ae) aq
 ·by_cases ad:j=id
  ·subst ad;rw[e0,if_pos rfl,if_pos ar]at G;injection G with G;subst G;exact aw
  rw[e0,if_neg (hU ad)]at G;by_cases af:q=.dead
  ·subst af;trivial
  refine(F.obj j q G).cF av (λB U=>Y B ?_) (λ_ _=>⟨rfl,rfl⟩) (.set (λB u ai=>Y B (λe=>by subst e;rw[Z.1]at ai;cases ai)) λ_ B U=>by rw[aa]at U;injection U with U;subst U;exact Z.1 0);rintro rfl;exact F.sep j id B ad (bN.2 ⟨q,G,af⟩) ak U aa
 refine F.sep i j B au ?_ ?_ al an
 ·unfold alive at hi⊢;rwa [lY M hv.symm,lW M ah.symm]at hi
 unfold alive at G⊢;rwa [lY M hv.symm,lW M ah.symm]at G
theorem tM{kk:IntKind}{n:Int}:∀(k:List MapEntry)(B:List D)(i:Nat),k.length=B.length->(∀(j:Nat)(e:MapEntry)(d:D),k[j]?=some e->B[j]?=some d->Rd I e.key d)->nH kk B=true ->
  (ei n B i=none/\Instr.findNow (.int kk) (.int kk n) k i=some none/\∀e∈k,e.key ≠ .int kk n)\/∃j e,ei n B i=some (i+j)/\k[j]?=some e/\e.key=.int kk n/\B[j]?=some (.int kk n)/\Instr.findNow (.int kk) (.int kk n) k i=some (some (i+j,e.val))
 | [],[],i,_,_,_=>.inl ⟨rfl,rfl,by simp⟩
 |e::k,d::B,i,hl,Z,hk=>by
  simp only[nH,List.all_cons,dk]at hk;obtain⟨U,ah⟩:=hk;have h0:=Z 0 e d rfl rfl;split at U
  ·rename_i Y a;have ag:Y=kk:=by simpa using U
   subst ag;have N:e.key=.int Y a:=by generalize e.key=z at h0;cases h0;rfl
   by_cases F:n=a
   ·subst F;refine .inr ⟨0,e,by simp[ei],rfl,N,rfl,?_⟩;simp[Instr.findNow,Instr.sameNow,N]
   rcases tM (kk:=Y) (n:=n) k B (i+1) (by simpa using hl) (λj e d G M=>Z (j+1) e d (by simpa using G) (by simpa using M)) ah with ⟨G,M,af⟩| ⟨j,aa,G,M,ab,ad,ae⟩
   ·exact .inl ⟨by simp[ei,F,G],by simp only[Instr.findNow,Instr.sameNow,N,hK,u4.2 F,M],λx hx=>by
     rcases fa.1 hx with rfl|hx
     ·rw[N];intro O;injection O with _ O;exact F O.symm
     exact af x hx⟩
   refine .inr ⟨j+1,aa,by simp only[ei,if_neg F,G];congr 1;omega,by simpa using M,ab,by simpa using ad,?_⟩;simp only[Instr.findNow,Instr.sameNow,N,hK,u4.2 F,ae];congr 3;omega
  cases U
def wL(G:ct P V.E){t:TypeId}{kk:IntKind}{i:TI}(h:kX V.E t=some (kk,i)):∃B e,P.underlying t=some (.map B e)/\P.underlying B=some (.int kk)/\V.E e=some i:=by
 unfold kX at h;split at h
 ·rename_i B e ht;split at h
  ·rename_i ab aa O U;injection h with h;injection h with M N;subst M;subst N;obtain⟨x,z',_,_,_,_,_,_,j,_⟩:=fq (G t _ ht);obtain⟨ad,ae,_,_,_,_,_,_,k,_⟩:=fq (G B _ O);refine⟨B,e,?_,?_,U⟩
   ·simp only[iB]at j;split at j
    ·rename_i Y Z F;simp at j;obtain⟨rfl,rfl⟩:=j;exact F
    cases j
   simp only[iB]at k;split at k
   ·rename_i Y F;simp at k;subst k;exact F
   cases k
  cases h
 cases h
def Fe{t:T}{k:IntKind}{n:Int}{v:Value}(h:dM t=some (k,n))(F:az I m L v t):v=.int k n:=by
 unfold dM at h;split at h
 ·injection h with h;injection h with j B;subst j;subst B;have:=cw F;cases this;rfl
 cases h
def KZ{ds:List D}{j:Nat}{d:D}(h:ds[j]?=some d):eF ds j=d:=by simp[eF,h]
theorem QV{z:Value}{i:TI}(F:fZ z.cells.toList i.zero=true)(k:kQ z=i.desc.agg):Rd I z (eK i.desc.agg i.zero):=by
 obtain⟨j,N,B⟩:=qQ I _ _ F;unfold eK;cases z with
 |agg cs=>
  rw[<-k];simp only[kQ,hK];exact .agg _ _ (by simpa [Value.cells]using j) N (λi v d hv G=>B i v d (by simpa [Value.cells]using hv) G)
 |_=>
  rw[<-k];simp only[kQ,hR,h9]
  match M:i.zero,j with
  | [d],_=>exact B 0 _ d (by simp[Value.cells]) (by simp[M])
  | [],j=>simp[Value.cells]at j
  |_::_::_,j=>simp[Value.cells]at j
def look_ok(Y:ct P V.E)(av:aJ w0 I0 w I m L)(an:eQ l L){t:TypeId}{x k:Value}{O tk:T}{ok:Bool}(aw:az I m L x O)(aq:az I m L k tk)(F:(rP V.E t l O tk ok).ob) :
  (rP V.E t l O tk ok).bE=.none/\∃u,(Instr.lookup t x k ok).run P w=.ok u w/\az I m L u (rP V.E t l O tk ok).t:=by
 unfold rP at F⊢;split at F
 ·rename_i kk i ax vs aI n aj ak al;have:=Fe al aq;subst this;obtain⟨ay,e,af,ag,aE⟩:=wL Y aj;obtain⟨U,s1,s2,aB,aC,aD⟩:=FT av an aw ak;obtain⟨z,ah,aF,aG,aN⟩:=yo Y aE w;split at F
  ·rename_i ar;subst ar;simp only[hK];have Z:∀e:Bool,(Instr.checkKey e 10000 ay (.int kk n)).run P w=.ok () w:=λe=>p0 (d:=.int kk) (n:=9999) ag (by simp[MapKept.IsKey]) e;have ad:∀r,Instr.findNow (.int kk) (.int kk n) U.toList 0=some r->(Instr.lookup t x (.int kk n) ok).run P w=.ok (if ok then .tuple #[match r with|some (_,v)=>v|none=>z,.bool r.isSome]else match r with|some (_,v)=>v|none=>z) w:=by
    intro r au;have aa:=oo (w:=w) ag au;unfold Instr.lookup;rcases aD with ⟨rfl,rfl⟩| ⟨b,aH,rfl,ao⟩
    ·simp only[e8,hE af,Result.andThen_ok,Sem.run_pure,Z,aa];cases r<;>simp[ah]<;>split<;>simp
    simp only[e8,hE af,Result.andThen_ok,Sem.run_pure,jb ao,Z,aa];cases r<;>simp[ah]<;>split<;>simp
   rcases tM (kk:=kk) (n:=n) U.toList ax 0 (by simpa using s1) (λj e d N G=>aB j e d (by simpa using N) G) (by split at F<;>exact F)with ⟨N,G,_⟩| ⟨j,ai,N,G,aK,aM,aA⟩
   ·simp only[N];refine⟨by trivial,_,ad _ G,?_⟩;have ae:=QV (I:=I) aF aG;cases ok
    ·exact .d _ _ ae
    exact .d _ _ (.aL _ _ rfl λi v d hv B=>by
     rcases i with _|_|i
     ·simp at hv B;subst hv;subst B;exact ae
     ·simp at hv B;subst hv;subst B;exact .bool _
     simp at hv)
   simp only[N,hT];refine⟨by trivial,_,ad _ aA,?_⟩;have ab:j<vs.length:=by rw[<-s2];have:=(db.1 G).1;simpa using this
   have hv:=aC j ai _ (by simpa using G) (c5 ab);rw[KZ (c5 ab)];cases ok
   ·exact .d _ _ hv
   exact .d _ _ (.aL _ _ rfl λi v d M B=>by
    rcases i with _|_|i
    ·simp at M B;subst M;subst B;exact hv
    ·simp at M B;subst M;subst B;exact .bool _
    simp at M)
  exact F.elim
 exact F.elim
def stays(kk:IntKind)(n:Int)(w:World):(Instr.keyThatStays (.int kk n) (.int kk n)).run P w=.ok (.int kk n) w:=by
 unfold Instr.keyThatStays;have:Instr.sameBits 10000 (.int kk n) (.int kk n)=true:=by simp[Instr.sameBits]
 rw[this];rfl
def ZR(
        aI:ct P V.E)(al:aJ w0 I0 w I m l){t:TypeId}{x k v:Value}{ar tk aq:T}(ay:az I m l x ar)(aa:az I m l k tk)(hv:az I m l v aq)(O:(mG V.E t l ar tk aq).ob) :
  ∃l' w',(mG V.E t l ar tk aq).bE=.aQ l'/\(Instr.mapUpdate t x k v).run P w=.ok () w'/\Le I m l I m l'/\aJ w0 I0 w' I m l':=by
 unfold mG at O⊢;split at O
 ·rename_i kk i id aR n d aF aG aH;have:=Fe aG aa;subst this;have aw:=CB hv aH;obtain⟨aN,e,aD,au,aS⟩:=wL aI aF;split at O
  ·rename_i aK;subst aK;simp only[hK];split at O
   ·rename_i aA vs hl;obtain⟨b,⟨M,G⟩,Y,af,N,s1,s2,ag,ao,ad⟩:=al.obj id _ hl;replace N:w.heap[b]?=some (.map M G)/\MapKept.Stamped M G:=N;simp only at s1 s2 ag ao;have aM:x=.map (some b):=by
     cases ay with
     |map r _ ae ab=>
      have:=ab (by unfold isRow;rw[hl];rfl);rw[Y]at this;exact this.symm
    subst aM;have av:∀e:Bool,(Instr.checkKey e 10000 aN (.int kk n)).run P w=.ok () w:=λe=>p0 (d:=.int kk) (n:=9999) au (by simp[MapKept.IsKey]) e;have ax:own (m id)=some b:=by rw[Y];rfl
    rcases tM (kk:=kk) (n:=n) M.toList aA 0 (by simpa using s1) (λj e d Y af=>ag j e d (by simpa using Y) af) O with ⟨ae,ab,aP⟩| ⟨j,aE,ae,ab,aB,aO,aC⟩
    ·simp only[ae];have ak:=oo (w:=w) au ab;have an:=mo (P:=P) (.map (M.push {key:=.int kk n,val:=v,born:=G}) (G+1)) N.1;obtain⟨ai,aj⟩:=o8 (o':=.map (M.push {key:=.int kk n,val:=v,born:=G}) (G+1)) N.1;refine⟨_,{w with heap:=w.heap.setIfInBounds b (.map (M.push {key:=.int kk n,val:=v,born:=G}) (G+1))},rfl,?_,?_,?_⟩
     ·unfold Instr.mapUpdate;simp only[e8,hE aD,Result.andThen_ok,jb N.1,av,ak,an]
     ·exact Le.setKind hl rfl rfl (by simp)
     refine al.lD hl (by simp) ax ad rfl rfl (Le.setKind hl rfl rfl (by simp)) rfl rfl rfl (ec _) (by simp) (λk aa=>aj k aa) ?_;refine⟨b,(M.push {key:=.int kk n,val:=v,born:=G},G+1),Y,af,⟨ai,D1 N.2 (by simpa using aP)⟩,by simp[s1],by simp[s2],λi e d B F=>?_,λi e ah B F=>?_,ad⟩
     ·rw[q1]at B;split at B
      ·injection B with B;subst B;rename_i hi;subst hi;rw[s1,hI (ec _)]at F;simp at F;subst F;exact .int _ _
      have hi:i<aA.length:=by have:=(e6.1 B).1;omega
      rw[e1 hi]at F;exact ag i e d B F
     rw[q1]at B;split at B
     ·injection B with B;subst B;rename_i hi;subst hi;rw[s2,hI (ec _)]at F;simp at F;subst F;exact aw
     have hi:i<vs.length:=by have:=(e6.1 B).1;omega
     rw[e1 hi]at F;exact ao i e ah B F
    simp only[ae,hT];rw[hT]at aC;have ak:=oo (w:=w) au aC;have Z:M[j]?=some aE:=by simpa using ab
    have an:=mo (P:=P) (.map (M.modify j λe=>{e with key:=.int kk n,val:=v}) G) N.1;obtain⟨ai,aj⟩:=o8 (o':=.map (M.modify j λe=>{e with key:=.int kk n,val:=v}) G) N.1;refine⟨_,{w with heap:=w.heap.setIfInBounds b (.map (M.modify j λe=>{e with key:=.int kk n,val:=v}) G)},rfl,?_,Le.setKind hl rfl rfl (by simp),?_⟩
    ·unfold Instr.mapUpdate;simp only[e8,hE aD,Result.andThen_ok,jb N.1,av,ak,Z,Option.map_some,Option.getD_some,aB,stays,an]
    refine al.lD hl (by simp) ax ad rfl rfl (Le.setKind hl rfl rfl (by simp)) rfl rfl rfl (ec _) (by simp) (λk aa=>aj k aa) ?_;refine⟨b,(M.modify j λe=>{e with key:=.int kk n,val:=v},G),Y,af,⟨ai,xd N.2 j _ (λ_ _=>rfl) (λx ay U=>by rw[Z]at U;injection U with U;subst U;exact aB.symm)⟩,by simp[s1],by simp[s2],λi e d B F=>?_,λi e ah B F=>?_,ad⟩
    ·rw[o2]at B;split at B
     ·rename_i hi;subst hi;rw[Z]at B;simp at B;subst B;rw[aO]at F;injection F with F;subst F;exact .int _ _
     exact ag i e d B F
    rw[o2]at B;split at B
    ·rename_i hi;subst hi;rw[Z]at B;simp at B;subst B;have U:j<vs.length:=by rw[<-s2];exact(e6.1 Z).1
     rw[e0,if_pos rfl,if_pos U]at F;injection F with F;subst F;exact aw
    rename_i aL;rw[e0,if_neg aL]at F;exact ao i e ah B F
   exact O.elim
  exact O.elim
 exact O.elim
theorem VP(aE:ct P V.E)(ak:aJ w0 I0 w I m l){t t2 ty:TypeId}{x k:Value}{ag tk:T}(aH:az I m l x ag)(Y:az I m l k tk)(O:(nN V.E t l ag tk).ob) :
  (nN V.E t l ag tk).t=.d (.aL [])/\∃l' w',(nN V.E t l ag tk).bE=.aQ l'/\(Builtin.delete_ #[t,t2] ty #[x,k]).run P w=.ok (.tuple #[]) w'/\Le I m l I m l'/\aJ w0 I0 w' I m l':=by
 unfold nN at O⊢;split at O
 ·rename_i kk i id aN n aC aD;have:=Fe aD Y;subst this;obtain⟨aM,e,aA,an,aS⟩:=wL aE aC;split at O
  ·rename_i aG;subst aG;simp only[hK];split at O
   ·rename_i aK vs hl;refine⟨rfl,?_⟩;obtain⟨b,⟨B,G⟩,U,ae,M,s1,s2,aa,af,ab⟩:=ak.obj id _ hl;replace M:w.heap[b]?=some (.map B G)/\MapKept.Stamped B G:=M;simp only at s1 s2 aa af;have aI:x=.map (some b):=by
     cases aH with
     |map r _ ad Z=>
      have:=Z (by unfold isRow;rw[hl];rfl);rw[U]at this;exact this.symm
    subst aI;have aq:∀e:Bool,(Instr.checkKey e 10000 aM (.int kk n)).run P w=.ok () w:=λe=>p0 (d:=.int kk) (n:=9999) an (by simp[MapKept.IsKey]) e;have aw:own (m id)=some b:=by rw[U];rfl
    rcases tM (kk:=kk) (n:=n) B.toList aK 0 (by simpa using s1) (λj e d U ae=>aa j e d (by simpa using U) ae) O with ⟨ad,Z,aR⟩| ⟨j,aB,ad,Z,aO,aP,ay⟩
    ·simp only[ad];have aj:=oo (w:=w) an Z;have al:=mo (P:=P) (.map B G) M.1;obtain⟨ah,ai⟩:=o8 (o':=.map B G) M.1;refine⟨_,{w with heap:=w.heap.setIfInBounds b (.map B G)},rfl,?_,Le.setKind hl rfl rfl (by simp),?_⟩
     ·unfold Builtin.delete_;simp[hE aA,jb M.1,aq,aj,al]
     refine ak.lD hl (by simp) aw ab rfl rfl (Le.setKind hl rfl rfl (by simp)) rfl rfl rfl (ec _) (by simp) (λk Y=>ai k Y) ?_;exact⟨b,(B,G),U,ae,⟨ah,M.2⟩,s1,s2,aa,af,ab⟩
    simp only[ad,hT];rw[hT]at ay;have aj:=oo (w:=w) an ay;have aF:B[j]?=some aB:=by simpa using Z
    have av:j<B.size:=(e6.1 aF).1;have al:=mo (P:=P) (.map (B.eraseIdxIfInBounds j) G) M.1;obtain⟨ah,ai⟩:=o8 (o':=.map (B.eraseIdxIfInBounds j) G) M.1;have ar:(B.eraseIdxIfInBounds j).toList=B.toList.eraseIdx j:=by
     unfold Array.eraseIdxIfInBounds;rw[adK av];simp
    have ax:(B.eraseIdxIfInBounds j).size=B.size-1:=by
     have h:=dn List.length ar;rw[Array.length_toList,F0,if_pos (by simpa using av),Array.length_toList]at h;exact h
    have au:∀(i:Nat),(B.eraseIdxIfInBounds j)[i]?=B[if i<j then i else i+1]?:=λi=>by
     have:(B.eraseIdxIfInBounds j)[i]?=(B.eraseIdxIfInBounds j).toList[i]?:=j4.symm;rw[this,ar,x0];split<;>simp
    refine⟨_,{w with heap:=w.heap.setIfInBounds b (.map (B.eraseIdxIfInBounds j) G)},rfl,?_,Le.setKind hl rfl rfl (by simp),?_⟩
    ·unfold Builtin.delete_;simp[hE aA,jb M.1,aq,aj,al]
    refine ak.lD hl (by simp) aw ab rfl rfl (Le.setKind hl rfl rfl (by simp)) rfl rfl rfl (ec _) (by simp) (λk Y=>ai k Y) ?_;refine⟨b,(B.eraseIdxIfInBounds j,G),U,ae,⟨ah,MapKept.stamped_erase M.2 j⟩,by rw[ax,F0,if_pos (by omega)];omega,by rw[ax,F0,if_pos (by omega)];omega,λi e d N F=>?_,λi e ao N F=>?_,ab⟩
    ·rw[au]at N;rw[x0]at F;split at N
     ·rename_i h;rw[if_pos h]at F;exact aa _ e d N F
     rename_i h;rw[if_neg h]at F;exact aa _ e d N F
    rw[au]at N;rw[x0]at F;split at N
    ·rename_i h;rw[if_pos h]at F;exact af _ e ao N F
    rename_i h;rw[if_neg h]at F;exact af _ e ao N F
   exact O.elim
  exact O.elim
 exact O.elim
def aJ.XK(F:aJ w0 I0 w I m L)(e:TypeId)(cs:Array Value)(size:Nat)(ds:List D)(n c:Nat)(U:ds.length=n)(aa:∀d∈ds,d.cells.length=size/\∀x∈d.cells,x.one=true)(ag:n<=c)(al:n*size<=cs.size)(af:c<=maxLen)(ah:∀(j:Nat) x y,cs[j]?=some x->(flat ds)[j]?=some y->Rd I x y) :
  ∃J,Le I m L J m L/\aJ w0 I0 (w.alloc (.cells cs e)) J m L/\Rd J (.slice (some ⟨w.heap.size,0,none⟩) n c) (.slice size ds):=by
 have Y:=F.sat.dX (ec w.heap.size);let J:=I.dz w.heap.size cs.toList;have O:I.le J:=⟨λb o v B=>by
  have G:b≠w.heap.size:=by rintro rfl;rw[Y.1 o]at B;cases B
  simp[J,aD.dz,G,B],λ_ _ h=>h,λ_ h=>h⟩
 have Z:∀b,b≠w.heap.size->J.cell b=I.cell b:=λb G=>by funext o;simp[J,aD.dz,G]
 have ai:cZ (w.alloc (.cells cs e)) J:=⟨λb o v B=>by
  by_cases G:b=w.heap.size
  ·subst G;simp only[J,aD.dz,hK]at B;rw[World.cell?_alloc_new];cases M:cs[o]? with
   |none=>simp[M,Y.1 o]at B
   |some x=>simpa [M]using B
  ·rw[Z b G]at B;rw[tx w _ _ (F.sat.lt B)];exact F.sat.cell b o v B,λb ab B=>by
  have ad:=F.sat.mp b ab B;exact dR.to (Below.heap_alloc w _ b (F.sat.nM B)) ad,λb N=>(Below.heap_alloc w _ b (F.sat.kW N)).trans (F.sat.df b N),λg d h=>(F.sat.dK g d h).mono O⟩
 obtain⟨aj,ak⟩:=F.call (dq.alloc (dq.refl _ _) (ec _) _) (.of O (λb G=>Z b (by omega)) (λ_ _=>rfl)) ai;refine⟨J,ak,aj,.slice _ 0 n c size ds (λk=>(cs[k]?).getD undef) U ag af aa (λk ae=>?_) (λk x M=>?_)⟩
 ·have:cs[k]?=some (cs[k]'(by omega)):=e5 (by omega);simp[J,aD.dz,this]
 have ae:k<n*size:=by rw[<-U,<-iC ds (λd N=>(aa d N).1)];exact(db.1 M).1
 have:cs[k]?=some (cs[k]'(by omega)):=e5 (by omega);rw[this];exact(ah k _ x this M).mono O
def aJ.drew(h:aJ w0 I0 w I m L):aJ w0 I0 w.drew I m L:=⟨h.below.drew,⟨h.sat.cell,h.sat.mp,h.sat.df,h.sat.dK⟩,h.ext,λid o B=>(h.obj id o B).cF (Le.refl I m L) (λ_ _=>rfl) (λ_ _=>⟨rfl,rfl⟩) ⟨λ_ _ _ _=>⟨rfl,rfl,rfl⟩,λq b j k=>.inl ⟨q,j,k⟩⟩,h.sep⟩
def LI:∀(ds:List D),(∀d∈ds,∃n,d=.int .i32 n)->flat ds=ds
 | [],_=>rfl
 |d::ds,h=>by
  obtain⟨n,rfl⟩:=h d (by simp);have j:=LI ds (λx k=>h x (by simp[k]));unfold flat at j⊢;rw[hL,j];rfl
def D4(aa:ct P V.E)(ai:aJ w0 I0 w I m L){O t:TypeId}{x:Value}{Y:T}(N:az I m L x Y)(F:(pZ V.E O t Y).ob) :
  (pZ V.E O t Y).bE=.none/\∃u w' J,(convert O t x).run P w=.ok u w'/\Le I m L J m L/\aJ w0 I0 w' J m L/\az J m L u (pZ V.E O t Y).t:=by
 have ag:∀{t:TypeId}{s b:Nat}{z:List D}{k:IntKind},V.E t=some ⟨s,b,z,.dE k⟩->P.underlying t=some (.int k):=by
  intro t s b z k M;obtain⟨x,z',_,_,_,_,_,_,G,_⟩:=fq (aa t _ M);simp only[iB]at G;split at G
  ·rename_i aq ad;simp at G;subst G;exact ad
  cases G
 unfold pZ at F⊢;split at F
 ·rename_i ay k aq n ae M;have af:=ag M;have U:=ag ae;have:=cw N;cases this;refine⟨rfl,.int k (k.wrap n),w,I,?_,.refl ..,ai,.d _ _ (.int _ _)⟩;unfold convert;simp[hE U,hE af,Conv.intToInt]
 ·rename_i e s ae M;split at F
  ·rename_i ad;have af:=mW aa M;have ao:=ag ad;have:=cw N;cases this;have ax:(Conv.runesFrom s s.size 0 #[]).size<=16777216:=by
    have:=size_runesFrom s s.size 0 #[];simp at this;have aw:s.size<=16777216:=F;omega
   have an:=run_runes_of_string (P:=P) w O t e s (Qw aa ae) af ao (by omega);have hint:=Pp s s.size 0 #[] (by simp);generalize al:Conv.runesFrom s s.size 0 #[]=rs at *;have Z:yp s=rs.toList.map Po:=by unfold yp;rw[al]
   have U:∀d∈yp s,∃n,d=.int .i32 n:=by
    rw[Z];intro d ab;obtain⟨v,hv,rfl⟩:=gg.1 ab;obtain⟨n,rfl⟩:=hint v hv;exact⟨n,rfl⟩
   obtain⟨J,ar,au,av⟩:=(ai.drew).XK e (rs++Array.replicate (grownCap w rs.size 0 e-rs.size) (.int .i32 0)) 1 (yp s) rs.size (grownCap w rs.size 0 e) (by simp[Z]) (λd ab=>by obtain⟨n,rfl⟩:=U d ab;simp[D.cells,D.one]) (grownCap_ge w rs.size 0 e) (by simp)
    (by
      have h0:grownCap w rs.size 0 e=rs.size+w.tape w.drawn (.appendCap rs.size 0 e)%(2 ^ 63-rs.size):=rfl;have:w.tape w.drawn (Question.appendCap rs.size 0 e)%(2 ^ 63-rs.size)<2 ^ 63-rs.size:=q6 _ (by omega);rw[h0];unfold maxLen;omega)
    (
     λj x y N B=>by
     rw[LI _ U,Z]at B;rw[e3]at B;have ak:j<rs.size:=by
      cases ah:rs.toList[j]? with
      |none=>rw[ah]at B;simp at B
      |some z=>have:=(db.1 ah).1;simpa using this
     rw[j1 ak]at N;have aj:rs.toList[j]?=some x:=by simpa using N
     rw[aj]at B;simp at B;subst B;obtain⟨n,rfl⟩:=hint x (dd aj);exact .int _ _)
   exact⟨rfl,_,_,J,an,ar,au,.d _ _ av⟩
  exact F.elim
 exact F.elim
theorem aJ.Cp{ob:AO}(B:aJ w0 I0 w I m l){w':World}{v:Value}{b0:Nat}(an:own v=some b0)(aA:w.heap.size<=b0)(G:w.grownBy w' none)(ar:w.drawn<=w'.drawn)(aw:∀e s els,ob ≠ .row e s els/\ob ≠ .bn e s els)(ax:dZ w0.heap.size w' I (aQ m l.length v) (l++[ob]) v ob) :
  Le I m l I (aQ m l.length v) (l++[ob])/\aJ w0 I0 w' I (aQ m l.length v) (l++[ob]):=by
 have Z:∀k,k<l.length->(l++[ob])[k]?=l[k]?:=λk ae=>e1 (by omega);have av:(l++[ob])[l.length]?=some ob:=by simp
 have ak:Le I m l I (aQ m l.length v) (l++[ob]):=by
  refine⟨.refl I,by simp,λid U hv=>⟨?_,bU m v (by omega)⟩,λid U ai=>⟨?_,bU m v (by omega)⟩,λid az s' els' U ad=>⟨els',?_⟩⟩
  ·unfold isVar at hv⊢;rw[Z id U];exact hv
  ·unfold isRow at ai⊢;rw[Z id U]at ai;exact ai
  rw[Z id U]at ad;exact ad
 have al:∀k,alive l k=true->∀b,own (m k)=some b->b<w.heap.size:=by
  intro k ae b ah;obtain⟨o,F,M⟩:=bN.1 ae;exact((B.obj k o F).lt M ah).1
 refine⟨ak,⟨B.below.trans ⟨G.os,G.tape,G.output,G.size,λk ae=>G.block k (by have:=B.below.size;omega) (by simp),λ_=>ar⟩,⟨λb o u Y=>?_,λb ao Y=>?_,λb M=>(G.block b (B.sat.kW M) (by simp)).trans (B.sat.df b M),B.sat.dK⟩,B.ext,λid o F=>?_,λi j b aa hi aj N O=>?_⟩⟩
 ·exact(ma (w:=w) (a:=⟨b,o,none⟩) (G.block b (B.sat.lt Y) (by simp))).trans (B.sat.cell b o u Y)
 ·have ad:=B.sat.mp b ao Y;exact dR.to (G.block b (B.sat.nM Y) (by simp)) ad
 ·by_cases U:id<l.length
  ·rw[Z id U]at F;rw[bU m v (by omega)];by_cases M:o=.dead
   ·subst M;trivial
   exact(B.obj id o F).cF ak (λb ah=>G.block b ((B.obj id o F).lt M ah).1 (by simp)) (λ_ _=>⟨rfl,rfl⟩) (.push (λb u ay=>G.block b (B.sat.lt ay) (by simp)) (by cases ob<;>first|rfl|exact absurd rfl (aw _ _ _).2))
  have:id=l.length:=by
   have:=(db.1 F).1;simp at this;omega
  subst this;rw[av]at F;injection F with F;subst F;rw[dH];exact ax
 have ab:∀k,k≠l.length->alive (l++[ob]) k=true->alive l k=true:=by
  intro k ae aq;obtain⟨o,F,M⟩:=bN.1 aq;have au:k<l.length:=by have:=(db.1 F).1;simp at this;omega
  rw[Z k au]at F;exact bN.2 ⟨o,F,M⟩
 by_cases af:i=l.length
 ·subst af;rw[dH]at N;rw[bU m v (hU aa)]at O;rw[an]at N;injection N with N;have:=al j (ab j (hU aa) aj) b O;omega
 by_cases ag:j=l.length
 ·subst ag;rw[dH]at O;rw[bU m v aa]at N;rw[an]at O;injection O with O;have:=al i (ab i aa hi) b N;omega
 rw[bU m v af]at N;rw[bU m v ag]at O;exact B.sep i j b aa (ab i af hi) (ab j ag aj) N O
theorem aJ.ZJ(M:aJ w0 I0 w I m l){w':World}{v:Value}{b0:Nat}(G:own v=some b0)(j:w.heap.size<=b0)(B:w.grownBy w' none)(k:w.drawn<=w'.drawn)(F:dZ w0.heap.size w' I m l v (.map [] [])) :
  Le I m l I (aQ m l.length v) (l++[.map [] []])/\aJ w0 I0 w' I (aQ m l.length v) (l++[.map [] []]):=M.Cp G j B k (by simp) F
def zg{j:ME}{i:Nat}{e:MapEntry}(h:j.1[i]?=some e):vV j i=e.born:=by simp[vV,h]
def Hy{au:T}(av:ct P V.E)(M:aJ w0 I0 w I m L){t:TypeId}{x:Operand}(aj:o.op=.range t x)(af:az I m L (ρ x) au)(Y:(yf V.E t l nid au).ob):cm P w0 I0 o ρ w I m l L nid (yf V.E t l nid au):=by
 unfold yf at Y⊢;split at Y
 ·rename_i O e id an;split at Y
  ·rename_i N vs l' G
   try simp only[G]
   rintro rfl rfl;have ae:P.underlying t=some (.map O e):=by
    obtain⟨x,z',_,_,_,_,_,_,k,_⟩:=fq (av t _ an);simp only[iB]at k;split at k
    ·rename_i aD aA ag;simp at k;obtain⟨rfl,rfl⟩:=k;exact ag
    cases k
   have hv:∃b,ρ x=.map (some b):=by
    generalize ao:ρ x=aE at af;cases af with
    |map r _ aF ay=>
     simp only[dw,cO]at G;split at G
     ·rename_i hl;obtain⟨b,j,B,_⟩:=M.obj id _ hl;have:=ay (by unfold isRow;rw[hl];rfl);rw[B]at this;injection this with this;exact⟨b,by rw[<-this]⟩
     ·rename_i hl;obtain⟨b,j,B,_⟩:=M.obj id _ hl;have:=ay (by unfold isRow;rw[hl];rfl);rw[B]at this;injection this with this;exact⟨b,by rw[<-this]⟩
     cases G
   obtain⟨b,ax⟩:=hv;obtain⟨J,aB,ak,aw,aC⟩:=sG M af G;rw[ax]at aw;cases aw with
   |map _ j _ _ B Z aa ab ad=>
    have ai:=ak.sat.mp b j B;have al:=run_range_map (P:=P) w t O e b j.1 j.2 ae ai.1;have ah:(execOp ρ o).run P w=.ok (.value (.pointer (some ⟨w.heap.size,0,none⟩))) (w.alloc (.mapIter (some b) j.2 #[] j.2)):=by
     unfold execOp;simp[aj,ax,al]
    simp only[ah,cr];obtain⟨aq,ar⟩:=ak.Cp (ob:=.iter N vs []) (w':=w.alloc (.mapIter (some b) j.2 #[] j.2)) (v:=.pointer (some ⟨w.heap.size,0,none⟩)) rfl (ec _) (q0 w _ _) (ec _) (by simp)
     ⟨w.heap.size,some b,j,#[],rfl,M.below.size,vi w _,⟨λr F=>by injection F with F;subst F;exact B,λh=>by cases h⟩,Z,aa,ab,ad,⟨rfl,by simp⟩,ak.sat.dX (ec _)⟩
    refine⟨J,_,aB.trans aq,ar,?_⟩;rw[<-aC];exact .ptr _ _ 0 (by unfold isVar;simp[AO.isVar]) (dH m _ _)
  exact Y.elim
 ·rename_i O e N vs an;rintro rfl rfl;have ae:P.underlying t=some (.map O e):=by
   obtain⟨x,z',_,_,_,_,_,_,k,_⟩:=fq (av t _ an);simp only[iB]at k;split at k
   ·rename_i aD aA ag;simp at k;obtain⟨rfl,rfl⟩:=k;exact ag
   cases k
  have G:=cw af;have fin:∀(U:Option Nat)(j:ME),((∀r,U=some r->I.mp r=some j)/\(U=none->j.1 = #[]))->j.1.size=N.length->j.1.size=vs.length->(∀(i:Nat)(e:MapEntry)(d:D),j.1[i]?=some e->N[i]?=some d->Rd I e.key d)->(∀(i:Nat)(e:MapEntry)(d:D),j.1[i]?=some e->vs[i]?=some d->Rd I e.val d) ->
    (execOp ρ o).run P w=.ok (.value (.pointer (some ⟨w.heap.size,0,none⟩))) (w.alloc (.mapIter U j.2 #[] j.2))->cr P ((execOp ρ o).run P w) λv w'=>∃J m',Le I m L J m' (L++[.iter N vs []])/\aJ w0 I0 w' J m' (L++[.iter N vs []])/\az J m' (L++[.iter N vs []]) v (.ptr L.length 0):=by
   intro U j B Z aa ab ad ah;simp only[ah,cr];obtain⟨aq,ar⟩:=M.Cp (ob:=.iter N vs []) (w':=w.alloc (.mapIter U j.2 #[] j.2)) (v:=.pointer (some ⟨w.heap.size,0,none⟩)) rfl (ec _) (q0 w _ _) (ec _) (by simp)
    ⟨w.heap.size,U,j,#[],rfl,M.below.size,vi w _,B,Z,aa,ab,ad,⟨rfl,by simp⟩,M.sat.dX (ec _)⟩
   exact⟨I,_,aq,ar,.ptr _ _ 0 (by unfold isVar;simp[AO.isVar]) (dH m _ _)⟩
  generalize ao:ρ x=aE at G;cases G with
  |uo=>exact fin none (#[],0) ⟨λr F=>(by cases F),λ_=>rfl⟩ rfl rfl (by simp) (by simp) (by unfold execOp;simp[aj,ao,run_range_nilMap (P:=P) w t O e ae])
  |map b j _ _ B Z aa ab ad=>
   have ai:=M.sat.mp b j B;have al:=run_range_map (P:=P) w t O e b j.1 j.2 ae ai.1;exact fin (some b) j ⟨λr F=>by injection F with F;subst F;exact B,λh=>by cases h⟩ Z aa ab ad (by unfold execOp;simp[aj,ao,al])
 exact Y.elim
def V8{aa:T}(Y:aJ w0 I0 w I m L)(ai:eQ l L){x:Operand}(ak:o.op=.entry x)(ae:az I m L (ρ x) aa)(F:(wc l aa).ob):cm P w0 I0 o ρ w I m l L nid (wc l aa):=by
 unfold wc at F⊢;split at F
 ·rename_i id;split at F
  ·rename_i aA vs done hl;split at F
   ·rename_i i hi;split at F
    ·rename_i k v ad hv
     try simp only[hl,hi,ad,hv]
     obtain⟨b,af,B,seen,ar,aD,ag,ah,aE,aF,av,aw,⟨ax,au⟩,aC⟩:=Y.obj id _ (ai.get hl);generalize ao:ρ x=aG at ae;cases ae with
     |ptr _ ay _ aB G=>
      rw[ar]at G;injection G with G;injection G with G;injection G with G;subst G;have U:i<B.1.size:=au i (List.mem_of_getLast? hi);obtain⟨r,rfl⟩:∃r,af=some r:=by
       cases af with
       |none=>have:=ah.2 rfl;rw[this]at U;simp at U
       |some r=>exact⟨r,rfl⟩
      have ab:=Y.sat.mp r B (ah.1 r rfl);have O:B.1[i]?=some B.1[i]:=e5 U;obtain⟨Z,aj⟩:∃Z,done=Z++[i]:=by
       obtain⟨ys,aq⟩:=List.getLast?_eq_some_iff.1 hi;exact⟨ys,aq⟩
      have an:seen=(Z.map (vV B)).toArray.push B.1[i].born:=by
       apply k3.1;rw[ax,aj];simp[zg O]
      rw[an]at ag;have al:=run_entry_at (P:=P) w b r B.2 _ B.1 B.2 B.1[i] ag ab.1 (by simp) ab.2.2.1;refine cm.val Y rfl (u:=.tuple #[B.1[i].key,B.1[i].val]) (by unfold execOp;simp[ak,ao,al]) (.d _ _ (.aL _ _ rfl λj u d M N=>?_));rcases j with _|_|j
      ·simp at M N;subst M;subst N;exact av i _ _ O ad
      ·simp at M N;subst M;subst N;exact aw i _ _ O hv
      simp at M
    exact F.elim
   exact F.elim
  exact F.elim
 exact F.elim
theorem FO(j:aJ w0 I0 w I m l){t:TypeId}(k:o.op=.makeMap t none):cm P w0 I0 o ρ w I m l L nid ⟨.map nid,.aQ (l++[.map [] []]),True⟩:=by
 rintro rfl rfl;have B:(execOp ρ o).run P w=.ok (.value (.map (some w.heap.size))) (w.alloc (.map #[] 0)):=by
  unfold execOp;simp[k,Instr.makeMap]
 simp only[B,cr];obtain⟨F,G⟩:=j.ZJ (w':=w.alloc (.map #[] 0)) (v:=.map (some w.heap.size)) rfl (ec _) (q0 w _ _) (ec _) ⟨_,(#[],0),rfl,j.below.size,⟨vi w _,MapKept.stamped_empty 0⟩,rfl,rfl,by simp,by simp,j.sat.dX (ec _)⟩;exact⟨I,_,F,G,.map _ _ (by simp) (λ_=>dH m _ _)⟩
def acX(F:ct P V.E){t:TypeId}{sz B:Nat}{z:List D}{k:IntKind}(h:V.E t=some ⟨sz,B,z,.dE k⟩):P.underlying t=some (.int k):=by
 obtain⟨x,z',_,_,_,_,_,_,j,_⟩:=fq (F t _ h);simp only[iB]at j;split at j
 ·rename_i M G;simp at j;subst j;exact G
 cases j
def aaZ{v:Value}{d:D}{kk:IntKind}(h:Rd I v d)(j:qk kk d=true):∃n,v=.int kk n/\d=.int kk n:=by
 cases d<;>simp[qk]at j
 subst j;cases h;exact⟨_,rfl,rfl⟩
def Hz{v:Value}{d:D}{n:Nat}{kk:IntKind}(h:Rd I v d)(M:oT n kk d=true):∃ns:List Int,ns.length=n/\v=.agg (ns.map λn=>Value.int kk n).toArray/\d=.agg (ns.map λn=>D.int kk n):=by
 cases d<;>simp only[oT,dk,ea]at M<;>try cases M
 rename_i cs aa O;cases h with
 |agg vs _ Y ab Z=>
  have key:∀(cs:List D)(vs:List Value),vs.length=cs.length->cs.all (qk kk)=true->(∀(i:Nat) v d,vs[i]?=some v->cs[i]?=some d->Rd I v d)->∃ns:List Int,ns.length=cs.length/\vs=ns.map (λn=>Value.int kk n)/\cs=ns.map (λn=>D.int kk n):=by
   intro cs;induction cs with
   |nil=>intro vs j _ _;exact⟨[],rfl,by simpa using j,rfl⟩
   |cons c cs U=>
    intro vs j k G;cases vs with
    |nil=>simp at j
    |cons v vs=>
     simp only[List.all_cons,dk]at k;obtain⟨n,rfl,rfl⟩:=aaZ (G 0 v c rfl rfl) k.1;obtain⟨ns,N,B,F⟩:=U vs (by simpa using j) k.2 (λi v d a b=>G (i+1) v d (by simpa using a) (by simpa using b));exact⟨n::ns,by simp[N],by simp[B],by simp[F]⟩
  obtain⟨ns,N,B,F⟩:=key cs vs.toList (by simpa using Y) O (λi v d a b=>Z i v d (by simpa using a) b);refine⟨ns,by omega,?_,by rw[F]⟩;congr 1;apply k3.1;simpa using B
def y8{kk:IntKind}:∀(a b:List Int),c9 (a.map λn=>D.int kk n) (b.map λn=>D.int kk n)=decide (a=b)
 | [],[]=>by simp[c9]
 | [],_::_=>by simp[c9]
 |_::_,[]=>by simp[c9]
 |x::a,y::b=>by
  simp only[e7,c9,gB,y8 a b];rw[gl];simp
def u9{e:TypeId}{kk:IntKind}(j:P.underlying e=some (.int kk)):P.plainKey e=true:=by simp[Program.plainKey,j]
def Ph(d:Nat){e:TypeId}{kk:IntKind}(B:P.underlying e=some (.int kk))(F:P.cellsOf e=1)(a b:List Int):∀(is:List Nat),(∀i∈is,i<a.length/\i<b.length) ->
  (Op.eqItems (d+1) e (P.cellsOf e) (a.map λn=>Value.int kk n).toArray (b.map λn=>Value.int kk n).toArray is).run P w=.ok (is.all λi=>decide (a[i]?=b[i]?)) w
 | [],_=>by simp[Op.eqItems]
 |i::is,h=>by
  have hi:=h i (by simp);have G:(a.map λn=>Value.int kk n).toArray[i*P.cellsOf e]?=some (.int kk a[i]):=by simp[F,hi.1]
  have M:(b.map λn=>Value.int kk n).toArray[i*P.cellsOf e]?=some (.int kk b[i]):=by simp[F,hi.2]
  simp only[Op.eqItems,e8,tl w (u9 B) G,tl w (u9 B) M,Result.andThen_ok,adU w d e kk _ _ _ B];by_cases k:a[i]=b[i]
  ·have:=Ph d B F a b is (λj N=>h j (by simp[N]));simp only[k,BEq.rfl,pb,hR,h9];rw[this];simp[k,hi.1,hi.2]
  simp[k,hi.1,hi.2,u4.2 k]
def Q4{a b:List Int}(h:a.length=b.length):((List.range a.length).all λi=>decide (a[i]?=b[i]?))=decide (a=b):=by
 rw[gl];simp only[ek,ib,ea];constructor
 ·intro j;apply hX ;intro i;by_cases hi:i<a.length
  ·exact j i hi
  rw[hJ (by omega),hJ (by omega)]
 rintro rfl i _;rfl
def abi{j e:TypeId}{n:Nat}{kk:IntKind}(G:P.underlying j=some (.array n e))(F:P.underlying e=some (.int kk)){i:TypeInfo}(hi:P.info? e=some i)(B:P.cellsOf e=1)(a b:List Int)(k:a.length=n)(M:b.length=n) :
  (Op.equal j (.agg (a.map λn=>Value.int kk n).toArray) (.agg (b.map λn=>Value.int kk n).toArray)).run P w=.ok (decide (a=b)) w:=by
 unfold Op.equal;rw[show Op.maxDepth=9998+1+1 by rfl,run_equalIn_array w (9998+1) _ _ G hi,Ph 9998 F B a b _ (λi hi=>by simp at hi;omega),<-k,Q4 (by omega)]
def abg{F e:TypeId}{n:Nat}{kk:IntKind}(U:P.underlying F=some (.array n e))(B:P.underlying e=some (.int kk)){Z:TypeInfo}(hi:P.info? e=some Z)(M:P.cellsOf e=1)(ns:List Int)(aa:ns.length=n)(em:Bool) :
  (Instr.checkKey em 10000 F (.agg (ns.map λn=>Value.int kk n).toArray)).run P w=.ok () w:=by
 rw[show(10000:Nat)=9998+1+1 by rfl];unfold Instr.checkKey;simp only[e8,hE U,Result.andThen_ok];simp only[Std.Legacy.Range.forIn_eq_forIn_range',Std.Legacy.Range.size,Nat.sub_zero,Nat.add_one_sub_one,Nat.div_one];have k:∀i∈List.range' 0 n,i<ns.length:=λi hi=>by simp at hi;omega
 generalize List.range' 0 n=is at k;induction is with
 |nil=>simp
 |cons j is Y=>
  have O:=k j (by simp);have G:(ns.map λn=>Value.int kk n).toArray[j*P.cellsOf e]?=some (.int kk ns[j]):=by simp[M,O]
  have N:(Instr.checkKey em (9998+1) e (.int kk ns[j])).run P w=.ok () w:=p0 (d:=.int kk) (n:=9998) B (by simp[MapKept.IsKey]) em;simp only[List.forIn_cons,e8,run_sizeOf w hi,Result.andThen_ok,tl w (u9 B) G,N,Sem.run_pure];exact Y λi hi=>k i (by simp[hi])
structure AK(P:Program)(kt:TypeId)(n:Nat)(kk:IntKind):Prop where
 eq:∀(w:World)(a b:List Int),a.length=n->b.length=n->(Op.equal kt (.agg (a.map λn=>Value.int kk n).toArray) (.agg (b.map λn=>Value.int kk n).toArray)).run P w=.ok (decide (a=b)) w
 ck:∀(w:World)(ns:List Int),ns.length=n->∀em:Bool,(Instr.checkKey em 10000 kt (.agg (ns.map λn=>Value.int kk n).toArray)).run P w=.ok () w
 wide:(match P.underlying kt with|some (.array _ _)|some (.struct _)=>true|_=>false)=true
def one_cell(G:ct P V.E){j:TypeId}{s b:Nat}{z:List D}{kk:IntKind}(F:V.E j=some ⟨s,b,z,.dE kk⟩):P.underlying j=some (.int kk)/\(∃k,P.info? j=some k)/\P.cellsOf j=1:=by
 obtain⟨k,z,N,Z,ae,af,aa,ab,ag,O⟩:=fq (G j _ F);refine⟨acX G F,⟨k,N⟩,?_⟩;have:P.cellsOf j=k.size:=by simp[Program.cellsOf,N]
 rw[this,Z];have Y:=aa;have M:=ab;simp only[TD.agg]at M;have U:z.cells.toList.length=1:=by cases z<;>simp[kQ,Value.cells]at M⊢
 obtain⟨ad,_,_⟩:=qQ ⟨λ_ _=>none,λ_=>none,λ_=>False⟩ _ _ Y;have B:z.cells.toList.length=_:=ad;rw[U]at B;dsimp only at O B⊢;exact O.symm.trans B.symm
theorem Pg(d:Nat){t0:TypeId}{kk:IntKind}(B:P.underlying t0=some (.int kk))(a b:List Int)(G:a.length=b.length):∀(k:List Field) (i:Nat),(∀g∈k,g.name ≠ "_")->k.map (λf=>(f.offset,f.type))=(List.range' i k.length).map (λj=>(j,t0))->i+k.length=a.length ->
  (Op.eqFields (d+1) (a.map λn=>Value.int kk n).toArray (b.map λn=>Value.int kk n).toArray k).run P w=.ok (decide (a.drop i=b.drop i)) w
 | [],i,_,_,hl=>by
  simp only[List.length_nil,Nat.add_zero]at hl;simp[Op.eqFields,mb (Nat.le_of_eq hl.symm),mb (Nat.le_of_eq (hl.trans G).symm)]
 |g::k,i,O,M,hl=>by
  simp only[List.length_cons,List.range'_succ,e7,o1,et]at M hl;obtain⟨⟨ab,ad⟩,ae⟩:=M;have hi:i<a.length:=by omega
  have N:i<b.length:=by omega
  have Z:(a.map λn=>Value.int kk n).toArray[i]?=some (.int kk a[i]):=by simp[hi]
  have aa:(b.map λn=>Value.int kk n).toArray[i]?=some (.int kk b[i]):=by simp[N]
  have af:g.name ≠ "_" :=O g (by simp);have ag:=Pg d B a b G k (i+1) (λg h=>O g (by simp[h])) ae (by omega);simp only[Op.eqFields,Sem.run_ite,af,ne_eq,not_false_eq_true,hK,e8,ab,ad,tl w (u9 B) Z,tl w (u9 B) aa,Result.andThen_ok,adU w d t0 kk _ _ _ B,ag];have U:=hS hi;have Y:=hS N;have key:decide (a.drop i=b.drop i)=(decide (a[i]=b[i])&&decide (a.drop (i+1)=b.drop (i+1))):=by
   rw[U,Y,gl];simp only[ea,dk,o1]
  rw[key];by_cases F:a[i]=b[i]
  ·simp only[F,BEq.rfl,pb,hR,h9,K2,k4]
  simp only[u4.2 F,Bool.not_false,hK,Sem.run_pure,F,decide_false,p4]
def abh{O t0:TypeId}{kk:IntKind}{k:Array Field}(ad:P.underlying O=some (.struct k))(M:P.underlying t0=some (.int kk))(ns:List Int)(ab:ns.length=k.size)(G:k.toList.map (λf=>(f.offset,f.type))=(List.range k.size).map (λj=>(j,t0)))(em:Bool) :
  (Instr.checkKey em 10000 O (.agg (ns.map λn=>Value.int kk n).toArray)).run P w=.ok () w:=by
 rw[show(10000:Nat)=9998+1+1 by rfl];unfold Instr.checkKey;simp only[e8,hE ad,Result.andThen_ok];rw[<-Array.forIn_toList];have F:∀g∈k.toList,g.type=t0/\g.offset<ns.length:=by
  intro g aa;obtain⟨i,hi,rfl⟩:=hF.1 aa;have B:(k.toList.map λf=>(f.offset,f.type))[i]?=some (k.toList[i].offset,k.toList[i].type):=by rw[e3,c5 hi];rfl
  rw[G,e3]at B;have N:i<k.size:=by simpa using hi
  rw[ia N]at B;simp only[Option.map_some,c4,et]at B;exact⟨B.2.symm,by rw[<-B.1,ab];exact N⟩
 generalize k.toList=fs at F;induction fs with
 |nil=>simp
 |cons g fs ae=>
  obtain⟨Y,B⟩:=F g (by simp);have U:(ns.map λn=>Value.int kk n).toArray[g.offset]?=some (.int kk ns[g.offset]):=by simp[B]
  have Z:(Instr.checkKey em (9998+1) t0 (.int kk ns[g.offset])).run P w=.ok () w:=p0 (d:=.int kk) (n:=9998) M (by simp[MapKept.IsKey]) em;simp only[List.forIn_cons,e8,Sem.run_ite,Y,tl w (u9 M) U,Z,Sem.run_pure,Result.andThen_ok];have:=ae λg G=>F g (by simp[G]);split<;>simpa using this
def Nd(M:ct P V.E){t:TypeId}{n:Nat}{kk:IntKind}{i:TI}(h:nP V.E t=some (n,kk,i)):∃B e,P.underlying t=some (.map B e)/\AK P B n kk/\V.E e=some i:=by
 unfold nP at h;split at h
 ·rename_i B e ht;split at h
  ·rename_i aD aC az k ar;injection h with h;injection h with al U;injection U with U an;subst al;subst U;subst an;obtain⟨x,z',_,_,_,_,_,_,G,_⟩:=fq (M t _ ht);refine⟨B,e,?_,?_,ar⟩
   ·simp only[iB]at G;split at G
    ·rename_i aB ay au;simp at G;obtain⟨rfl,rfl⟩:=G;exact au
    cases G
   unfold Ak at k;split at k
   ·rename_i n0 aA aa;split at k
    ·rename_i aw Y;simp only[c4,et]at k;obtain⟨rfl,rfl⟩:=k;obtain⟨N,⟨aE,aj⟩,ak⟩:=one_cell M Y;have ab:=Qv M aa;exact⟨λw a b ae af=>abi ab N aj ak a b ae af,λw ns ai em=>abg ab N aj ak ns ai em,by simp[ab]⟩
    cases k
   ·rename_i fs aa;cases fs with
    |nil=>cases k
    |cons p r=>
     obtain⟨ax,t0⟩:=p;simp only at k;split at k
     ·rename_i aw Y;split at k
      ·rename_i Z;simp only[c4,et]at k;obtain⟨rfl,rfl⟩:=k;obtain⟨N,_,_⟩:=one_cell M Y;obtain⟨F,O,ad,ao,aq⟩:=acY M aa Z;have av:((ax,t0)::r).length=F.size:=by rw[ad];simp
       have ah:F.toList.map (λf=>(f.offset,f.type))=(List.range F.size).map (λj=>(j,t0)):=by
        rw[<-ad,<-av];cases r with
        |nil=>cases Z
        |cons p r=>exact fv Z
       refine⟨λw a b ae af=>?_,λw ns ai em=>abh O N ns (by omega) ah em,by simp[O]⟩;have ag:P.fieldsOf B=F:=by simp[Program.fieldsOf,O]
       unfold Op.equal;rw[show Op.maxDepth=9998+1+1 by rfl,run_equalIn_struct w (9998+1) B _ _ (by rw[ag];exact O) aq,ag];have:=Pg (w:=w) 9998 N a b (by omega) F.toList 0 ao (by rw[ah,List.range_eq_range'];simp) (by simp;omega);rw[this];simp
      cases k
     cases k
   cases k
  cases h
 cases h
theorem Ey{Y:TypeId}{n:Nat}{kk:IntKind}(Z:AK P Y n kk)(ns:List Int)(aa:ns.length=n):∀(k:List MapEntry)(B:List D)(i:Nat),k.length=B.length ->
  (∀(j:Nat)(x:MapEntry)(d:D),k[j]?=some x->B[j]?=some d->Rd I x.key d)->B.all (oT n kk)=true ->
  (jA (.agg (ns.map λn=>D.int kk n)) B i=none/\(Instr.findAsking Y (.agg (ns.map λn=>Value.int kk n).toArray) k i).run P w=.ok none w/\∀x∈k,x.key ≠ .agg (ns.map λn=>Value.int kk n).toArray) \/
  ∃j x,jA (.agg (ns.map λn=>D.int kk n)) B i=some (i+j)/\k[j]?=some x/\x.key=.agg (ns.map λn=>Value.int kk n).toArray/\B[j]?=some (.agg (ns.map λn=>D.int kk n))/\(Instr.findAsking Y (.agg (ns.map λn=>Value.int kk n).toArray) k i).run P w=.ok (some (i+j,x.val)) w
 | [],[],i,_,_,_=>.inl ⟨rfl,by simp[Instr.findAsking],by simp⟩
 |x::k,d::B,i,hl,ab,hk=>by
  simp only[List.all_cons,dk]at hk;obtain⟨as,ai,N,rfl⟩:=Hz (ab 0 x d rfl rfl) hk.1;have U:=Z.eq w ns as aa ai;by_cases F:ns=as
  ·subst F;refine .inr ⟨0,x,by simp[jA,ue,y8],rfl,N,rfl,?_⟩;simp only[Instr.findAsking,N,e8,U,Result.andThen_ok];simp
  rcases Ey Z ns aa k B (i+1) (by simpa using hl) (λj e d G M=>ab (j+1) e d (by simpa using G) (by simpa using M)) hk.2 with ⟨G,M,ah⟩| ⟨j,ad,G,M,ae,af,ag⟩
  ·refine .inl ⟨by simp[jA,ue,y8,F,G],?_,λy hy=>?_⟩
   ·simp only[Instr.findAsking,N,e8,U,Result.andThen_ok];simp[F,M]
   rcases fa.1 hy with rfl|hy
   ·rw[N];intro O;injection O with O;have:=dn Array.toList O;simp only[List.map_inj_left,List.toList_toArray]at this;exact F ((List.map_inj_right (λa b h=>by injection h)).1 this.symm)
   exact ah y hy
  refine .inr ⟨j+1,ad,by simp only[jA,ue,y8,F];simp[G];omega,by simpa using M,ae,by simpa using af,?_⟩;simp only[Instr.findAsking,N,e8,U,Result.andThen_ok];simp[F,ag];omega
def XX(ab:ct P V.E)(aw:aJ w0 I0 w I m L)(aq:eQ l L){t:TypeId}{x k:Value}{O tk:T}{ok:Bool}(ay:az I m L x O)(au:az I m L k tk)(F:(uj V.E t l O tk ok).ob) :
  (uj V.E t l O tk ok).bE=.none/\∃u,(Instr.lookup t x k ok).run P w=.ok u w/\az I m L u (uj V.E t l O tk ok).t:=by
 unfold uj at F⊢;split at F
 ·rename_i n kk i aA vs aK an ao;obtain⟨aa,e,aj,Y,aF⟩:=Nd ab an;obtain⟨U,s1,s2,aC,aD,aE⟩:=FT aw aq ay ao;obtain⟨z,ak,aG,aH,aO⟩:=yo ab aF w;split at F
  ·rename_i af;simp only[if_pos af];obtain⟨ns,ag,rfl,rfl⟩:=Hz (cw au) af;have ad:∀e:Bool,(Instr.checkKey e 10000 aa (.agg (ns.map λn=>Value.int kk n).toArray)).run P w=.ok () w:=Y.ck w ns ag;have ax:(match P.underlying aa with|some (.array _ _)|some (.struct _)=>true|_=>false)=true:=Y.wide;have ah:∀r,(Instr.findAsking aa (.agg (ns.map λn=>Value.int kk n).toArray) U.toList 0).run P w=.ok r w->(Instr.lookup t x (.agg (ns.map λn=>Value.int kk n).toArray) ok).run P w=.ok (if ok then .tuple #[match r with|some (_,v)=>v|none=>z,.bool r.isSome]else match r with|some (_,v)=>v|none=>z) w:=by
    intro r av;have Z:=run_findKey_eq w ax (.agg (ns.map λn=>Value.int kk n).toArray) U.toList;rw[av]at Z;unfold Instr.lookup;rcases aE with ⟨rfl,rfl⟩| ⟨b,aI,rfl,ar⟩
    ·simp only[e8,hE aj,Result.andThen_ok,Sem.run_pure,ad,Z];cases r<;>simp[ak]<;>split<;>simp
    simp only[e8,hE aj,Result.andThen_ok,Sem.run_pure,jb ar,ad,Z];cases r<;>simp[ak]<;>split<;>simp
   rcases Ey (w:=w) Y ns ag U.toList aA 0 (by simpa using s1) (λj e d N G=>aC j e d (by simpa using N) G) (by split at F<;>exact F)with ⟨N,G,_⟩| ⟨j,al,N,G,aM,aN,aB⟩
   ·simp only[N];refine⟨by trivial,_,ah _ G,?_⟩;have ai:=QV (I:=I) aG aH;cases ok
    ·exact .d _ _ ai
    exact .d _ _ (.aL _ _ rfl λi v d hv B=>by
     rcases i with _|_|i
     ·simp at hv B;subst hv;subst B;exact ai
     ·simp at hv B;subst hv;subst B;exact .bool _
     simp at hv)
   simp only[N,hT];refine⟨by trivial,_,ah _ aB,?_⟩;have ae:j<vs.length:=by rw[<-s2];have:=(db.1 G).1;simpa using this
   have hv:=aD j al _ (by simpa using G) (c5 ae);rw[KZ (c5 ae)];cases ok
   ·exact .d _ _ hv
   exact .d _ _ (.aL _ _ rfl λi v d M B=>by
    rcases i with _|_|i
    ·simp at M B;subst M;subst B;exact hv
    ·simp at M B;subst M;subst B;exact .bool _
    simp at M)
  exact F.elim
 exact F.elim
def abm(kk:IntKind)(d:Nat):∀ns:List Int,Instr.sameBits (d+2) (.agg (ns.map λn=>Value.int kk n).toArray) (.agg (ns.map λn=>Value.int kk n).toArray)=true:=by
 intro ns;simp only[Instr.sameBits,BEq.rfl,k4,ek];rintro⟨a,b⟩ j;have key:∀l:List Int,(a,b)∈(l.map λn=>Value.int kk n).zip (l.map λn=>Value.int kk n)->∃n,a=.int kk n/\b=.int kk n:=by
  intro l;induction l with
  |nil=>intro h;simp at h
  |cons x l k=>
   intro h;simp only[e7,List.zip_cons_cons,fa,et]at h;rcases h with ⟨rfl,rfl⟩|h
   ·exact⟨x,rfl,rfl⟩
   exact k h
 obtain⟨n,rfl,rfl⟩:=key ns (by simpa using j);simp[Instr.sameBits]
theorem ach(kk:IntKind)(ns:List Int)(w:World):(Instr.keyThatStays (.agg (ns.map λn=>Value.int kk n).toArray) (.agg (ns.map λn=>Value.int kk n).toArray)).run P w=.ok (.agg (ns.map λn=>Value.int kk n).toArray) w:=by
 unfold Instr.keyThatStays;rw[show(10000:Nat)=9998+2 by rfl,abm kk 9998 ns];rfl
def ZL(aP:ct P V.E)(aq:aJ w0 I0 w I m l){t:TypeId}{x k v:Value}{ax tk aw:T}(aF:az I m l x ax)(ab:az I m l k tk)(hv:az I m l v aw)(O:(nO V.E t l ax tk aw).ob) :
  ∃l' w',(nO V.E t l ax tk aw).bE=.aQ l'/\(Instr.mapUpdate t x k v).run P w=.ok () w'/\Le I m l I m l'/\aJ w0 I0 w' I m l':=by
 unfold nO at O⊢;split at O
 ·rename_i n kk i id aV d aN aO;have ay:=CB hv aO;obtain⟨aH,e,aL,ao,aW⟩:=Nd aP aN;split at O
  ·rename_i aB;simp only[if_pos aB];have ad:=cw ab;obtain⟨ns,aC,rfl,rfl⟩:=Hz ad aB;obtain⟨key,aA⟩:∃key,key=Value.agg (ns.map λn=>Value.int kk n).toArray:=⟨_,rfl⟩;split at O
   ·rename_i aG vs hl;obtain⟨b,⟨M,G⟩,Z,ai,N,s1,s2,aj,av,ag⟩:=aq.obj id _ hl;replace N:w.heap[b]?=some (.map M G)/\MapKept.Stamped M G:=N;simp only at s1 s2 aj av;have aT:x=.map (some b):=by
     cases aF with
     |map r _ ah ae=>
      have:=ae (by unfold isRow;rw[hl];rfl);rw[Z]at this;exact this.symm
    subst aT;have af:∀e:Bool,(Instr.checkKey e 10000 aH (.agg (ns.map λn=>Value.int kk n).toArray)).run P w=.ok () w:=ao.ck w ns aC;have aS:(match P.underlying aH with|some (.array _ _)|some (.struct _)=>true|_=>false)=true:=ao.wide;have U:=run_findKey_eq w aS (.agg (ns.map λn=>Value.int kk n).toArray) M.toList;have aE:=ach (P:=P) kk ns w;have aD:own (m id)=some b:=by rw[Z];rfl
    rcases Ey (w:=w) ao ns aC M.toList aG 0 (by simpa using s1) (λj e d Z ai=>aj j e d (by simpa using Z) ai) O with ⟨ah,ae,aK⟩| ⟨j,aM,ah,ae,au,aU,aI⟩
    ·simp only[ah];rw[ae]at U;rw[<-aA]at ad af U aK⊢;have ar:=mo (P:=P) (.map (M.push {key:=key,val:=v,born:=G}) (G+1)) N.1;obtain⟨al,an⟩:=o8 (o':=.map (M.push {key:=key,val:=v,born:=G}) (G+1)) N.1;refine⟨_,{w with heap:=w.heap.setIfInBounds b (.map (M.push {key:=key,val:=v,born:=G}) (G+1))},rfl,?_,?_,?_⟩
     ·unfold Instr.mapUpdate;simp only[e8,hE aL,Result.andThen_ok,jb N.1,af,U,ar]
     ·exact Le.setKind hl rfl rfl (by simp)
     refine aq.lD hl (by simp) aD ag rfl rfl (Le.setKind hl rfl rfl (by simp)) rfl rfl rfl (ec _) (by simp) (λk ab=>an k ab) ?_;refine⟨b,(M.push {key:=key,val:=v,born:=G},G+1),Z,ai,⟨al,D1 N.2 (by simpa using aK)⟩,by simp[s1],by simp[s2],λi e d B F=>?_,λi e ak B F=>?_,ag⟩
     ·rw[q1]at B;split at B
      ·injection B with B;subst B;rename_i hi;subst hi;rw[s1,hI (ec _)]at F;simp at F;subst F;simpa using ad
      have hi:i<aG.length:=by have:=(e6.1 B).1;omega
      rw[e1 hi]at F;exact aj i e d B F
     rw[q1]at B;split at B
     ·injection B with B;subst B;rename_i hi;subst hi;rw[s2,hI (ec _)]at F;simp at F;subst F;exact ay
     have hi:i<vs.length:=by have:=(e6.1 B).1;omega
     rw[e1 hi]at F;exact av i e ak B F
    simp only[ah,hT];rw[hT]at aI;rw[aI]at U;rw[<-aA]at ad af U au aE⊢;have aa:M[j]?=some aM:=by simpa using ae
    have ar:=mo (P:=P) (.map (M.modify j λe=>{e with key:=key,val:=v}) G) N.1;obtain⟨al,an⟩:=o8 (o':=.map (M.modify j λe=>{e with key:=key,val:=v}) G) N.1;refine⟨_,{w with heap:=w.heap.setIfInBounds b (.map (M.modify j λe=>{e with key:=key,val:=v}) G)},rfl,?_,Le.setKind hl rfl rfl (by simp),?_⟩
    ·unfold Instr.mapUpdate;simp only[e8,hE aL,Result.andThen_ok,jb N.1,af,U,aa,Option.map_some,Option.getD_some,au,aE,ar]
    refine aq.lD hl (by simp) aD ag rfl rfl (Le.setKind hl rfl rfl (by simp)) rfl rfl rfl (ec _) (by simp) (λk ab=>an k ab) ?_;refine⟨b,(M.modify j λe=>{e with key:=key,val:=v},G),Z,ai,⟨al,xd N.2 j _ (λ_ _=>rfl) (λx aF Y=>by rw[aa]at Y;injection Y with Y;subst Y;exact au.symm)⟩,by simp[s1],by simp[s2],λi e d B F=>?_,λi e ak B F=>?_,ag⟩
    ·rw[o2]at B;split at B
     ·rename_i hi;subst hi;rw[aa]at B;simp at B;subst B;rw[aU]at F;injection F with F;subst F;exact ad
     exact aj i e d B F
    rw[o2]at B;split at B
    ·rename_i hi;subst hi;rw[aa]at B;simp at B;subst B;have Y:j<vs.length:=by rw[<-s2];exact(e6.1 aa).1
     rw[e0,if_pos rfl,if_pos Y]at F;injection F with F;subst F;exact ay
    rename_i aR;rw[e0,if_neg aR]at F;exact av i e ak B F
   exact O.elim
  exact O.elim
 exact O.elim
end
section
variable {P:Program}{V:Env}{w0 w:World}{I0 I:aD}{m:Nat->Value}{l L:List AO}{nid:Nat}{o:Oper}{ρ:Operand->Value}{ρT:Operand->T}
def tJ{c:Call}{b:Builtin}(B:c.callee=.builtin b)(F:o.op=.call c){s:Sem Value}(j:∀k,builtin b c.argTypes o.type k (c.args.map ρ)=(do pure (.value (<-s)))){u:Value}{w':World}(G:s.run P w=.ok u w') :
  (execOp ρ o).run P w=.ok (.value u) w':=by
 unfold execOp;simp only[F,resolve,B,e8,Sem.run_pure,Result.andThen_ok,invoke,j,G]
def EG{zd:D}:∀(n j:Nat),(flat (List.replicate n zd))[j]?=if j<n*zd.cells.length then zd.cells[j%zd.cells.length]? else none
 |0,j=>by simp[flat]
 |n+1,j=>by
  have F:=EG (zd:=zd) n (j-zd.cells.length);rw[List.replicate_succ,show flat (zd::List.replicate n zd)=zd.cells++flat (List.replicate n zd) by simp[flat],hC];by_cases k:j<zd.cells.length
  ·rw[if_pos k,if_pos (by rw[B1];omega),Nat.mod_eq_of_lt k]
  rw[if_neg k,F,B1,<-Nat.mod_eq_sub_mod (by omega)];by_cases B:j<n*zd.cells.length+zd.cells.length
  ·rw[if_pos B,if_pos (by omega)]
  rw[if_neg B,if_neg (by omega)]
theorem QU{z:Value}{i:TI}(B:fZ z.cells.toList i.zero=true)(M:kQ z=i.desc.agg):(eK i.desc.agg i.zero).cells=i.zero/\z.cells.size=i.zero.length/\∀(j:Nat) v d,z.cells[j]?=some v->i.zero[j]?=some d->Rd I v d/\d.one=true/\v.oneCell'=true:=by
 have O:∀{vs:List Value}{ds:List D},fZ vs ds=true->vs.length=ds.length:=by
  intro vs;induction vs with
  |nil=>intro ds h;cases ds with|nil=>rfl|cons=>simp[fZ]at h
  |cons v vs Z=>intro ds h;cases ds with
   |nil=>simp[fZ]at h
   |cons d ds=>simp only[fZ,dk]at h;simp[Z h.2]
 have hl:=O B;have F:∀(j:Nat) v d,z.cells[j]?=some v->i.zero[j]?=some d->Rd I v d/\d.one=true/\v.oneCell'=true:=λj v d hv N=>by
  have:=IN I (Dg B (by simpa using hv) N);exact⟨this.1,this.2,this.1.one this.2⟩
 refine⟨?_,by simpa using hl,F⟩;unfold eK;by_cases k:i.desc.agg=true
 ·rw[if_pos k];rfl
 rw[if_neg k];have G:z.cells = #[z]:=by
  have:kQ z=false:=by rw[M];simpa using k
  cases z<;>first|rfl| (simp[kQ]at this)
 rw[G]at hl
 match Y:i.zero,hl with
 | [d],_=>
  have U:=(F 0 z d (by rw[G];rfl) (by rw[Y];rfl)).2.1;cases d<;>first|rfl| (simp[D.one]at U)
theorem acx(U:ct P V.E)(au:aJ w0 I0 w I m l){t e:TypeId}{sz ai:Nat}{z:List D}(av:V.E t=some ⟨sz,ai,z,.slice e⟩){v:Value}{id:Nat}{lo hi:Option Operand}(ay:az I m l v (.row id))(aq:∀a,lo=some a->az I m l (ρ a) (ρT a))(an:∀a,hi=some a->az I m l (ρ a) (ρT a))(j:(mf V.E e l id (lo.map ρT) (hi.map ρT)).ob) :
  (mf V.E e l id (lo.map ρT) (hi.map ρT)).bE=.aQ l/\∃u,(Instr.sliceAt t v (lo.map ρ) (hi.map ρ) none).run P w=.ok u w/\az I m l u (mf V.E e l id (lo.map ρT) (hi.map ρT)).t:=by
 have ag:=mW U av;have O:P.underlying t=some (.slice (P.elem t)):=by simp[Program.elem,ag]
 have al:P.elem t=e:=by simp[Program.elem,ag]
 have hint:∀{a:T}{k:IntKind}{n:Int}{v:Value},dM a=some (k,n)->az I m l v a->v=.int k n:=by
  intro a k n v G ar;unfold dM at G;split at G
  ·simp at G;obtain⟨rfl,rfl⟩:=G;have:=cw ar;cases this;rfl
  cases G
 unfold mf at j⊢;split at j
 ·rename_i aF size els hl;split at j
  ·rename_i af;rw[if_pos af];obtain⟨aw,ax⟩:=af;obtain⟨aB,Z⟩:=o6.1 ax;have aA:aB.size=size:=by rw[aw];simp[bJ,Z]
   have ae:(sizeOf (P.elem t)).run P w=.ok size w:=by rw[al,mQ U Z,aA]
   have ao:id<l.length:=(db.1 hl).1;obtain⟨A,n,c,rfl,ab⟩:∃A n c,v=.slice A n c/\m id=.slice A n c:=by
    cases ay with
    |row A n c _ aI aC=>exact⟨A,n,c,rfl,aC (by unfold isRow;rw[hl];rfl)⟩
   obtain⟨xs,ah,_⟩:=au.obj id _ hl;rw[ab]at ah;have ad:n=els.length/\n<=c:=by
    rcases ah.2 with ⟨B,F⟩| ⟨g,aE,cur,B,_,_,F,_⟩
    ·injection B with _ M N;subst M;subst N;exact⟨F.symm,ec _⟩
    injection B with _ M N;subst M;subst N;exact⟨rfl,F⟩
   obtain⟨rfl,ad⟩:=ad;have Y:∀a b,(Instr.sliceAt t (.slice A els.length c) a b none).run P w=(Instr.slice t (.slice A els.length c) a b none).run P w:=λa b=>run_sliceAt_slice w t _ a b none O;have fin:∀lo hi:Nat,lo<=hi->hi<=els.length->az I m l (sliced A lo hi c size) (.sub id lo hi):=λlo hi B F=>
    .sub _ _ _ _ _ _ ao λaG aD aH aa=>by
     rw[hl]at aa;have:aD=size:=by
      rcases aa with h|h
      ·injection h with h;injection h with _ h _;exact h.symm
      injection h with h;cases h
     subst this;exact⟨A,_,c,ab,B,F,rfl⟩
   cases lo with
   |none=>
    cases hi with
    |none=>exact j.elim
    |some b=>
     simp only[Option.map_none,Option.map_some]at j⊢;split at j
     ·rename_i k h ak;have hv:=hint ak (an b rfl);simp only;refine⟨trivial,_,by rw[Y,hv,run_slice_h w t A _ c O _ _ j.1 (by omega),ae];rfl,?_⟩;exact fin 0 h.toNat (j3 _) (by omega)
     exact j.elim
   |some a=>
    cases hi with
    |some b=>exact j.elim
    |none=>
     simp only[Option.map_none,Option.map_some]at j⊢;split at j
     ·rename_i k h aj;have hv:=hint aj (aq a rfl);simp only;have:=run_slice_l w t A els.length c O k h j.1 (by omega);refine⟨trivial,_,by rw[Y,hv,this,ae];rfl,?_⟩;exact fin h.toNat els.length (by omega) (ec _)
     exact j.elim
  exact j.elim
 exact j.elim
theorem acw{E:cn}{e:TypeId}{l:List AO}{id:Nat}{lo hi:Option T}:(mf E e l id lo hi).bE=.aQ l\/mf E e l id lo hi=.bad:=by
 unfold mf
 repeat' split
 all_goals simp
def Ya{E:cn}{t:TypeId}{nid:Nat}{a b:T}(j:(mF E t l nid a b).ob):∃l',(mF E t l nid a b).bE=.aQ l':=by
 revert j;unfold mF
 repeat' split
 all_goals simp[R.bad]
theorem Yb(ag:ct P V.E)(O:aJ w0 I0 w I m l){t:TypeId}{ak al:Value}{a b:T}(G:az I m l ak a)(B:az I m l al b)(F:(mF V.E t l l.length a b).ob) :
  ∃l' w' v m',(mF V.E t l l.length a b).bE=.aQ l'/\(Instr.makeSlice t ak al).run P w=.ok v w'/\Le I m l I m' l'/\aJ w0 I0 w' I m' l'/\az I m' l' v (mF V.E t l l.length a b).t:=by
 have hint:∀{a:T}{k:IntKind}{n:Int}{v:Value},dM a=some (k,n)->az I m l v a->v=.int k n:=by
  intro a k n v M aB;unfold dM at M;split at M
  ·simp at M;obtain⟨rfl,rfl⟩:=M;have:=cw aB;cases this;rfl
  cases M
 unfold mF at F⊢;split at F
 ·rename_i e aI n aK c aD ax ay;have U:=mW ag aD;split at F
  ·rename_i i hi;split at F
   ·rename_i ai;simp only[hi,if_pos ai];obtain⟨h0,rfl,ar,aV⟩:=F;have aF:=hint ax G;have aG:=hint ay B;obtain⟨N,rfl⟩:=v7 h0;subst aF;subst aG;obtain⟨x,z,aL,aM,aN,aO,aP,aR,aW,aa⟩:=fq (ag e i hi);obtain⟨ab,ad,ae⟩:=QU (I:=I) aP aR;have aj:z.cells.size=i.size:=by rw[ad,aa]
    have aq:x.bytes*N<=281474976710656:=by
     rw[aN,o7];have:((N*i.bytes:Nat):Int)<=140737488355328:=by rw[Int.natCast_mul];exact ar
     omega
    obtain⟨w',af,an,ao⟩:=run_make_full (P:=P) w w0.heap.size t e x z i.size U aL aO aM aI aK N aq (by unfold maxLen;omega) O.below.size;have aC:(List.replicate N (eK i.desc.agg i.zero)).length=N:=by simp
    obtain⟨aS,aT,aU⟩:=O.Cs (w':=w') (v:=.slice (some ⟨w.heap.size,0,none⟩) N N) (row:=none) (lo:=l) (e:=e) (size:=i.size) (els:=List.replicate N (eK i.desc.agg i.zero)) rfl (λk a G=>.inr G) (λ_ _ _ h=>h)
     ao (gO _ _ _ _ _ af) (λb B=>by cases B) (λb B=>by cases B)
     (
      λb B=>by
      simp[own]at B;subst B;refine⟨O.below.size,O.sat.dX (ec _),λk aA aw=>?_⟩;obtain⟨a,G,av⟩:=bN.1 aA;have:=((O.obj k a G).lt av aw).1;omega)
     (
      by
       rw[aC];exact an) (λd au=>by
      have:=List.eq_of_mem_replicate au;subst this;rw[ab];refine⟨aa,λx aH=>?_⟩;obtain⟨j,Y,rfl⟩:=hF.1 aH;exact(ae j _ _ (e5 (by rw[ad];exact Y)) (c5 Y)).2.1) (λj u y U Z=>by
      rw[EG,ab,aa]at Z;split at Z
      ·rename_i Y;have ah:j%i.size<z.cells.size:=by rw[aj];exact q6 _ ai
       have aE:u=z.cells[j%i.size]:=by
        simp[madeCells,aj,Y]at U;rw[q8 z.cells _ ah]at U;exact U.symm
       subst aE;exact(ae _ _ y (e5 ah) Z).1
      cases Z) ⟨_,_,_,rfl⟩
    exact⟨_,w',_,_,rfl,af,aS,aT,aU⟩
   exact F.elim
  exact F.elim
 exact F.elim
def Ve{E:cn}{t:TypeId}{x:T}(j:(mA E t l x).ob):∃l',(mA E t l x).bE=.aQ l':=by
 revert j;unfold mA
 repeat' split
 all_goals simp[R.bad]
theorem Vf(av:ct P V.E)(aj:aJ w0 I0 w I m l){t ty:TypeId}{v:Value}{x:T}(ak:az I m l v x)(N:(mA V.E t l x).ob) :
  (mA V.E t l x).t=.d (.aL [])/\∃l' w',(mA V.E t l x).bE=.aQ l'/\(Builtin.clear_ #[t] ty #[v]).run P w=.ok (.tuple #[]) w'/\Le I m l I m l'/\aJ w0 I0 w' I m l':=by
 unfold mA at N⊢;split at N
 ·rename_i e id lo hi aZ;have F:=mW av aZ;split at N
  ·rename_i i aa size els aA hl;split at N
   ·rename_i aw;simp only[aA,hl,if_pos aw];obtain⟨a1,rfl,aE⟩:=aw;subst a1;refine⟨trivial,?_⟩;obtain⟨A,n,c,rfl,ah,n0,Z,ad,U,ar,au⟩:∃A n c,v=.slice A n c/\∃ah n0 Z,m id=.slice ah n0 Z/\lo<=els.length/\els.length<=n0/\Value.slice A n c=sliced ah lo els.length Z i.size:=by
     cases ak with
     |sub A n c _ _ _ bt bh=>exact⟨A,n,c,rfl,bh aa i.size els (.inl hl)⟩
    obtain⟨xs,aH,an,bf,bs⟩:=aj.obj id _ hl;rw[ad]at aH;obtain⟨bb,ax⟩:=aH;injection au with aK aB bp;have aV:n0=els.length:=by
     rcases ax with ⟨U,ar⟩| ⟨g,aI,cur,U,_⟩
     ·injection U with _ au bo;omega
     injection U
    subst aV;rcases Nat.eq_or_lt_of_le U with hlo|hlo
    ·
     have aU:n=0:=by omega
     subst aU;have aF:l.set id (.row aa i.size (els.take lo++List.replicate (els.length-lo) (eK i.desc.agg i.zero)))=l:=by
      rw[show els.length-lo=0 by omega,hlo];simp;apply hX;intro k;rw[e0];split
      ·rename_i aS;subst aS;rw[hl];simp;exact(db.1 hl).1
      rfl
     refine⟨_,w,rfl,?_,?_,?_⟩
     ·cases A<;>simp[Builtin.clear_,hE F]
     ·rw[aF];exact .refl ..
     rw[aF];exact aj
    rcases ax with ⟨U,ar⟩| ⟨g,aI,cur,hv,aN,Y,aC,aO,ay,a6⟩
    ·omega
    injection hv with a8 _ ba;subst ba;subst a8;have aM:A=some ⟨g,lo*i.size,none⟩:=by rw[aK,if_neg (by omega)];simp[Addr.add_lit]
    obtain⟨m',rfl⟩:∃m',n=m'+1:=⟨n-1,by omega⟩;obtain⟨M,bl,bm,bn,af⟩:=yo av aA w;obtain⟨ao,aq,ai⟩:=QU (I:=I) bm bn;have al:M.cells.size=i.size:=by rw[aq,af]
    have O:(Builtin.zeroCells M.cells (m'+1)).toList.length=(els.length-lo)*i.size:=by rw[Array.length_toList,size_zeroCells,al,aB]
    have aG:∀(j:Nat),j<(els.length-lo)*i.size->(Builtin.zeroCells M.cells (m'+1)).toList[j]?=M.cells[j%i.size]?:=λj B=>by
     have:j%i.size<M.cells.size:=by rw[al];exact q6 _ aE
     simp[Builtin.zeroCells,al,aB,B];rw[e5 this];exact dn some (q8 M.cells _ this)
    have aY:∀u∈(Builtin.zeroCells M.cells (m'+1)).toList,u.oneCell'=true:=λu a7=>by
     obtain⟨j,B,rfl⟩:=hF.1 a7;rw[O]at B;have Y:=aG j B;rw[c5 (by rw[O];exact B)]at Y;have ad:j%i.size<i.zero.length:=by rw[af];exact q6 _ aE
     exact(ai _ _ i.zero[j%i.size] Y.symm (c5 ad)).2.2
    have br:(els.length-lo)*i.size+lo*i.size=els.length*i.size:=by rw[<-p5];congr 1;omega
    have aT:els.length*i.size<=cur.size:=by rw[ay];exact la _ aC
    have ae:=v8 P g (lo*i.size) aa (Builtin.zeroCells M.cells (m'+1)).toList 0 cur w Y (by rw[O];omega) aY;simp only[Nat.add_zero]at ae;generalize bd:(Builtin.zeroCells M.cells (m'+1)).toList=ag at *;rw[O]at ae;generalize aW:(cur.toList.take (lo*i.size)++ag++cur.toList.drop (lo*i.size+(els.length-lo)*i.size)).toArray=new at ae;have aD:new.toList=cur.toList.take (lo*i.size)++ag++cur.toList.drop (lo*i.size+(els.length-lo)*i.size):=by subst aW;simp
    have aX:new.size=cur.size:=by
     rw[<-Array.length_toList,aD];simp only[dT,fb,q3,Array.length_toList,O];omega
    have bc:new.toList.take (els.length*i.size)=xs.take (lo*i.size)++ag:=by
     rw[aD,<-a6,Ij _ _ _ _ _ (by omega) (by rw[Array.length_toList];exact aT) O];rw[w2 (by rw[fb];omega)];simp
    have ab:(els.take lo++List.replicate (els.length-lo) (eK i.desc.agg i.zero)).length=els.length:=by simp;omega
    obtain⟨bj,t2⟩:=aj.C0 (n:=els.length) (c:=Z) (cur:=cur) (new:=new) (els':=els.take lo++List.replicate (els.length-lo) (eK i.desc.agg i.zero)) (xs:=xs.take (lo*i.size)++ag) hl ad Y
     ⟨by rw[ab];simp only[dT,fb,bb,O];omega,.inr ⟨g,Z,new,by rw[ab],aN,K1 w g cur new aa (0,0) Y,by rw[ab];exact aC,aO,by rw[aX,ay],by rw[ab];exact bc⟩⟩
     (
      λd hd=>by
      rcases hD.1 hd with hd|hd
      ·exact an d (n4 hd)
      have:=List.eq_of_mem_replicate hd;subst this;rw[ao];refine⟨af,λx ak=>?_⟩;obtain⟨j,B,rfl⟩:=hF.1 ak;have aP:j<M.cells.size:=by rw[aq];exact B
      exact(ai j _ _ (e5 aP) (c5 B)).2.1)
     (
      λj u y F G=>by
      have bq:(flat els).length=els.length*i.size:=iC els (λd hd=>(an d hd).1);rw[EF,LL els (λd hd=>(an d hd).1),hC]at G;rw[hC]at F;have l1:(xs.take (lo*i.size)).length=lo*i.size:=by rw[fb];omega
      have bg:((flat els).take (lo*i.size)).length=lo*i.size:=by rw[fb];omega
      rw[l1]at F;rw[bg]at G;by_cases B:j<lo*i.size
      ·rw[if_pos B]at F G;rw[hQ,if_pos B]at F G;exact bf j u y F G
      rw[if_neg B]at F G;rw[EG,ao,af]at G;split at G
      ·rename_i aR;rw[aG _ aR]at F;exact(ai _ u y F G).1
      cases G)
    refine⟨_,_,rfl,?_,bj,t2⟩;rw[aM];simp only[Builtin.clear_,zx,List.getElem?_cons_zero];simp[hE F,bl,bd,ae]
   exact N.elim
  exact N.elim
 exact N.elim
def ZS(U:ct P V.E)(ad:aJ w0 I0 w I m L){t:TypeId}{mm k x:Operand}(ho:o.op=.mapUpdate t mm k x\/o.op=.insert t mm k x)(F:∀x∈o.op.operands,az I m L (ρ x) (ρT x))(B:(mG V.E t l (ρT mm) (ρT k) (ρT x)).ob) :
  cm P w0 I0 o ρ w I m l L nid (mG V.E t l (ρT mm) (ρT k) (ρT x)):=by
 have ab:=F mm (by rcases ho with ho|ho<;>simp[ho,Op.operands]);have aa:=F k (by rcases ho with ho|ho<;>simp[ho,Op.operands]);have ae:=F x (by rcases ho with ho|ho<;>simp[ho,Op.operands]);have Y:∃l',(mG V.E t l (ρT mm) (ρT k) (ρT x)).bE=.aQ l'/\(mG V.E t l (ρT mm) (ρT k) (ρT x)).t=.undef:=by
  generalize ρT mm=ts at *;generalize ρT k=tk at *;generalize ρT x=ah at *;unfold mG at B⊢
  repeat' split at B
  all_goals first|exact B.elim|skip
  all_goals simp only[*]
  all_goals exact⟨_,rfl,rfl⟩
 obtain⟨l',G,ht⟩:=Y;unfold cm;rw[G];rintro rfl af;obtain⟨ag,w',j,M,N,O⟩:=ZR U ad ab aa ae B;rw[G]at j;injection j with j;subst j;have Z:(execOp ρ o).run P w=.ok .skip w':=by unfold execOp;rcases ho with ho|ho<;>simp[ho,M]
 simp only[Z,cr];exact⟨I,m,N,O,by rw[ht];exact .undef _⟩
def ZT(U:ct P V.E)(ad:aJ w0 I0 w I m L){t:TypeId}{mm k x:Operand}(ho:o.op=.mapUpdate t mm k x\/o.op=.insert t mm k x)(F:∀x∈o.op.operands,az I m L (ρ x) (ρT x))(B:(nO V.E t l (ρT mm) (ρT k) (ρT x)).ob) :
  cm P w0 I0 o ρ w I m l L nid (nO V.E t l (ρT mm) (ρT k) (ρT x)):=by
 have ab:=F mm (by rcases ho with ho|ho<;>simp[ho,Op.operands]);have aa:=F k (by rcases ho with ho|ho<;>simp[ho,Op.operands]);have ae:=F x (by rcases ho with ho|ho<;>simp[ho,Op.operands]);have Y:∃l',(nO V.E t l (ρT mm) (ρT k) (ρT x)).bE=.aQ l'/\(nO V.E t l (ρT mm) (ρT k) (ρT x)).t=.undef:=by
  generalize ρT mm=ts at *;generalize ρT k=tk at *;generalize ρT x=ah at *;unfold nO at B⊢
  repeat' split at B
  all_goals first|exact B.elim|skip
  all_goals simp only[*]
  all_goals exact⟨_,rfl,rfl⟩
 obtain⟨l',G,ht⟩:=Y;unfold cm;rw[G];rintro rfl af;obtain⟨ag,w',j,M,N,O⟩:=ZL U ad ab aa ae B;rw[G]at j;injection j with j;subst j;have Z:(execOp ρ o).run P w=.ok .skip w':=by unfold execOp;rcases ho with ho|ho<;>simp[ho,M]
 simp only[Z,cr];exact⟨I,m,N,O,by rw[ht];exact .undef _⟩
def On(B:ct P V.E)(M:aJ w0 I0 w I m L){t:TypeId}{mm k x:Operand}(F:o.op=.mapUpdate t mm k x\/o.op=.insert t mm k x)(G:∀x∈o.op.operands,az I m L (ρ x) (ρT x))(j:(su V.E t l (ρT mm) (ρT k) (ρT x)).ob) :
  cm P w0 I0 o ρ w I m l L nid (su V.E t l (ρT mm) (ρT k) (ρT x)):=by
 unfold su at j⊢;split
 ·rename_i h;rw[if_pos h]at j;exact ZT B M F G j
 rename_i h;rw[if_neg h]at j;exact ZS B M F G j
theorem XY(F:ct P V.E)(N:aJ w0 I0 w I m L)(G:eQ l L){t:TypeId}{x k:Value}{B tk:T}{ok:Bool}(O:az I m L x B)(M:az I m L k tk)(j:(qo V.E t l B tk ok).ob) :
  (qo V.E t l B tk ok).bE=.none/\∃u,(Instr.lookup t x k ok).run P w=.ok u w/\az I m L u (qo V.E t l B tk ok).t:=by
 unfold qo at j⊢;split
 ·rename_i h;rw[if_pos h]at j;exact XX F N G O M j
 rename_i h;rw[if_neg h]at j;exact look_ok F N G O M j
theorem rp(aa:c6 P V)(M:aJ w0 I0 w I m L)(aA:eQ l L)(O:∀x∈o.op.operands,az I m L (ρ x) (ρT x))(j:(evalOp V ρT l nid o).ob):cm P w0 I0 o ρ w I m l L nid (evalOp V ρT l nid o):=by
 unfold evalOp at j⊢;split at j
 ·
  rename_i x B;exact cm.val M rfl (u:=ρ x) (by unfold execOp;simp[B]) (C4 (O x (by simp[B,Op.operands])))
 ·
  rename_i x B;exact cm.val M rfl (u:=ρ x) (by unfold execOp;simp[B]) (C4 (O x (by simp[B,Op.operands])))
 ·
  rename_i c a b B;exact Hi M B O j
 ·
  rename_i e x B;exact UB M B (O x (by simp[B,Op.operands])) j
 ·
  rename_i e B;split at j
  ·rename_i i hi
   try simp only[hi]
   exact Q6 aa.E M B hi
  exact j.elim
 ·
  rename_i t a B;obtain⟨F,u,G,Y⟩:=MY aa.E M aA (Iv (O a (by simp[B,Op.operands]))) j;exact cm.val M F (by unfold execOp;simp[B,G]) Y
 ·
  rename_i t a x B;split at j
  ·rename_i af;simp only[if_pos af];have N:=O a (by simp[B,Op.operands]);have U:=O x (by simp[B,Op.operands]);generalize bG:ρT a=bI at *;unfold ot at j⊢;split at j
   ·rename_i id off y;split at j
    ·rename_i t' cs hl;split at j
     ·rename_i bc;simp only[if_pos bc];rintro rfl aR;generalize aD:ρ a=a7 at N;cases N with
      |ptr _ b _ al ai=>
       obtain⟨w',F,G⟩:=Ib aa.E M hl ai U j af.1 (by omega) bc;have ab:(execOp ρ o).run P w=.ok .skip w':=by unfold execOp;simp[B,aD,F]
       simp only[ab,cr];exact⟨I,m,Le.PD hl,G,.undef _⟩
     exact j.elim
    exact j.elim
   ·rename_i id k y aT;split at j
    ·rename_i aU size els hl;split at j
     ·rename_i au;simp only[if_pos au];rw[aT]at U af;obtain⟨aM,aN,ay⟩:=j;rintro rfl aR;generalize aD:ρ a=a7 at N;cases N with
      |bx aG _ _ _ al ai=>
       obtain⟨w',F,G,Y⟩:=abe (ty:=t) aa.E M hl (.bx aG id k 0 al ai) (cw U) aM aN ay (by simpa [bB]using af.1) (by have:=af.1;simp[bB]at this;omega);have ab:(execOp ρ o).run P w=.ok .skip w':=by unfold execOp;simp[B,aD,F]
       simp only[ab,cr];exact⟨I,m,G,Y,.undef _⟩
     rename_i au;simp only[if_neg au];split at j
     ·rename_i cs av;rw[aT]at U af;obtain⟨aM,aN,ay⟩:=j;rintro rfl aR;generalize aD:ρ a=a7 at N;have aV:els[k]?=some (.agg cs):=by
       unfold eF at av;rw[c5 ay]at av⊢;simp at av;rw[av]
      cases N with
      |bx aG _ _ _ al ai=>
       obtain⟨w',F,G,Y⟩:=O9 (ty:=t) aa.E M hl (.bx aG id k 0 al ai) (cw U) aV aM aN ay (by simpa [bB]using af.1) (by have:=af.1;simp[bB]at this;omega);have ab:(execOp ρ o).run P w=.ok .skip w':=by unfold execOp;simp[B,aD,F]
       simp only[ab,cr];exact⟨I,m,G,Y,.undef _⟩
     exact j.elim
    exact j.elim
   ·rename_i id k off y aT;split at j
    ·rename_i aU size els hl;split at j
     ·rename_i cs av;rw[aT]at U af;obtain⟨aM,aN,ay⟩:=j;rintro rfl aR;generalize aD:ρ a=a7 at N;have aV:els[k]?=some (.agg cs):=by
       unfold eF at av;rw[c5 ay]at av⊢;simp at av;rw[av]
      cases N with
      |bx aG _ _ _ al ai=>
       obtain⟨w',F,G,Y⟩:=O9 (ty:=t) aa.E M hl (.bx aG id k (off+1) al ai) (cw U) aV aM aN ay (by simpa [bB]using af.1) (by have:=af.1;simp[bB]at this;omega);have ab:(execOp ρ o).run P w=.ok .skip w':=by unfold execOp;simp[B,aD,F]
       simp only[ab,cr];exact⟨I,m,G,Y,.undef _⟩
     exact j.elim
    exact j.elim
   exact j.elim
  exact j.elim
 ·
  rename_i s x f B;obtain⟨F,u,G,Y⟩:=WG (w:=w) aa.E (Iv (O x (by simp[B,Op.operands]))) j;exact cm.val M F (by unfold execOp;simp[B,G]) Y
 ·
  rename_i s x f B;obtain⟨F,u,G,Y⟩:=WD (w:=w) aa.E (O x (by simp[B,Op.operands])) j;exact cm.val M F (by unfold execOp;simp[B,G]) Y
 ·
  rename_i bt ty x y t' B;have U:=O x (by simp[B,Op.operands]);have ah:=O y (by simp[B,Op.operands]);split at j
  ·rename_i a b F G;rw[F]at U;rw[G]at ah;unfold nU at j⊢;split at j
   ·rename_i r ob aj;obtain⟨z,Y,ae⟩:=Ux (w:=w) (x:=x) (y:=y) aa.eq (cw U) (cw ah) aj j
    try simp only[F,G,aj]
    exact cm.val M rfl (by unfold execOp;simp only[B,e8]at Y⊢;rw[Y];rfl) (.d _ _ ae)
   exact j.elim
  exact j.elim
 ·
  rename_i bt ty x B;have U:=O x (by simp[B,Op.operands]);split at j
  ·rename_i a F;rw[F]at U;unfold nU at j⊢;split at j
   ·rename_i r ob aj;obtain⟨z,Y,ae⟩:=acU (P:=P) (w:=w) (cw U) aj j
    try simp only[F,aj]
    exact cm.val M rfl (by unfold execOp;simp[B,Y]) (.d _ _ ae)
   exact j.elim
  exact j.elim
 ·
  rename_i t x i B;obtain⟨F,u,G,Y⟩:=Xq aa.E M aA (Iv (O x (by simp[B,Op.operands]))) (O i (by simp[B,Op.operands])) j;exact cm.val M F (by unfold execOp;simp[B,G]) Y
 ·
  rename_i t x lo hi B;have U:=O x (by simp[B,Op.operands]);split at j
  ·rename_i e size els ak aZ;rw[aZ]at U;split at j
   ·rename_i au;simp only[if_pos au];obtain⟨F,u,G,Y⟩:=PL (w:=w) (lo:=lo) (hi:=hi) (ρ:=ρ) (ρT:=ρT) aa.E ak U (λa N=>O a (by subst N;simp[B,Op.operands])) (λa N=>O a (by subst N;simp[B,Op.operands]))
     (λs' aU ag=>by injection ag with ag;injection ag with F G;subst F;exact au) j
    exact cm.val M F (by unfold execOp;simp[B,G]) Y
   exact j.elim
  ·rename_i e id ak aZ;rw[aZ]at U;split at j
   ·rename_i aW;simp only[if_pos aW];have aB:(mf V.E e l id (lo.map ρT) (hi.map ρT)).bE=.aQ l:=by
     unfold mf at j⊢
     repeat' split at j
     all_goals first|exact j.elim|skip
     all_goals simp only[*]
     all_goals rfl
    unfold cm;rw[aB];rintro rfl aR;obtain⟨F,u,G,Y⟩:=acx (w:=w) (lo:=lo) (hi:=hi) (ρ:=ρ) (ρT:=ρT) aa.E M ak U (λa N=>O a (by subst N;simp[B,Op.operands])) (λa N=>O a (by subst N;simp[B,Op.operands])) j;have ab:(execOp ρ o).run P w=.ok (.value u) w:=by unfold execOp;simp[B,G]
    simp only[ab,cr];exact⟨I,m,.refl ..,M,Y⟩
   rename_i aW;simp only[if_neg aW];split at j
   ·rename_i size els l' ao;split at j
    ·rename_i au;simp only[if_pos au];rintro rfl aR;obtain⟨J,le,a6,bm,_⟩:=sG M U ao;obtain⟨F,u,G,Y⟩:=PL (w:=w) (lo:=lo) (hi:=hi) (ρ:=ρ) (ρT:=ρT) (I:=J) (m:=m) (L:=l') aa.E ak (.d _ _ bm) (λa N=>(O a (by subst N;simp[B,Op.operands])).mono le) (λa N=>(O a (by subst N;simp[B,Op.operands])).mono le)
      (λs' aU ag=>by injection ag with ag;injection ag with F G;subst F;exact au) j
     have ab:(execOp ρ o).run P w=.ok (.value u) w:=by unfold execOp;simp[B,G]
     simp only[ab,cr];exact⟨J,m,le,a6,Y⟩
    exact j.elim
   exact j.elim
  exact j.elim
 ·
  rename_i t parts B;split at j
  ·rename_i z fs ak;split at j
   ·rename_i ba;split at j
    ·rename_i ds ar;simp only[if_pos ba];obtain⟨u,F,G⟩:=UE (P:=P) (w:=w) (I:=I) (m:=m) (L:=L) (ρ:=ρ) (ρT:=ρT) aa.E ak (λp aw=>O p.2 (by simp only[B,Op.operands];simp;exact⟨p.1,by simpa using aw⟩)) ar (λf bj=>ek.1 ba f bj);exact cm.val M rfl (by unfold execOp;simp[B,F]) G
    exact j.elim
   exact j.elim
  exact j.elim
 ·
  rename_i t len parts B;split at j
  ·rename_i e ak;split at j
   ·rename_i ag;simp only[if_pos ag];split at j
    ·rename_i aF;simp only[if_pos aF];subst aF;rintro rfl rfl;have bl:parts = #[]:=by simpa using j
     subst bl;have bo:=mW aa.E ak;obtain⟨i,hi⟩:=o6.1 ag.1;have au:bJ V.E e=i.size:=by simp[bJ,hi]
     have ab:(execOp ρ o).run P w=.ok (.value (.slice (some ⟨w.heap.size,0,none⟩) 0 0)) (w.alloc (.cells #[] e)):=by
      unfold execOp;simp[B,Instr.buildSlice,hE bo,mQ aa.E hi,Instr.fill,newRow,Array.range_zero']
     simp only[ab,cr];obtain⟨al,ai,bz⟩:=M.Cs (w':=w.alloc (.cells #[] e)) (v:=.slice (some ⟨w.heap.size,0,none⟩) 0 0) (row:=none) (lo:=L) (e:=e) (size:=bJ V.E e) (els:=[]) (xs:=[]) rfl (λk a N=>.inr N) (λ_ _ _ h=>h)
      (q0 w _ _) (ec _) (λb aj=>by cases aj) (λb aj=>by cases aj)
      (
       λb aj=>by
       simp[own]at aj;subst aj;refine⟨M.below.size,M.sat.dX (ec _),λk aC ag=>?_⟩;obtain⟨a,N,bh⟩:=bN.1 aC;have:=((M.obj k a N).lt bh ag).1;omega)
      ⟨by simp,.inr ⟨w.heap.size,0,#[],rfl,M.below.size,vi w _,j3 _,j3 _,by simp,by simp⟩⟩ (by simp) (by simp[flat]) ⟨_,_,_,rfl⟩
     exact⟨I,_,al,ai,bz⟩
    rename_i aF;simp only[if_neg aF];split at j
    ·rename_i ds bd;split at j
     ·rename_i aO;simp only[if_pos aO];obtain⟨bu,bw⟩:=Nb (I:=I) (m:=m) (L:=L) (ρ:=ρ) parts.toList ds (λp aw=>O p.2 (by simp only[B,Op.operands];simp;exact⟨p.1,by simpa using aw⟩)) bd;obtain⟨w',J,F,G,Y,ae⟩:=Kr aa.E M ak (ρ:=ρ) bu bw ag aF aO;unfold cm;have ab:(execOp ρ o).run P w=.ok (.value (.slice (some ⟨w.heap.size,0,none⟩) len len)) w':=by unfold execOp;simp[B,F]
      simp only[R.ok,ab,cr];exact⟨J,G,Y,.d _ _ ae⟩
     exact j.elim
    rename_i bd;split at j
    ·rename_i ds l1 ao;split at j
     ·rename_i aO;simp only[if_pos aO];rintro rfl rfl;have aK:∀(i:Nat) v t,(parts.toList.map λp=>ρ p.2)[i]?=some v->(parts.toList.map λp=>ρT p.2)[i]?=some t->az I m L v t:=λi v t hv ht=>by
       rw[e3]at hv ht;cases aw:parts.toList[i]? with
       |none=>simp[aw]at hv
       |some p=>
        simp[aw]at hv ht;subst hv;subst ht;refine O p.2 ?_;have:=dd aw;simp only[B,Op.operands];simp;exact⟨p.1,by simpa using this⟩
      obtain⟨bF,bs,a6,bq,br,_⟩:=nj _ L I (parts.toList.map λp=>ρ p.2) ds l1 M (by simp) aK ao;obtain⟨w',J,F,G,Y,ae⟩:=Kr aa.E a6 ak (ρ:=ρ) (by simpa using bq) (λi p d aw bg=>br i _ d (by rw[e3,aw];rfl) bg) ag aF aO;have ab:(execOp ρ o).run P w=.ok (.value (.slice (some ⟨w.heap.size,0,none⟩) len len)) w':=by unfold execOp;simp[B,F]
      simp only[ab,cr];exact⟨J,_,bs.trans G,Y,.d _ _ ae⟩
     exact j.elim
    exact j.elim
   exact j.elim
  exact j.elim
 ·
  rename_i x i B;have U:=O x (by simp[B,Op.operands]);split at j
  ·rename_i ds aS;rw[aS]at U;split at j
   ·rename_i d ao
    try simp only[aS,ao]
    have:=cw U;generalize aE:ρ x=a8 at this;cases this with
    |aL vs _ al ai=>
     have aP:i<vs.size:=by rw[al];exact(db.1 ao).1
     have hv:vs[i]?=some vs[i]:=e5 aP;exact cm.val M rfl (u:=vs[i]) (by unfold execOp;simp[B,aE,Instr.extract,aP]) (.d _ _ (ai i _ _ hv ao))
   exact j.elim
  ·rename_i ts aS;rw[aS]at U;split at j
   ·rename_i d ao
    try simp only[aS,ao]
    generalize aE:ρ x=a8 at U;cases U with
    |aL vs _ al ai=>
     have aP:i<vs.size:=by rw[al];exact(db.1 ao).1
     have hv:vs[i]?=some vs[i]:=e5 aP;exact cm.val M rfl (u:=vs[i]) (by unfold execOp;simp[B,aE,Instr.extract,aP]) (ai i _ _ hv ao)
   exact j.elim
  exact j.elim
 ·
  rename_i c B;split at j
  ·rename_i f Z
   try simp only[Z]
   split at j
   ·rename_i g ar
    try simp only[ar]
    exact Ku aa M aA O (by simp[eD,B,Z,ar]) j
   ·rename_i g ds ar
    try simp only[ar]
    exact Ku aa M aA O (by simp[eD,B,Z,ar]) j
   exact j.elim
  ·rename_i Z
   try simp only[Z]
   split at j
   ·rename_i x t N ht
    try simp only[N,ht]
    have U:=O x (by simp[B,Op.operands,Call.operands,Z];rw[<-hV,N];simp);obtain⟨F,u,G,Y⟩:=XS (ty:=o.type) aa.E M aA U j;refine cm.val M F (tJ Z B (λk=>rfl) ?_) Y;have an:c.args.map ρ = #[ρ x]:=by apply k3.1;simp[N]
    have ax:c.argTypes = #[t]:=by apply k3.1;simp[ht]
    rw[an,ax];exact G
   exact j.elim
  ·rename_i Z
   try simp only[Z]
   split at j
   ·rename_i s x t t' N ht
    try simp only[N,ht]
    split at j
    ·rename_i bn;subst bn;simp only[hK];have ak:=O s (by simp[B,Op.operands,Call.operands,Z];rw[<-hV,N];simp);have U:=O x (by simp[B,Op.operands,Call.operands,Z];rw[<-hV,N];simp);have an:c.args.map ρ = #[ρ s,ρ x]:=by apply k3.1;simp[N]
     have ax:c.argTypes = #[t,t]:=by apply k3.1;simp[ht]
     have aB:∃l',(iO V.E t l nid (ρT s) (ρT x)).bE=.aQ l':=by
      generalize ρT s=ts at *;generalize ρT x=bA at *;unfold iO at j⊢
      repeat' split at j
      all_goals first|exact j.elim|skip
      all_goals simp only[*]
      all_goals exact⟨_,rfl⟩
     obtain⟨l',aq⟩:=aB;unfold cm;rw[aq];rintro rfl af;obtain⟨a1,bC,w',J,m',F,G,Y,ae,aI⟩:=Rb (nid:=nid) (ty:=o.type) (t:=t) aa.E M ak U af j;rw[aq]at F;injection F with F;subst F;have ab:(execOp ρ o).run P w=.ok (.value bC) w':=tJ Z B (λk=>rfl) (by rw[an,ax];exact G);simp only[ab,cr];exact⟨J,m',Y,ae,aI⟩
    exact j.elim
   exact j.elim
  ·rename_i Z
   try simp only[Z]
   split at j
   ·rename_i x t N ht
    try simp only[N,ht]
    have U:=O x (by simp[B,Op.operands,Call.operands,Z];rw[<-hV,N];simp);have an:c.args.map ρ = #[ρ x]:=by apply k3.1;simp[N]
    have ax:c.argTypes = #[t]:=by apply k3.1;simp[ht]
    have aB:=Ve j;obtain⟨l',aq⟩:=aB;unfold cm;rw[aq];rintro rfl af;obtain⟨aX,a1,w',F,G,Y,ae⟩:=Vf (ty:=o.type) aa.E M U j;rw[aq]at F;injection F with F;subst F;have ab:(execOp ρ o).run P w=.ok (.value (.tuple #[])) w':=tJ Z B (λk=>rfl) (by rw[an,ax];exact G);simp only[ab,cr];exact⟨I,m,Y,ae,by rw[aX];exact .d _ _ (.aL _ _ rfl (by simp))⟩
   exact j.elim
  ·rename_i Z
   try simp only[Z]
   split at j
   ·rename_i x k t t2 N ht
    try simp only[N,ht]
    have U:=O x (by simp[B,Op.operands,Call.operands,Z];rw[<-hV,N];simp);have aC:=O k (by simp[B,Op.operands,Call.operands,Z];rw[<-hV,N];simp);have an:c.args.map ρ = #[ρ x,ρ k]:=by apply k3.1;simp[N]
    have ax:c.argTypes = #[t,t2]:=by apply k3.1;simp[ht]
    have aB:∃l',(nN V.E t l (ρT x) (ρT k)).bE=.aQ l':=by
     generalize ρT x=ts at *;generalize ρT k=bA at *;unfold nN at j⊢
     repeat' split at j
     all_goals first|exact j.elim|skip
     all_goals simp only[*]
     all_goals exact⟨_,rfl⟩
    obtain⟨l',aq⟩:=aB;unfold cm;rw[aq];rintro rfl af;obtain⟨aX,a1,w',F,G,Y,ae⟩:=VP (t2:=t2) (ty:=o.type) aa.E M U aC j;rw[aq]at F;injection F with F;subst F;have ab:(execOp ρ o).run P w=.ok (.value (.tuple #[])) w':=tJ Z B (λk=>rfl) (by rw[an,ax];exact G);simp only[ab,cr];exact⟨I,m,Y,ae,by rw[aX];exact .d _ _ (.aL _ _ rfl (by simp))⟩
   exact j.elim
  ·rename_i Z
   try simp only[Z]
   split at j
   ·rename_i k a bp b ad;split at j
    ·rename_i aC;subst aC;simp only[hK];have aK:∃x y,c.args.toList=[x,y]/\ρT x=.d (.int k a)/\ρT y=.d (.int k b):=by
      match hl:c.args.toList,ad with
      | [x,y],ad=>simp at ad;exact⟨x,y,rfl,ad.1,ad.2⟩
      | [],ad=>simp at ad
      | [x],ad=>simp at ad
      |x::y::z::r,ad=>simp at ad
     obtain⟨x,y,hl,F,G⟩:=aK;have U:=O x (by simp[B,Op.operands,Call.operands,Z];rw[<-hV,hl];simp);have ah:=O y (by simp[B,Op.operands,Call.operands,Z];rw[<-hV,hl];simp);rw[F]at U;rw[G]at ah;have U:=cw U;have ah:=cw ah;generalize aE:ρ x=a8 at U;generalize aY:ρ y=bD at ah;cases U;cases ah;have an:c.args.map ρ = #[.int k a,.int k b]:=by apply k3.1;simp[hl,aE,aY]
     refine cm.val M rfl (u:=.int k (max a b)) (tJ Z B (λk=>rfl) ?_) (.d _ _ (.int _ _));rw[an];simp only[Builtin.max_,s3,List.foldlM_nil,Builtin.max2,e8,Sem.run_pure,Result.andThen_ok];congr 2;rw[Int.max_def];split<;>split<;>omega
    exact j.elim
   exact j.elim
  ·rename_i Z
   try simp only[Z]
   split at j
   ·rename_i k a bp b ad;split at j
    ·rename_i aC;subst aC;simp only[hK];have aK:∃x y,c.args.toList=[x,y]/\ρT x=.d (.int k a)/\ρT y=.d (.int k b):=by
      match hl:c.args.toList,ad with
      | [x,y],ad=>simp at ad;exact⟨x,y,rfl,ad.1,ad.2⟩
      | [],ad=>simp at ad
      | [x],ad=>simp at ad
      |x::y::z::r,ad=>simp at ad
     obtain⟨x,y,hl,F,G⟩:=aK;have U:=O x (by simp[B,Op.operands,Call.operands,Z];rw[<-hV,hl];simp);have ah:=O y (by simp[B,Op.operands,Call.operands,Z];rw[<-hV,hl];simp);rw[F]at U;rw[G]at ah;have U:=cw U;have ah:=cw ah;generalize aE:ρ x=a8 at U;generalize aY:ρ y=bD at ah;cases U;cases ah;have an:c.args.map ρ = #[.int k a,.int k b]:=by apply k3.1;simp[hl,aE,aY]
     refine cm.val M rfl (u:=.int k (min a b)) (tJ Z B (λk=>rfl) ?_) (.d _ _ (.int _ _));rw[an];simp only[Builtin.min_,s3,List.foldlM_nil,Builtin.min2,e8,Sem.run_pure,Result.andThen_ok];congr 2;rw[Int.min_def];split<;>split<;>omega
    exact j.elim
   exact j.elim
  exact j.elim
 ·
  rename_i t B;exact λF G=>FO (L:=L) (F▸M) B F G
 ·
  rename_i t mm k x B;exact On aa.E M (.inl B) O j
 ·
  rename_i t mm k x B;exact On aa.E M (.inr B) O j
 ·
  rename_i t x k ok B;obtain⟨F,u,G,Y⟩:=XY (ok:=ok) aa.E M aA (O x (by simp[B,Op.operands])) (O k (by simp[B,Op.operands])) j;exact cm.val M F (by unfold execOp;simp[B,G]) Y
 ·
  rename_i bH t x B;obtain⟨F,u,w',J,G,Y,ae,aI⟩:=D4 aa.E M (O x (by simp[B,Op.operands])) j;unfold cm;rw[F];have ab:(execOp ρ o).run P w=.ok (.value u) w':=by unfold execOp;simp[B,G]
  simp only[ab,cr];exact⟨J,Y,ae,aI⟩
 ·
  rename_i g first caps B
  split at j
  ·rename_i ar
   try simp only[if_pos ar]
   have bb:first = #[]:=Array.isEmpty_iff.1 ar
   refine cm.val M rfl (u:=.func (.func g) #[] (caps.map ρ)) (by unfold execOp;simp[B,bb,Instr.makeFunc]) (Vi (.aH _ _ _ (by simp) λi v t hv ht=>?_));rw[Array.getElem?_map]at hv;rw[e3]at ht;cases N:caps[i]? with
   |none=>rw[N]at hv;cases hv
   |some a=>
    rw[N]at hv;have bf:caps.toList[i]?=some a:=by simpa using N
    rw[bf]at ht;simp at hv ht;subst hv;subst ht;exact O a (by simp[B,Op.operands,bb];exact Array.mem_of_getElem? N)
  exact j.elim
 ·
  rename_i t x B;exact Hy aa.E M B (O x (by simp[B,Op.operands])) j
 ·
  rename_i x B;exact V8 M aA B (O x (by simp[B,Op.operands])) j
 ·
  rename_i t a b B;obtain⟨l',aq⟩:=Ya j;unfold cm;rw[aq];rintro rfl rfl;obtain⟨a1,w',v,m',F,G,Y,ae,aI⟩:=Yb (t:=t) aa.E M (O a (by simp[B,Op.operands])) (O b (by simp[B,Op.operands])) j;rw[aq]at F;injection F with F;subst F;have ab:(execOp ρ o).run P w=.ok (.value v) w':=by unfold execOp;simp[B,G]
  simp only[ab,cr];exact⟨I,m',Y,ae,aI⟩
 exact j.elim
def wg{V:Env}{ρT:Operand->T}{l:List AO}{nid:Nat}{o:Oper}(k:(evalOp V ρT l nid o).ob):∀c,o.op ≠ .defer c:=by
 intro c j;obtain⟨F,G,ty,M,B,g⟩:=o;simp only at j;subst j;simp only[evalOp,R.bad]at k
def tz{E:cn}{ρT:Operand->T}{o:Oper}{x:FuncId×List T}(h:eD E ρT o=some x):∀c,o.op ≠ .defer c:=by
 intro c j;unfold eD at h;rw[j]at h;cases h
end
end Go.ak
namespace Go.ak
open Go Go.RowKit
variable [bm][bS]
abbrev PC:=List (Nat×Bool×Bool)
def P3(j pc:PC):Bool:=j.all λx=>pc.any λy=>x.1 == y.1&&x.2.2 == y.2.2
def CO:PC->PC->Prop
 | [],_=>True
 |x::r,pc=>(match pc.find? (λy=>x.1 == y.1&&x.2.2 == y.2.2)with|some y=>x.2.1=y.2.1|none=>False)/\CO r pc
def strip(pc:PC)(t:T):T×Prop:=
 match t with
 |.cond j u=>if P3 j pc=true then(u,CO j pc)else(t,True)
 |t=>(t,True)
def Ms:∀{pc:PC},holds pc->∀y∈pc,y.2.1=y.2.2
 | [],_,y,hy=>by cases hy
 | (_,c,b)::r,h,y,hy=>by
  rcases fa.1 hy with rfl|hy
  ·exact h.1
  exact Ms h.2 y hy
def P4:∀{M pc:PC},CO M pc->holds pc->holds M
 | [],_,_,_=>trivial
 | (j,c,b)::r,pc,h,F=>by
  obtain⟨k,N⟩:=h;refine⟨?_,P4 N F⟩;split at k
  ·rename_i y G;have B:=kA G;simp only[dk,r4]at B;have:=Ms F y (hf G);simp only at k;rw[k,this,<-B.2]
  exact k.elim
theorem Mr:∀{a b:PC},holds (a++b)↔holds a/\holds b
 | [],b=>by simp[holds]
 | (_,c,d)::r,b=>by simp only[List.cons_append,holds,Mr (a:=r),mv]
def dL(ops:List Oper)(s:Tm):Option (Nat×Bool)->Option PC
 |none=>some []
 |some (j,b)=>match (ops[j]?).bind (·.dst)with
  |some d=>match get s d with
   |.d (.bool c)=>some [(j,c,b)]
   |.cond pc (.d (.bool c))=>some (pc++[(j,c,b)])
   |.cond [(0,true,false)] .undef=>some [(0,true,false)]
   |_=>none
  |none=>none
def nS:List Prop->Prop
 | []=>True
 |p::r=>p/\nS r
def NO:∀{l:List Prop},nS l->∀p∈l,p
 | [],_,p,hp=>by cases hp
 |q::r,h,p,hp=>by
  rcases fa.1 hp with rfl|hp
  ·exact h.1
  exact NO h.2 p hp
def eE(n:Nat):Option Nat->Bool
 |none=>true
 |some d=>decide (d<n)
def after(s:St)(j:Option Nat)(pc:PC)(r:R):Option St:=
 match pc,r.bE with
 | [],.none=>some ⟨bH s.t j r.t,s.l⟩
 | [],.new a=>some ⟨bH s.t j r.t,s.l++[a]⟩
 | [],.aQ l'=>some ⟨bH s.t j r.t,l'⟩
 |pc,.none=>some ⟨bH s.t j (.cond pc r.t),s.l⟩
 |_,_=>none
def gr(V:Env)(pc:PC)(s:St)(o:Oper):R:=
 match pc with
 | []=>evalOp V (cg s.t) s.l s.l.length o
 |_::_=>
  let ρ:=λx=>strip pc (cg s.t x);let r:=evalOp V (λx=>(ρ x).1) s.l s.l.length o
  ⟨r.t,r.bE,r.ob/\nS (o.op.operands.toList.map λx=>(ρ x).2)⟩
def stepT(pc:PC)(s:Tm)(x:Operand):T:=match pc with| []=>cg s x|_::_=>(strip pc (cg s x)).1
def gone:T:=.cond [(0,true,false)] .undef
def Mi{I:aD}{m:Nat->Value}{l:List AO}:az I m l Go.undef gone:=.cond _ _ _ (λh=>by simp[holds]at h) (λ_=>rfl)
abbrev Way:=Option (List Nat)
def PI(k:List Nat)(j:Option Nat):Bool:=match j with|some d=>k.contains d|none=>false
def eg(V:Env)(n:Nat)(ops:List Oper)(md:Way):List Oper->St->(St->Prop)->Prop
 | [],s,K=>K s
 |o::r,s,K=>
  match dL ops s.t o.guard with
  |none=>False
  |some pc=>
   match md with
   |none=>
    (match gr V pc s o with
    | ⟨t,bE,ob⟩=>(holds pc->ob)/\eE n o.dst=true/\match after s o.dst pc ⟨t,bE,True⟩with|some s'=>eg V n ops md r s' K|none=>False)
   |some j=>
    if PI j o.dst=true then(holds pc->False)/\eE n o.dst=true/\eg V n ops md r ⟨bH s.t o.dst gone,s.l⟩ K
    else holds pc/\(match gr V [] s o with
    | ⟨t,bE,ob⟩=>ob/\eE n o.dst=true/\match after s o.dst [] ⟨t,bE,True⟩with|some s'=>eg V n ops md r s' K|none=>False)
theorem zK{V:Env}{n:Nat}{ops:List Oper}{md:Way}{K M:St->Prop}(k:∀s,K s->M s):∀(r:List Oper)(s:St),eg V n ops md r s K->eg V n ops md r s M
 | [],s,h=>k s h
 |o::r,s,h=>by
  simp only[eg]at h⊢;split at h
  ·exact h
  cases md with
  |none=>
   obtain⟨B,F,j⟩:=h;refine⟨B,F,?_⟩;split at j
   ·exact zK k r _ j
   exact j
  |some N=>
   simp only at h⊢;split at h
   ·rename_i G;rw[if_pos G];exact⟨h.1,h.2.1,zK k r _ h.2.2⟩
   rename_i G;rw[if_neg G];obtain⟨h0,B,F,j⟩:=h;refine⟨h0,B,F,?_⟩;split at j
   ·exact zK k r _ j
   exact j
def mark(D:Nat):Deferred:={target:=.collected D,args:= #[]}
def eJ(B:Nat)(I:aD)(ds:List Deferred):Prop:=∃j:List Nat,ds=j.map mark/\j.Nodup/\(∀D∈j,B<=D/\¬bS.cF D/\I.df D)/\∀b,bS.cF b->I.df b
theorem eJ.rX{B:Nat}{I J:aD}{ds:List Deferred}(h:eJ B I ds)(hl:∀b,I.df b->J.df b):eJ B J ds:=by
 obtain⟨F,G,M,j,N⟩:=h;exact⟨F,G,M,λD k=>⟨(j D k).1,(j D k).2.1,hl _ (j D k).2.2⟩,λb O=>hl _ (N b O)⟩
theorem eJ.mono{B:Nat}{I J:aD}{ds:List Deferred}(h:eJ B I ds)(hl:I.le J):eJ B J ds:=h.rX hl.df
theorem eJ.nil{B:Nat}{I:aD}(h:∀b,bS.cF b->I.df b):eJ B I []:=⟨[],rfl,.nil,by simp,h⟩
def eJ.yb{B:Nat}{I J:aD}{a:Act}{j:Option Nat}{v:Value}(h:eJ B I a.defers)(hl:∀b,I.df b->J.df b):eJ B J (a.put j v).defers:=by
 have:(a.put j v).defers=a.defers:=by cases j<;>rfl
 rw[this];exact h.rX hl
def eJ.put{B:Nat}{I J:aD}{a:Act}{j:Option Nat}{v:Value}(h:eJ B I a.defers)(hl:I.le J):eJ B J (a.put j v).defers:=h.yb hl.df
theorem eJ.cons{B:Nat}{I J:aD}{ds:List Deferred}{D:Nat}(h:eJ B I ds)(hl:∀b,I.df b->J.df b)(O:B<=D)(F:¬I.df D)(U:J.df D):eJ B J (mark D::ds):=by
 obtain⟨G,M,N,j,k⟩:=h;refine⟨D::G,by rw[M];rfl,h5.2 ⟨λaa=>F (j D aa).2.2,N⟩,λx hx=>?_,λb Y=>hl _ (k b Y)⟩;rcases fa.1 hx with rfl|hx
 ·exact⟨O,λZ=>F (k _ Z),U⟩
 exact⟨(j x hx).1,(j x hx).2.1,hl _ (j x hx).2.2⟩
structure Rel(w0:World)(I0:aD)(n:Nat)(s:St)(a:Act)(w:World):Prop where
 size:a.tmps.size=n
 rel:∃I m,aJ w0 I0 w I m s.l/\eJ w0.heap.size I a.defers/\∀k,az I m s.l (a.tmps.getD k undef) (get s.t k)
section
variable {P:Program}{V:Env}{w0 w:World}{I0 I:aD}{m:Nat->Value}{l L:List AO}{n:Nat}
def Vp(v:Value):az I m L v (tB v):=by
 unfold tB;split
 ·exact .d _ _ (.bool _)
 ·exact .d _ _ (.int _ _)
 ·exact .d _ _ (.str _)
 ·exact .bq _
 ·exact .d _ _ .dV
 ·exact .d _ _ .uo
 ·exact .d _ _ .kg
 ·exact .d _ _ .qv
 exact .undef _
def W5{s:Tm}{a:Act}(N:∀g d,bm.dI g=some d->Rd I (.pointer (some ⟨g,0,none⟩)) (.box d))(g:Nat):az I m L (a.eval (.global g)) (cg s (.global g)):=by
 show az I m L (.pointer (some ⟨g,0,none⟩)) (match bm.dI g with|some d=>.bu d.cells.length [d] 0 0|none=>.undef);cases M:bm.dI g with
 |none=>exact .undef _
 |some d=>
  have:=N g d M;cases this with
  |box _ _ val B F G=>
   have:=az.bu (I:=I) (m:=m) (l:=L) g 0 d.cells.length [d] 0 0 val (by simp) (λx k=>by simp at k;subst k;exact⟨rfl,B⟩) (λj O=>by rw[hT];exact F j (by simpa using O)) (λj x k=>G j x (by simpa [flat]using k));simpa using this
def nw{s:Tm}{a:Act}(j:∀g d,bm.dI g=some d->Rd I (.pointer (some ⟨g,0,none⟩)) (.box d))(h:∀k,az I m L (a.tmps.getD k undef) (get s k))(x:Operand):az I m L (a.eval x) (cg s x):=by
 cases x with
 |tmp t=>exact h t
 |const v=>exact Vp v
 |global g=>exact W5 j g
 |func f=>exact .d _ _ (.fn f)
def aco{pc:PC}{v:Value}{t:T}(h:az I m L v t)(B:holds pc)(j:(strip pc t).2):az I m L v (strip pc t).1:=by
 unfold strip at j⊢;split at j
 ·rename_i F u;split at j
  ·rename_i k;simp only[if_pos k];exact yi h (P4 j B)
  rename_i k;simp only[if_neg k];exact h
 exact h
theorem W3(s:Tm)(d:Nat)(t:T)(k:Nat):get ((d,t)::s) k=if d=k then t else get s k:=rfl
def jk{s:Tm}{a:Act}{j:Option Nat}{v:Value}{t:T}(G:a.tmps.size=n)(F:eE n j=true)(h:∀k,az I m L (a.tmps.getD k undef) (get s k))(hv:az I m L v t) :
  ∀k,az I m L ((a.put j v).tmps.getD k undef) (get (bH s j t) k):=by
 intro k;cases j with
 |none=>exact h k
 |some d=>
  simp only[eE,ea]at F;simp only[bH,W3,Act.put];by_cases B:d=k
  ·subst B;rw[if_pos rfl];have:(a.tmps.setIfInBounds d v).getD d undef=v:=by simp[hz,G,F]
   rw[this];exact hv
  rw[if_neg B];have:(a.tmps.setIfInBounds d v).getD k undef=a.tmps.getD k undef:=by simp[hz,B]
  rw[this];exact h k
def adq{ops:List Oper}{s:Tm}{a:Act}{o:Oper}{pc:PC}(h:∀j b d,o.guard=some (j,b)->(ops[j]?).bind (·.dst)=some d->az I m L (a.tmps.getD d undef) (get s d))(k:dL ops s o.guard=some pc):Region.wanted o (yielded ops.toArray a.tmps)=true↔holds pc:=by
 cases M:o.guard with
 |none=>rw[M]at k;simp[dL]at k;subst k;simp[Region.wanted,M,holds]
 |some ah=>
  obtain⟨j,b⟩:=ah;rw[M]at k;simp only[dL]at k;split at k
  ·rename_i d aa;have ag:yielded ops.toArray a.tmps j=match a.tmps[d]? with|some (.bool c)=>some c|_=>none:=by
    unfold yielded;have:((ops.toArray[j]?).bind (·.dst))=some d:=by simpa using aa
    rw[this];rfl
   have ab:∀v,a.tmps.getD d undef=v->v≠undef->a.tmps[d]?=some v:=by
    intro v hv af;rw[hz]at hv;cases ad:a.tmps[d]? with
    |none=>rw[ad]at hv;exact absurd hv.symm af
    |some u=>rw[ad]at hv;simp at hv;rw[hv]
   have B:=h j b d M aa;simp only[Region.wanted,M,ag,r4];split at k
   ·rename_i c G;simp at k;subst k;rw[G]at B;have:=cw B;generalize hv:a.tmps.getD d undef=v at this;cases this;rw[ab _ hv (by unfold undef;simp)];simp[holds]
   ·rename_i ai c G;simp at k;subst k;rw[G]at B;generalize hv:a.tmps.getD d undef=v at B;cases B with
    |cond _ _ _ Z O=>
     rw[Mr];by_cases N:holds ai
     ·have:=cw (Z N);cases this;rw[ab _ hv (by unfold undef;simp)];simp[holds,N]
     have Y:=O N;subst Y;constructor
     ·intro F;exfalso;split at F
      ·rename_i ae U;rw[hz,U]at hv;simp[undef]at hv
      cases F
     rintro⟨h,_⟩;exact absurd h N
   ·rename_i G;simp at k;subst k;rw[G]at B;generalize hv:a.tmps.getD d undef=v at B;cases B with
    |cond _ _ _ Z O=>
     have Y:=O (by simp[holds]);subst Y;constructor
     ·intro F;exfalso;split at F
      ·rename_i ae U;rw[hz,U]at hv;simp[undef]at hv
      cases F
     intro F;simp[holds]at F
   cases k
  cases k
theorem pJ{ops:List Oper}{s:Tm}{a:Act}{o:Oper}{pc:PC}(h:∀k,az I m L (a.tmps.getD k undef) (get s k))(j:dL ops s o.guard=some pc):Region.wanted o (yielded ops.toArray a.tmps)=true↔holds pc:=
 adq (λ_ _ d _ _=>h d) j
def NU(aj:c6 P V){ops:List Oper}{Q:Exit->Act->World->Prop}{o:Oper}{pc aA:PC}{s s':St}{a:Act}{w:World}(aH:Rel w0 I0 n s a w)(aC:dL ops s.t o.guard=some aA)(aG:holds aA↔holds pc)(ab:holds pc->(gr V pc s o).ob)(ag:eE n o.dst=true){t:T}{aq:qS}(aB:(gr V pc s o).t=t/\(gr V pc s o).bE=aq)(j:after s o.dst pc ⟨t,aq,True⟩=some s'){ai:Act->World->Prop}(ae:∀ao w',Rel w0 I0 n s' ao w'->ai ao w') :
  if Region.wanted o (yielded ops.toArray a.tmps)=true then o.wpIn dS 0 P a w ai Q else(∀f,o.about P w a.eval=some f->dS.fn f)/\ai (a.put o.dst undef) w:=by
  obtain⟨M,I,m,Z,af,ht⟩:=aH;obtain⟨rfl,rfl⟩:=aB;have ay:=(pJ ht aC).trans aG;by_cases N:holds pc
  ·rw[if_pos (ay.2 N)];have ab:=ab N;have al:∀x∈o.op.operands,az I m s.l (a.eval x) (stepT pc s.t x):=λx an=>by
    cases pc with
    |nil=>exact nw Z.sat.dK ht x
    |cons y pc=>exact aco (nw Z.sat.dK ht x) N (NO ab.2 _ (gg.2 ⟨x,by simpa using an,rfl⟩))
   have aI:(gr V pc s o).t=(evalOp V (stepT pc s.t) s.l s.l.length o).t/\(gr V pc s o).bE=(evalOp V (stepT pc s.t) s.l s.l.length o).bE/\((gr V pc s o).ob->(evalOp V (stepT pc s.t) s.l s.l.length o).ob):=by
    cases pc with
    |nil=>exact⟨rfl,rfl,id⟩
    |cons y pc=>exact⟨rfl,rfl,λh=>h.1⟩
   obtain⟨av,aw,ax⟩:=aI;have au:=ax ab;clear ab ax;have ah:=au;clear au;rw[av,aw]at j;clear av aw;have ak:=wg ah;generalize Y:evalOp V (stepT pc s.t) s.l s.l.length o=ad at *;cases F:ad.bE with
   |none=>
    have B:=rp (nid:=s.l.length) aj Z (eQ.refl _) al (by rw[Y];exact ah);rw[Y]at B;unfold cm at B;rw[F]at B;refine cr.wpIn ak (B.mono λv w' ⟨J,G,aa,hv⟩=>?_);have O:s'=⟨bH s.t o.dst (if pc=[]then ad.t else .cond pc ad.t),s.l⟩:=by
     unfold after at j;simp only[F]at j;cases pc<;>simp at j<;>simp[<-j]
    subst O;refine ae _ _ ⟨by cases o.dst<;>simp[Act.put,M],J,m,aa,af.put G.du,jk M ag (λk=>(ht k).mono G) ?_⟩;split
    ·exact hv
    exact .cond _ _ _ (λ_=>hv) (λaF=>absurd N aF)
   |new x=>
    have U:pc=[]:=by
     unfold after at j;simp only[F]at j;cases pc<;>simp at j;rfl
    subst U;have O:s'=⟨bH s.t o.dst ad.t,s.l++[x]⟩:=by
     unfold after at j;simp only[F]at j;simp at j;exact j.symm
    subst O;obtain⟨aK,ar⟩:=Z.push;have B:=rp (nid:=s.l.length) aj aK (L:=s.l++[.dead]) (λid aE=>e1 aE) (λx an=>(al x an).mono ar) (by rw[Y];exact ah);rw[Y]at B;unfold cm at B;rw[F]at B;refine cr.wpIn ak ((B (by simp)).mono λv w' ⟨m',G,aa,hv⟩=>?_);have aJ:(s.l++[AO.dead]).set s.l.length x=s.l++[x]:=by simp
    rw[aJ]at G aa hv;exact ae _ _ ⟨by cases o.dst<;>simp[Act.put,M],I,m',aa,af.put (.refl I),jk M ag (λk=>(ht k).mono (ar.trans G)) hv⟩
   |aQ l'=>
    have U:pc=[]:=by
     unfold after at j;simp only[F]at j;cases pc<;>simp at j;rfl
    subst U;have O:s'=⟨bH s.t o.dst ad.t,l'⟩:=by
     unfold after at j;simp only[F]at j;simp at j;exact j.symm
    subst O;have B:=rp (nid:=s.l.length) aj Z (eQ.refl _) al (by rw[Y];exact ah);rw[Y]at B;unfold cm at B;rw[F]at B;refine cr.wpIn ak ((B rfl rfl).mono λv w' ⟨J,m',G,aa,hv⟩=>?_);exact ae _ _ ⟨by cases o.dst<;>simp[Act.put,M],J,m',aa,af.put G.du,jk M ag (λk=>(ht k).mono G) hv⟩
  rw[if_neg (λaD=>N (ay.1 aD))];have U:pc≠[]:=by rintro rfl;exact N trivial
  have F:(gr V pc s o).bE=.none:=by
   unfold after at j;generalize (gr V pc s o).bE=e at *;cases pc with
   |nil=>exact absurd rfl U
   |cons x pc=>cases e<;>simp at j<;>rfl
  have O:s'=⟨bH s.t o.dst (.cond pc (gr V pc s o).t),s.l⟩:=by
   unfold after at j;simp only[F]at j;cases pc with
   |nil=>exact absurd rfl U
   |cons x pc=>simp at j;exact j.symm
  subst O;exact⟨λf _=>ow f,ae _ _ ⟨by cases o.dst<;>simp[Act.put,M],I,m,Z,af.put (.refl I),jk M ag ht (.cond _ _ _ (λh=>absurd h N) (λ_=>rfl))⟩⟩
def K8(Y:c6 P V){ops:List Oper}{md:Way}{Q:Exit->Act->World->Prop}{K:St->Prop}{o:Oper}{r:List Oper}{s:St}{a:Act}{w:World}(O:Rel w0 I0 n s a w)(h:eg V n ops md (o::r) s K){B:Act->World->Prop}(F:∀s' j w',eg V n ops md r s' K->Rel w0 I0 n s' j w'->B j w') :
  if Region.wanted o (yielded ops.toArray a.tmps)=true then o.wpIn dS 0 P a w B Q else(∀f,o.about P w a.eval=some f->dS.fn f)/\B (a.put o.dst undef) w:=by
  simp only[eg]at h;split at h
  ·exact h.elim
  rename_i ag G;cases md with
  |none=>
   simp only at h;obtain⟨M,k,h⟩:=h;split at h
   ·rename_i s' U;exact NU Y O G Iff.rfl M k ⟨rfl,rfl⟩ U λj w' N=>F s' j w' h N
   exact h.elim
  |some ah=>
   simp only at h;split at h
   ·obtain⟨ad,k,h⟩:=h;obtain⟨Z,I,m,ae,aa,ht⟩:=O;rw[if_neg (λab=>ad ((pJ ht G).1 ab))];exact⟨λf _=>ow f,F _ _ _ h ⟨by cases o.dst<;>simp[Act.put,Z],I,m,ae,aa.put (.refl I),jk Z k ht Mi⟩⟩
   obtain⟨af,M,k,h⟩:=h;split at h
   ·rename_i s' U;exact NU Y O G (pc:=[]) ⟨λ_=>trivial,λ_=>af⟩ (λ_=>M) k ⟨rfl,rfl⟩ U λj w' N=>F s' j w' h N
   exact h.elim
theorem Ep(B:c6 P V){ops:List Oper}{md:Way}{Q:Exit->Act->World->Prop}{K:St->Prop}(k:∀s a w,K s->Rel w0 I0 n s a w->Q .normal a w):∀(r:List Oper)(s:St)(a:Act)(w:World),Rel w0 I0 n s a w->eg V n ops md r s K->wpListIn dS 0 P ops.toArray Q r a w
 | [],s,a,w,j,h=>k s a w h j
 |o::r,s,a,w,j,h=>by
  unfold wpListIn;exact K8 B j h λs' F w' G M=>Ep B k r s' F w' M G
end
end Go.ak
namespace Go.ak
open Go Go.RowKit
variable [bm]
def waits(o:Oper):List Nat:=(o.after.toList.filter (Region.binds .any)).map (·.on)
def tmpsOf(o:Oper):List Nat:=o.op.operands.toList.filterMap λ|.tmp t=>some t|_=>none
def mO(ops:List Oper)(o:Oper):List Nat:=tmpsOf o++(match o.guard with|some (j,_)=>((ops[j]?).bind (·.dst)).toList|none=>[])
def Am(ops:List Oper):Bool:=(List.range ops.length).all λi=>match ops[i]? with|some o=>(waits o).all (· < i)|none=>true
end Go.ak
namespace Go.ak
open Go Go.RowKit
variable [bm][bS]
def Lr{α:Type}[DecidableEq α]:∀(l:List α)(f:α->Bool)(i:α),l.Nodup->i∈l->f i=true->(l.filter λk=>f k&&decide (k≠i)).length+1=(l.filter f).length
 | [],f,i,_,hi,_=>by cases hi
 |x::l,f,i,B,hi,j=>by
  have N:x∉l:=(h5.1 B).1;by_cases h:x=i
  ·subst h;have:l.filter (λk=>f k&&decide (k≠x))=l.filter f:=by
    apply adI;intro k M;have:k≠x:=λe=>N (e▸M);simp[this]
   have:=dn List.length this;simp at this;simp[j,this]
  have G:i∈l:=by
   rcases fa.1 hi with e|e
   ·exact absurd e.symm h
   exact e
  have O:=Lr l f i (h5.1 B).2 G j;cases F:f x<;>simp[F,h]<;>simp at O<;>omega
def vB(N:Nat)(j:Array Bool):Nat:=((List.range N).filter λi=>!j.getD i false).length
def ac6{N i:Nat}{j:Array Bool}(F:j.size=N)(hi:i<N)(G:j.getD i false=false):vB N (j.setIfInBounds i true)+1=vB N j:=by
 unfold vB;rw[<-Lr (List.range N) (λi=>!j.getD i false) i List.nodup_range (ib.2 hi) (by simp only[G];rfl)];congr 2;apply adI;intro k B;have B:=ib.1 B;simp only[hz,Kd];by_cases h:i=k
 ·subst h;simp[F,hi]
 simp[h,hU h]
def W1{N i k:Nat}{j:Array Bool}(B:j.size=N)(hi:i<N):(j.setIfInBounds i true).getD k false=if k=i then true else j.getD k false:=by
 simp only[hz,Kd];by_cases h:i=k
 ·subst h;simp[B,hi]
 simp[h,hU h]
def W2{N i:Nat}{j:Array Bool}(k:j.size=N)(hi:i<N):j.getD i true=j.getD i false:=by
 simp[hz,e5 (show i<j.size by omega)]
section
variable {P:Program}{V:Env}{w0:World}{I0:aD}{n:Nat}{md:Way}{ops:List Oper}{Q:Exit->Act->World->Prop}{K:St->Prop}
def Fz(h:Am ops=true){i:Nat}{o:Oper}(k:ops[i]?=some o):∀j∈waits o,j<i:=by
 have:=ek.1 h i (ib.2 (db.1 k).1);simp only[k,ek,ea]at this;exact this
def HB{B:Array Bool}{i:Nat}(O:B.size=ops.length)(hi:i<ops.length){o:Oper}(F:ops[i]?=some o):i∈Region.ready .any ops.toArray B↔B.getD i false=false/\∀j∈waits o,B.getD j false=true:=by
 rw[mem_ready];rw[W2 O hi];refine and_congr_right λ_=>⟨?_,λh=>⟨o,by simpa using F,λe k M=>h e.on ?_⟩⟩
 ·rintro⟨o',G,h⟩ j N;have:o'=o:=by simp[F]at G;exact G.symm
  subst this;obtain⟨e,k,rfl⟩:=gg.1 N;have k:=hG.1 k;exact h e (by simpa using k.1) k.2
 exact gg.2 ⟨e,hG.2 ⟨by simpa using k,M⟩,rfl⟩
def OX{k:Array Bool}{i:Nat}(h:i∈Region.ready .any ops.toArray k):i<ops.length:=by
 obtain⟨_,o,j,_⟩:=mem_ready.1 h;have:=(e6.1 j).1;simpa using this
end
def aD.eY(I:aD)(D:Nat):aD:=⟨I.cell,I.mp,λb=>I.df b/\b≠D⟩
theorem Rd.eY{I:aD}{D:Nat}{v:Value}{d:ak.D}(h:Rd I v d):Rd (I.eY D) v d:=Rd.rX (J:=I.eY D) (I:=I) (λ_ _ _ h=>h) (λ_ _ h=>h) h
theorem az.eY{I:aD}{m:Nat->Value}{l:List AO}{D:Nat}{v:Value}{t:T}(h:az I m l v t):az (I.eY D) m l v t:=by
 induction h with
 |undef v=>exact .undef v
 |d v x r=>exact .d v x r.eY
 |bq s=>exact .bq s
 |ptr id b off B F=>exact .ptr id b off B F
 |bu b o size els k off val B F M N=>exact .bu b o size els k off val B F M (λj x U=>(N j x U).eY)
 |row A n c id B F=>exact .row A n c id B F
 |bI A n c id x B F M=>exact .bI A n c id x B F M.eY
 |bx a id k off B F=>exact .bx a id k off B F
 |map r id B F=>exact .map r id B F
 |aL vs ts B _ G=>exact .aL vs ts B G
 |cond v pc t _ O G=>exact .cond v pc t G O
 |aH g vs ts B _ G=>exact .aH g vs ts B G
 |bj id b B F=>exact .bj id b B F
 |cC id b n c B F M N=>exact .cC id b n c B F M N
 |sub A n c id lo hi B F=>exact .sub A n c id lo hi B F
 |agg vs ts B F _ G=>exact .agg vs ts B F G
def aJ.shut{w0 w:World}{I0 I:aD}{m:Nat->Value}{l:List AO}(h:aJ w0 I0 w I m l){D:Nat}(ak:I.df D)(aB:w0.heap.size<=D)(o':Obj):aJ w0 I0 (w.putObj D o') (I.eY D) m l:=by
 have aE:=h.sat.kW ak;have ah:∀b,b≠D->(w.putObj D o').heap[b]?=w.heap[b]?:=λb af=>World.putObj_heap_other af;have ar:∀{b o v},I.cell b o=some v->b≠D:=λ{b o v} ab e=>by
  subst e;have:=h.sat.cell b o v ab;unfold World.cell? at this;rw[h.sat.df b ak]at this;simp at this
 have av:∀{b Y},I.mp b=some Y->b≠D:=λ{b Y} ab e=>by
  subst e;have:=(h.sat.mp b Y ab).1;rw[h.sat.df b ak]at this;cases this
 refine⟨h.below.trans ⟨rfl,rfl,rfl,by simp,λk aC=>ah k (by omega),λ_=>ec _⟩,⟨λb o v ab=>?_,λb Y ab=>dR.to (ah b (av ab)) (h.sat.mp b Y ab),λb B=>(ah b B.2).trans (h.sat.df b B.1),λg d au=>(h.sat.dK g d au).eY⟩,
  ⟨h.ext.lc,h.ext.lm,λb af B=>⟨h.ext.ld b af B,by omega⟩,h.ext.cell,h.ext.mp⟩,λid o aw=>?_,h.sep⟩
 ·exact(ma (w:=w) (a:=⟨b,o,none⟩) (ah b (ar ab))).trans (h.sat.cell b o v ab)
 have Z:=h.obj id o aw;by_cases aq:o=.dead
 ·subst aq;trivial
 have ae:∀b,own (m id)=some b->(w.putObj D o').heap[b]?=w.heap[b]?:=λb af=>ah b (λe=>by subst e;exact Z.l5 h.sat aq af ak);cases o with
 |dead=>trivial
 |var ty cs=>
  obtain⟨b,vs,F,N,O,U,G,aa⟩:=Z;exact⟨b,vs,F,N,(ae b (by rw[F];rfl)).trans O,U,λi x t ai ht=>⟨(G i x t ai ht).1.eY,(G i x t ai ht).2⟩,aa⟩
 |row e size els=>
  obtain⟨xs,N,O,U,G⟩:=Z;exact⟨xs,w6 N ae,O,λj x y ai al=>(U j x y ai al).eY,G⟩
 |bn e size els=>
  obtain⟨xs,N,O,U,G⟩:=Z;exact⟨xs,w6 N ae,O,λj x y ai al=>(U j x y ai al).eY,G⟩
 |map an vs=>
  obtain⟨b,Y,F,N,O,U,G,aa,ad,ag⟩:=Z;exact⟨b,Y,F,N,dR.to (ae b (by rw[F];rfl)) O,U,G,λi e d M B=>(aa i e d M B).eY,λi e d M B=>(ad i e d M B).eY,ag⟩
 |dJ an vs=>
  obtain⟨b,Y,F,N,O,U,G,aa,ad,ag,aj⟩:=Z;exact⟨b,Y,F,N,dR.to (ae b (by rw[F];rfl)) O,U,G,λi e d M B=>(aa i e d M B).eY,λi e d M B=>(ad i e d M B).eY,ag,aj⟩
 |bw e size an vs aF=>
  obtain⟨b,Y,F,N,O,U,G,aa,ad,ag,aj,ao⟩:=Z;exact⟨b,Y,F,N,dR.to (ae b (by rw[F];rfl)) O,U,G,λi e d M B=>(aa i e d M B).eY,λi e d M B=>(ad i e d M B).eY,ag,aj,ao.cF (λ_ _ h=>h.eY) ⟨λb u ay _=>⟨ah b (ar ay),rfl,rfl⟩,λq b ax af=>.inl ⟨q,ax,af⟩⟩ aj G⟩
 |iter an vs done=>
  obtain⟨b,az,Y,seen,F,N,O,U,G,aa,ad,ag,aj,ao⟩:=Z;exact⟨b,az,Y,seen,F,N,(ae b (by rw[F];rfl)).trans O,U,G,aa,λi e d M B=>(ad i e d M B).eY,λi e d M B=>(ag i e d M B).eY,aj,ao⟩
 |frame base vals t=>exact⟨Z.1,Z.2.1,λk=>(Z.2.2 k).eY⟩
 |loop base n ps bc aA t st aG=>
  obtain⟨b,r,F,N,O,U,G,aa,ad⟩:=Z;exact⟨b,r,F,N,(ae b (by rw[F];rfl)).trans O,U,G,λk=>(aa k).eY,ad⟩
theorem PG{P:Program}{F:Fence}{n:Nat}{w0:World}{I0:aD}{m:Nat->Value}{l:List AO}:∀(j:List Nat)(w:World)(I:aD),aJ w0 I0 w I m l->j.Nodup->(∀D∈j,w0.heap.size<=D/\I.df D) ->
  ∃w' J,aJ w0 I0 w' J m l/\(∀b,b∉j->I.df b->J.df b)/\(∀v t,az I m l v t->az J m l v t)/\∀(fn:Func)(k:Array Value)(R:Ending->World->Prop),(∃v,(results fn k).run P w'=.ok v w'/\R (.returned v) w')->LeavesInM F n P fn k R (j.map mark) .returning w
 | [],w,I,h,_,_=>⟨w,I,h,λ_ _ h=>h,λ_ _ h=>h,λ_ _ _ G=>G⟩
 |D::j,w,I,h,ad,B=>by
  obtain⟨U,N⟩:=B D (by simp);obtain⟨aa,ab⟩:=h5.1 ad;obtain⟨w',J,ae,af,ag,ah⟩:=PG (P:=P) (F:=F) (n:=n) j (w.putObj D (.deferred none)) (I.eY D) (h.shut N U _) ab λx M=>⟨(B x (by simp[M])).1,(B x (by simp[M])).2,λe=>aa (e▸M)⟩;refine⟨w',J,ae,λb O Y=>af b (λZ=>O (by simp[Z])) ⟨Y,λe=>O (by simp[e])⟩,λv t hv=>ag v t hv.eY,λfn k R G=>?_⟩;exact⟨by simp,.inl ⟨D,_,rfl,run_takeDeferred (h.sat.df D N),ah fn k R G⟩⟩
theorem zl{P:Program}{f:FuncId}{fn:Func}{c:Code}{j:Array Value}{w:World}{R:Ending->World->Prop}(F:bS.r=none)(B:P.funcs[f]?=some fn)(k:fn.body=some c)(h:c.wpIn dS 0 P (bodyPostM dS 0 P fn R) {tmps:=j++Array.replicate (fn.ntmps-j.size) undef,defers:=[]} w):Calls P f j w R:=by
 have e:dS=Fence.wide:=by unfold dS;rw[F];rfl
 rw[e]at h;exact(va (n:=0)).1 (callsIn_of_wp_marks B k trivial h)
theorem zE{P:Program}{fn:Func}{e:Exit}{a:Act}{w0 w:World}{I0 I:aD}{m:Nat->Value}{l:List AO}(Y:e=.ret\/e=.normal)(h:aJ w0 I0 w I m l)(U:eJ w0.heap.size I a.defers) :
  ∃w' J,aJ w0 I0 w' J m l/\(∀b,bS.cF b->J.df b)/\(∀v t,az I m l v t->az J m l v t)/\∀(R:Ending->World->Prop),(∃v,(results fn a.tmps).run P w'=.ok v w'/\R (.returned v) w')->bodyPostM dS 0 P fn R e a w:=by
 obtain⟨G,M,N,j,O⟩:=U;obtain⟨w',J,ab,ad,ae,af⟩:=PG (P:=P) (F:=dS) (n:=0) G w I h N λD k=>⟨(j D k).1,(j D k).2.2⟩;refine⟨w',J,ab,λb B=>ad b (λZ=>(j b Z).2.1 B) (O b B),ae,λR aa=>?_⟩;have:=af fn a.tmps R aa;rw[<-M]at this;rcases Y with rfl|rfl<;>exact this
def aX(P:Program)(w0:World)(I0:aD)(n:Nat)(c:Code)(s:St)(Q:Exit->St->Prop):Prop:=
 ∀a w,Rel w0 I0 n s a w->c.wpIn dS 0 P (λe j w'=>∃s',Q e s'/\Rel w0 I0 n s' j w') a w
def Sub(s s':St):Prop:=∀w0 I0 n a w,Rel w0 I0 n s a w->Rel w0 I0 n s' a w
theorem Sub.refl(s:St):Sub s s:=λ_ _ _ _ _ h=>h
section
variable {P:Program}{V:Env}{w0:World}{I0:aD}{n:Nat}{Q Q':Exit->St->Prop}{s s':St}{x y:Code}
theorem aX.mono(h:aX P w0 I0 n x s Q)(B:∀e s,Q e s->Q' e s):aX P w0 I0 n x s Q':=λa w F=>
 na (λe _ _ ⟨s',j,k⟩=>⟨s',B e s' j,k⟩) (h a w F)
theorem aX.sub(k:Sub s s')(h:aX P w0 I0 n x s' Q):aX P w0 I0 n x s Q:=λa w j=>h a w (k _ _ _ _ _ j)
def qL(K:St->Prop)(Q:Exit->St->Prop):Exit->St->Prop
 |.normal,s=>K s
 |e,s=>Q e s
theorem aX.seq(h:aX P w0 I0 n x s (qL (λs'=>aX P w0 I0 n y s' Q) Q)):aX P w0 I0 n (x.seq y) s Q:=λa w F=>
 wpIn_seq (na (λe B w' ⟨s',j,k⟩=>by
  cases e<;>first|exact j B w' k|exact⟨s',j,k⟩) (h a w F))
@[reducible] def bP:bS:=⟨none,λ_=>False⟩
def zf:T->Option Bool
 |.d (.bool b)=>some b
 |_=>none
theorem aX.cond{c:Operand}{b:Bool}(j:zf (cg s.t c)=some b)(B:b=true->aX P w0 I0 n x s Q)(F:b=false->aX P w0 I0 n y s Q):aX P w0 I0 n (.cond c x y) s Q:=λa w k=>by
 have O:=k;obtain⟨_,I,m,U,_,ht⟩:=O;have hv:=nw U.sat.dK ht c;have N:cg s.t c=.d (.bool b):=by
  unfold zf at j;split at j
  ·rename_i Y M;injection j with j;rw[M,j]
  cases j
 rw[N]at hv;have:=cw hv;generalize G:a.eval c=v at this;cases this;refine wpIn_cond G ?_;cases b with
 |true=>exact B rfl a w k
 |false=>exact F rfl a w k
def Mu(id:Nat)(Q:Exit->St->Prop):Exit->St->Prop
 |.exit j,s=>if j=id then Q .normal s else Q (.exit j) s
 |e,s=>Q e s
def aX.block{id:Nat}(h:aX P w0 I0 n x s (Mu id Q)):aX P w0 I0 n (.block id x) s Q:=λa w F=>
 wpIn_block (na (λe G w' ⟨s',j,k⟩=>by
  cases e<;>first|exact⟨s',j,k⟩|skip
  simp only[Mu]at j;simp only[Exit.inBlock];split<;>rename_i B
  ·rw[if_pos B]at j;exact⟨s',j,k⟩
  rw[if_neg B]at j;exact⟨s',j,k⟩) (h a w F))
theorem aX.exit{id:Nat}(h:Q (.exit id) s):aX P w0 I0 n (.exit id) s Q:=λ_ _ j=>wpIn_exit ⟨s,h,j⟩
theorem aX.ret(h:Q .ret s):aX P w0 I0 n .ret s Q:=λ_ _ j=>wpIn_ret ⟨s,h,j⟩
theorem aX.skip(h:Q .normal s):aX P w0 I0 n .skip s Q:=λ_ _ j=>wpIn_skip ⟨s,h,j⟩
theorem aX.loop{X:Type}(F:X->St)(p:X->Prop)(j:X->Nat)(B:X)(h0:p B)(O:Sub s (F B))(aa:∀z,p z->aX P w0 I0 n x (F z) (qL (λs'=>∃z',p z'/\j z'<j z/\Sub s' (F z')) Q)):aX P w0 I0 n (.loop x) s Q:=λa w G=>by
 refine wpIn_loop_ghost (λk a w=>∃z,p z/\j z=k/\Rel w0 I0 n (F z) a w) (j B) ⟨B,h0,rfl,O _ _ _ _ _ G⟩ λk a w ⟨z,U,ad,G⟩=>?_;refine na (λe ab w' ⟨s',M,N⟩=>?_) (aa z U a w G);cases e<;>first|exact⟨s',M,N⟩|skip
 obtain⟨z',Y,ae,Z⟩:=M;exact⟨j z',by omega,z',Y,rfl,Z _ _ _ _ _ N⟩
def eX(V:Env)(s:St):ResultVar->T×Prop
 |.tmp t=>(get s.t t,True)
 |.cell a ty=>match fD V.E ty s.l (get s.t a)with| ⟨t,.none,ob⟩=>(t,ob)|_=>(.undef,False)
def CH(V:Env)(s:St)(j:List ResultVar)(r:D):Prop:=
 nS (j.map λv=>(eX V s v).2)/\match fw s.l (j.map λv=>(eX V s v).1)with
  |some ([d],_)=>d=r
  |some (ds,_)=>D.aL ds=r
  |none=>False
def yj(j:Array Value):ResultVar->Sem Value
 |.tmp t=>pure (j.getD t undef)
 |.cell b t=>do loadVar t (<-asAddr (j.getD b undef))
def CG(fn:Func)(j:Array Value):results fn j=(do
  let vs <-fn.results.mapM (yj j)
  pure (if h:vs.size=1 then vs[0]else .tuple vs)):=by
 unfold results;congr 1
theorem yl(Y:ct P V.E){I:aD}{m:Nat->Value}{w:World}{a:Act}(aa:aJ w0 I0 w I m s.l)(ht:∀k,az I m s.l (a.tmps.getD k undef) (get s.t k)):∀(B:List ResultVar),nS (B.map λv=>(eX V s v).2) ->
  ∃vs:List Value,(B.mapM (yj a.tmps)).run P w=.ok vs w/\vs.length=B.length/\∀(i:Nat) v t,vs[i]?=some v->(B.map λv=>(eX V s v).1)[i]?=some t->az I m s.l v t
 | [],_=>⟨[],by simp,rfl,by simp⟩
 |q::B,h=>by
  obtain⟨j,ab⟩:=h;obtain⟨vs,ae,af,ag⟩:=yl Y aa ht B ab;have ad:∃v,(yj a.tmps q).run P w=.ok v w/\az I m s.l v (eX V s q).1:=by
   cases q with
   |tmp t=>exact⟨_,by simp[yj],ht t⟩
   |cell b ty=>
    simp only[eX]at j⊢;have N:=ht b;split at j
    ·rename_i t ob hl;obtain⟨_,u,F,O⟩:=MY Y aa (eQ.refl _) (ty:=ty) N (by rw[hl];exact j);rw[hl]at O;refine⟨u,?_,by simpa [hl]using O⟩;have:∃U,a.tmps.getD b undef=.pointer (some U):=by
      generalize a.tmps.getD b undef=v at N;generalize get s.t b=ah at N hl;cases N<;>first|exact⟨_,rfl⟩| (simp only[fD,R.bad,R.mk.injEq]at hl;rw[<-hl.2.2]at j;exact j.elim)
     obtain⟨U,Z⟩:=this;rw[Z]at F;simp only[Instr.loadAt,Instr.sureAddr,e8,Sem.run_pure,Result.andThen_ok]at F;simp only[yj,Z,asAddr,e8,Sem.run_pure,Result.andThen_ok];exact F
    exact j.elim
  obtain⟨v,F,O⟩:=ad;refine⟨v::vs,?_,by simp[af],λi u t M G=>?_⟩
  ·rw[l2];simp only[e8,F,Result.andThen_ok,ae,Sem.run_pure]
  rcases i with _|i
  ·simp at M G;subst M;subst G;exact O
  simp at M G;exact ag i u t M (by simpa using G)
def kq:Nat->List D->Tm
 |_,[]=>[]
 |k,d::ds=>(k,.d d)::kq (k+1) ds
def H8:∀(ds:List D)(k j:Nat),get (kq k ds) j=if k<=j then(match ds[j-k]? with|some d=>.d d|none=>.undef)else .undef
 | [],k,j=>by simp[kq,get]
 |d::ds,k,j=>by
  simp only[kq,get];by_cases h:k=j
  ·subst h;simp
  rw[if_neg h,H8 ds (k+1) j];by_cases B:k<=j
  ·rw[if_pos (by omega),if_pos B,show j-k=(j-(k+1))+1 by omega];simp
  rw[if_neg (by omega),if_neg B]
def jP:Nat->List T->Tm
 |_,[]=>[]
 |k,t::ts=>(k,t)::jP (k+1) ts
def H6:∀(ts:List T)(k j:Nat),get (jP k ts) j=if k<=j then(ts[j-k]?).getD .undef else .undef
 | [],k,j=>by simp[jP,get]
 |d::ds,k,j=>by
  simp only[jP,get];by_cases h:k=j
  ·subst h;simp
  rw[if_neg h,H6 ds (k+1) j];by_cases B:k<=j
  ·rw[if_pos (by omega),if_pos B,show j-k=(j-(k+1))+1 by omega];simp
  rw[if_neg (by omega),if_neg B]
def CY:List T->T
 | [t]=>t
 |ts=>.aL ts
def sX(V:Env)(s2:St)(k:List ResultVar)(base:Nat)(vals:Nat->Value)(ft:Tm)(K:T->List AO->Prop):Prop:=
 ∃j,Sub s2 j/\nS (k.map λv=>(eX V j v).2)/\j.l[base]?=some (.frame base vals ft)/\K (CY (k.map λv=>(eX V j v).1)) j.l
theorem jV.of{f:FuncId}{fn:Func}{c:Code}{ts:List T}{l:List AO}{K:T->List AO->Prop}(ar:c6 P V)(aA:Enters P f)(aC:P.funcs[f]?=some fn)(aw:fn.body=some c)(a7:ts.length<=fn.ntmps)(h:∀(R:bS),R.r=none->∀w0 I0 vals ft(Q:Exit->St->Prop),(∀e s2,(e=.ret\/e=.normal)->sX V s2 fn.results.toList l.length vals ft K->Q e s2)->aX P w0 I0 fn.ntmps c ⟨jP 0 ts,l++[.frame l.length vals ft]⟩ Q):jV P f ts l K:=by
 refine⟨aA,λw0 I0 w I m N vals ft Z aO av aF=>?_⟩;let R:bS:=⟨none,I.df⟩;refine zl (R:=λe w'=>∃v,e=.returned v/\∃t l' J m',K t l'/\aJ w0 I0 w' J m' l'/\az J m' l' v t/\(∀b,I.df b->J.df b)/\∀k,az J m' l' (vals k) (get ft k)) rfl aC aw ?_;have al:aJ w0 I0 w I (aQ m l.length (.bool false)) (l++[.frame l.length vals ft])/\Le I m l I (aQ m l.length (.bool false)) (l++[.frame l.length vals ft]):=by
  have Y:∀k,k<l.length->(l++[AO.frame l.length vals ft])[k]?=l[k]?:=λk O=>e1 O;have aN:(l++[AO.frame l.length vals ft])[l.length]?=some (.frame l.length vals ft):=by simp
  have ag:Le I m l I (aQ m l.length (.bool false)) (l++[.frame l.length vals ft]):=by
   refine⟨.refl I,by simp,λid M hv=>⟨?_,bU m _ (by omega)⟩,λid M U=>⟨?_,bU m _ (by omega)⟩,λid aq s' els' M af=>⟨els',?_⟩⟩
   ·unfold isVar at hv⊢;rw[Y id M];exact hv
   ·unfold isRow at U⊢;rw[Y id M]at U;exact U
   rw[Y id M]at af;exact af
  have ao:∀k,k≠l.length->alive (l++[AO.frame l.length vals ft]) k=true->alive l k=true:=by
   intro k O au;obtain⟨o,F,G⟩:=bN.1 au;have aK:k<l.length:=by have:=(db.1 F).1;simp at this;omega
   rw[Y k aK]at F;exact bN.2 ⟨o,F,G⟩
  refine⟨⟨Z.below,Z.sat,Z.ext,λid o F=>?_,λi j b aG hi aH ad ae=>?_⟩,ag⟩
  ·by_cases M:id<l.length
   ·rw[Y id M]at F;rw[bU m _ (by omega)];by_cases G:o=.dead
    ·subst G;trivial
    exact(Z.obj id o F).cF ag (λ_ _=>rfl) (λ_ _=>⟨rfl,rfl⟩) (.push (λ_ _ _=>rfl) rfl)
   have:id=l.length:=by
    have:=(db.1 F).1;simp at this;omega
   subst this;rw[aN]at F;injection F with F;subst F;rw[dH];refine⟨rfl,by simp,λk=>?_⟩;have e:(l++[AO.frame l.length vals ft]).take l.length=l:=by simp
   rw[e];refine(aF k).mono ⟨.refl I,ec _,λid M hv=>⟨hv,bU m _ (by omega)⟩,λid M U=>⟨U,bU m _ (by omega)⟩,λid aq s' els' M af=>⟨els',af⟩⟩
  by_cases ai:i=l.length
  ·subst ai;rw[dH]at ad;cases ad
  by_cases aj:j=l.length
  ·subst aj;rw[dH]at ae;cases ae
  rw[bU m _ ai]at ad;rw[bU m _ aj]at ae;exact Z.sep i j b aG (ao i ai hi) (ao j aj aH) ad ae
 obtain⟨al,ag⟩:=al;have aS:Rel w0 I0 fn.ntmps ⟨jP 0 ts,l++[.frame l.length vals ft]⟩ {tmps:=N++Array.replicate (fn.ntmps-N.size) undef,defers:=[]} w:=by
  refine⟨by simp;omega,I,_,al,eJ.nil λ_ h=>h,λk=>?_⟩;rw[H6];simp only[j3,hK,Nat.sub_zero];cases G:ts[k]? with
  |none=>exact .undef _
  |some d=>
   have O:k<N.size:=by rw[aO];exact(db.1 G).1
   have hv:N[k]?=some N[k]:=e5 O;have:(N++Array.replicate (fn.ntmps-N.size) undef).getD k undef=N[k]:=by
    rw[hz,j1 O,hv];rfl
   rw[this];exact(av k _ d hv G).mono ag
 refine na (λe a ba ⟨s2,⟨ak,ab,aT,aP,aE,O⟩,U⟩=>?_) (h R rfl w0 I0 vals ft (λe s2=>(e=.ret\/e=.normal)/\sX V s2 fn.results.toList l.length vals ft K) (λe s2 ak aW=>⟨ak,aW⟩) _ _ aS);obtain⟨_,a6,m',aV,ax,aU⟩:=aT _ _ _ _ _ U;obtain⟨w',J,an,aI,ay,aB⟩:=zE (P:=P) (fn:=fn) (a:=a) ak aV ax;refine aB _ ?_;have ht:∀k,az J m' ab.l (a.tmps.getD k undef) (get ab.t k):=λk=>ay _ _ (aU k);obtain⟨aa,aY,aZ,ah⟩:=yl (P:=P) ar.E an ht fn.results.toList aP;have aR:(results fn a.tmps).run P w'=.ok (if h:aa.length=1 then aa[0]else .tuple aa.toArray) w':=by
  rw[CG];simp only[e8,sb,adZ,aY,Result.andThen_ok,Sem.run_pure];simp
 have aD:=an.obj _ _ aE;refine⟨_,aR,_,rfl,_,_,J,m',O,an,?_,aI,λk=>(aD.2.2 k).mono (Le.vC J m' ab.l l.length)⟩;have B:aa.length=(fn.results.toList.map λv=>(eX V ab v).1).length:=by simp[aZ]
 generalize (fn.results.toList.map λv=>(eX V ab v).1)=a1 at B ah
 match a1,B with
 | [t],B=>
  have aM:aa.length=1:=B;rw[adK aM];exact ah 0 _ t (c5 (by omega)) rfl
 | [],B=>
  rw[dif_neg (by simp at B;simp[B])];exact .aL _ _ (by simpa using B) (λi v d hv G=>ah i v d (by simpa using hv) G)
 |t1::t2::a8,B=>
  rw[dif_neg (by rw[B];simp)];exact .aL _ _ (by simpa using B) (λi v d hv G=>ah i v d (by simpa using hv) G)
theorem gA.of{f:FuncId}{fn:Func}{c:Code}{ds:List D}{r:D}(ab:c6 P V)(ai:P.funcs[f]?=some fn)(ad:fn.body=some c)(aE:ds.length<=fn.ntmps)(h:∀(R:bS),R.r=none->∀w0 I0,aX P w0 I0 fn.ntmps c ⟨kq 0 ds,[]⟩ λe s=>(e=.ret\/e=.normal)/\CH V s fn.results.toList r):gA P f ds r:=by
 intro w I vs au aj ao;let R:bS:=⟨none,I.df⟩;refine zl (R:=λe w'=>∃v J,e=.returned v/\dq w.heap.size w w'/\ff w.heap.size I J/\cZ w' J/\Rd J v r) rfl ai ad ?_;have aq:Rel w I fn.ntmps ⟨kq 0 ds,[]⟩ {tmps:=vs++Array.replicate (fn.ntmps-vs.size) undef,defers:=[]} w:=by
  refine⟨by simp;omega,I,λ_=>undef,⟨dq.refl _ _,au,ff.refl _ _,by simp,by simp[alive,isVar,isRow]⟩,eJ.nil λ_ h=>h,λk=>?_⟩;rw[H8];simp only[j3,hK,Nat.sub_zero];cases j:ds[k]? with
  |none=>exact .undef _
  |some d=>
   have Y:k<vs.size:=by rw[aj];exact(db.1 j).1
   have hv:vs[k]?=some vs[k]:=e5 Y;have:(vs++Array.replicate (fn.ntmps-vs.size) undef).getD k undef=vs[k]:=by
    rw[hz,j1 Y,hv];rfl
   rw[this];exact .d _ _ (ao k _ d hv j)
 refine na (λe a aF ⟨s,⟨ag,al,G⟩,an⟩=>?_) (h R rfl w I _ _ aq);obtain⟨_,aD,m,aw,ae,av⟩:=an;obtain⟨w',J,M,_,af,ah⟩:=zE (P:=P) (fn:=fn) (a:=a) ag aw ae;refine ah _ ?_;have ht:∀k,az J m s.l (a.tmps.getD k undef) (get s.t k):=λk=>af _ _ (av k);obtain⟨B,aC,Z,aa⟩:=yl (P:=P) ab.E M ht fn.results.toList al;have fin:∃v,(results fn a.tmps).run P w'=.ok v w'/\∃J',ff w.heap.size I J'/\cZ w' J'/\Rd J' v r:=by
  have ar:(results fn a.tmps).run P w'=.ok (if h:B.length=1 then B[0]else .tuple B.toArray) w':=by
   rw[CG];simp only[e8,sb,adZ,aC,Result.andThen_ok,Sem.run_pure];simp
  refine⟨_,ar,?_⟩;split at G
  ·rename_i d l' j;obtain⟨J',le,F,hl,N,_⟩:=nj _ _ _ B [d] l' M (by simp[Z]) aa j;subst G;have hl:B.length=1:=hl;refine⟨J',F.ext,F.sat,?_⟩;rw[adK hl];exact N 0 _ d (c5 (by omega)) rfl
  ·rename_i O l' ak j;obtain⟨J',le,F,hl,N,_⟩:=nj _ _ _ B O l' M (by simp[Z]) aa j;subst G;refine⟨J',F.ext,F.sat,?_⟩;by_cases U:B.length=1
   ·rw[U]at hl
    match O,hl with
    | [d],_=>exact(ak d rfl).elim
   rw[dif_neg U];exact .aL _ _ (by simp[hl]) (λi v d hv j=>N i v d (by simpa using hv) j)
  exact G.elim
 obtain⟨v,ax,J',ay,aA,aB⟩:=fin;exact⟨v,ax,v,J',rfl,M.below,ay,aA,aB⟩
end
end Go.ak
namespace Go.ak
open Go Go.RowKit
def ct.Gl{P:Program}{k:List (Nat×TI)}(h:k.all (λp=>yB P p.1 p.2)=true):ct P (λt=>(k.find? λp=>p.1 == t).map (·.2)):=by
 intro t i ht;cases j:k.find? (λp=>p.1 == t)with
 |none=>simp[j]at ht
 |some p=>
  simp[j]at ht;have B:=kA j;have F:=ek.1 h p (hf j);simp at B;subst B;subst ht;exact F
theorem Enters.of{P:Program}{f:FuncId}{fn:Func}(j:P.funcs[f]?=some fn)(h:(fn.name == "runtime.NumGoroutine")=false/\fn.body.isNone=false):Enters P f:=by
 intro k w;simp only[callFunc,e8,run_program,Result.andThen_ok,j,h.1,h.2,hR,h9,Sem.run_pure]
def wk(sh:TypeId->Option (List Lf)):List Field->Nat->Option (List Lf)
 | [],_=>some []
 |f::r,off=>if f.name = "_" \/ f.offset≠off then none else match sh f.type with
  |some ls=>(match wk sh r (off+ls.length)with|some rs=>some (ls++rs)|none=>none)
  |none=>none
def nv(P:Program):Nat->TypeId->Option (List Lf)
 |0,_=>none
 |d+1,t=>match P.info? t with
  |none=>none
  |some i=>match P.underlying t with
   |some .bool=>some [.bool]
   |some (.int k)=>some [.int k]
   |some .string=>some [.str]
   |some (.struct fs)=>if P.stoodInHeld t then none else match wk (nv P d) fs.toList 0 with
    |some ls=>if i.size=ls.length then some ls else none
    |none=>none
   |_=>none
def oU:Lf->Value->Bool
 |.bool,.bool _=>true
 |.int k,.int j _=>k == j
 |.str,.string _=>true
 |_,_=>false
def fi:List Lf->List Value->Bool
 | [],[]=>true
 |x::xs,d::ds=>oU x d&&fi xs ds
 |_,_=>false
def we:Value->Value->Bool
 |.bool a,.bool b=>a == b
 |.int _ a,.int _ b=>a == b
 |.string a,.string b=>a == b
 |_,_=>false
def gD:List Value->List Value->Bool
 | [],[]=>true
 |x::xs,y::ys=>we x y&&gD xs ys
 |_,_=>false
def FB:∀{ls:List Lf}{vs:List Value},fi ls vs=true->vs.length=ls.length
 | [],[],_=>rfl
 |_::_,_::_,h=>by simp only[fi,dk]at h;simp[FB h.2]
 | [],_::_,h=>by simp[fi]at h
 |_::_,[],h=>by simp[fi]at h
def FA:∀{a b:List Lf}{vs:List Value},fi (a++b) vs=true->fi a (vs.take a.length)=true/\fi b (vs.drop a.length)=true
 | [],b,vs,h=>by simp[fi];exact h
 |x::a,b,v::vs,h=>by
  simp only[List.cons_append,fi,dk]at h;obtain⟨j,k⟩:=FA h.2;simp[fi,h.1,j,k]
 |_::_,_,[],h=>by simp[fi]at h
theorem K4:∀{a c:List Value}{b d:List Value},a.length=c.length->gD (a++b) (c++d)=(gD a c&&gD b d)
 | [],[],b,d,_=>by simp[gD]
 |x::a,y::c,b,d,h=>by simp only[List.cons_append,gD,K4 (a:=a) (c:=c) (by simpa using h),Bool.and_assoc]
 | [],_::_,_,_,h=>by simp at h
 |_::_,[],_,_,h=>by simp at h
section
variable {P:Program}
def ll(P:Program)(t:TypeId)(vs:List Value):Value:=match P.underlying t with
 |some (.struct _)=>.agg vs.toArray
 |_=>vs.headD undef
def abF{d:Nat}{t:TypeId}{ls:List Lf}(h:nv P d t=some ls):∃i,P.info? t=some i/\((∃fs,P.underlying t=some (.struct fs))->i.size=ls.length)/\((∀fs,P.underlying t≠some (.struct fs))->ls.length=1)/\(∀n e,P.underlying t≠some (.array n e))/\P.underlying t≠none:=by
 cases d with
 |zero=>simp[nv]at h
 |succ d=>
  simp only[nv]at h;split at h
  ·cases h
  rename_i i hi;refine⟨i,hi,?_⟩;split at h
  ·rename_i j;injection h with h;subst h;simp[j]
  ·rename_i j;injection h with h;subst h;simp[j]
  ·rename_i j;injection h with h;subst h;simp[j]
  ·rename_i fs j;split at h
   ·cases h
   split at h
   ·split at h
    ·rename_i k;injection h with h;subst h;simp[j,k]
    cases h
   cases h
  cases h
def Pn{d:Nat}{t:TypeId}{ls:List Lf}(h:nv P d t=some ls)(xs:Array Value)(off:Nat)(Z:off+ls.length<=xs.size)(w:World) :
  (part t xs off).run P w=.ok (ll P t ((xs.toList.drop off).take ls.length)) w:=by
 obtain⟨i,hi,G,N,O,U⟩:=abF h;cases j:P.underlying t with
 |none=>exact absurd j U
 |some k=>
  have B:(isAgg t).run P w=.ok (match k with |.struct _ |.array _ _=>true|_=>false) w:=by
   unfold isAgg;simp only[e8,hE j,Result.andThen_ok];cases k<;>rfl
  have Y:(sizeOf t).run P w=.ok i.size w:=by simp[sizeOf,typeInfo,hi]
  cases k with
  |struct fs=>
   have:=G ⟨fs,j⟩;simp only[part,e8,B,Result.andThen_ok,hK,Y,Sem.run_pure,ll,j];congr 2;apply k3.1;rw[Array.toList_extract];simp[List.extract_eq_take_drop,this]
  |array n e=>exact absurd j (O n e)
  |_=>
   have M:=N (by simp[j]);have F:off<xs.size:=by omega
   simp only[part,e8,B,Result.andThen_ok,hR,h9,e5 F,Sem.run_pure,ll,j];congr 1;rw[M,hS (by simpa using F)];simp
def Pj:∀(d D:Nat) (t:TypeId) (ls:List Lf),nv P d t=some ls->d<=D->∀(xs ys:List Value),fi ls xs=true->fi ls ys=true->∀w,(Op.equalIn D t (ll P t xs) (ll P t ys)).run P w=.ok (gD xs ys) w:=by
 intro d;induction d with
 |zero=>intro D t ls h;simp[nv]at h
 |succ d ax=>
  intro D t ls h aB xs ys N O w;obtain⟨D,rfl⟩:∃ag,D=ag+1:=⟨D-1,by omega⟩;have aD:=h;simp only[nv]at h;split at h
  ·cases h
  rename_i i hi;have one:∀{x:Lf} {vs:List Value},fi [x] vs=true->∃v,vs=[v]/\oU x v=true:=by
   intro x vs h
   match vs,h with
   | [v],h=>simp[fi]at h;exact⟨v,rfl,h⟩
   | [],h=>simp[fi]at h
   |_::_::_,h=>simp[fi]at h
  split at h
  ·rename_i B;injection h with h;subst h;obtain⟨u,rfl,F⟩:=one N;obtain⟨v,rfl,G⟩:=one O;cases u<;>simp[oU]at F
   cases v<;>simp[oU]at G
   simp only[ll,B,List.headD,gD,we,p2];exact run_equalIn_bool w D t _ _ B
  ·rename_i k B;injection h with h;subst h;obtain⟨u,rfl,F⟩:=one N;obtain⟨v,rfl,G⟩:=one O;cases u<;>simp[oU]at F
   cases v<;>simp[oU]at G
   subst F;subst G;simp only[ll,B,List.headD,gD,we,p2];exact adU w D t _ _ _ _ B
  ·rename_i B;injection h with h;subst h;obtain⟨u,rfl,F⟩:=one N;obtain⟨v,rfl,G⟩:=one O;cases u<;>simp[oU]at F
   cases v<;>simp[oU]at G
   simp only[ll,B,List.headD,gD,we,p2];rw[run_equalIn_string w D t _ _ B,adT]
  ·rename_i fs B;split at h
   ·cases h
   rename_i aw;split at h
   ·rename_i az an;split at h
    ·injection h with h;subst h;have aq:P.underlying t=some (.struct (P.fieldsOf t)):=by simp[Program.fieldsOf,B]
     have ao:P.fieldsOf t=fs:=by simp[Program.fieldsOf,B]
     simp only[ll,B];rw[run_equalIn_struct w D t _ _ aq (by simpa using aw),ao];have key:∀(M:List Field) (off:Nat) (rs:List Lf),wk (nv P d) M off=some rs->∀(xs ys:List Value),off+rs.length=xs.length->xs.length=ys.length->fi rs (xs.drop off)=true->fi rs (ys.drop off)=true ->
       (Op.eqFields D xs.toArray ys.toArray M).run P w=.ok (gD (xs.drop off) (ys.drop off)) w:=by
      intro M;induction M with
      |nil=>
       intro off rs j xs ys U ab ad ae;simp[wk]at j;subst j;have aj:xs.drop off=[]:=mb (by simp at U;omega);have ak:ys.drop off=[]:=mb (by simp at U;omega);rw[aj,ak];simp[Op.eqFields,gD]
      |cons f M ay=>
       intro off rs j xs ys U ab ad ae;simp only[wk]at j;split at j
       ·cases j
       rename_i af;have ar:f.name ≠ "_" :=λe=>af (.inl e);have au:f.offset=off:=Decidable.not_not.1 λe=>af (.inr e);split at j
       ·rename_i ls Y;split at j
        ·rename_i aA av;injection j with j;subst j;rw[dT]at U;obtain⟨ah,Z⟩:=FA ad;obtain⟨ai,aa⟩:=FA ae;rw[ti]at Z aa;simp only[Op.eqFields,if_pos ar,e8,au];rw[Pn Y xs.toArray off (by simp;omega) w];simp only[Result.andThen_ok];rw[Pn Y ys.toArray off (by simp;omega) w];simp only[Result.andThen_ok];rw[ax D f.type ls Y (by omega) _ _ ah ai w];simp only[Result.andThen_ok,Sem.run_ite];have al:gD (xs.drop off) (ys.drop off)=(gD ((xs.drop off).take ls.length) ((ys.drop off).take ls.length)&&gD (xs.drop (off+ls.length)) (ys.drop (off+ls.length))):=by
          conv=>lhs;rw[<-mx ls.length (xs.drop off),<-mx ls.length (ys.drop off)]
          rw[K4 (by simp;omega),ti,ti]
         rw[al];cases aC:gD ((xs.drop off).take ls.length) ((ys.drop off).take ls.length)with
         |false=>simp
         |true=>
          simp only[pb,hR,h9,k4];exact ay (off+ls.length) aA av xs ys (by omega) ab Z aa
        cases j
       cases j
     have aE:=FB N;have aF:=FB O;have:=key fs.toList 0 az an xs ys (by omega) (by omega) (by simpa using N) (by simpa using O);simpa using this
    cases h
   cases h
  cases h
def Ek(P:Program)(t:TypeId)(ls:List Lf):Bool:=decide (nv P 30 t=some ls) && !P.eqGuardType P.depth t&&(match P.underlying t with|some .bool=>decide (ls=[.bool])|some (.struct _)=>decide (ls≠[.bool])|_=>false)
def FC{I:aD}:∀{ls:List Lf}{vs:List Value}{ds:List D},vs.length=ds.length->(∀(i:Nat) v d,vs[i]?=some v->ds[i]?=some d->Rd I v d)->fM ls ds=true->fi ls vs=true
 | [],[],[],_,_,_=>rfl
 |x::ls,v::vs,d::ds,hl,j,h=>by
  simp only[fM,dk]at h;simp only[fi,dk];refine⟨?_,FC (by simpa using hl) (λi u e B k=>j (i+1) u e (by simpa using B) (by simpa using k)) h.2⟩;have h0:=j 0 v d rfl rfl;cases h0<;>cases x<;>simp[ui]at h<;>simp[oU,h]
 | [],_::_,[],hl,_,_=>by simp at hl
 | [],[],_::_,hl,_,_=>by simp at hl
 | [],_::_,_::_,_,_,h=>by simp[fM]at h
 |_::_,[],_::_,hl,_,_=>by simp at hl
 |_::_,_::_,[],hl,_,_=>by simp at hl
 |_::_,[],[],_,_,h=>by simp[fM]at h
def K5{I:aD}:∀{ls:List Lf}{vs k:List Value}{ds j:List D},vs.length=ds.length->k.length=j.length->(∀(i:Nat) v d,vs[i]?=some v->ds[i]?=some d->Rd I v d)->(∀(i:Nat) v d,k[i]?=some v->j[i]?=some d->Rd I v d) ->
  fM ls ds=true->fM ls j=true->gD vs k=c9 ds j
 | [],[],[],[],[],_,_,_,_,_,_=>rfl
 |x::ls,v::vs,u::k,d::ds,e::j,h1,O,G,M,k1,k2=>by
  simp only[fM,dk]at k1 k2;simp only[gD,c9];rw[K5 (ls:=ls) (by simpa using h1) (by simpa using O) (λi a b B F=>G (i+1) a b (by simpa using B) (by simpa using F)) (λi a b B F=>M (i+1) a b (by simpa using B) (by simpa using F)) k1.2 k2.2];congr 1;have N:=G 0 v d rfl rfl;have b0:=M 0 u e rfl rfl;cases N<;>cases x<;>simp[ui]at k1<;>cases b0<;>simp[ui]at k2<;>rfl
 | [],v::vs,_,[],_,h,_,_,_,_,_=>by simp at h
 | [],[],_,d::ds,_,h,_,_,_,_,_=>by simp at h
 | [],v::vs,_,d::ds,_,_,_,_,_,h,_=>by simp[fM]at h
 | [],[],u::k,[],[],_,h,_,_,_,_=>by simp at h
 | [],[],[],[],e::j,_,h,_,_,_,_=>by simp at h
 | [],[],u::k,[],e::j,_,_,_,_,_,h=>by simp[fM]at h
 |x::ls,[],_,d::ds,_,h,_,_,_,_,_=>by simp at h
 |x::ls,v::vs,_,[],_,h,_,_,_,_,_=>by simp at h
 |x::ls,[],_,[],_,_,_,_,_,h,_=>by simp[fM]at h
 |x::ls,v::vs,[],d::ds,e::j,_,h,_,_,_,_=>by simp at h
 |x::ls,v::vs,u::k,d::ds,[],_,h,_,_,_,_=>by simp at h
 |x::ls,v::vs,[],d::ds,[],_,_,_,_,_,h=>by simp[fM]at h
def qT.Gl{ad:List (Nat×List Lf)}(h:ad.all (λp=>Ek P p.1 p.2)=true):qT P (λt=>(ad.find? λp=>p.1 == t).map (·.2)):=by
 intro t ls ht ar x y I u v a b w aa ab an ae;have af:Ek P t ls=true:=by
  cases N:ad.find? (λp=>p.1 == t)with
  |none=>simp[N]at ht
  |some p=>
   simp[N]at ht;have G:=kA N;have Z:=ek.1 h p (hf N);simp at G;subst G;subst ht;exact Z
 simp only[Ek,dk,ea,gj]at af;obtain⟨⟨G,Z⟩,k⟩:=af;rcases an with ⟨p,q,rfl,rfl,rfl⟩| ⟨xs,ys,rfl,rfl,ao,ag,ah⟩
 ·cases aa;cases ab;have M:P.underlying t=some .bool:=by
   split at k
   ·assumption
   ·simp at k
   cases k
  have B:=Pj 30 10000 t _ G (by omega) [.bool p] [.bool q] rfl rfl w;have F:∀p,ll P t [.bool p]=.bool p:=λp=>by unfold ll;rw[M];rfl
  rw[F,F]at B;simp only[e8,eqGuard_at_bool,Sem.run_pure,Result.andThen_ok];rcases ae with rfl|rfl<;>simp[binOp,Op.equal,Op.maxDepth,B,gD,we,gB]
 have aq:∃fs,P.underlying t=some (.struct fs):=by
  split at k
  ·exact absurd (fv k) ao
  ·rename_i fs M;exact⟨fs,M⟩
  cases k
 obtain⟨fs,M⟩:=aq;generalize O:D.agg xs=aw at aa;generalize U:D.agg ys=ax at ab;cases aa<;>first| (cases O;done)|skip
 rename_i cs ds ai az aj;injection O with O;subst O;cases ab<;>first| (cases U;done)|skip
 rename_i Y ay ak aA al;injection U with U;subst U;have au:fi ls cs.toList=true:=FC (by simpa using ai) (λi v d hv j=>aj i v d (by simpa using hv) j) ag;have av:fi ls Y.toList=true:=FC (by simpa using ak) (λi v d hv j=>al i v d (by simpa using hv) j) ah;have B:=Pj 30 10000 t _ G (by omega) cs.toList Y.toList au av w;have F:∀cs:Array Value,ll P t cs.toList=.agg cs:=λcs=>by unfold ll;rw[M]
 rw[F,F,K5 (by simpa using ai) (by simpa using ak) (λi v d hv j=>aj i v d (by simpa using hv) j) (λi v d hv j=>al i v d (by simpa using hv) j) ag ah]at B;simp only[e8,run_eqGuard_agg w ar t x y cs Y Z,Result.andThen_ok];rcases ae with rfl|rfl
 ·rw[run_eql_struct w];simp[B,gB]
 rw[run_neq_struct w];simp[B,gB]
end
end Go.ak
namespace Go.ak
open Go Go.RowKit
variable [bm]
theorem K7{V:Env}{ρ ρ':Operand->T}{l:List AO}{nid:Nat}{o:Oper}(h:∀x∈o.op.operands,ρ x=ρ' x):evalOp V ρ l nid o=evalOp V ρ' l nid o:=by
 obtain⟨aj,af,ty,ak,ag,g⟩:=o;cases af with
 |build t parts=>
  have:parts.toList.map (λp=>(p.1,ρ p.2))=parts.toList.map (λp=>(p.1,ρ' p.2)):=hN λp B=>by
   rw[h p.2 (by simp only[Op.operands];simp;exact⟨p.1,by simpa using B⟩)]
  simp only[evalOp,this]
 |buildSlice t len parts=>
  have:parts.toList.map (λp=>iw (ρ p.2))=parts.toList.map (λp=>iw (ρ' p.2)):=hN λp B=>by
   rw[h p.2 (by simp only[Op.operands];simp;exact⟨p.1,by simpa using B⟩)]
  have O:parts.toList.mapM (λp=>iw (ρ p.2))=parts.toList.mapM (λp=>iw (ρ' p.2)):=by
   have e:∀(f:Nat×Operand->Option D)(ps:List (Nat×Operand)),ps.mapM f=(ps.map f).mapM id:=λf ps=>by
    induction ps with
    |nil=>rfl
    |cons p ps ad=>simp only[l2,e7,ad,id]
   rw[e,e,this]
  have U:parts.toList.map (λp=>ρ p.2)=parts.toList.map (λp=>ρ' p.2):=hN λp B=>by
   rw[h p.2 (by simp only[Op.operands];simp;exact⟨p.1,by simpa using B⟩)]
  simp only[evalOp,O,U]
 |slice t x lo hi ae=>
  have j:=h x (by simp[Op.operands]);have M:lo.map ρ=lo.map ρ':=by cases lo with|none=>rfl|some a=>simp;exact h a (by simp[Op.operands])
  have G:hi.map ρ=hi.map ρ':=by cases hi with|none=>rfl|some a=>simp;exact h a (by simp[Op.operands])
  cases ae with
  |none=>simp only[evalOp,j,M,G]
  |some m=>
   have ab:=h m (by simp[Op.operands]);simp only[evalOp,j,M,G,ab]
 |call c=>
  have F:c.args.toList.map ρ=c.args.toList.map ρ':=hN λx j=>h x (by simp[Op.operands,Call.operands];right;simpa using j);have k:∀x∈c.args.toList,ρ x=ρ' x:=λx j=>h x (by simp[Op.operands,Call.operands];right;simpa using j);obtain⟨N,ai,ah⟩:=c;cases N with
  |value f=>
   have aa:=h f (by simp[Op.operands,Call.operands]);simp only[evalOp,aa,F]
  |invoke r n=>simp only[evalOp]
  |builtin b=>
   cases b<;>simp only[evalOp]<;>first|rfl| (simp only at F k;(try rw[F]);done)| (simp only at F k;split<;>first|rfl| (rename_i Y _;simp only[Y,fa,n2,s4,adM]at k;first|rw[k _ rfl]|rw[k _ (.inl rfl),k _ (.inr rfl)]))
 |makeMap t r=>cases r<;>simp only[evalOp]
 |makeFunc fn first caps=>
  have Z:caps.toList.map ρ=caps.toList.map ρ':=hN λx j=>h x (by simp[Op.operands];right;simpa using j);cases fn<;>simp only[evalOp]
  rw[Z]
 |_=>simp only[evalOp]<;>first|rfl| (simp only[Op.operands]at h;simp[h])
def Ac(o:Oper):Bool:=match o.op with
 |.move _ |.assign _ |.pick .. |.field .. |.binOp .. |.unOp .. |.extract .. |.slice .. =>true
 |_=>false
def ga(l l':List AO):Prop:=∀id,isVar l id=true->l'[id]?=l[id]?
theorem ga.refl(l:List AO):ga l l:=λ_ _=>rfl
theorem ga.trans{l l' B:List AO}(h:ga l l')(k:ga l' B):ga l B:=λid j=>(k id (by have:=h id j;unfold isVar at j⊢;rw[this];exact j)).trans (h id j)
def ga.append(l r:List AO):ga l (l++r):=λ_ j=>e1 (Ae j)
theorem ga.set{l:List AO}{id:Nat}(o:AO)(h:isVar l id=false):ga l (l.set id o):=λk j=>by
 rw[e0];by_cases e:id=k
 ·subst e;rw[h]at j;cases j
 simp[e]
def Qf{l l':List AO}{t:T}{d:D}(h:cO l t=some (d,l')):ga l l':=by
 cases t<;>simp only[cO]at h
 case d x=>simp at h;rw[<-h.2];exact .refl _
 case bq s=>simp at h;rw[<-h.2];exact .refl _
 case bI id x=>simp at h;rw[<-h.2];exact .refl _
 case row id=>
  split at h
  ·simp at h;rw[<-h.2];exact .refl _
  ·rename_i hl;simp at h;rw[<-h.2];exact .set _ (by unfold isVar;rw[hl];rfl)
  cases h
 case map id=>
  split at h
  ·simp at h;rw[<-h.2];exact .refl _
  ·rename_i hl;simp at h;rw[<-h.2];exact .set _ (by unfold isVar;rw[hl];rfl)
  cases h
 all_goals cases h
def Jg:∀(ts:List T){l l':List AO}{ds:List D},dm l ts=some (ds,l')->ga l l'
 | [],l,l',ds,h=>by simp[dm]at h;rw[<-h.2];exact .refl _
 |t::ts,l,l',ds,h=>by
  simp only[dm]at h;cases j:cO l t with
  |none=>simp[j]at h
  |some p=>
   obtain⟨x,l1⟩:=p;simp only[j]at h;cases k:dm l1 ts with
   |none=>simp[k]at h
   |some q=>
    obtain⟨xs,B⟩:=q;simp only[k,c4,et]at h;rw[<-h.2];exact(Qf j).trans (Jg ts k)
def CV{l l':List AO}{t:T}{d:D}(h:dw l t=some (d,l')):ga l l':=by
 by_cases j:∃ts,t=.agg ts
 ·obtain⟨ts,rfl⟩:=j;obtain⟨ds,rfl,k⟩:=yC h;exact Jg ts k
 rw[yD λts h=>j ⟨ts,h⟩]at h;exact Qf h
def Ji:∀(ts:List T){l l':List AO}{ds:List D},fw l ts=some (ds,l')->ga l l'
 | [],l,l',ds,h=>by simp[fw]at h;rw[<-h.2];exact .refl _
 |t::ts,l,l',ds,h=>by
  simp only[fw]at h;cases j:dw l t with
  |none=>simp[j]at h
  |some p=>
   obtain⟨x,l1⟩:=p;simp only[j]at h;cases k:fw l1 ts with
   |none=>simp[k]at h
   |some q=>
    obtain⟨xs,B⟩:=q;simp only[k,c4,et]at h;rw[<-h.2];exact(CV j).trans (Ji ts k)
def Ra{E:cn}{t:TypeId}{l:List AO}{nid:Nat}{s x:T}:(∀l',(iO E t l nid s x).bE=.aQ l'->ga l l')/\∀a,(iO E t l nid s x).bE ≠ .new a:=by
 unfold iO;split;rotate_left
 ·exact⟨by simp[R.bad],by simp[R.bad]⟩
 split;rotate_left
 ·exact⟨by simp[R.bad],by simp[R.bad]⟩
 split;rotate_left
 ·exact⟨by simp[R.bad],by simp[R.bad]⟩
 rename_i j;have hv:=CV j;split;rotate_left
 ·exact⟨by simp[R.bad],by simp[R.bad]⟩
 split
 ·refine⟨λl' h=>?_,by simp⟩;simp at h;rw[<-h];exact hv.trans (.append _ _)
 ·split;rotate_left
  ·exact⟨by simp[R.bad],by simp[R.bad]⟩
  rename_i hl;split;rotate_left
  ·exact⟨by simp[R.bad],by simp[R.bad]⟩
  refine⟨λl' h=>?_,by simp⟩;simp at h;rw[<-h];exact(hv.trans (.set _ (by unfold isVar;rw[hl];rfl))).trans (.append _ _)
 ·split;rotate_left
  ·exact⟨by simp[R.bad],by simp[R.bad]⟩
  rename_i hl;split;rotate_left
  ·exact⟨by simp[R.bad],by simp[R.bad]⟩
  refine⟨λl' h=>?_,by simp⟩;simp at h;rw[<-h];exact(hv.trans (.set _ (by unfold isVar;rw[hl];rfl))).trans (.append _ _)
 exact⟨by simp[R.bad],by simp[R.bad]⟩
def rL(o:Oper):Bool:=Ac o||match o.op with
 |.buildSlice _ n _=>n != 0
 |.call c=>(match c.callee with |.builtin .append=>true|_=>false)
 |.load .. =>true
 |_=>false
def XV{i:TI}{size:Nat}{els:List D}{k off:Nat}:(je i size els k off).bE=.none:=by
 unfold je;repeat' split
 all_goals simp[R.ok,R.bad]
def XU{E:cn}{t:TypeId}{l:List AO}{a:T}:(fD E t l a).bE=.none:=by
 unfold fD;repeat' split
 all_goals first|exact XV|simp[R.ok,R.bad]
theorem XG{V:Env}{ρ:Operand->T}{l:List AO}{nid:Nat}{o:Oper}(h:rL o=true):(∀l',(evalOp V ρ l nid o).bE=.aQ l'->ga l l')/\∀a,(evalOp V ρ l nid o).bE ≠ .new a:=by
 obtain⟨Y,M,ty,Z,N,g⟩:=o;have j:∀{r:R},r.bE=.none->(∀l',r.bE=.aQ l'->ga l l')/\∀a,r.bE ≠ .new a:=λe=>⟨by rw[e];simp,by rw[e];simp⟩;cases M<;>simp[rL,Ac]at h<;>simp only[evalOp]
 case call c=>
  obtain⟨kD,O,U⟩:=c;cases kD<;>simp at h
  rename_i b;cases b<;>simp at h
  simp only;split
  ·split
   ·exact Ra
   exact j rfl
  exact j rfl
 case slice t x lo hi G=>
  cases G with
  |some m=>exact j rfl
  |none=>
   simp only;split
   ·split
    ·refine j ?_;unfold ly;repeat' split
     all_goals simp[R.ok,R.bad]
    exact j rfl
   ·split
    ·rcases acw (E:=V.E) (l:=l) (lo:=lo.map ρ) (hi:=hi.map ρ)with h|h
     ·refine⟨λl' k=>?_,by rw[h];simp⟩;rw[h]at k;injection k with k;subst k;exact .refl _
     rw[h];exact j rfl
    split
    ·rename_i F;split
     ·refine⟨λl' h=>?_,by simp⟩;simp at h;rw[<-h];exact CV F
     exact j rfl
    exact j rfl
   exact j rfl
 case buildSlice t n parts=>
  simp only[if_neg h];split
  ·split
   ·split
    ·split<;>exact j rfl
    split
    ·rename_i B;split
     ·refine⟨λl' h=>?_,by simp⟩;simp at h;rw[<-h];exact Ji _ B
     exact j rfl
    exact j rfl
   exact j rfl
  exact j rfl
 case pick c a b=>
  refine j ?_;unfold qI;simp only
  repeat' split
  all_goals simp[R.bad]
 all_goals refine j ?_
 all_goals first
  |exact XU
  | (unfold qI;repeat' split)<;>simp[R.ok,R.bad];done
  | (unfold nU;repeat' split)<;>simp[R.ok,R.bad];done
  | (unfold oK;repeat' split)<;>simp[R.ok,R.bad];done
  | (repeat' split)<;>simp_all [R.ok,R.bad,nU];done
  |skip
end Go.ak
