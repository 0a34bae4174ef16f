import Derived.Test.YthhlipkkjippfaaGreatDoorX8
import Derived.Shelf.SlGeneric
import Derived.Shelf.SlIterI.Nil
import Derived.Shelf.SortM.Plain
import Derived.Shelf.SortM.SortNone
import Derived.Ground.SlsfProg
import Derived.Ground.GgzProg
import Derived.Ground.SlgmProg
import Derived.Shelf.SlSortCmp.WholeK
import Derived.Shelf.SlSortCmp.NoneTotal
set_option linter.all false
namespace Go.Proofs.YthhlipkkjippfaaGreatDoor
open Go Go.ak Go.Sy
attribute [local instance] bP bX
def aaq{p:Part}(h:dG p){key:Int}(k:cW key)(x:aV):Bz (p,key,x)=some (dO x (gk p key)):=by
 unfold Bz;dsimp only;rw[Hr h,af,oc,af,ag (c:= !true) rfl,Cv,af,ag (by simp[k]),af];by_cases j:bO x
 ·rw[ag (by simp[j])];unfold xB;dsimp only;rw[Hs h k,af,af,Ox,af]
 rw[ah (by simp[j])];unfold dO;rw[if_neg (λh=>j h.1)]
def Z8{s:Score}(F:cI s){p:Part}(N:p∈s.parts):Bm (s,p)=some (fm s p):=by
 have ad:=F.2.2.2.1.2.1;have U:partOf s p.id=some p:=qe F.2.2.1.2.2.1 N;obtain⟨O,_,_⟩:=pt F U;have ai:=O.2.2.2.1;have Y:Bo p=some (eO p):=by
  unfold Bo eO;by_cases h0:p.of=0
  ·rw[ah (by simp[h0]),if_pos h0]
  rw[ag (by simp[h0]),if_neg h0]
 unfold Bm;dsimp only;rw[cu (σ:=List aq) (st:=λz k=>(k,z)) (l:=s.notes) (λz n=>.inl (if decide (n.part=eO p)=true then z++[ki p n]else z)) (λz=>z) (λk z=>z.length<=k) (λj n z G Z=>by
  have ab:=aZ G;have M:=F.2.2.2.1.2.2.1 n (dd G);obtain⟨_,_,_,_,B,_⟩:=pe M;have ae:=B.2.2.2.2.2.2.2.2.2.2;dsimp only;rw[ah (c3 (by omega)),aY (aF G),Y,af];by_cases h:n.part=eO p
  ·rw[ag (by simp[h]),av (by omega),bG (c3 (by rw[te];omega)),af,av (by omega),if_pos (c3 h)];rfl
  ·rw[ah (by simp[h]),af,av (by omega),if_neg (by simpa using h)];rfl) (λj n z z' G Z B=>by
  injection B with B;subst B;split
  ·rw[dT];simp only[List.length_cons,List.length_nil];omega
  omega) (λz _=>by dsimp only;rw[ag (by simp)]) [] (by simp),eh (λ(z:List aq)(n:aq)=>if decide (n.part=eO p)=true then z++[ki p n]else z) _ _ (λ_ _ _=>rfl),af]
 have key:∀(l:List aq)(z:List aq),l.foldl (λz n=>if decide (n.part=eO p)=true then z++[ki p n]else z) z=z++(l.filter λn=>decide (n.part=eO p)).map (ki p):=by
  intro l;induction l with
  |nil=>intro z;simp
  |cons n l aa=>
   intro z;rw[List.foldl_cons,aa,ik];by_cases h:decide (n.part=eO p)=true
   ·rw[if_pos h,if_pos h];simp
   rw[if_neg h,if_neg h]
 rw[key];rfl
def Hw{s:Score}(F:cI s){p:Part}(aa:p∈s.parts):xG (s,p)=some (dB s p):=by
 have ak:=F.2.1.1.2;have ae:=F.2.2.2.1.2.1;have ai:partOf s p.id=some p:=qe F.2.2.1.2.2.1 aa;obtain⟨ab,_,_⟩:=pt F ai;have ao:(fm s p).length<=20000:=by
  unfold fm;rw[hP];exact hB (hW _ _) ae
 unfold xG;dsimp only;refine(au (Z8 F aa)).trans ?_;refine(au (x:=s.bars.map (kZ p (fm s p))) ?_).trans (by rw[rD F]);refine(cu (st:=λ(z:List aB) k=>(k,z)) (l:=s.bars) (λz b=>(Sum.inl (z++[kZ p (fm s p) b]):List aB⊕List aB)) (λz=>z) (λk z=>z.length=k) (λk b z G Y=>?_) (λk b z z' G Y O=>by cases O;simp[Y]) (λz _=>by dsimp only;rw[ag (by simp)]) [] rfl).trans (dn some ((eh (λz b=>z++[kZ p (fm s p) b]) s.bars [] (λ_ _ _=>rfl)).trans ?_))
 ·have an:=aZ G;have Z:=iR F (dd G);have ad:BC (p,b)=some (b.id,(kT p b.key,(b.length.n,b.length.d))):=by
   unfold BC;dsimp only;rw[OJ ab Z.2.2.2,af]
  dsimp only;refine(ah (c3 (by omega))).trans ((au (aF G)).trans ((au ad).trans ?_));refine(au (x:=((fm s p).filter λn=>decide (n.aw=b.id)).map (jS p b)) ?_).trans ((Dt _ (by omega)).trans (av (by omega)));refine(cu (st:=λ(z:List Written) k=>(k,z)) (l:=fm s p) (λz n=>(Sum.inl (if decide (n.aw=b.id)=true then z++[jS p b n]else z):List Written⊕List Written)) (λz=>z) (λk z=>z.length<=k) (λj n U B N=>?_) (λj n U ar B N O=>?_) (λz _=>by dsimp only;rw[ag (by simp)]) [] (ec _)).trans (dn some ((eh (λz n=>if decide (n.aw=b.id)=true then z++[jS p b n]else z) (fm s p) [] (λ_ _ _=>rfl)).trans ?_))
  ·have al:=aZ B;dsimp only;refine(ah (c3 (by omega))).trans ?_;refine(au (x:=if decide (n.aw=b.id)=true then U++[jS p b n]else U) ?_).trans (av (by omega));refine(au (aF B)).trans ((au (aF G)).trans ?_);by_cases M:n.aw=b.id
   ·rw[if_pos (c3 M)];refine(ag (by simp[M])).trans ((au (aF G)).trans ((au (aF B)).trans ((au (aaq ab Z.2.2.2 n.aN)).trans ?_)));refine(au (aF B)).trans ((au (aF B)).trans ((au (aF B)).trans ((au (aF B)).trans ((au (aF B)).trans (Du (jS p b n) (by omega))))))
   rw[if_neg (by simp[M])];exact ah (by simp[M])
  ·cases O;split
   ·rw[dT];exact adR N
   exact adJ N
  have key:∀(l:List aq)(z:List Written),l.foldl (λz n=>if decide (n.aw=b.id)=true then z++[jS p b n]else z) z=z++(l.filter λn=>decide (n.aw=b.id)).map (jS p b):=by
   intro l;induction l with
   |nil=>intro z;simp
   |cons n l aj=>
    intro z;rw[List.foldl_cons,aj,ik];by_cases h:decide (n.aw=b.id)=true
    ·rw[if_pos h,if_pos h];simp
    rw[if_neg h,if_neg h]
  exact(key _ _).trans (List.nil_append _)
 exact(foldl_map' (kZ p (fm s p)) s.bars []).trans (List.nil_append _)
theorem aav{s:Score}{v:View}(hv:(bD v).length<=1000000):BF (s,v)=some (fe s v):=by
 unfold BF fe;dsimp only;rw[OK hv,af];by_cases G:dj s v
 ·obtain⟨N,ay,⟨p,Y,ak⟩,al,an⟩:=G;have G:dj s v:=⟨N,ay,⟨p,Y,ak⟩,al,an⟩;obtain⟨aB,aM,aI⟩:=pt N Y;have aO:=N.2.2.1.1.2;have ao:∃k:Nat,(ix s.parts λq=>decide (q.id=v.part))=(k:Int)/\s.parts[k]?=some p:=by
   have F:=Y;unfold partOf at F;rcases oP s.parts λq=>decide (q.id=v.part)with ⟨M,aj⟩| ⟨k,q,M,aj,ab,aG⟩
   ·rw[M]at F;cases F
   rw[aj]at F;injection F with F;subst F;exact⟨k,ab,M⟩
  obtain⟨aP,ab,M⟩:=ao;rw[ag (by simp[G]),Cw (by omega),af,ab,aY (aF M),if_pos G,Y];dsimp only;rw[cu (σ:=List aq) (st:=λz k=>(k,z)) (l:=v.aK.zip s.bars) (λz x=>dP (ρ:=(List aq)⊕((List aq)⊕(List aq×Int))) (λw=>sE p (x.2,w)) (λw=>sN p (x.2,w)) (λw=>.inr (.inr ([],3))) (λz=>.inl z) x.1.notes z) (λz=>.inl z) (λk z=>z.length<=20000+1000000*k) (λk x z Z aD=>by
   obtain⟨O,ai⟩:=rE Z;have aL:=aZ O;have az:=dd O;have au:=iR N (dd ai);have aA:=gG az;have aH:=N.2.1.1.2;have ad:=ek.1 ak x (dd Z);unfold fN at ad;simp only[dk,ea,ek]at ad;have ar:x.1.aw=x.2.id:=ad.1.1.1;dsimp only;rw[ah (c3 (by omega)),aY (aF O)];rw[cu (σ:=List aq) (st:=λz k=>(k,z)) (l:=x.1.notes) (λz w=>if sE p (x.2,w)=0 then .inl (z++[sN p (x.2,w)])else .inr (.inr (.inr (.inr ([],3))))) (λz=>.inl z) (λj aa=>aa.length<=z.length+j) (λj w aa ae aE=>by
    have aJ:=aZ ae;dsimp only;rw[ah (c3 (by omega)),aY (aF ae),aY (aF ai),aap aB au.2.2.2,af];have ax:dO w.aN (cE (gk p x.2.key))=iD p x.2 w:=rfl;have aC:sE p (x.2,w)=(iD p x.2 w).2:=rfl;rw[ax,aC];by_cases U:(iD p x.2 w).2=0
    ·rw[ag (by simp[U]),bG (c3 (by rw[te];omega)),av (by omega),if_pos U,ar];rfl
    ·rw[ah (by simp[U]),if_neg U]) (λj w aa aQ ae aE B=>by
    split at B
    ·injection B with B;subst B;rw[dT];simp only[List.length_cons,List.length_nil];omega
    cases B) (λaa _=>by dsimp only;rw[ag (by simp)]) z (by omega)]
   rw[EL (λw=>sE p (x.2,w)) (λw=>sN p (x.2,w))];unfold dP;cases (x.1.notes.find? λw=>decide (sE p (x.2,w)≠0))with
   |some w=>rfl
   |none=>dsimp only;rw[ew,av (by omega)];rfl) (λk x z z' Z aD B=>by
   obtain⟨O,ai⟩:=rE Z;have aA:=gG (dd O);have:=LD B;omega) (λz _=>by
   dsimp only;rw[ag (da (by rw[I1];omega))]) [] (by simp),EM (sE p) (sN p) (λq=>Sum.inr ([],3))]
  rw[show((v.aK.zip s.bars).flatMap λx=>x.1.notes.map λw=>(x.2,w))=gK s v from rfl];unfold dP;cases (gK s v).find? λq=>decide (sE p q≠0)with
  |some q=>rfl
  |none=>rfl
 rw[ah (by simp[G]),if_neg G]
def ee{α:Type}(p:α->Bool)(l:List α):Nat:=(l.reverse.dropWhile p).length
theorem Kf{α:Type}{l:List α}(p:α->Bool){step:Int->Option (Int⊕Int)}(h:∀(k:Nat) x,l[k]?=some x->step ((k:Int)+1)=some (if p x=true then .inl (k:Int)else .inr ((k:Int)+1)))(h0:step 0=some (.inr 0)):aA step (l.length:Int)=some ((ee p l:Nat):Int):=by
 have key:∀n:Nat,n<=l.length->aA step (n:Int)=some ((ee p (l.take n):Nat):Int):=by
  intro n;induction n with
  |zero=>intro _;exact fj h0
  |succ n M=>
   intro G;have F:l[n]?=some l[n]:=c5 G;have j:=h n _ F;have e:(l.take (n+1)).reverse=l[n]::(l.take n).reverse:=by
    rw[KR,F];simp
   unfold ee;rw[e,u5];rw[show(((n+1:Nat)):Int)=(n:Int)+1 by omega];cases B:p l[n]with
   |true=>
    rw[B,if_pos rfl]at j;rw[if_pos rfl];exact(jC j).trans (M (by omega))
   |false=>
    rw[B,if_neg lA]at j;rw[if_neg lA];refine(fj j).trans (dn some ?_);simp only[List.length_cons,J5,fb];omega
 have:=key l.length (ec _);rwa [zv]at this
def oa{α:Type}(p:α->Bool)(t:α)(l:List α):List α:=l.take (ee p l)++t::l.drop (ee p l)
def Kg{α:Type}(p:α->Bool)(l:List α):ee p l<=l.length:=by
 have:=(List.dropWhile_sublist p (l:=l.reverse)).length_le;rwa [J5]at this
def vh{α:Type}(p:α->Bool)(t:α)(l:List α):(oa p t l).Perm (t::l):=by
 unfold oa;refine List.perm_middle.trans ?_;rw[mx]
def ZN{α:Type}(p:α->Bool)(l:List α):l.take (ee p l)=(l.reverse.dropWhile p).reverse/\l.drop (ee p l)=(l.reverse.takeWhile p).reverse:=by
 have e:l=(l.reverse.dropWhile p).reverse++(l.reverse.takeWhile p).reverse:=by
  rw[<-List.reverse_append,List.takeWhile_append_dropWhile,List.reverse_reverse]
 have hl:(l.reverse.dropWhile p).reverse.length=ee p l:=by rw[J5];rfl
 constructor
 ·rw[dn (List.take (ee p l)) e,<-hl,List.take_left]
 rw[dn (List.drop (ee p l)) e,<-hl,List.drop_left]
theorem Oo{α:Type}{K:α->List Int}{n:Nat}(j:∀a,(K a).length=n){t:α}{l:List α}(h:l.Pairwise λa b=>¬bf K b a<0):(oa (λy=>decide (bf K t y<0)) t l).Pairwise λa b=>¬bf K b a<0:=by
 obtain⟨G,M⟩:=ZN (λy=>decide (bf K t y<0)) l;have k:=h.sublist (List.take_sublist (ee (λy=>decide (bf K t y<0)) l) l);have O:=h.sublist (List.drop_sublist (ee (λy=>decide (bf K t y<0)) l) l);have N:∀a∈l.take (ee (λy=>decide (bf K t y<0)) l),∀b∈l.drop (ee (λy=>decide (bf K t y<0)) l),¬bf K b a<0:=by
  have:=h;rw[<-mx (ee (λy=>decide (bf K t y<0)) l) l,J0]at this;exact this.2.2
 have Z:∀a b,bf K b a = - bf K a b:=λa b=>wv (K a) (K b) ((j a).trans (j b).symm);have U:∀b∈l.drop (ee (λy=>decide (bf K t y<0)) l),¬bf K b t<0:=λb hb=>by
  rw[M,List.mem_reverse]at hb;have:=fv (ek.1 List.all_takeWhile b hb);rw[Z t b];omega
 have Y:∀a∈l.take (ee (λy=>decide (bf K t y<0)) l),¬bf K t a<0:=λa ha=>by
  rw[G]at k ha;cases B:l.reverse.dropWhile λy=>decide (bf K t y<0)with
  |nil=>rw[B]at ha;simp at ha
  |cons z r=>
   have F:¬bf K t z<0:=by
    have:=List.head?_dropWhile_not (λy=>decide (bf K t y<0)) l.reverse;rw[B]at this;simpa using this
   rw[B]at ha k;rw[List.reverse_cons,J0]at k;rw[List.reverse_cons,hD]at ha;rcases ha with ha|ha
   ·have:=k.2.2 a ha z (by simp);exact zP (K t) (K z) (K a) ((j t).trans (j z).symm) ((j z).trans (j a).symm) F this
   rw[n2]at ha;rw[ha];exact F
 unfold oa;rw[J0];refine⟨k,vf.2 ⟨U,O⟩,λa ha b hb=>?_⟩;rcases fa.1 hb with rfl|hb
 ·exact Y a ha
 exact N a ha b hb
def aaI{a b:ay}(j:dY a)(k:dY b):BQ (a,b)=some (decide (bf tK a b<0)):=by
 unfold BQ;dsimp only;rw[jK,af,lr j.2.2.1,af,jK,af,jK,af,lr k.2.2.1,af,jK,af];have e:∀{x:ay},dY x->((if bF x.start then bz x.start else -1)::(x.part::(num x.aN::(x.aN.step::((if bF x.length then bz x.length else -1)::([]:List Int))))))=tK x:=by
  intro x h;unfold tK;rw[if_pos h.1,if_pos h.2.2.2]
 rw[e j,e k,DK (x:=tK a) (y:=tK b) rfl (by show 5<=1000;omega)];unfold uy bf;by_cases h:cP ((tK a).zipWith (· - ·) (tK b))=0
 ·rw[if_pos h,h];rfl
 rw[if_neg h];rfl
def fB(t:ay)(l:List ay):List ay:=oa (λy=>decide (bf tK t y<0)) t l
def aaK{l:List ay}(hl:l.length<=1000000000000)(h:∀x∈l,dY x){t:ay}(ht:dY t):xO (l,t)=some (fB t l):=by
 unfold xO;dsimp only;refine(au (Kf (l:=l) (λy=>decide (bf tK t y<0)) (λk x j=>?_) ?_)).trans ?_
 ·have Y:=aZ j;have G:an l ((k:Int)+1-1)=some x:=by rw[show(k:Int)+1-1=(k:Int) by omega];exact aF j
  refine(au (x:=decide (bf tK t x<0)) ?_).trans ?_
  ·refine(ah (c3 (by omega))).trans ((av (by omega)).trans ((au G).trans ?_));exact au (aaI ht (h x (dd j)))
  cases decide (bf tK t x<0)with
  |true=>
   refine(ah rfl).trans ((av (by omega)).trans ?_);rw[if_pos rfl,show(k:Int)+1-1=(k:Int) by omega]
  |false=>exact ag rfl
 ·exact(au (x:=false) (ag (da (by omega)))).trans (ag rfl)
 have U:=Kg (λy=>decide (bf tK t y<0)) l;have B:(leI 0 ((ee (λy=>decide (bf tK t y<0)) l:Nat):Int)&&leI ((ee (λy=>decide (bf tK t y<0)) l:Nat):Int) (l.length:Int))=true:=by
  rw[dk];exact⟨c3 (by omega),c3 (by omega)⟩
 have M:Int.toNat ((ee (λy=>decide (bf tK t y<0)) l:Nat):Int)=ee (λy=>decide (bf tK t y<0)) l:=by omega
 rw[M];have l1:(List.take (ee (λy=>decide (bf tK t y<0)) l) l).length<=l.length:=by rw[fb];omega
 have N:(List.append (List.take (ee (λy=>decide (bf tK t y<0)) l) l) (t::([]:List ay))).length=(List.take (ee (λy=>decide (bf tK t y<0)) l) l).length+1:=dT;have F:List.append (List.append (List.take (ee (λy=>decide (bf tK t y<0)) l) l) (t::([]:List ay))) (List.drop (ee (λy=>decide (bf tK t y<0)) l) l)=fB t l:=by
  unfold fB oa;show(_++[t])++_=_;rw[h7];rfl
 have O:(fB t l).length=l.length+1:=(vh _ t l).length_eq;rw[F];refine(bG B).trans ((bG (c3 (by omega))).trans ((bG (c3 (by rw[N];omega))).trans ((bG B).trans (bG (c3 (by rw[O];omega))))))
def H4{l m:List ay}(k:m.Perm l)(j:∀t∈l,dY t)(B:m.Pairwise λa b=>¬iV tS tK b a<0):ir l=m:=
 yw (oq (qK Ih) l) B ((oj _ _).trans k.symm) ((Qk j).perm (oj _ _).symm)
def Z0{t:Int}(h0:0<=t)(N:t<=1000000000):xq t=some (eN t):=by
 unfold xq eN;rw[OD,af,x9 _ _ _ (ec _) h0 (by omega)];obtain⟨n,rfl⟩:∃n:Nat,t=n:=⟨t.toNat,by omega⟩;have F:((Int.gcd (n:Int) 1680:Nat):Int)=((Nat.gcd n 1680:Nat):Int):=rfl;have O:0<Nat.gcd n 1680:=qn _ (by omega);have k:n/Nat.gcd n 1680<=n:=p1 _ _;have B:1680/Nat.gcd n 1680<=1680:=p1 _ _;have M:Int.tdiv (n:Int) ((Nat.gcd n 1680:Nat):Int)=((n/Nat.gcd n 1680:Nat):Int):=rfl;have t2:Int.tdiv 1680 ((Nat.gcd n 1680:Nat):Int)=((1680/Nat.gcd n 1680:Nat):Int):=rfl;have G:(n:Int).toNat=n:=by omega
 rw[F,M,t2,G];have j:(!aC ((Nat.gcd n 1680:Nat):Int) 0)=true:=by
  simp only[gj,aC,hA];omega
 generalize n/Nat.gcd n 1680=x at k⊢;generalize 1680/Nat.gcd n 1680=y at B⊢;refine(bG j).trans ((av (by omega)).trans ((bG j).trans (av (by omega))))
def wV(n:aq):Prop:=bF n.start/\bF n.length/\(0<=n.part/\n.part<=1000000)/\bO n.aN/\bz n.start<=100000
def CX{n:aq}(h:wV n){t:Int}(h0:0<=t)(M:t<=900000000):dY (gR t n):=by
 obtain⟨j,k,B,F,G⟩:=h;have:=mU j;exact⟨(yg (t:=t+bz n.start) (by omega) (by omega)).1,B,F,k⟩
def bHn(z:List ay)(ts:List ay):List ay:=ts.foldl (λz t=>fB t z) z
def Hj(z a b:List ay):bHn z (a++b)=bHn (bHn z a) b:=td
def Mw(t:ay)(l:List ay):(fB t l).length=l.length+1:=(vh _ t l).length_eq
def Ct:∀(ts z:List ay),(bHn z ts).length=z.length+ts.length
 | [],z=>rfl
 |t::ts,z=>by
  show(bHn (fB t z) ts).length=_;rw[Ct ts,Mw,List.length_cons];omega
def Hk:∀(ts z:List ay),(bHn z ts).Perm (z++ts)
 | [],z=>by rw[iu];exact .refl _
 |t::ts,z=>by
  refine(Hk ts (fB t z)).trans ?_;refine((vh _ t z).append_right ts).trans ?_;exact List.perm_middle.symm
def jk{ts z:List ay}(j:∀t∈z,dY t)(k:∀t∈ts,dY t):∀t∈bHn z ts,dY t:=λt ht=>by
 rcases hD.1 ((Hk ts z).subset ht)with h|h
 ·exact j t h
 exact k t h
theorem Ot:∀(ts z:List ay),(z.Pairwise λa b=>¬bf tK b a<0)->(bHn z ts).Pairwise λa b=>¬bf tK b a<0
 | [],z,h=>h
 |t::ts,z,h=>Ot ts (fB t z) (Oo (K:=tK) (n:=5) (λ_=>rfl) h)
theorem Oq{ts:List ay}(h:∀t∈ts,dY t):bHn [] ts=ir ts:=by
 refine(H4 (by have:=Hk ts [];rwa [List.nil_append]at this) h ?_).symm;refine(Ot ts [] List.Pairwise.nil).imp λ{a b} j=>?_;rwa [tq Ih]
theorem Y0{ns:List aq}(az:ns.length<=1000000){b:aT}{t:Int}(h0:0<=t)(O:t<=900000000)(U:∀n∈ns,wV n){z:List ay}(aD:z.length<=900000000000)(ad:∀x∈z,dY x) :
  aA (λj:((List ay)×Int)=>ab (aj j.2 (ns.length:Int)) (aa (aa (an ns j.2) λB=>ab (aC B.aw b.id) (aa (fR B.start) λY=>ae (ai (t+Y)) <|aa (xq (t+Y)) λal=>aa (xO (j.1,(⟨B.part,al,B.length,B.aN⟩:ay))) λao=>some ao) (some j.1)) λ(B:(List ay))=>ae (ai (j.2+1)) <|some (.inl (B,(j.2+1)))) (some (.inr j.1))) (z,0)=some (bHn z ((ns.filter λn=>decide (n.aw=b.id)).map (gR t))):=by
 refine(cu (st:=λ(z:List ay) k=>(z,k)) (l:=ns) (λz n=>(Sum.inl (if decide (n.aw=b.id)=true then fB (gR t n) z else z):List ay⊕List ay)) (λz=>z) (λk y=>y.length<=z.length+k/\∀x∈y,dY x) (λk n y G M=>?_) (λk n y aE G M Z=>?_) (λz _=>by dsimp only;rw[ag (by simp)]) z ⟨ec _,ad⟩).trans (dn some ((eh (λz n=>if decide (n.aw=b.id)=true then fB (gR t n) z else z) ns z (λ_ _ _=>rfl)).trans ?_))
 ·have ax:=aZ G;have F:=U n (dd G);have aB:=mU F.1;have ar:=F.2.2.2.2;dsimp only;refine(ah (c3 (by omega))).trans ?_;refine(au (x:=if decide (n.aw=b.id)=true then fB (gR t n) y else y) ((au (aF G)).trans ?_)).trans (av (by omega));by_cases N:n.aw=b.id
  ·rw[if_pos (c3 N)];refine(ah (c3 N)).trans ?_;rw[jK,if_pos F.1,af];refine(av (by omega)).trans ((au (Z0 (by omega) (by omega))).trans ?_);exact(au (aaK (by omega) M.2 (CX F h0 O))).trans rfl
  rw[if_neg (by simp[N])];exact ag (da N)
 ·cases Z;have F:=U n (dd G);split
  ·refine⟨by rw[Mw];omega,λx hxm=>?_⟩;rcases fa.1 ((vh _ _ _).subset hxm)with rfl|hxm
   ·exact CX F h0 O
   exact M.2 x hxm
  exact⟨by omega,M.2⟩
 have key:∀(l:List aq)(z:List ay),l.foldl (λz n=>if decide (n.aw=b.id)=true then fB (gR t n) z else z) z=bHn z ((l.filter λn=>decide (n.aw=b.id)).map (gR t)):=by
  intro l;induction l with
  |nil=>intro z;rfl
  |cons n l ak=>
   intro z;rw[List.foldl_cons,ak,ik];split
   ·rfl
   rfl
 exact key ns z
def gT(bars:List aT)(ns:List aq)(z:List ay×Int)(v:aE):List ay×Int:=match bars[v.aw.toNat]? with
 |some b=>(bHn z.1 ((ns.filter λn=>decide (n.aw=b.id)).map (gR z.2)),z.2+bz b.length)
 |none=>z
def Mc(bars:List aT)(ns:List aq):∀(vs:List aE)(z:List ay×Int),(vs.foldl (gT bars ns) z).1=bHn z.1 (eM bars (λb=>ns.filter λn=>decide (n.aw=b.id)) vs z.2)
 | [],z=>rfl
 |v::vs,z=>by
  rw[List.foldl_cons,Mc bars ns vs];have e:∀t,eM bars (λb=>ns.filter λn=>decide (n.aw=b.id)) (v::vs) t=match bars[v.aw.toNat]? with|some b=>((ns.filter λn=>decide (n.aw=b.id)).map (gR t))++eM bars (λb=>ns.filter λn=>decide (n.aw=b.id)) vs (t+bz b.length)|none=>eM bars (λb=>ns.filter λn=>decide (n.aw=b.id)) vs t:=λ_=>rfl
  rw[e];unfold gT;cases bars[v.aw.toNat]? with
  |none=>rfl
  |some b=>dsimp only;rw[Hj]
theorem OO{w:c8}{r:Room}(h:lz w r)(aq:jc w r){v:View}(aC:v.aK.length<=1000000)(aD:(bD v).length<=1000000)(hv:eA v)(aA:(bD (ey v r.bp)).length<=1000000)(N:(fe w.score (ey v r.bp)).2=0->(fe w.score (ey v r.bp)).1.length<=20000/\∀n∈(fe w.score (ey v r.bp)).1,wV n){l:List ay}(hl:l.length<=100000000000)(ax:∀x∈l,dY x) :
  uQ (l,(w,(r,v)))=some (if(fe w.score (ey v r.bp)).2=0 then(bHn l (eM w.score.bars (λb=>(fe w.score (ey v r.bp)).1.filter λn=>decide (n.aw=b.id)) (bK r.form) 0),0)else([],(fe w.score (ey v r.bp)).2)):=by
 obtain⟨aB,aJ,Y,aL,ai⟩:=id aq;obtain⟨aM,Z,aj⟩:=h;obtain⟨aN,ad⟩:=sL Z Y;have aa:∀b∈w.score.bars,fx b:=λb al=>iR aB al;unfold uQ;dsimp only;refine(au (aaB aC aD aj)).trans ?_;rw[if_pos ⟨ai,hv⟩];refine(au (aav (s:=w.score) (v:=ey v r.bp) aA)).trans ?_;generalize fe w.score (ey v r.bp)=S at N⊢;obtain⟨ns,e⟩:=S;dsimp only at N⊢;by_cases B:e=0
 ·rw[if_pos B];obtain⟨n1,ab⟩:=N B;refine(ag (by simp[B])).trans ?_;rw[aad Z,if_pos Y,af];refine(au (x:=bHn l (eM w.score.bars (λb=>ns.filter λn=>decide (n.aw=b.id)) (bK r.form) 0)) ?_).trans rfl;refine(cu (σ:=List ay×Int) (st:=λz k=>(z.1,(z.2,k))) (l:=bK r.form) (λz v=>(Sum.inl (gT w.score.bars ns z v):(List ay×Int)⊕List ay)) (λz=>z.1) (λk z=>(0<=z.2/\z.2<=40320*(k:Int))/\z.1.length<=l.length+20000*k/\∀x∈z.1,dY x) (λk v z F M=>?_) (λk v z z' F M B=>?_) (λz _=>by dsimp only;rw[ag (by simp)]) (l,0) ⟨by dsimp only;omega,by simp,ax⟩).trans (dn some ((eh (gT w.score.bars ns) (bK r.form) (l,0) (λ_ _ _=>rfl)).trans (Mc w.score.bars ns (bK r.form) (l,0))))
  ·have ar:=aZ F;obtain⟨aH,aI⟩:=ad v (dd F);obtain⟨⟨O,aE⟩,aG,U⟩:=M;have j:w.score.bars[v.aw.toNat]?=some w.score.bars[v.aw.toNat]:=c5 (by omega);unfold gT;rw[j];generalize w.score.bars[v.aw.toNat]=b at j;obtain⟨_,G,ae,_⟩:=aa b (dd j);have ak:an w.score.bars v.aw=some b:=by
    have:=aF j;rwa [show((v.aw.toNat:Nat):Int)=v.aw by omega]at this
   have ao:=mU G;dsimp only;refine(ah (c3 (by omega))).trans ((au (aF F)).trans ((au ak).trans ?_));refine(au (Y0 (ns:=ns) (b:=b) (t:=z.2) (by omega) O (by omega) ab (by omega) U)).trans ?_;rw[jK,if_pos G,af];exact(av (by omega)).trans (av (by omega))
  cases B;have ar:=aZ F;obtain⟨aH,aI⟩:=ad v (dd F);obtain⟨⟨O,aE⟩,aG,U⟩:=M;have j:w.score.bars[v.aw.toNat]?=some w.score.bars[v.aw.toNat]:=c5 (by omega);unfold gT;rw[j];obtain⟨_,G,ae,_⟩:=aa _ (dd j);have ao:=mU G;dsimp only;refine⟨by omega,?_,jk U λt ht=>?_⟩
  ·rw[Ct,hP];have:=hW (λn=>decide (n.aw=w.score.bars[v.aw.toNat].id)) ns;omega
  obtain⟨n,az,rfl⟩:=gg.1 ht;exact CX (ab n (hG.1 az).1) O (by omega)
 rw[if_neg B];exact ah (by simp[B])
theorem abZ{s:Score}(k:cI s){p:Part}(G:p∈s.parts){c:List Int}{n:aq}(j:n∈s.bars.flatMap (gx s p c)):wV n:=by
 obtain⟨b,F,j⟩:=k0.1 j;obtain⟨_,O,M,B,U,N⟩:=yv k G F j;have Y:=(iR k F).2.2.1;have:=mU B;have Z:=((jG p).1 (k.2.2.1.2.1 p G)).1.1;exact⟨M,B,by omega,N,by omega⟩
def aaJ{w:c8}{r:Room}(h:lz w r)(B:jc w r){p:Part}(k:p∈w.score.parts){l:List ay}(hl:l.length<=100000000000)(M:∀x∈l,dY x) :
  uQ (l,(w,(r,dB w.score p)))=some (bHn l (iI w.score r.bp (bK r.form) p),0):=by
 obtain⟨j,O,U,Y,Z⟩:=id B;have hv:=qf j k;have aa:=j.2.1.1.2;have F:=vG hv (λm w=>decide (w.br=jI r.bp m.notes));rw[<-AP]at F;have ae:=hv.2.1;have ad:=hv.2.2.2.1;have ab:=F.2.2.2.1;rw[OO h B (by omega) (by omega) (vF hv) (by omega) (by rw[yx j k];exact λ_=>⟨PN j k,λn N=>abZ j k N⟩) hl M,yx j k,if_pos rfl,Cm (g:=gx w.score p r.bp) (λb G=>PO j k G)];rfl
def aaG{w:c8}{r:Room}(h:lz w r):BO (w,r)=some (if jc w r then(ir (kl w.score r.bp (bK r.form)),0)else([],1)):=by
 unfold BO;dsimp only;rw[ON h,af];by_cases B:jc w r
 ·rw[if_pos B,c3 B];obtain⟨F,aa,O,ab,ad⟩:=id B;obtain⟨ae,U,ai⟩:=id h;obtain⟨N,al⟩:=sL U O;have ak:=F.2.2.1.1.2;refine(ag rfl).trans ?_;refine(di (x:=.inl (bHn [] (kl w.score r.bp (bK r.form)))) ?_).trans ?_
  ·refine(cu (st:=λ(z:List ay) k=>(z,k)) (l:=w.score.parts) (λz p=>(Sum.inl (bHn z (iI w.score r.bp (bK r.form) p)):List ay⊕(List ay⊕(List ay×Int)))) (λz=>Sum.inl z) (λk z=>z.length<=400000000*k/\∀x∈z,dY x) (λk p z j M=>?_) (λk p z z' j M Y=>?_) (λz _=>by dsimp only;rw[ag (by simp)]) [] ⟨by simp,by simp⟩).trans ?_
   ·have aj:=aZ j;have G:=dd j;dsimp only;refine(ah (c3 (by omega))).trans ((au (aF j)).trans ((au (Hw F G)).trans ?_));exact(au (aaJ h B G (by omega) M.2)).trans ((ag rfl).trans (av (by omega)))
   ·cases Y;have G:=dd j;have:=ve (bars:=w.score.bars) (snd:=gx w.score p r.bp) (m:=20000) (λb _=>H2 F b) (bK r.form) 0;have e:(iI w.score r.bp (bK r.form) p).length<=20000*(bK r.form).length:=this;exact⟨by rw[Ct];omega,jk M.2 λx j=>(Od F G N j).1⟩
   refine dn some ((eh (λz p=>bHn z (iI w.score r.bp (bK r.form) p)) w.score.parts [] (λ_ _ _=>rfl)).trans (dn Sum.inl ?_));have:∀(l:List Part)(z:List ay),l.foldl (λz p=>bHn z (iI w.score r.bp (bK r.form) p)) z=bHn z (l.flatMap (iI w.score r.bp (bK r.form))):=by
    intro l;induction l with
    |nil=>intro z;rfl
    |cons p l Z=>intro z;rw[List.foldl_cons,Z,hL,Hj]
   exact this _ _
  rw[Sum.elim_inl,Oq (yh (c:=r.bp) F N).1]
 rw[if_neg B,da B];rfl
def aaD{v:View}(G:v.aK.length<=1000000)(M:(bD v).length<=1000000)(n:Int):BJ (v,n)=some ((bD v).any λw=>decide (w.aS=n)):=by
 unfold BJ;dsimp only;refine(di (x:=if(v.aK.any λm=>m.notes.any λw=>decide (w.aS=n))=true then Sum.inr true else Sum.inl ()) ?_).trans ?_
 ·refine il (l:=v.aK) (λm=>m.notes.any λw=>decide (w.aS=n)) true (λk m B=>?_) (by rw[ag (by simp)]);have O:=aZ B;have U:=gG (dd B);refine(ah (c3 (by omega))).trans ?_;refine(di (x:=if(m.notes.any λw=>decide (w.aS=n))=true then Sum.inr (Sum.inr (Sum.inr true))else Sum.inl ()) ?_).trans ?_
  ·refine il (l:=m.notes) (λw=>decide (w.aS=n)) (Sum.inr (Sum.inr true)) (λj w F=>?_) (by rw[aY (aF B),ag (by simp)]);have N:=aZ F;refine(au (aF B)).trans ((ah (c3 (by omega))).trans ((au (aF B)).trans ((au (aF F)).trans ?_)));by_cases h:w.aS=n
   ·rw[if_pos (c3 h)];exact ah (c3 h)
   rw[if_neg (by simp[h])];exact(ag (da h)).trans (av (by omega))
  cases (m.notes.any λw=>decide (w.aS=n))with
  |true=>rfl
  |false=>rw[if_neg lA,Sum.elim_inl,if_neg lA];exact av (by omega)
 have e:((bD v).any λw=>decide (w.aS=n))=v.aK.any λm=>m.notes.any λw=>decide (w.aS=n):=by
  unfold bD;rw[List.any_flatMap]
 rw[e];cases (v.aK.any λm=>m.notes.any λw=>decide (w.aS=n))<;>rfl
def qw:List Int:=[1,2,3,4,5,6,7,8,9]
def Nh:∀(z:List (Int×Bool)),((eG z 0).map (·.1)).Sublist (z.map (·.1))
 | []=>.slnil
 |p::z=>by
  have e:eG (p::z) 0=if p.1=0 then z else p::eG z 0:=rfl
  rw[e];split
  ·exact(List.Sublist.refl _).cons _
  exact(Nh z).cons₂ _
def QJ{v:View}(hv:eA v):eP v=qw.filter λn=>(bD v).any λw=>decide (w.aS=n):=by
 have O:(qw.filter λn=>(bD v).any λw=>decide (w.aS=n)).Pairwise λa b=>decide (a<=b)=true:=List.Pairwise.sublist kB (by decide);have M:((eG (jQ v) 0).map (·.1)).Perm (qw.filter λn=>(bD v).any λw=>decide (w.aS=n)):=by
  refine(u0 ((ID v).sublist (Nh _)) (List.Nodup.sublist kB (by decide))).2 λa=>?_;have F:=Da v a;have N:a∈eP v↔a∈(eG (jQ v) 0).map (·.1):=(q2 _ _).mem_iff;rw[<-N,F,hG,hM];constructor
  ·rintro⟨h0,w,j,rfl⟩;obtain⟨m,F,U⟩:=k0.1 j;have:=(hv.2.2 m F w U).1;refine⟨?_,w,j,by simp⟩;unfold qw;simp only[fa,s4,adM];omega
  rintro⟨h0,w,j,G⟩;refine⟨λe=>?_,w,j,fv G⟩;subst e;exact absurd h0 (by decide)
 unfold eP jo;refine List.Perm.eq_of_pairwise (le:=λa b=>decide (a<=b)=true) (λa b _ _ k B=>?_) (List.pairwise_mergeSort (λa b c k B=>?_) (λa b=>?_) _) O ((q2 _ _).trans M)
 ·have:=fv k;have:=fv B;omega
 ·have:=fv k;have:=fv B;exact c3 (by omega)
 rw[iv,ea,ea];omega
def aaF{v:View}(hv:eA v):BM v=some (eP v):=by
 rw[QJ hv];unfold BM;refine(au (x:=qw.filter λn=>(bD v).any λw=>decide (w.aS=n)) ?_).trans rfl;refine(cu (st:=λ(z:List Int) k=>(k+1,z)) (l:=qw) (λz n=>(Sum.inl (if((bD v).any λw=>decide (w.aS=n))=true then z++[n]else z):List Int⊕List Int)) (λz=>z) (λk z=>z.length<=k) (λk n z F B=>?_) (λk n z z' F B M=>?_) (λz _=>rfl) [] (ec _)).trans (dn some ((eh (λz n=>if((bD v).any λw=>decide (w.aS=n))=true then z++[n]else z) qw [] (λ_ _ _=>rfl)).trans ((Lq _ _ _).trans (List.nil_append _))))
 ·have N:=aZ F;have O:k<9:=N;have G:n=(k:Int)+1:=by
   have:∀j:Nat,j<9->qw[j]?=some ((j:Int)+1):=by decide
   have:=this k O;rw[F]at this;exact nn this
  dsimp only;rw[<-G];refine(ah (c3 (by omega))).trans ?_;refine(au (x:=if((bD v).any λw=>decide (w.aS=n))=true then z++[n]else z) ((au (aaD (by have:=hv.1;omega) (by have:=hv.2.1;omega) n)).trans ?_)).trans ((av (by omega)).trans ?_)
  ·cases ((bD v).any λw=>decide (w.aS=n))with
   |true=>
    have e:(List.append z (n::([]:List Int))).length=z.length+1:=dT;exact(ah rfl).trans ((bG (c3 (by rw[e];omega))).trans rfl)
   |false=>rfl
  rw[G];rfl
 cases M;split
 ·rw[dT];exact adR B
 exact adJ B
theorem yG(w:Written):(mj w).length=qP.length:=rfl
def Db{len:Rat}{w:Written}(h:c7 len w):wK w=mj w:=by
 obtain⟨_,_,_,j,k,_⟩:=h;unfold wK mj tk ht;rw[if_pos j,if_pos k]
def adv{len:Rat}{w:Written}(h:c7 len w):mX w:=by
 obtain⟨_,j,_,k,B,_⟩:=h;exact⟨B,⟨j.1,by omega⟩,k⟩
def QO{l:List Written}(h:(l.map Written.id).Nodup):gY (iV qP mj) l:=by
 intro a B b F j k;rw[tq yG]at j k;have:=zr (K:=mj) (n:=4) (λ_=>rfl) j k;unfold mj at this;simp only[o1]at this;exact rF (f:=Written.id) h B F this.2.2.2.1
def Yt(m:aB):Prop:=(∀w∈m.notes,c7 m.length w)/\(m.notes.Pairwise λa b=>¬bf wK b a<0)/\(m.notes.map Written.id).Nodup/\m.notes.length<=20000
def NH{m:aB}:∀{l:List aB},m∈l->m.notes.Sublist (l.flatMap aB.notes)
 |x::l,h=>by
  rw[hL];rcases fa.1 h with rfl|h
  ·exact List.sublist_append_left _ _
  exact(NH h).trans (List.sublist_append_right _ _)
def Yv{s:Score}{v:View}(hv:dj s v){m:aB}(j:m∈v.aK):Yt m:=by
 obtain⟨Y,hl,⟨p,U,M⟩,F,G⟩:=hv;obtain⟨k,B⟩:=uu j;have O:=aZ B;have N:(v.aK.zip s.bars)[k]?=some (m,s.bars[k]'(by omega)):=by
  rw[sx];exact⟨B,c5 (by omega)⟩
 have h:=ek.1 M _ (dd N);unfold fN at h;simp only[dk,ea,ek]at h;refine⟨h.2,KD h.1.2,?_,hB (gG j) F⟩;exact G.sublist (List.Sublist.map _ (NH j))
def vN(i:Nat)(v:View):List Written:=((v.aK[i]?).map aB.notes).getD []
def Vq{l:List View}(hl:l.length<=1000000)(F:∀v∈l,v.aK.length<=1000000/\(bD v).length<=1000000):Cc (l,())=some (l.any λv=>!decide (eA v)):=by
 unfold Cc G8;dsimp only;rw[mq (l:=l) (λv=>!decide (eA v)) (λk x j=>by
  have B:=aZ j;obtain⟨s1,s2⟩:=F x (dd j);unfold Gt;rw[ah (by simpa using B),aY (aF j),zu s1 s2,af,af];cases decide (eA x)
  ·rfl
  show ab false _ _=_;rw[gE,av (by omega)];rfl) (by rw[ag (by simp)])]
def Zs{l:List View}(hl:l.length<=1000000):aA (λB:(Int×(List (Int×(List View))))=>ab (aj B.1 (l.length:Int)) (aa (an l B.1) λF=>ae (WP 32 (List.append (ar B.2 F.part ([]:List View)) (F::([]:List View)))) <|ae (ai (B.1+1)) <|some (.inl ((B.1+1),(aM B.2 F.part (List.append (ar B.2 F.part ([]:List View)) (F::([]:List View))))))) (some (.inr B.2))) (0,([]:List (Int×(List View))))=some (l.foldl (kc View.part) []):=by
 refine(cu (st:=λ(z:List (Int×List View)) k=>(k,z)) (l:=l) (λz x=>.inl (kc View.part z x)) (λz=>z) (λk z=>∀j,(ar z j []).length<=k) (λk x z M G=>?_) (λk x z z' _ G N=>by
  cases N;intro j;have:=E4 View.part [x] z k G j;simpa using this) (λz _=>by dsimp only;rw[ag (by simp)]) [] (λj=>by rw[oX];simp)).trans (dn some (eh (kc View.part) l [] (λ_ _ _=>rfl)))
 have U:=aZ M;have O:=G x.part;dsimp only;have e:(List.append (ar z x.part ([]:List View)) (x::([]:List View))).length=(ar z x.part ([]:List View)).length+1:=dT;rw[ah (c3 (by omega)),aY (aF M),bG (c3 (by rw[e];omega)),av (by omega)];rfl
def aac(f:Form):∃b,Bp f=some b:=by
 unfold Bp;have e:∀a b c d:Bool,(aa (ab a (ab b (ab c (some d) (some false)) (some false)) (some false)) λ(j:Bool)=>some j)=some (a&&(b&&(c&&d))):=λa b c d=>by cases a<;>cases b<;>cases c<;>rfl
 exact⟨_,e _ _ _ _⟩
def WA(w:c8)(r:Room):∃b,BN (w,r)=some b/\(b=true->w.score.bars.length<=12):=by
 obtain⟨q,M⟩:=aac r.form;unfold BN;dsimp only;rw[M];have e:∀(a b c d f:Bool),ab a (some true) (ab b (some true) (ab c (some true) (aa (some d) λO=>ab (!O) (some true) (some f))))=some (a||(b||(c||(!d||f)))):=λa b c d f=>by cases a<;>cases b<;>cases c<;>cases d<;>rfl
 rw[e,af];by_cases N:w.score.parts.length<=8
 ·rw[il (l:=w.score.parts) (λp=>decide (6<p.dC)) false (λk x j=>by
   have G:=aZ j;rw[ah (by simpa using G),aY (aF j)];show ab (decide (6<x.dC)) _ _=_;cases decide (6<x.dC)
   ·rw[gE,av (by omega)];rfl
   rfl) (by rw[ag (by simp)])]
  cases F:(aj 12 (w.score.bars.length:Int)||(aj 8 (w.score.parts.length:Int)||(aj 30 (w.score.notes.length:Int)||(!q||aj 40 (r.bp.length:Int)))))
  ·have B:w.score.bars.length<=12:=by
    have:=vc (kb.1 F).1;omega
   cases (w.score.parts.any λp=>decide (6<p.dC))
   ·exact⟨true,rfl,λ_=>B⟩
   exact⟨false,rfl,λh=>by cases h⟩
  exact⟨false,rfl,λh=>by cases h⟩
 have:aj 8 (w.score.parts.length:Int)=true:=c3 (by omega);rw[this];refine⟨false,?_,λh=>by cases h⟩;exact ah (by simp)
theorem VS{ω:Type}{v:View}(N:v.aK.length<=1000000)(O:(bD v).length<=1000000)(hv:eA v){l:List Int}(hl:l.length<=1000)(Z:∀n∈l,0<=n/\n<=9){B:List View}(ao:B.length<=1000000)(M:(List View×Int)->ω) :
  (aA (λj:(Int×(List View))=>ab (aj j.1 (l.length:Int)) (aa (an l j.1) λak=>aa (w8 (v,ak)) λF=>ab (!(aC F.2 0)) (some (.inr (.inr (M (([]:List View),F.2))))) (ae (WP 32 (List.append j.2 (F.1::([]:List View)))) <|ae (ai (j.1+1)) <|some (.inl ((j.1+1),(List.append j.2 (F.1::([]:List View))))))) (some (.inr (.inl j.2)))) (0,B):Option (List View⊕ω))=some (.inl (B++l.map (iZ v))):=by
 refine(cu (st:=λ(z:List View) k=>(k,z)) (l:=l) (λz n=>.inl (z++[iZ v n])) (λz=>.inl z) (λk z=>z.length<=B.length+k) (λk n z G U=>?_) (λk x z z' _ U Y=>by cases Y;simp;omega) (λz _=>by dsimp only;rw[ag (by simp)]) B (by simp)).trans (dn some ((eh (λz n=>z++[iZ v n]) l B (λ_ _ _=>rfl)).trans (dn Sum.inl (foldl_map' (iZ v) l B))));have al:=aZ G;have ad:=Z n (dd G);dsimp only;have e:(List.append z (iZ v n::([]:List View))).length=z.length+1:=dT;rw[ah (c3 (by omega)),aY (aF G),VW N O n,if_pos ⟨hv,ad⟩,af];refine(ag rfl).trans ?_;rw[bG (c3 (by rw[show(List.append z ((iZ v n,(0:Int)).1::([]:List View))).length=z.length+1 from e];omega)),av (by omega)];rfl
noncomputable def ef(s:Score)(p:Part):List View:=(jZ (eP (dB s p)) p.dC.toNat).map (iZ (dB s p))
noncomputable def gu(s:Score)(p:Part):Bool:=decide (p.dC.toNat<(eP (dB s p)).length)
def adj(v:View):(eP v).length<=(bD v).length:=by
 have k:=FZ (jQ v);have j:=Hm (bD v) [];unfold eP jo;rw[(q2 _ _).length_eq,hP];unfold jQ at *;simp at j;omega
def x6{s:Score}(k:cI s){p:Part}(j:p∈s.parts):1<=p.dC/\p.dC<=40:=((jG p).1 (k.2.2.1.2.1 p j)).1.2.2.2.2
theorem KX{w:c8}(h:w.score.bars.length<=1048576)(j:cI w.score):pr w=some (if(w.score.parts.all λp=>!gu w.score p)=true then(w.score.parts.flatMap (ef w.score),0)else([],6)):=by
 have an:=j.2.2.1.1.2;have ak:=j.2.1.1.2;unfold pr;rw[yq h];refine(au (x:=true) (dn some (by simp[j]))).trans ((ag rfl).trans ?_);refine(di (x:=if(w.score.parts.all λp=>!gu w.score p)=true then .inl (w.score.parts.flatMap (ef w.score))else .inr ([],6)) ?_).trans ?_
 ·refine(cu (st:=λ(z:List View) k=>(k,z)) (l:=w.score.parts) (λz p=>if(!gu w.score p)=true then .inl (z++ef w.score p)else(.inr (.inr (([]:List View),(6:Int))):List View⊕(List View⊕(List View×Int)))) (λz=>Sum.inl z) (λk z=>z.length<=40*k) (λk p z F aa=>?_) (λk p z z' F aa G=>?_) (λz _=>by dsimp only;rw[ag (by simp)]) [] (by simp)).trans ?_
  ·have al:=aZ F;have M:=dd F;have ad:partOf w.score p.id=some p:=qe j.2.2.1.2.2.1 M;have hv:=qf j M;have aq:=hv.2.1;have ao:=hv.2.2.2.1;have N:=vF hv;obtain⟨U,Y⟩:=x6 j M;have ar:=adj (dB w.score p);have Z:((p.dC.toNat:Nat):Int)=p.dC:=by omega
   have O:=Rh (v:=dB w.score p) (by omega) (by omega) N (D:=p.dC.toNat) ⟨by omega,by omega⟩ (by omega);rw[Z]at O;dsimp only;rw[ah (c3 (by omega)),aY (aF F),get_eq j ad,af,O,af];unfold gu;by_cases B:p.dC.toNat<(eP (dB w.score p)).length
   ·rw[if_pos B,if_neg (by simp[B])];exact dn (λq=>aR q _) (ah rfl)
   rw[if_neg B,if_pos (by simp[B])];refine(di (x:=.inl (z++ef w.score p)) ?_).trans (by rw[Sum.elim_inl,av (by omega)];rfl);refine(ag rfl).trans ?_;refine VS (v:=dB w.score p) (by omega) (by omega) N (l:=jZ (eP (dB w.score p)) p.dC.toNat) (by simp[jZ];omega) (λn hn=>?_) (by omega) (ω:=(Int×List View)⊕(List View⊕(List View×Int))) (λx=>.inr (.inr x));rcases Jj hn with rfl|hn
   ·omega
   obtain⟨_,w,ae,rfl⟩:=(Da _ _).1 hn;obtain⟨m,ab,ai⟩:=k0.1 ae;exact(N.2.2 m ab w ai).1
  ·by_cases B:(!gu w.score p)=true
   ·rw[if_pos B]at G;cases G;obtain⟨U,Y⟩:=x6 j (dd F);have:(ef w.score p).length=p.dC.toNat:=by simp[ef,jZ]
    rw[dT];omega
   rw[if_neg B]at G;cases G
  refine dn some ((tO (λp=>!gu w.score p) (λz p=>z++ef w.score p) (([]:List View),(6:Int)) w.score.parts []).trans ?_);have:∀(ps:List Part)(z:List View),ps.foldl (λz p=>z++ef w.score p) z=z++ps.flatMap (ef w.score):=by
   intro ps;induction ps with
   |nil=>intro z;simp
   |cons p ps aj=>intro z;rw[List.foldl_cons,aj];simp
  rw[this];rfl
 cases (w.score.parts.all λp=>!gu w.score p)<;>rfl
def adk{v:View}(hv:eA v):(eP v).length<=9:=by
 rw[QJ hv];exact hW _ _
theorem aax{v:View}(hv:eA v){D:Nat}(ad:1<=D/\D<=40):BG (v,(D:Int))=some (if D<(eP v).length then([],6)else(jZ (eP v) D,0)):=by
 have hl:=adk hv;unfold BG;dsimp only;rw[Cz (by have:=hv.1;omega) (by have:=hv.2.1;omega),yd,c3 hv];refine(au (x:=false) ?_).trans ((ag rfl).trans ((au (aaF hv)).trans ?_))
 ·rw[af];refine(ag rfl).trans ?_;rw[af,c3 (by omega)];rfl
 generalize eP v=l at hl⊢;by_cases j:D<l.length
 ·rw[if_pos j];exact ah (c3 (by omega))
 rw[if_neg j];refine(ag (da (by omega))).trans ?_;refine(au (x:=jZ l D) ?_).trans rfl;refine(cu (st:=λ(z:List Int) k=>(k+1,z)) (l:=List.range D) (λz i=>(Sum.inl (z++[(l[i*l.length/D]?).getD 0]):List Int⊕List Int)) (λz=>z) (λk z=>z.length=k) (λk i z B G=>?_) (λk i z z' B G Z=>by cases Z;simp[G]) (λz _=>?_) [] rfl).trans (dn some ((eh (λ(z:List Int)(i:Nat)=>z++[(l[i*l.length/D]?).getD 0]) (List.range D) [] (λ_ _ _=>rfl)).trans ((foldl_map' (λi:Nat=>(l[i*l.length/D]?).getD 0) (List.range D) []).trans (List.nil_append _))))
 ·have F:=aZ B;rw[r2]at F;rw[ia F]at B;cases B;have N:(k:Int)+1-1=(k:Int):=by omega
  dsimp only;rw[N];refine(ah (c3 (by omega))).trans ?_;have O:∀y:Int,(List.append z (y::([]:List Int))).length=z.length+1:=λy=>dT;refine(au (x:=(l[k*l.length/D]?).getD 0) ?_).trans ((bG (c3 (by rw[O];omega))).trans ((av (by omega)).trans rfl));by_cases h0:0<l.length
  ·have ae:k*l.length<=40*9:=vt (by omega) hl;have U:((k:Int)*(l.length:Int))=((k*l.length:Nat):Int):=(Int.natCast_mul _ _).symm;have Y:Int.tdiv ((k*l.length:Nat):Int) (D:Int)=((k*l.length/D:Nat):Int):=rfl;have j:k*l.length/D<l.length:=by
    rw[rv (by omega),o7 l.length D];exact Qe F h0
   have M:l[k*l.length/D]?=some l[k*l.length/D]:=c5 j;refine(ah (c3 (by omega))).trans ?_;rw[U,Y];have ab:k*l.length/D<=360:=hB (p1 _ _) (by omega);refine(av (by omega)).trans ((av (by omega)).trans ((bG (by simp;omega)).trans ((av (by generalize k*l.length/D=q at ab⊢;omega)).trans ?_)));rw[M];exact au (aF M)
  have aa:l=[]:=j0 (by omega);subst aa;exact ag rfl
 rw[r2];dsimp only;exact ag (da (by omega))
theorem VT{ω:Type}{v:View}(hv:eA v){l:List Int}(hl:l.length<=1000)(O:∀n∈l,0<=n/\n<=9){B:List View}(ad:B.length<=1000000) :
  (aA (λj:(Int×(List View))=>ab (aj j.1 (l.length:Int)) (aa (an l j.1) λY=>aa (xK (v,Y)) λG=>ae (WP 32 (List.append j.2 (G.1::([]:List View)))) <|ae (ai (j.1+1)) <|some (.inl ((j.1+1),(List.append j.2 (G.1::([]:List View)))))) (some (.inr (.inl j.2)))) (0,B):Option (List View⊕ω))=some (.inl (B++l.map (iZ v))):=by
 refine(cu (st:=λ(z:List View) k=>(k,z)) (l:=l) (λz n=>.inl (z++[iZ v n])) (λz=>.inl z) (λk z=>z.length<=B.length+k) (λk n z F M=>?_) (λk x z z' _ M N=>by cases N;simp;omega) (λz _=>by dsimp only;rw[ag (by simp)]) B (by simp)).trans (dn some ((eh (λz n=>z++[iZ v n]) l B (λ_ _ _=>rfl)).trans (dn Sum.inl (foldl_map' (iZ v) l B))));have Z:=aZ F;have U:=O n (dd F);have e:(List.append z (iZ v n::([]:List View))).length=z.length+1:=dT;refine(ah (c3 (by omega))).trans ((au (aF F)).trans ?_);refine(au (aay (by have:=hv.1;omega) (by have:=hv.2.1;omega) n)).trans ?_;rw[if_pos ⟨hv,U⟩];exact(bG (c3 (by rw[show(List.append z ((iZ v n,(0:Int)).1::([]:List View))).length=z.length+1 from e];omega))).trans (av (by omega))
def Hx{w:c8}:uP w=some (if cI w.score then(if(w.score.parts.all λp=>!gu w.score p)=true then(w.score.parts.flatMap (ef w.score),0)else([],6))else([],1)):=by
 unfold uP;rw[Hq,af];by_cases j:cI w.score
 ·rw[if_pos j,c3 j];have an:=j.2.2.1.1.2;have ak:=j.2.1.1.2;refine(ag rfl).trans ?_;refine(di (x:=if(w.score.parts.all λp=>!gu w.score p)=true then .inl (w.score.parts.flatMap (ef w.score))else .inr ([],6)) ?_).trans ?_
  ·refine(cu (st:=λ(z:List View) k=>(k,z)) (l:=w.score.parts) (λz p=>if(!gu w.score p)=true then .inl (z++ef w.score p)else(.inr (.inr (([]:List View),(6:Int))):List View⊕(List View⊕(List View×Int)))) (λz=>Sum.inl z) (λk z=>z.length<=40*k) (λk p z B ab=>?_) (λk p z z' B ab M=>?_) (λz _=>by dsimp only;rw[ag (by simp)]) [] (by simp)).trans ?_
   ·have al:=aZ B;have N:=dd B;have hv:=qf j N;have U:=vF hv;obtain⟨Y,Z⟩:=x6 j N;have aa:((p.dC.toNat:Nat):Int)=p.dC:=by omega
    have G:=aax U (D:=p.dC.toNat) ⟨by omega,by omega⟩;rw[aa]at G;refine(ah (c3 (by omega))).trans ?_;by_cases F:p.dC.toNat<(eP (dB w.score p)).length
    ·have O:gu w.score p=true:=c3 F;rw[if_pos F]at G;rw[O,if_neg (show ¬(!true)=true by decide)];exact(di (x:=.inr (.inr (.inr (([]:List View),(6:Int))))) ((au (aF B)).trans ((au (Hw j N)).trans ((au (aF B)).trans ((au G).trans (ah rfl)))))).trans rfl
    have O:gu w.score p=false:=da F;rw[if_neg F]at G;rw[O,if_pos (show(!false)=true from rfl)];refine(di (x:=.inl (z++ef w.score p)) ((au (aF B)).trans ((au (Hw j N)).trans ((au (aF B)).trans ((au G).trans ((ag rfl).trans ?_)))))).trans (by rw[Sum.elim_inl,av (by omega)];rfl);refine VT (v:=dB w.score p) U (l:=jZ (eP (dB w.score p)) p.dC.toNat) (by simp[jZ];omega) (λn hn=>?_) (by dsimp only;omega);rcases Jj hn with rfl|hn
    ·omega
    obtain⟨_,w,ae,rfl⟩:=(Da _ _).1 hn;obtain⟨m,ad,ai⟩:=k0.1 ae;exact(U.2.2 m ad w ai).1
   ·by_cases F:(!gu w.score p)=true
    ·rw[if_pos F]at M;cases M;obtain⟨Y,Z⟩:=x6 j (dd B);have:(ef w.score p).length=p.dC.toNat:=by simp[ef,jZ]
     rw[dT];omega
    rw[if_neg F]at M;cases M
   refine dn some ((tO (λp=>!gu w.score p) (λz p=>z++ef w.score p) (([]:List View),(6:Int)) w.score.parts []).trans ?_);have:∀(ps:List Part)(z:List View),ps.foldl (λz p=>z++ef w.score p) z=z++ps.flatMap (ef w.score):=by
    intro ps;induction ps with
    |nil=>intro z;simp
    |cons p ps aj=>intro z;rw[List.foldl_cons,aj];simp
   rw[this];rfl
  cases (w.score.parts.all λp=>!gu w.score p)<;>rfl
 rw[if_neg j,da j];rfl
def VU{w:c8}(h:w.score.bars.length<=1048576):pr w=uP w:=by
 rw[Hx];by_cases j:cI w.score
 ·rw[KX h j,if_pos j]
 rw[if_neg j];unfold pr;rw[yq h];exact(au (x:=false) (dn some (by simp[j]))).trans (ah rfl)
theorem rQ{α σ N ρ:Type}(st:σ->Int->N){step:N->Option (N⊕ρ)}{l:List α}(g:σ->α->Option σ)(E:ρ)(fin:σ->ρ)(Inv:Nat->σ->Prop)(h:∀(k:Nat) x z,l[k]?=some x->Inv k z->step (st z (k:Int))=some ((g z x).elim (.inr E) λz'=>.inl (st z' ((k+1:Nat):Int))))(U:∀(k:Nat) x z z',l[k]?=some x->Inv k z->g z x=some z'->Inv (k+1) z')(O:∀z,Inv l.length z->step (st z (l.length:Int))=some (.inr (fin z)))(j:σ)(h0:Inv 0 j):aA step (st j 0)=some ((l.foldlM g j).elim E fin):=by
 refine(cu st (λz x=>(g z x).elim (.inr E) .inl) fin Inv (λk x z M F=>?_) (λk x z z' M F B=>?_) O j h0).trans (dn some ?_)
 ·rw[h k x z M F];cases g z x<;>rfl
 ·cases G:g z x with
  |none=>rw[G]at B;cases B
  |some y=>rw[G]at B;cases B;exact U k x z _ M F G
 have:∀(l:List α)(z:σ),cV (λz x=>(g z x).elim (.inr E) .inl) fin l z=(l.foldlM g z).elim E fin:=by
  intro l;induction l with
  |nil=>intro z;rfl
  |cons x l Y=>
   intro z;rw[s3];unfold cV;cases g z x with
   |none=>rfl
   |some y=>exact Y y
 exact this l j
def EK{α σ:Type}{g:σ->α->Option σ}(Inv:Nat->σ->Prop):∀(l:List α)(n:Nat)(z z':σ),(∀x∈l,∀k z z',Inv k z->g z x=some z'->Inv (k+1) z')->Inv n z->l.foldlM g z=some z'->Inv (n+l.length) z'
 | [],n,z,z',_,h0,e=>by cases e;exact h0
 |x::l,n,z,z',h,h0,e=>by
  rw[s3]at e;cases j:g z x with
  |none=>rw[j]at e;cases e
  |some y=>
   rw[j]at e;have:=EK Inv l (n+1) y z' (λx B=>h x (by simp[B])) (h x (by simp) n z y h0 j) e;rwa [List.length_cons,show n+(l.length+1)=n+1+l.length by omega]
def fy(z:List Written)(w:Written):Bool:=z.any λu=>decide (u.id=w.id) && !decide (u=w)
def ni(z:List Written)(w:Written):List Written:=if w∈z then z else z++[w]
def gW(z:List Written)(w:Written):Option (List Written):=if fy z w=true then none else some (ni z w)
def NW(len:Rat)(c:Nat)(z:List Written):Prop:=(z.map Written.id).Nodup/\(∀w∈z,c7 len w)/\z.length<=c
def KJ{z:List Written}{w:Written}(h:¬fy z w=true){u:Written}(k:u∈z)(e:u.id=w.id):u=w:=by
 refine fl λj=>h (hM.2 ⟨u,k,?_⟩);simp[e,j]
def IW{len:Rat}{c:Nat}{z:List Written}{w:Written}(h:NW len c z)(O:c7 len w)(M:¬fy z w=true):NW len (c+1) (ni z w):=by
 obtain⟨j,k,U⟩:=h;unfold ni;split
 ·exact⟨j,k,by omega⟩
 rename_i N;refine⟨?_,λu hu=>?_,by rw[dT];simp only[List.length_cons,List.length_nil];omega⟩
 ·rw[nh,k8];refine⟨j,by simp,λa B b F e=>?_⟩;obtain⟨u,hu,rfl⟩:=gg.1 B;have G:b=w.id:=by simpa using F
  exact N (KJ M hu (e.trans G)▸hu)
 rcases hD.1 hu with hu|hu
 ·exact k u hu
 rw[n2]at hu;rw[hu];exact O
def EZ{len:Rat}{c:Nat}{z z':List Written}{w:Written}(h:NW len c z)(k:c7 len w)(e:gW z w=some z'):NW len (c+1) z':=by
 unfold gW at e;split at e
 ·cases e
 rename_i j;cases e;exact IW h k j
def WY{len:Rat}{c:Nat}{z z':List Written}{ws:List Written}(h:NW len c z)(j:∀w∈ws,c7 len w)(e:ws.foldlM gW z=some z'):NW len (c+ws.length) z':=
 EK (NW len) ws c z z' (λw B k z z' h e=>EZ h (j w B) e) h e
def kv(z:List Written):List (Int×Written):=z.map λw=>(w.id,w)
def MM:∀(z:List Written)(w:Written),¬fy z w=true->aM (kv z) w.id w=kv (ni z w)
 | [],w,_=>rfl
 |u::z,w,h=>by
  have M:=KJ h (q9);have ht:¬fy z w=true:=λB=>h (by unfold fy at B⊢;rw[List.any_cons,B,Bool.or_true]);have F:=MM z w ht;show aM ((u.id,u)::kv z) w.id w=_;rw[uq];unfold ni at F⊢;by_cases e:u.id=w.id
  ·have k:=M e;subst k;rw[if_pos rfl,if_pos q9];rfl
  rw[if_neg e,F];have G:¬w=u:=λk=>e (by rw[k]);by_cases j:w∈z
  ·rw[if_pos j,if_pos (ka _ j)];rfl
  rw[if_neg j,if_neg (by rw[fa];exact λh=>h.elim G j)];rfl
def ML(d:Written):∀(z:List Written)(w:Written),(z.map Written.id).Nodup->ab (dU (kv z) w.id) (some (!(rh (ar (kv z) w.id d) w))) (some false)=some (fy z w)
 | [],w,_=>rfl
 |u::z,w,h=>by
  rw[e7,h5]at h;have M:=ML d z w h.2;have B:kv (u::z)=(u.id,u)::kv z:=rfl;have k:fy (u::z) w=((decide (u.id=w.id) && !decide (u=w))||fy z w):=by unfold fy;rw[List.any_cons]
  rw[B,qt,rU,k];by_cases e:u.id=w.id
  ·have G:fy z w=false:=by
    unfold fy;rw[h8];intro x F;have:x.id≠w.id:=λj=>h.1 (gg.2 ⟨x,F,j.trans e.symm⟩);simp[this]
   rw[if_pos e,G,zb,c3 e,Bool.true_or,T0,k4];rfl
  rw[if_neg e,da e,lB,p4,lB];exact M
noncomputable def cq(l:List Written):List Written:=fU (iV qP mj) l
def ab7{len:Rat}{c:Nat}{z:List Written}(h:NW len c z)(F:c<=1000000000):uV (kv z,())=some (cq z):=by
 have e:(kv z).map (·.2)=z:=by
  unfold kv;rw[k7];exact List.map_id _
 have hl:(kv z).length=z.length:=hP _;unfold uV;have B:=h.2.2;rw[if_pos ⟨λp j=>by
  obtain⟨w,k,rfl⟩:=gg.1 j;exact adv (h.2.1 w k),by dsimp only;rw[e];exact QO h.1,by dsimp only;omega⟩]
 dsimp only;rw[e];rfl
def jO(z:List Written):(cq z).Perm z:=oj _ _
def aca{len:Rat}{z:List Written}(h:∀w∈z,c7 len w):(cq z).Pairwise λa b=>¬bf wK b a<0:=by
 refine qs (λ{a b} k B j=>?_) (oq (qK yG) z);rw[tq yG]at j;unfold bf at j⊢;rw[Db (h a ((jO z).subset k)),Db (h b ((jO z).subset B))];exact j
def Xu{len:Rat}{c:Nat}{z:List Written}{w:Written}(h:NW len c z)(M:c7 len w)(F:¬fy z w=true)(G:w∉z):oa (λu=>decide (bf wK w u<0)) w (cq z)=cq (ni z w):=by
 have k:=IW h M F;have j:(oa (λu=>decide (bf wK w u<0)) w (cq z)).Perm (ni z w):=by
  unfold ni;rw[if_neg G];exact(vh _ _ _).trans (((jO z).cons w).trans (List.perm_append_comm (l₁:=[w]) (l₂:=z)))
 refine yw (cf:=iV qP mj) ?_ (oq (qK yG) _) (j.trans (jO _).symm) ((QO k.1).perm j.symm);refine qs (λ{a b} N O B=>?_) (Oo (K:=wK) (n:=4) IF (t:=w) (aca h.2.1));rw[tq yG];unfold bf at B⊢;rw[<-Db (k.2.1 a (j.subset N)),<-Db (k.2.1 b (j.subset O))];exact B
def Vn{y z:List Written}(h:y.Perm z)(w:Written):fy y w=fy z w:=by
 rw[gl];unfold fy;rw[hM,hM];exact⟨λ⟨x,j,e⟩=>⟨x,h.subset j,e⟩,λ⟨x,j,e⟩=>⟨x,h.symm.subset j,e⟩⟩
def gC(w:Written)(b:Bool)(u:Written):Option Bool:=if(decide (u.id=w.id) && !decide (u=w))=true then none else some (b||decide (u=w))
def L8(w:Written):∀(y:List Written)(b:Bool),y.foldlM (gC w) b=if fy y w=true then none else some (b||decide (w∈y))
 | [],b=>by simp[fy]
 |u::y,b=>by
  have j:fy (u::y) w=((decide (u.id=w.id) && !decide (u=w))||fy y w):=by unfold fy;rw[List.any_cons]
  rw[s3,j];unfold gC;by_cases h:(decide (u.id=w.id) && !decide (u=w))=true
  ·rw[if_pos h,h,Bool.true_or,if_pos rfl];rfl
  rw[if_neg h];have k:(decide (u.id=w.id) && !decide (u=w))=false:=by simpa using h
  rw[k,lB];refine(L8 w y (b||decide (u=w))).trans ?_;have:(b||decide (u=w)||decide (w∈y))=(b||decide (w∈u::y)):=by
   rw[Bool.or_assoc];congr 1;rw[gl];simp only[iv,ea,fa];exact or_congr ⟨Eq.symm,Eq.symm⟩ Iff.rfl
  rw[this]
def aaE{len:Rat}{c:Nat}{z:List Written}(h:NW len c z){ws:List Written}(af:∀w∈ws,c7 len w)(az:c+ws.length<=1000000000):BK (cq z,ws)=some ((ws.foldlM gW z).elim ([],false) λz=>(cq z,true)):=by
 unfold BK;refine(di (x:=(ws.foldlM gW z).elim (.inr ([],false)) λz=>.inl (cq z)) ?_).trans (by cases ws.foldlM gW z<;>rfl);refine rQ (σ:=List Written) (λz k=>(cq z,k)) gW (Sum.inr (([]:List Written),false):List Written⊕(List Written×Bool)) (λz=>Sum.inl (cq z)) (λk z=>NW len (c+k) z) (λk w z N G=>?_) (λk w z z' N G e=>EZ G (af w (dd N)) e) (λz _=>ag (da (by dsimp only;omega))) z h;have aA:=aZ N;have ai:=af w (dd N);have aB:(cq z).length<=1000000000:=by
  have:=(jO z).length_eq;have:=G.2.2;omega
 have ar:∀u∈cq z,c7 len u:=λu B=>G.2.1 u ((jO z).subset B);have ad:w∈cq z↔w∈z:=(jO z).mem_iff;dsimp only;refine(ah (c3 (by omega))).trans ((di (x:=(gW z w).elim (.inr (.inr (.inr ([],false)))) λz=>.inl (cq z)) ((au (aF N)).trans ?_)).trans ?_)
 ·refine(
      di (x:=(((cq z).foldlM (gC w) false).elim (.inr (.inr (.inr (.inr ([],false))))) .inl)) ?_).trans ?_
  ·refine rQ (σ:=Bool) (λb k=>(b,k)) (gC w) (Sum.inr (Sum.inr (Sum.inr (Sum.inr (([]:List Written),false)))):Bool⊕(List Written⊕((List Written×Int)⊕(List Written⊕(List Written×Bool))))) Sum.inl (λ_ _=>True) (λj u b B _=>?_) (λ_ _ _ _ _ _ _=>trivial) (λb _=>ag (da (by dsimp only;omega))) false trivial;have ao:=aZ B;dsimp only;refine(ah (c3 (by omega))).trans ?_;have Y:(aa (an (cq z) (j:Int)) λax=>ab (aC ax.id w.id) (aa (an (cq z) (j:Int)) λay=>some (!(rh ay w))) (some false))=some (decide (u.id=w.id) && !decide (u=w)):=by
    refine(au (aF B)).trans ?_;unfold aC;by_cases O:u.id=w.id
    ·refine(ah (c3 O)).trans ((au (aF B)).trans ?_);rw[zb,c3 O,k4]
    refine(ag (da O)).trans ?_;rw[da O,p4]
   unfold gC;by_cases F:(decide (u.id=w.id) && !decide (u=w))=true
   ·rw[if_pos F];refine(di (x:=.inr (.inr (.inr (.inr (.inr (.inr ([],false))))))) ?_).trans ?_
    ·exact(au Y).trans (ah F)
    rfl
   rw[if_neg F];refine(di (x:=.inl (b||decide (u=w))) ?_).trans ?_
   ·refine(au Y).trans ((ag (by simpa using F)).trans ?_);cases b with
    |true=>rfl
    |false=>
     refine(ag rfl).trans ((au (aF B)).trans ?_);rw[zb];rfl
   rw[Sum.elim_inl,av (by omega)];rfl
  rw[L8,Vn (jO z)];unfold gW;by_cases M:fy z w=true
  ·rw[if_pos M,if_pos M];rfl
  rw[if_neg M,if_neg M];change _=some (Sum.inl (cq (ni z w)));by_cases U:w∈z
  ·have:ni z w=z:=if_pos U;rw[this];exact ah (by rw[c3 (ad.2 U)];rfl)
  refine(ag (by rw[da (λal=>U (ad.1 al))];rfl)).trans ?_;refine(au (Kf (l:=cq z) (λu=>decide (bf wK w u<0)) (λj u B=>?_) ?_)).trans ?_
  ·have ao:=aZ B;have ak:an (cq z) ((j:Int)+1-1)=some u:=by rw[show(j:Int)+1-1=(j:Int) by omega];exact aF B
   refine(au (x:=decide (bf wK w u<0)) ?_).trans ?_
   ·refine(ah (c3 (by omega))).trans ((av (by omega)).trans ((au ak).trans ?_));exact au (Ht ai (ar u (dd B)))
   cases decide (bf wK w u<0)with
   |true=>
    refine(ah rfl).trans ((av (by omega)).trans ?_);rw[if_pos rfl,show(j:Int)+1-1=(j:Int) by omega]
   |false=>exact ag rfl
  ·exact(au (x:=false) (ag (da (by omega)))).trans (ag rfl)
  have hi:=Xu G ai M U;have ae:=(vh (λu=>decide (bf wK w u<0)) w (cq z)).length_eq;have F:=Kg (λu=>decide (bf wK w u<0)) (cq z);rw[<-hi];have B:oa (λu=>decide (bf wK w u<0)) w (cq z)=List.take (ee (λu=>decide (bf wK w u<0)) (cq z)) (cq z)++w::List.drop (ee (λu=>decide (bf wK w u<0)) (cq z)) (cq z):=rfl;generalize ee (λu=>decide (bf wK w u<0)) (cq z)=n at F B⊢;generalize oa (λu=>decide (bf wK w u<0)) w (cq z)=y at ae B⊢;have Z:(leI 0 (n:Int)&&leI (n:Int) ((cq z).length:Int))=true:=by
   rw[dk];exact⟨c3 (by omega),c3 (by omega)⟩
  have aq:Int.toNat (n:Int)=n:=by omega
  rw[aq];have l1:(List.take n (cq z)).length<=(cq z).length:=by rw[fb];omega
  have aw:(List.append (List.take n (cq z)) (w::([]:List Written))).length=(List.take n (cq z)).length+1:=dT;have aj:List.append (List.append (List.take n (cq z)) (w::([]:List Written))) (List.drop n (cq z))=y:=by
   rw[B];show(_++[w])++_=_;rw[h7];rfl
  rw[List.length_cons]at ae;rw[aj];refine(bG Z).trans ((bG (c3 (by omega))).trans ((bG (c3 (by rw[aw];omega))).trans ((bG Z).trans ((bG (c3 (by omega))).trans rfl))))
 cases gW z w with
 |none=>rfl
 |some y=>
  dsimp only[Option.elim];rw[Sum.elim_inl,av (by omega)];rfl
def gV(k:Nat)(z:List Written)(v:View):Option (List Written):=(vN k v).foldlM gW z
noncomputable def gM(l:List View)(z:Int×List aB)(m:aB):Option (Int×List aB):=(l.foldlM (gV z.2.length) []).elim none λns=>some (z.1+((cq ns).length:Int),z.2++[⟨m.aw,m.key,m.length,cq ns⟩])
noncomputable def oQ(l:List View)(v0:View):Option (Int×List aB):=v0.aK.foldlM (gM l) (0,[])
noncomputable def fc(l:List View)(v0:View):View×Int:=if 100<l.length then(zeroV,1)else(oQ l v0).elim (zeroV,5) λz=>if 20000<z.1 then(zeroV,2)else(⟨v0.part,z.2⟩,0)
def QE{s:Score}{v:View}(h:dj s v){k:Nat}{b:aT}(j:s.bars[k]?=some b):∃p m,partOf s v.part=some p/\v.aK[k]?=some m/\kM p b m:=by
 obtain⟨O,hl,⟨p,G,F⟩,_,_⟩:=h;have N:=aZ j;have B:v.aK[k]?=some v.aK[k]:=c5 (by omega);have M:(v.aK.zip s.bars)[k]?=some (v.aK[k],b):=by
  rw[sx];exact⟨B,j⟩
 have h:=ek.1 F _ (dd M);unfold fN at h;simp only[dk,ea]at h;exact⟨p,_,G,B,h.1.1⟩
def Mq{s:Score}{v F:View}(h:dj s v)(Z:dj s F)(e:v.part=F.part){k:Nat}{m:aB}(O:v.aK[k]?=some m):∃m',F.aK[k]?=some m'/\m.aw=m'.aw/\m.key=m'.key/\m.length=m'.length:=by
 have ab:=aZ O;have hl:=h.2.1;have N:s.bars[k]?=some s.bars[k]:=c5 (by omega);obtain⟨p,ad,G,M,j⟩:=QE h N;obtain⟨ae,aa,U,Y,B⟩:=QE Z N;rw[e,U]at G;cases G;rw[O]at M;cases M;exact⟨aa,Y,j.1.trans B.1.symm,j.2.1.trans B.2.1.symm,j.2.2.trans B.2.2.symm⟩
def Dz{s:Score}{v v0:View}(h:dj s v)(h0:dj s v0)(e:v.part=v0.part){k:Nat}{m:aB}(G:v0.aK[k]?=some m):∃m',v.aK[k]?=some m'/\vN k v=m'.notes/\(∀w∈m'.notes,c7 m.length w)/\m'.notes.length<=20000:=by
 obtain⟨m',j,_,_,F⟩:=Mq h0 h e.symm G;have B:=Yv h (dd j);refine⟨m',j,by unfold vN;rw[j];rfl,?_,B.2.2.2⟩;rw[F];exact B.1
section
variable {s:Score}{l:List View}{v0:View}(h0:l[0]?=some v0)(hv:∀v∈l,dj s v/\v.part=v0.part)
include h0 hv
def EX{k:Nat}{m:aB}(G:v0.aK[k]?=some m){v:View}(j:v∈l){c:Nat}{z z':List Written}(h:NW m.length c z)(e:gV k z v=some z'):NW m.length (c+20000) z':=by
 obtain⟨m',M,B,F,N⟩:=Dz (hv v j).1 (hv v0 (dd h0)).1 (hv v j).2 G;unfold gV at e;rw[B]at e;have:=WY h F e;exact⟨this.1,this.2.1,by have:=this.2.2;omega⟩
def EY{k:Nat}{m:aB}(B:v0.aK[k]?=some m){z:List Written}(e:l.foldlM (gV k) []=some z):NW m.length (20000*l.length) z:=by
 have:=EK (λj z=>NW m.length (20000*j) z) l 0 [] z (λv F j z z' h e=>by
  have:=EX h0 hv B F h e;rwa [Nat.mul_succ]) ⟨by simp,by simp,by simp⟩ e
 rwa [hT]at this
def zU{k:Nat}{m:aB}(B:v0.aK[k]?=some m){z z':Int×List aB}(F:z.2.length=k)(e:gM l z m=some z'):∃ns,NW m.length (20000*l.length) ns/\z'=(z.1+(ns.length:Int),z.2++[⟨m.aw,m.key,m.length,cq ns⟩]):=by
 unfold gM at e;rw[F]at e;cases j:l.foldlM (gV k) []with
 |none=>rw[j]at e;cases e
 |some ns=>
  rw[j]at e;cases e;refine⟨ns,EY h0 hv B j,?_⟩;rw[(jO ns).length_eq]
def JI(z:Int×List aB):Prop:=z.1=((z.2.flatMap aB.notes).length:Int)/\∀m∈z.2,∀w∈m.notes,dF w
def WW{k:Nat}{m:aB}(O:v0.aK[k]?=some m){z z':Int×List aB}(U:z.2.length=k)(h:JI z)(e:gM l z m=some z'):JI z':=by
 obtain⟨ns,N,rfl⟩:=zU h0 hv O U e;obtain⟨Y,Z⟩:=h;refine⟨?_,λx hx w j=>?_⟩
 ·dsimp only;rw[Y,s5,dT,Int.natCast_add];congr 2;show _=(cq ns++[]).length;rw[iu,(jO ns).length_eq]
 rcases hD.1 hx with hx|hx
 ·exact Z x hx w j
 rw[n2]at hx;subst hx;obtain⟨_,B,F,G,M,_⟩:=N.2.1 w ((jO ns).subset j);exact⟨B,F,M,G⟩
def XB{z:Int×List aB}(e:oQ l v0=some z):z.2.length=v0.aK.length/\JI z:=by
 have key:∀(n k:Nat)(y:Int×List aB),k+n=v0.aK.length->y.2.length=k->JI y->(v0.aK.drop k).foldlM (gM l) y=some z->z.2.length=v0.aK.length/\JI z:=by
  intro n;induction n with
  |zero=>
   intro k y N F G e;rw[w2 (by omega)]at e;cases e;exact⟨by omega,G⟩
  |succ n O=>
   intro k y N F G e;have B:v0.aK[k]?=some v0.aK[k]:=c5 (by omega);rw[hS (by omega),s3]at e;cases j:gM l y v0.aK[k]with
   |none=>rw[j]at e;cases e
   |some U=>
    rw[j]at e;obtain⟨ns,_,M⟩:=zU h0 hv B F j;exact O (k+1) U (by omega) (by rw[M,dT,F];rfl) (WW h0 hv B F G j) e
 exact key v0.aK.length 0 (0,[]) (by omega) rfl ⟨rfl,λm B=>by cases B⟩ e
def MC(e:(fc l v0).2=0):eA (fc l v0).1/\(fc l v0).1.part=v0.part:=by
 have k:=(hv v0 (dd h0)).1;have M:=k.1.2.1.1.2;have N:=k.2.1;unfold fc at e⊢;split
 ·rename_i h;rw[if_pos h]at e;cases e
 rename_i h;rw[if_neg h]at e;cases j:oQ l v0 with
 |none=>rw[j]at e;cases e
 |some z=>
  rw[j]at e;dsimp only[Option.elim]at e⊢;obtain⟨F,G,B⟩:=XB h0 hv j;split
  ·rename_i h;rw[if_pos h]at e;cases e
  exact⟨⟨by dsimp only;omega,by unfold bD;dsimp only;omega,B⟩,rfl⟩
def LH{v:View}(ad:v∈l):AV (v0,v)=some true/\BL (v0,v)=some true:=by
 obtain⟨Y,O⟩:=hv v ad;have U:=(hv v0 (dd h0)).1;have ae:=U.1.2.1.1.2;have l1:=U.2.1;have aa:=Y.2.1;have key:∀k,k<v0.aK.length->∃m m',v0.aK[k]?=some m/\v.aK[k]?=some m'/\m.aw=m'.aw/\m.key=m'.key/\m.length=m'.length:=λk j=>by
  obtain⟨m',e⟩:=Mq U Y O.symm (c5 j);exact⟨_,m',c5 j,e⟩
 have Z:(List.range v0.aK.length).any (λ_=>false)=false:=by simp
 constructor
 ·unfold AV;dsimp only;refine(au (x:=true) ?_).trans rfl;refine(ah (c3 O.symm)).trans ?_;refine(au (x:=true) ?_).trans rfl;unfold G0;dsimp only;rw[ag (by simp[l1,aa]),nJ v0.aK.length (λ_=>false) false (λk j=>by
   obtain⟨m,m',B,F,G,M,N⟩:=key k j;rw[ah (c3 (by omega)),aY (aF B),aY (aF F)];have ab:AW (m,m')=some true:=by
    unfold AW;dsimp only;refine(au (x:=true) ?_).trans rfl;refine(ah (c3 G)).trans ((ah (c3 M)).trans (dn some ?_));exact(y9 _ _).trans (c3 N)
   rw[ab,af];refine(ag rfl).trans ?_;rw[av (by omega)];rfl) (by rw[ag (by simp)]),Z]
  rfl
 unfold BL;dsimp only;refine(au (x:=false) ?_).trans ((ag rfl).trans ?_)
 ·refine(ag (by simp[O])).trans (dn some ?_);simp[l1,aa]
 rw[nJ v0.aK.length (λ_=>false) false (λk j=>by
  obtain⟨m,m',B,F,G,M,N⟩:=key k j;rw[ah (c3 (by omega)),aY (aF B),aY (aF F)];refine(au (x:=false) ?_).trans ?_
  ·refine(ag (by simp[G])).trans ((ag (by simp[M])).trans (dn some ?_));rw[y9,c3 N];rfl
  refine(ag rfl).trans ?_;rw[av (by omega)];rfl) (by rw[ag (by simp)]),Z]
 rfl
omit h0 in
theorem C9{v:View}(k:v∈l):v.aK.length<=4000/\(bD v).length<=20000:=by
 have j:=(hv v k).1;have B:=j.1.2.1.1.2;have l1:=j.2.1;exact⟨by omega,j.2.2.2.1⟩
def join_eq(hl:l.length<=1000000):w9 l=some (fc l v0):=by
 have aC:=aZ h0;have iP:an l 0=some v0:=aF h0;have ay:=C9 hv (dd h0);unfold w9 fc;by_cases Z:100<l.length
 ·rw[if_pos Z];refine(au (x:=true) ?_).trans rfl;exact(ag (da (by omega))).trans (ah (c3 (by omega)))
 rw[if_neg Z];refine(au (x:=false) ?_).trans ((ag rfl).trans ((au (x:=false) ?_).trans ((ag rfl).trans ((au iP).trans ?_))))
 ·refine(ag (da (by omega))).trans ((ag (da (by omega))).trans ?_);rw[Vq (by omega) (λx B=>by have:=C9 hv B;omega)];refine dn some ?_;rw[h8];intro x B;simp[vF (hv x B).1]
 ·unfold GY G9;dsimp only;rw[mq (l:=l) (λ_=>false) (λk x B=>by
   have ao:=aZ B;unfold Gu;dsimp only;rw[ah (c3 (by omega)),aY (aF B),iP,af,(LH h0 hv (dd B)).1,af,af];refine(ag rfl).trans ?_;rw[av (by omega)];rfl) (by rw[ag (by simp)])]
  refine dn some ?_;rw[h8];intro x B;simp
 refine(di (x:=(oQ l v0).elim (Sum.inr (zeroV,5)) Sum.inl) ?_).trans ?_
 ·refine(
      au iP).trans ?_
  refine rQ (σ:=Int×List aB) (λz k=>(z.1,(k,z.2))) (gM l) (Sum.inr (zeroV,5):(Int×List aB)⊕(View×Int)) Sum.inl (λk z=>z.2.length=k/\0<=z.1/\z.1<=2000000*(k:Int)) (λk m z B O=>?_) (λk m z z' B O e=>?_) (λz _=>ag (da (by dsimp only;omega))) (0,[]) ⟨rfl,by dsimp only;omega,by dsimp only;omega⟩
  ·have ao:=aZ B;obtain⟨N,aq,ar⟩:=O;dsimp only;refine(ah (c3 (by omega))).trans ((au (aF B)).trans ((di (x:=(l.foldlM (gV k) []).elim (Sum.inr (Sum.inr (Sum.inr (zeroV,5)))) λz=>Sum.inl (kv z)) ?_).trans ?_))
   ·refine rQ (σ:=List Written) (λz j=>(j,kv z)) (gV k) (Sum.inr (Sum.inr (Sum.inr (zeroV,5))):List (Int×Written)⊕((Int×(Int×List aB))⊕((Int×List aB)⊕(View×Int)))) (λz=>Sum.inl (kv z)) (λj z=>NW m.length (20000*j) z) (λj v z G U=>?_) (λj v z z' G U e=>?_) (λz _=>ag (da (by dsimp only;omega))) [] ⟨by simp,by simp,by simp⟩
    ·have az:=aZ G;have ab:=dd G;obtain⟨m',ad,ae,ai,ax⟩:=Dz (hv v ab).1 (hv v0 (dd h0)).1 (hv v ab).2 B;dsimp only;refine(ah (c3 (by omega))).trans ((di (x:=(gV k z v).elim (Sum.inr (Sum.inr (Sum.inr (Sum.inr (Sum.inr (zeroV,5)))))) λz=>Sum.inl (kv z)) ?_).trans ?_)
     ·refine(au (aF G)).trans ((au (aF ad)).trans ?_);unfold gV;rw[ae];refine rQ (σ:=List Written) (λz i=>(i,kv z)) gW (Sum.inr (Sum.inr (Sum.inr (Sum.inr (Sum.inr (zeroV,5))))):List (Int×Written)⊕((Int×List (Int×Written))⊕(List (Int×Written)⊕((Int×(Int×List aB))⊕((Int×List aB)⊕(View×Int)))))) (λz=>Sum.inl (kv z)) (λi z=>NW m.length (20000*j+i) z) (λi w z M Y=>?_) (λi w z z' M Y e=>EZ Y (ai w (dd M)) e) (λz _=>ag (da (by dsimp only;omega))) z U;have hi:=aZ M;dsimp only;refine(ah (c3 (by omega))).trans ((au (aF M)).trans ((au (ML _ z w Y.1)).trans ?_));unfold gW;by_cases F:fy z w=true
      ·rw[if_pos F];exact ah F
      rw[if_neg F,MM z w F];refine(ag (by simpa using F)).trans (av (by omega))
     cases gV k z v with
     |none=>rfl
     |some y=>
      dsimp only[Option.elim];rw[Sum.elim_inl,av (by omega)];rfl
    have:=EX h0 hv B (dd G) U e;rwa [Nat.mul_succ]
   unfold gM;rw[N];cases al:l.foldlM (gV k) []with
   |none=>rfl
   |some ns=>
    have aa:=EY h0 hv B al;have aA:=aa.2.2;have aD:=(jO ns).length_eq;dsimp only[Option.elim];rw[Sum.elim_inl];refine(au (x:=kv ns) rfl).trans ((au (ab7 aa (by omega))).trans ?_);have ak:(List.append z.2 ((⟨m.aw,m.key,m.length,cq ns⟩:aB)::([]:List aB))).length=z.2.length+1:=dT;rw[av (by omega),bG (c3 (by rw[ak];omega)),av (by omega)];rfl
  obtain⟨N,aq,ar⟩:=O;obtain⟨ns,aj,rfl⟩:=zU h0 hv B N e;have:=aj.2.2;exact⟨by dsimp only;rw[dT,N];rfl,by dsimp only;omega,by dsimp only;omega⟩
 cases oQ l v0 with
 |none=>rfl
 |some z=>
  dsimp only[Option.elim];rw[Sum.elim_inl];split
  ·rename_i h;exact ah (c3 h)
  rename_i h;exact ag (da h)
def aaz(hl:l.length<=1000000):xL l=some (fc l v0):=by
 have aE:=aZ h0;have iP:an l 0=some v0:=aF h0;have az:=C9 hv (dd h0);unfold xL fc;by_cases U:100<l.length
 ·rw[if_pos U];refine(au (x:=true) ?_).trans rfl;exact(ag (da (by omega))).trans (dn some (c3 (by omega)))
 rw[if_neg U];refine(au (x:=false) ?_).trans ((ag rfl).trans ?_)
 ·exact(ag (da (by omega))).trans (dn some (da (by omega)))
 have Y:l.any (λ_=>false)=false:=by rw[h8];intro x _;simp
 rw[il (l:=l) (λ_=>false) (zeroV,1) (λk x B=>by
  have Z:=aZ B;have G:=dd B;obtain⟨ax,ay⟩:=C9 hv G;rw[ah (c3 (by omega)),aY (aF B),(Cz (by omega) (by omega)).trans (dn some (c3 (vF (hv x G).1))),af];refine(ag rfl).trans ?_;rw[av (by omega)];rfl) (by rw[ag (by simp)]),Y]
 refine(ew () _).trans ?_;rw[il (l:=l) (λ_=>false) (zeroV,6) (λk x B=>by
  have Z:=aZ B;have G:=dd B;rw[ah (c3 (by omega)),aY iP,aY (aF B),(LH h0 hv G).2,af];refine(ag rfl).trans ?_;rw[av (by omega)];rfl) (by rw[ag (by simp)]),Y]
 refine(ew () _).trans ((au iP).trans ?_);refine(di (x:=(oQ l v0).elim (Sum.inr (zeroV,5)) Sum.inl) ?_).trans ?_
 ·refine rQ (σ:=Int×List aB) (λz k=>(z.1,(k,z.2))) (gM l) (Sum.inr (zeroV,5):(Int×List aB)⊕(View×Int)) Sum.inl (λk z=>z.2.length=k/\0<=z.1/\z.1<=2000000*(k:Int)) (λk m z B N=>?_) (λk m z z' B N e=>?_) (λz _=>(au iP).trans (ag (da (by dsimp only;omega)))) (0,[]) ⟨rfl,by dsimp only;omega,by dsimp only;omega⟩
  ·have Z:=aZ B;obtain⟨M,ao,aq⟩:=N;dsimp only;refine(au iP).trans ((ah (c3 (by omega))).trans ((au iP).trans ((au (aF B)).trans ((di (x:=(l.foldlM (gV k) []).elim (Sum.inr (Sum.inr (Sum.inr (zeroV,5)))) λz=>Sum.inl (cq z)) ?_).trans ?_))))
   ·refine(dn (aA _) (show(([]:List Written),(0:Int))=(cq [],0) by rw[List.perm_nil.1 (jO [])])).trans ?_;refine rQ (σ:=List Written) (λz j=>(cq z,j)) (gV k) (Sum.inr (Sum.inr (Sum.inr (zeroV,5))):List Written⊕((Int×(Int×List aB))⊕((Int×List aB)⊕(View×Int)))) (λz=>Sum.inl (cq z)) (λj z=>NW m.length (20000*j) z) (λj v z F O=>?_) (λj v z z' F O e=>?_) (λz _=>ag (da (by dsimp only;omega))) [] ⟨by simp,by simp,by simp⟩
    ·have aC:=aZ F;have aa:=dd F;obtain⟨m',ab,ad,ae,ar⟩:=Dz (hv v aa).1 (hv v0 (dd h0)).1 (hv v aa).2 B;dsimp only;refine(ah (c3 (by omega))).trans ((au (aF F)).trans ((au (aF ab)).trans ((au (aaE O ae (by omega))).trans ?_)));unfold gV;rw[ad];cases m'.notes.foldlM gW z with
     |none=>rfl
     |some y=>exact(ag rfl).trans (av (by omega))
    have:=EX h0 hv B (dd F) O e;rwa [Nat.mul_succ]
   unfold gM;rw[M];cases ak:l.foldlM (gV k) []with
   |none=>rfl
   |some ns=>
    have al:=EY h0 hv B ak;have aD:=al.2.2;have aG:=(jO ns).length_eq;dsimp only[Option.elim];rw[Sum.elim_inl];have aj:(List.append z.2 ((⟨m.aw,m.key,m.length,cq ns⟩:aB)::([]:List aB))).length=z.2.length+1:=dT;rw[av (by omega),bG (c3 (by rw[aj];omega)),av (by omega)];rfl
  obtain⟨M,ao,aq⟩:=N;obtain⟨ns,ai,rfl⟩:=zU h0 hv B M e;have:=ai.2.2;exact⟨by dsimp only;rw[dT,M];rfl,by dsimp only;omega,by dsimp only;omega⟩
 cases oQ l v0 with
 |none=>rfl
 |some z=>
  dsimp only[Option.elim];rw[Sum.elim_inl];split
  ·rename_i h;exact ah (c3 h)
  rename_i h;exact ag (da h)
end
def H5{s:Score}{v:View}(h:(fe s v).2=0):(fe s v).1.length<=20000/\∀n∈(fe s v).1,wV n:=by
 unfold fe at h⊢;by_cases hv:dj s v
 ·rw[if_pos hv]at h⊢;obtain⟨p,k,_⟩:=id hv.2.2.1;rw[k]at h⊢;dsimp only at h⊢;unfold dP at h⊢;cases j:(gK s v).find? λx=>decide (sE p x≠0)with
  |some q=>rw[j]at h;exact absurd h (by show ¬((3:Int)=0);decide)
  |none=>
   dsimp only;rw[List.nil_append];refine⟨by rw[hP,He hv.2.1];exact hv.2.2.2.1,λn M=>?_⟩;obtain⟨q,B,rfl⟩:=gg.1 M;rw[n3]at j;have G:sE p q=0:=by simpa using j q B
   obtain⟨x,F,U⟩:=k0.1 B;obtain⟨w,Y,rfl⟩:=gg.1 U;obtain⟨⟨_,_,hl⟩,_,N⟩:=adf hv k x F;obtain⟨_,_,_,_,Z,aa,ah,ab⟩:=N w Y;obtain⟨O,af,ae⟩:=pt hv.1 k;have ag:=((jG p).1 O).1.1;obtain⟨_,_,ad,_⟩:=iR hv.1 (adV F).2;rw[hl]at ab;exact⟨Z,aa,by show 0<=p.id/\p.id<=1000000;omega,(Dk G).2.2,by show bz w.start<=100000;omega⟩
 rw[if_neg hv]at h;exact absurd h (by decide)
def NY(v:View)(c:List Int):(bD (ey v c)).length<=(bD v).length:=by
 rw[AP];exact(Dp _ v).length_le
noncomputable def lE(s:Score)(c:List Int)(vs:List aE)(v:View):List ay×Int:=if(fe s (ey v c)).2=0 then(eM s.bars (λb=>(fe s (ey v c)).1.filter λn=>decide (n.aw=b.id)) vs 0,0)else([],(fe s (ey v c)).2)
noncomputable def dp(s:Score)(c:List Int)(vs:List aE)(l:List View):List ay×Int:=l[0]?.elim ([],0) λv0=>if(fc l v0).2=0 then lE s c vs (fc l v0).1 else([],(fc l v0).2)
def ch(l:List View)(p:Part):List View:=l.filter λv=>decide (v.part=p.id)
def jY(g:Part->List ay×Int):List Part->List ay->List ay⊕Int
 | [],z=>.inl z
 |p::ps,z=>if(g p).2=0 then jY g ps (z++(g p).1)else .inr (g p).2
def EJ{ρ:Type}(g:Part->List ay×Int)(fin:List ay->ρ)(E:Int->ρ):∀(ps:List Part)(z:List ay),cV (λz p=>if(g p).2=0 then .inl (z++(g p).1)else .inr (E (g p).2)) fin ps z=Sum.elim fin E (jY g ps z)
 | [],z=>rfl
 |p::ps,z=>by
  unfold cV jY;by_cases h:(g p).2=0
  ·rw[if_pos h,if_pos h];exact EJ g fin E ps _
  rw[if_neg h,if_neg h];rfl
def zV(g:List ay×Int):Prop:=g.2=0->(∀x∈g.1,dY x)/\g.1.length<=400000000
def yS{g:Part->List ay×Int}(k:∀p,zV (g p)):∀(ps:List Part)(z z':List ay),(∀x∈z,dY x)->jY g ps z=.inl z'->(∀x∈z',dY x)/\z'.length<=z.length+400000000*ps.length
 | [],z,z',h,e=>by cases e;exact⟨h,by simp⟩
 |p::ps,z,z',h,e=>by
  unfold jY at e;by_cases j:(g p).2=0
  ·rw[if_pos j]at e;obtain⟨G,N⟩:=k p j;obtain⟨B,F⟩:=yS k ps _ z' (λx M=>(hD.1 M).elim (h x) (G x)) e;refine⟨B,?_⟩;rw[dT]at F;rw[List.length_cons];omega
  rw[if_neg j]at e;cases e
def ade{s:Score}(M:cI s){c:List Int}{vs:List aE}(hv:vs.length<=20000)(v:View):zV (lE s c vs v):=by
 unfold zV lE;by_cases h:(fe s (ey v c)).2=0
 ·rw[if_pos h];intro _;obtain⟨n1,O⟩:=H5 h;have j:∀b∈s.bars,fx b:=λb G=>iR M G;have ht:=CT j vs;refine⟨λx N=>?_,?_⟩
  ·obtain⟨t',b,n,k,Y,B,F,rfl⟩:=Cn j vs 0 N;obtain⟨_,_,U,_⟩:=j b B;exact CX (O n (hG.1 F).1) k (by omega)
  have:=ve (bars:=s.bars) (snd:=λb=>(fe s (ey v c)).1.filter λn=>decide (n.aw=b.id)) (m:=20000) (λb _=>hB (hW _ _) n1) vs 0;dsimp only;omega
 rw[if_neg h];exact λe=>absurd e h
def w5{s:Score}(j:cI s){c:List Int}{vs:List aE}(hv:vs.length<=20000)(l:List View):zV (dp s c vs l):=by
 unfold dp;cases l[0]? with
 |none=>exact λ_=>⟨λx k=>(by cases k),by simp[Option.elim]⟩
 |some v0=>
  dsimp only[Option.elim];split
  ·exact ade j hv _
  rename_i h;exact λe=>absurd e h
open Classical in
noncomputable def sM(w:c8)(r:Room)(l:List View):List ay×Int:=if 2400<l.length then([],2)else if jc w r then(if(∀v∈l,dj w.score v)then Sum.elim (λz=>(ir z,0)) (λe=>([],e)) (jY (λp=>dp w.score r.bp (bK r.form) (ch l p)) w.score.parts [])else([],1))else([],1)
section
variable {w:c8}{r:Room}{l:List View}
def N0{p:Part}{v0:View}(hv:∀v∈l,dj w.score v)(h0:(ch l p)[0]?=some v0):∀v∈ch l p,dj w.score v/\v.part=v0.part:=λv h=>by
 obtain⟨j,k⟩:=hG.1 h;obtain⟨F,B⟩:=hG.1 (dd h0);exact⟨hv v j,(fv k).trans (fv B).symm⟩
open Classical in
theorem I9:(l.any λv=>!decide (dj w.score v)) = !decide (∀v∈l,dj w.score v):=by
 rw[gl,hM];simp only[gj,hA];exact⟨λ⟨v,k,j⟩ h=>j (h v k),λh=>fl λB=>h λv hv=>fl λj=>B ⟨v,hv,j⟩⟩
open Classical in
theorem QF(h:lz w r)(hl:2400<l.length\/∀v∈l,(bD v).length<=1000000):uW (w,(r,l))=some (sM w r l):=by
 unfold uW sM;by_cases U:2400<l.length
 ·rw[if_pos U];exact ah (c3 (by omega))
 rw[if_neg U];have aD:=hl.resolve_left U;refine(ag (da (by omega))).trans ((Nv h (some (([]:List ay),1)) _).trans ?_);by_cases G:jc w r
 rotate_left
 ·rw[if_neg G,if_neg G]
 rw[if_pos G,if_pos G];obtain⟨M,aK,al,aL,an⟩:=id G;obtain⟨ai,ao,aq⟩:=id h;obtain⟨ae,aG⟩:=sL ao al;have aM:=M.2.1.1.2;have aN:=M.2.2.1.1.2;have az:∀b∈w.score.bars,fx b:=λb ax=>iR M ax;refine(au (x:= !decide (∀v∈l,dj w.score v)) ?_).trans ?_
 ·unfold GZ Ha;dsimp only;rw[mq (l:=l) (λv=>!decide (dj w.score v)) (λk x B=>by
   have aB:=aZ B;have Y:=aD x (dd B);unfold Hb;dsimp only;rw[ah (c3 (by omega)),aY (aF B),QD ai Y,af,af];by_cases hv:dj w.score x
   ·rw[c3 hv,if_neg (by decide)];refine(ag rfl).trans ?_;rw[av (by omega)];rfl
   rw[da hv];exact ah rfl) (by rw[ag (by simp)])]
  exact dn some I9
 by_cases hv:∀v∈l,dj w.score v
 rotate_left
 ·rw[if_neg hv];exact ah (by rw[da hv];rfl)
 rw[if_pos hv];refine(ag (by rw[c3 hv];rfl)).trans ((au (Zs (by omega))).trans ?_);have aA:∀k,ar (l.foldl (kc View.part) []) k []=l.filter λv=>decide (v.part=k):=λk=>by
  rw[zZ,oX,List.nil_append]
 refine(di (x:=Sum.elim Sum.inl (λe=>Sum.inr (([]:List ay),e)) (jY (λp=>dp w.score r.bp (bK r.form) (ch l p)) w.score.parts [])) ?_).trans ?_
 ·refine(
      cu (st:=λ(z:List ay) k=>(k,z)) (l:=w.score.parts) (λz p=>if(dp w.score r.bp (bK r.form) (ch l p)).2=0 then(Sum.inl (z++(dp w.score r.bp (bK r.form) (ch l p)).1):List ay⊕(List ay⊕(List ay×Int)))else Sum.inr (Sum.inr ([],(dp w.score r.bp (bK r.form) (ch l p)).2))) (λz=>Sum.inl z) (λk z=>z.length<=400000000*k) (λk p z B aw=>?_) (λk p z z' B aw j=>?_) (λz _=>ag (da (by dsimp only;omega))) [] (by simp)).trans (dn some (EJ (λp=>dp w.score r.bp (bK r.form) (ch l p)) Sum.inl (λe=>Sum.inr ([],e)) w.score.parts []))
  ·have aB:=aZ B;dsimp only;refine(ah (c3 (by omega))).trans ?_;refine(di (x:=if(dp w.score r.bp (bK r.form) (ch l p)).2=0 then Sum.inl (z++(dp w.score r.bp (bK r.form) (ch l p)).1)else Sum.inr (Sum.inr (Sum.inr ([],(dp w.score r.bp (bK r.form) (ch l p)).2)))) ?_).trans (by
    split
    ·rw[Sum.elim_inl,av (by omega)];rfl
    rfl)
   refine(au (aF B)).trans ?_;rw[aA];show ab (aC ((ch l p).length:Int) 0) _ (aa (w9 (ch l p)) _)=_;have aE:(ch l p).length<=l.length:=hW _ _;cases h0:(ch l p)[0]? with
   |none=>
    have ad:=u6.1 h0;have O:dp w.score r.bp (bK r.form) (ch l p)=([],0):=by unfold dp;rw[h0];rfl
    refine(ah (c3 (by omega))).trans ?_;rw[O,iu];exact dn some (if_pos rfl).symm
   |some v0=>
    have aO:=aZ h0;have aj:=N0 hv h0;have O:dp w.score r.bp (bK r.form) (ch l p)=(if(fc (ch l p) v0).2=0 then lE w.score r.bp (bK r.form) (fc (ch l p) v0).1 else([],(fc (ch l p) v0).2)):=by unfold dp;rw[h0];rfl
    refine(ag (da (by omega))).trans ((au (join_eq h0 aj (by omega))).trans ?_);by_cases F:(fc (ch l p) v0).2=0
    ·obtain⟨N,aJ⟩:=MC h0 aj F;rw[O.trans (if_pos F)];generalize (fc (ch l p) v0).1=v at N;have aE:=NY v r.bp;have:=N.1;have:=N.2.1;refine(au (x:=((lE w.score r.bp (bK r.form) v).2,z++(lE w.score r.bp (bK r.form) v).1)) ?_).trans ?_
     ·refine(ah (c3 F)).trans ?_;refine(au (x:=(z++(lE w.score r.bp (bK r.form) v).1,(lE w.score r.bp (bK r.form) v).2)) ?_).trans rfl;refine(au (D8 (v:=v) (by omega) (by omega) aq)).trans ?_;rw[if_pos ⟨an,N⟩];refine(ag rfl).trans ((au (PX (s:=w.score) (v:=ey v r.bp) ai (by omega))).trans ?_);unfold lE;by_cases j:(fe w.score (ey v r.bp)).2=0
      ·obtain⟨n1,ak⟩:=H5 j;rw[if_pos j];refine(ag (by simp[j])).trans ?_;exact Oi az ⟨ae,λv hv=>by have:=aG v hv;omega⟩ ⟨n1,λn ad=>⟨(ak n ad).1,(ak n ad).2.2.2.2⟩⟩ (by omega)
      rw[if_neg j];refine(ah (by simp[j])).trans ?_;rw[iu]
     by_cases j:(lE w.score r.bp (bK r.form) v).2=0
     ·rw[if_pos j];exact ag (by simp[j])
     rw[if_neg j];exact ah (by simp[j])
    rw[O.trans (if_neg F)];refine Eq.trans ?_ (dn some (if_neg F).symm);refine(au (ag (da F))).trans ?_;exact ah (by simp[F])
  by_cases Z:(dp w.score r.bp (bK r.form) (ch l p)).2=0
  ·rw[if_pos Z]at j;cases j;have:=(w5 M ae (ch l p) Z).2;rw[dT];omega
  rw[if_neg Z]at j;cases j
 cases Y:jY (λp=>dp w.score r.bp (bK r.form) (ch l p)) w.score.parts []with
 |inr e=>rfl
 |inl z=>
  obtain⟨aH,aI⟩:=yS (λp=>w5 M ae (ch l p)) _ _ _ (λx B=>by cases B) Y;rw[List.length_nil]at aI;exact au (PT aH (by omega))
open Classical in
theorem aaH(h:lz w r)(hl:2400<l.length\/∀v∈l,(bD v).length<=1000000):BP (w,(r,l))=some (sM w r l):=by
 unfold BP sM;by_cases Y:2400<l.length
 ·rw[if_pos Y];exact ah (c3 (by omega))
 rw[if_neg Y];have ar:=hl.resolve_left Y;refine(ag (da (by omega))).trans ((au (ON h)).trans ?_);by_cases M:jc w r
 rotate_left
 ·rw[if_neg M];exact ah (by simp[M])
 rw[if_pos M];refine(ag (by simp[M])).trans ?_;obtain⟨ai,aD,an,aE,aG⟩:=id M;obtain⟨aH,ao,aI⟩:=id h;obtain⟨al,aO⟩:=sL ao an;have aL:=ai.2.2.1.1.2;rw[il (l:=l) (λv=>!decide (dj w.score v)) (([]:List ay),1) (λk x B=>by
  have aq:=aZ B;have ad:=ar x (dd B);rw[ah (c3 (by omega)),aY (aF B),OK ad,af];by_cases hv:dj w.score x
  ·rw[c3 hv,if_neg (by decide)];refine(ag rfl).trans ?_;rw[av (by omega)];rfl
  rw[da hv];exact ah rfl) (by rw[ag (by simp)]),I9]
 by_cases hv:∀v∈l,dj w.score v
 rotate_left
 ·rw[if_neg hv,da hv];rfl
 rw[if_pos hv,c3 hv,if_neg (by decide)];refine(ew () _).trans ?_;refine(di (x:=Sum.elim (λz=>Sum.inl (bHn [] z)) (λe=>Sum.inr (([]:List ay),e)) (jY (λp=>dp w.score r.bp (bK r.form) (ch l p)) w.score.parts [])) ?_).trans ?_
 ·refine(
      cu (st:=λ(z:List ay) k=>(bHn [] z,k)) (l:=w.score.parts) (λz p=>if(dp w.score r.bp (bK r.form) (ch l p)).2=0 then(Sum.inl (z++(dp w.score r.bp (bK r.form) (ch l p)).1):List ay⊕(List ay⊕(List ay×Int)))else Sum.inr (Sum.inr ([],(dp w.score r.bp (bK r.form) (ch l p)).2))) (λz=>Sum.inl (bHn [] z)) (λk z=>z.length<=400000000*k/\∀x∈z,dY x) (λk p z B Z=>?_) (λk p z z' B Z F=>?_) (λz _=>ag (da (by dsimp only;omega))) [] ⟨by simp,λx B=>by cases B⟩).trans (dn some (EJ (λp=>dp w.score r.bp (bK r.form) (ch l p)) (λz=>Sum.inl (bHn [] z)) (λe=>Sum.inr ([],e)) w.score.parts []))
  ·have aq:=aZ B;dsimp only;refine(ah (c3 (by omega))).trans ?_;refine(di (x:=if(dp w.score r.bp (bK r.form) (ch l p)).2=0 then Sum.inl (bHn [] (z++(dp w.score r.bp (bK r.form) (ch l p)).1))else Sum.inr (Sum.inr (Sum.inr ([],(dp w.score r.bp (bK r.form) (ch l p)).2)))) ?_).trans (by
    split
    ·rw[Sum.elim_inl,av (by omega)];rfl
    rfl)
   refine(au (Ev (l:=l) (by omega) (λv=>decide (v.part=p.id)) (λy=>y) (λj v y aj aJ=>?_) (λy=>ag (da (by dsimp only;omega))))).trans ?_
   ·have G:=aZ aj;dsimp only;refine(ah (c3 (by omega))).trans ((au (x:=if decide (v.part=p.id)=true then y++[v]else y) ((au (aF aj)).trans ((au (aF B)).trans ?_))).trans (av (by omega)));by_cases U:v.part=p.id
    ·rw[if_pos (c3 U)];refine(ah (c3 U)).trans ((au (aF aj)).trans (bG (c3 ?_)));have e:(List.append y (v::([]:List View))).length=y.length+1:=dT;rw[e];omega
    rw[if_neg (by simp[U])];exact ag (da U)
   show ab (aC ((ch l p).length:Int) 0) _ (aa (xL (ch l p)) _)=_;have aw:(ch l p).length<=l.length:=hW _ _;cases h0:(ch l p)[0]? with
   |none=>
    have aK:=u6.1 h0;have O:dp w.score r.bp (bK r.form) (ch l p)=([],0):=by unfold dp;rw[h0];rfl
    refine(ah (c3 (by omega))).trans ?_;rw[O,iu];exact dn some (if_pos rfl).symm
   |some v0=>
    have ak:=N0 hv h0;have aM:=aZ h0;have O:dp w.score r.bp (bK r.form) (ch l p)=(if(fc (ch l p) v0).2=0 then lE w.score r.bp (bK r.form) (fc (ch l p) v0).1 else([],(fc (ch l p) v0).2)):=by unfold dp;rw[h0];rfl
    refine(ag (da (by omega))).trans ((au (aaz h0 ak (by omega))).trans ?_);by_cases G:(fc (ch l p) v0).2=0
    ·obtain⟨N,aB⟩:=MC h0 ak G;rw[O.trans (if_pos G)];refine(ag (by simp[G])).trans ?_;generalize (fc (ch l p) v0).1=v at N;have aw:=NY v r.bp;have:=N.1;have:=N.2.1;have ax:=Ct z [];rw[List.length_nil]at ax;refine(au (OO h M (v:=v) (by omega) (by omega) N (by omega) H5 (by omega) (jk (λx B=>by cases B) Z.2))).trans ?_;unfold lE;by_cases F:(fe w.score (ey v r.bp)).2=0
     ·rw[if_pos F,if_pos F,if_pos rfl];refine(ag rfl).trans ?_;rw[Hj]
     rw[if_neg F,if_neg F,if_neg F];exact ah (by simp[F])
    rw[O.trans (if_neg G)];refine Eq.trans ?_ (dn some (if_neg G).symm);exact ah (by simp[G])
  by_cases ae:(dp w.score r.bp (bK r.form) (ch l p)).2=0
  ·rw[if_pos ae]at F;cases F;obtain⟨az,aN⟩:=w5 ai al (ch l p) ae;refine⟨by rw[dT];omega,λx B=>(hD.1 B).elim (Z.2 x) (az x)⟩
  rw[if_neg ae]at F;cases F
 cases ad:jY (λp=>dp w.score r.bp (bK r.form) (ch l p)) w.score.parts []with
 |inr e=>rfl
 |inl z=>
  obtain⟨aA,aP⟩:=yS (λp=>w5 ai al (ch l p)) _ _ _ (λx B=>by cases B) ad;show some (bHn [] z,0)=some (ir z,0);rw[Oq aA]
end
def Uw(a b:ay):Km a b=decide (a=b):=by
 obtain⟨j,⟨k,B⟩,⟨F,G⟩,⟨M,N,O⟩⟩:=a;obtain⟨U,⟨Y,Z⟩,⟨aa,ab⟩,⟨ad,ae,af⟩⟩:=b;rw[gl,ea];simp only[ay.mk.injEq,Rat.mk.injEq,aV.mk.injEq];show c9 [.int .i64 j,.int .i64 k,.int .i64 B,.int .i64 F,.int .i64 G,.int .i64 M,.int .i64 N,.int .i64 O] [.int .i64 U,.int .i64 Y,.int .i64 Z,.int .i64 aa,.int .i64 ab,.int .i64 ad,.int .i64 ae,.int .i64 af]=true↔_;simp[c9,gB,mv]
def HQ{a b:List ay}(M:a.length<=1000000000000):mL (a,b)=some (decide (a=b)):=by
 unfold mL;dsimp only;by_cases hl:a.length=b.length
 ·rw[ag (by simp[hl]),M4 hl (λk x y B F=>by
   have G:=aZ B;rw[ah (by simpa using G),aY (aF B),aY (aF F),Uw];by_cases j:x=y
   ·rw[ag (by simp[j]),av (by omega),if_pos j];rfl
   rw[ah (by simp[j]),if_neg j]) (by rw[ag (by simp)])]
  by_cases j:a=b
  ·rw[if_pos j,c3 j];rfl
  rw[if_neg j,da j];rfl
 rw[ah (by simp;omega),da (λe=>hl (by rw[e]))]
def PU(l:List ay):(ir l).length=l.length:=(oj _ _).length_eq
def KW{s:Score}(k:cI s){v:View}(h:v∈s.parts.flatMap (ef s)):dj s v:=by
 obtain⟨p,j,h⟩:=k0.1 h;obtain⟨n,_,rfl⟩:=gg.1 h;exact vG (qf k j) _
def VR{s:Score}(j:cI s):(s.parts.flatMap (ef s)).length<=2400:=by
 have M:=j.2.2.1.1.2;have:∀(ps:List Part),(∀p∈ps,p∈s.parts)->(ps.flatMap (ef s)).length<=40*ps.length:=by
  intro ps;induction ps with
  |nil=>intro _;simp
  |cons p ps B=>
   intro h;have:=B λq k=>h q (by simp[k]);obtain⟨F,G⟩:=x6 j (h p (by simp));have e:(ef s p).length=p.dC.toNat:=by simp[ef,jZ]
   rw[hL,dT,List.length_cons];omega
 have:=this s.parts λ_ h=>h;omega
def Wf:aT:=⟨1,⟨4,1⟩,0⟩
def lR:Part:=⟨1,0,0,0,2,⟨0,0⟩,⟨0,0,0⟩,⟨0,0,8⟩⟩
def mB:Part:=⟨2,0,1,1,1,⟨0,0⟩,⟨0,0,0⟩,⟨0,0,8⟩⟩
def K9:aq:=⟨5,1,1,0,0,⟨0,1⟩,⟨1,1⟩,⟨0,0,4⟩⟩
def dt:Score:=⟨3,[Wf],[lR,mB],[K9]⟩
def kJ:c8:=⟨dt,⟨0,[],[],⟨0,0,0⟩,[]⟩,[]⟩
def tH(cs:List Cut):Form:=⟨1,[⟨0,1,2⟩],[],⟨0,0,0⟩,cs⟩
def qa(C8:Int)(cs:List Cut):Room:=⟨C8,tH cs,[]⟩
def wh:List Cut:=[⟨0,1,1⟩]
def eU(part start j:Int):ay:=⟨part,⟨start,1⟩,⟨1,1⟩,⟨0,0,j⟩⟩
theorem Wr:GC ()=some (kJ,qa 3 []):=rfl
theorem ru:cI dt:=⟨by decide +kernel,by decide +kernel,by decide +kernel,by decide +kernel,by decide +kernel,(PS (m:=[K9]) (List.pairwise_singleton _ _) (.refl _) (by decide +kernel)).symm⟩
def zL(C8:Int)(cs:List Cut)(h:cs.length<=10):lz kJ (qa C8 cs):=⟨by decide,⟨by show 1<=1048576;omega,by show 0<=1048576;omega,by show cs.length<=1048576;omega⟩,by show 0<=1048576;omega⟩
def La:jc kJ (qa 3 []):=⟨ru,rfl,by decide +kernel,rfl,by decide +kernel⟩
def Wi:jc kJ (qa 3 wh):=⟨ru,rfl,by decide +kernel,rfl,by decide +kernel⟩
def Lh:bK (tH [])=[⟨0,1⟩,⟨0,2⟩]:=by decide +kernel
def Wp:bK (tH wh)=[⟨0,2⟩]:=by decide +kernel
def wi:List ay:=[eU 1 0 4,eU 2 0 5,eU 1 4 4,eU 2 4 5]
def Ld:kl dt [] [⟨0,1⟩,⟨0,2⟩]=[eU 1 0 4,eU 1 4 4,eU 2 0 5,eU 2 4 5]:=by decide +kernel
def Wk:kl dt [] [⟨0,2⟩]=[eU 1 0 4,eU 2 0 5]:=by decide +kernel
def Lg:ir (kl dt [] [⟨0,1⟩,⟨0,2⟩])=wi:=
 H4 (by rw[Ld];exact .cons _ (.swap _ _ _)) (yh ru (by decide)).1 (by decide +kernel)
def Wo:ir (kl dt [] [⟨0,2⟩])=[eU 1 0 4,eU 2 0 5]:=
 H4 (by rw[Wk]) (yh ru (by decide)).1 (by decide +kernel)
def Wl:nY (kJ,qa 3 [])=some (wi,0):=by
 rw[CJ (zL 3 [] (by decide)),if_pos La];show some (ir (kl dt [] (bK (tH []))),0)=_;rw[Lh,Lg]
def Wm:nY (kJ,qa 3 wh)=some ([eU 1 0 4,eU 2 0 5],0):=by
 rw[CJ (zL 3 wh (by decide)),if_pos Wi];show some (ir (kl dt [] (bK (tH wh))),0)=_;rw[Wp,Wo]
def Wn:nY (kJ,qa 2 [])=some ([],1):=by
 rw[CJ (zL 2 [] (by decide)),if_neg (λh=>absurd h.2.1 (by decide))]
def Lk(p:Part)(h:∀w∈bD (dB dt p),w.aS=0):eP (dB dt p)=[]:=by
 rw[F4];intro a j;obtain⟨h0,w,k,rfl⟩:=(Da _ _).1 j;exact h0 (h w k)
def Li:eP (dB dt lR)=[]:=Lk _ (by decide +kernel)
def Lj:eP (dB dt mB)=[]:=Lk _ (by decide +kernel)
def Wj:(dt.parts.all λp=>!gu dt p)=true:=by
 show(!gu dt lR&&(!gu dt mB&&true))=true;unfold gu;rw[Li,Lj];rfl
theorem Wg:pr kJ=some (dt.parts.flatMap (ef dt),0):=(KX (w:=kJ) (by decide) ru).trans (by rw[if_pos (show(kJ.score.parts.all λp=>!gu kJ.score p)=true from Wj)];rfl)
def lQ(p:Part):View:=dB dt p
def rr:List View:=[lQ lR,lQ lR,lQ mB]
def Er:dt.parts.flatMap (ef dt)=rr:=by
 show ef dt lR++(ef dt mB++[])=_;unfold ef;rw[Li,Lj];kernel_rfl
def Wh:(dt.parts.flatMap (ef dt)).length=3:=by rw[Er];rfl
def ab8(w:Written):cq [w]=[w]:=List.perm_singleton.1 (jO [w])
theorem Lb(l:List View)(v:View)(m:aB)(w:Written)(hl:¬100<l.length)(j:v.aK=[m])(k:l.foldlM (gV 0) []=some [w])(B:m.notes=[w]):fc l v=(v,0):=by
 have e:oQ l v=some (1,[m]):=by
  unfold oQ;rw[j];show(gM l (0,[]) m).bind (λz=>some z)=_;unfold gM;show((l.foldlM (gV 0) []).elim none _).bind _=_;rw[k];show some ((0:Int)+((cq [w]).length:Int),[]++[(⟨m.aw,m.key,m.length,cq [w]⟩:aB)])=_;simp only[ab8,List.nil_append,List.length_singleton];rw[<-B];rfl
 unfold fc;rw[if_neg hl,e];show(if(20000:Int)<1 then(zeroV,(2:Int))else((⟨v.part,[m]⟩:View),0))=_;rw[if_neg (by decide),<-j]
theorem Lc(p:Part)(l:List View)(ts:List ay)(k:p∈dt.parts)(h0:l[0]?=some (lQ p))(j:fc l (lQ p)=(lQ p,0))(hv:eM dt.bars (λb=>(dt.bars.flatMap (gx dt p [])).filter λn=>decide (n.aw=b.id)) [⟨0,1⟩,⟨0,2⟩] 0=ts):dp dt [] [⟨0,1⟩,⟨0,2⟩] l=(ts,0):=by
 unfold dp;rw[h0];show(if(fc l (lQ p)).2=0 then _ else _)=_;rw[j,if_pos rfl];unfold lE lQ;rw[yx ru k,if_pos rfl,<-hv]
def Wq:uW (kJ,(qa 3 [],dt.parts.flatMap (ef dt)))=some (wi,0):=by
 have hv:∀v∈rr,dj dt v:=λv h=>KW ru (by rw[Er];exact h);rw[Er,QF (zL 3 [] (by decide)) (.inr (by decide +kernel))];unfold sM;rw[if_neg (by show ¬2400<3;decide),if_pos La,if_pos (show ∀v∈rr,dj kJ.score v from hv)];have j:dp dt [] [⟨0,1⟩,⟨0,2⟩] (ch rr lR)=([eU 1 0 4,eU 1 4 4],0):=Lc lR _ _ (by decide) (by kernel_rfl) (Lb _ _ (hl:=by decide +kernel) (m:=((lQ lR).aK[0]?).getD ⟨0,0,⟨0,0⟩,[]⟩) (w:=((vN 0 (lQ lR))[0]?).getD ⟨0,0,0,⟨0,0⟩,⟨0,0⟩,⟨0,0,0⟩⟩) (by kernel_rfl) (by kernel_rfl) (by kernel_rfl)) (by kernel_rfl);have k:dp dt [] [⟨0,1⟩,⟨0,2⟩] (ch rr mB)=([eU 2 0 5,eU 2 4 5],0):=Lc mB _ _ (by decide) (by kernel_rfl) (Lb _ _ (hl:=by decide +kernel) (m:=((lQ mB).aK[0]?).getD ⟨0,0,⟨0,0⟩,[]⟩) (w:=((vN 0 (lQ mB))[0]?).getD ⟨0,0,0,⟨0,0⟩,⟨0,0⟩,⟨0,0,0⟩⟩) (by kernel_rfl) (by kernel_rfl) (by kernel_rfl)) (by kernel_rfl);show some (Sum.elim _ _ (jY (λp=>dp dt [] (bK (tH [])) (ch rr p)) [lR,mB] []))=_;rw[Lh];have e:jY (λp=>dp dt [] [⟨0,1⟩,⟨0,2⟩] (ch rr p)) [lR,mB] []=.inl [eU 1 0 4,eU 1 4 4,eU 2 0 5,eU 2 4 5]:=by
  simp only[jY,j,k];rfl
 rw[e];show some (ir _,(0:Int))=_;rw[<-Ld,Lg]
theorem head_eq:xe ()=some true:=by
 unfold xe;refine(au Wr).trans ?_;refine(au Wl).trans ((au Wg).trans ((au Wq).trans ((au Wm).trans ((au Wn).trans ?_))));refine(au (x:=true) ?_).trans ?_
 ·refine(ah rfl).trans ((ah rfl).trans ((ah rfl).trans ((ah rfl).trans ((ah rfl).trans (dn some (c3 ?_))))));exact dn Int.ofNat Wh
 have j:mL (wi,wi)=some true:=(HQ (by decide)).trans (dn some (c3 rfl));have s1:mL ([eU 1 0 4,eU 2 0 5],[eU 1 0 4,eU 2 0 5])=some true:=(HQ (by decide)).trans (dn some (c3 rfl));refine(au (x:=(⟨0,1⟩:Rat)) rfl).trans ((au (x:=(⟨1,1⟩:Rat)) rfl).trans ((au (x:=(⟨0,1⟩:Rat)) rfl).trans ((au (x:=(⟨1,1⟩:Rat)) rfl).trans ((au (x:=(⟨4,1⟩:Rat)) rfl).trans ((au (x:=(⟨1,1⟩:Rat)) rfl).trans ((au (x:=(⟨4,1⟩:Rat)) rfl).trans ((au (x:=(⟨1,1⟩:Rat)) rfl).trans ?_)))))));refine(au (x:=true) ?_).trans rfl;refine(ah rfl).trans ((au j).trans ((ah rfl).trans ((au j).trans ((ah rfl).trans ((bG (by decide)).trans (au s1))))))
def adx(f:Nat)(t:Ty)(x:t.den):1<=cj (f+1) t x:=by cases t<;>simp[cj]
def sQ(f:Nat)(t:Ty)(xs:List t.den):xs.length+1<=cj (f+2) (.list t) xs:=by
 show xs.length+1<=(List.map (λx=>cj (f+1) t x) xs).sum+1;have:∀l:List t.den,l.length<=(List.map (λx=>cj (f+1) t x) l).sum:=λl=>by
  induction l with
  |nil=>exact j3 _
  |cons x l j=>have:=adx f t x;simp only[List.length_cons,e7,List.sum_cons];omega
 have:=this xs;omega
theorem wtS{s:Score}{f:Nat}:s.bars.length<=cj (f+4) (.st 6) s:=by
 have e:cj (f+4) (.st 6) s=1+(cj (f+3) (.list (.st 1)) s.bars+(cj (f+3) (.list (.st 4)) s.parts+cj (f+3) (.list (.st 5)) s.notes))+1:=rfl;have j:s.bars.length+1<=cj (f+3) (.list (.st 1)) s.bars:=sQ (f+1) (.st 1) s.bars;omega
theorem wtF{x:Form}{f:Nat}(h:cj (f+4) (.st 11) x<=1048576):pD x:=by
 have e:cj (f+4) (.st 11) x=1+(cj (f+3) (.list (.st 8)) x.bg+(cj (f+3) (.list (.st 9)) x.bC+(cj (f+3) (.st 7) x.jump+cj (f+3) (.list (.st 10)) x.bd)))+1:=rfl;have j:x.bg.length+1<=cj (f+3) (.list (.st 8)) x.bg:=sQ (f+1) (.st 8) x.bg;have k:x.bC.length+1<=cj (f+3) (.list (.st 9)) x.bC:=sQ (f+1) (.st 9) x.bC;have B:x.bd.length+1<=cj (f+3) (.list (.st 10)) x.bd:=sQ (f+1) (.st 10) x.bd;exact⟨by omega,by omega,by omega⟩
theorem abY{w:c8}{r:Room}(h0:cj 9 (.st 13) w<=1048576)(M:cj 9 (.st 14) r<=1048576):lz w r:=by
 have F:cj 9 (.st 13) w=cj 8 (.st 6) w.score+(cj 8 (.st 11) w.form+cj 8 (.list (.st 12)) w.Il)+1:=rfl;have G:cj 9 (.st 14) r=1+(cj 8 (.st 11) r.form+cj 8 (.list (.int .i64)) r.bp)+1:=rfl;have k:w.score.bars.length<=cj 8 (.st 6) w.score:=wtS (f:=4);have B:r.bp.length+1<=cj 8 (.list (.int .i64)) r.bp:=sQ 6 (.int .i64) r.bp;have j:cj 8 (.st 11) r.form<=1048576:=by omega
 exact⟨by omega,wtF (f:=4) j,by omega⟩
end Go.Proofs.YthhlipkkjippfaaGreatDoor
namespace Go.Proofs
open Go.Shelf
def Tryz.Fu:Go.Shelf.Ren:=⟨λ|7=>206|10=>276|n=>n,λ|23=>54|26=>3|3=>4|28=>208|0=>0|27=>207|33=>189|4=>4|n=>n,λ|n=>n⟩
def Tryz.MJ:Go.Proofs.SlLaysZI.n7 Tryz.prog Tryz.Fu:={
 mixed:=by kernel_rfl
 f7:=⟨Tryz.f206.name,by decide,Tryz.func206.trans (dn some (by kernel_rfl))⟩
 f10:=⟨Tryz.f276.name,by decide,Tryz.func276.trans (dn some (by kernel_rfl))⟩
 t0:=Tryz.underlying0
 a0:=Tryz.isAgg0
 z0:=Tryz.sizeOf0
 v0:=Tryz.zeroValue0
 t4:=Tryz.underlying4
 a4:=Tryz.isAgg4
 z4:=Tryz.sizeOf4
 v4:=Tryz.zeroValue4
 t23:=Tryz.underlying54
 a23:=Tryz.isAgg54
 z23:=Tryz.sizeOf54
 v23:=Tryz.zeroValue54
 t26:=Tryz.underlying3
 a26:=Tryz.isAgg3
 z26:=Tryz.sizeOf3
 v26:=Tryz.zeroValue3
 t27:=Tryz.underlying207
 a27:=Tryz.isAgg207
 z27:=Tryz.sizeOf207
 v27:=Tryz.zeroValue207
 t28:=Tryz.underlying208
 a28:=Tryz.isAgg208
 z28:=Tryz.sizeOf208
 v28:=Tryz.zeroValue208
 t33:=Tryz.underlying189
 a33:=Tryz.isAgg189
 z33:=Tryz.sizeOf189
 v33:=Tryz.zeroValue189}
def Tryz.PW:Go.Shelf.Ren:=⟨λ|6=>205|8=>274|9=>275|11=>303|13=>161|12=>304|23=>249|24=>250|14=>324|15=>325|16=>326|17=>327|18=>328|19=>329|20=>330|21=>331|22=>332|25=>338|26=>288|27=>289|28=>339|29=>340|30=>260|31=>342|n=>n,λ|26=>3|28=>208|24=>37|0=>0|3=>3|37=>234|48=>290|50=>292|4=>4|40=>284|39=>283|45=>221|5=>5|9=>9|51=>311|55=>315|57=>327|58=>309|33=>189|n=>n,λ|n=>n⟩
def Tryz.acd:Go.Proofs.SlLaysZI.n6 Tryz.prog Tryz.PW:={
 mixed:=by kernel_rfl
 f6:=⟨Tryz.f205.name,by decide,Tryz.func205.trans (dn some (by kernel_rfl))⟩
 f8:=⟨Tryz.f274.name,by decide,Tryz.func274.trans (dn some (by kernel_rfl))⟩
 f11:=⟨Tryz.f303.name,by decide,Tryz.func303.trans (dn some (by kernel_rfl))⟩
 t0:=Tryz.underlying0
 a0:=Tryz.isAgg0
 z0:=Tryz.sizeOf0
 v0:=Tryz.zeroValue0
 t24:=Tryz.underlying37
 a24:=Tryz.isAgg37
 z24:=Tryz.sizeOf37
 v24:=Tryz.zeroValue37
 t26:=Tryz.underlying3
 a26:=Tryz.isAgg3
 z26:=Tryz.sizeOf3
 v26:=Tryz.zeroValue3
 t28:=Tryz.underlying208
 a28:=Tryz.isAgg208
 z28:=Tryz.sizeOf208
 v28:=Tryz.zeroValue208
 i26:=by kernel_rfl}
def Tryz.ab3:Go.Shelf.Ren:=⟨λ|5=>275|8=>161|7=>304|19=>249|20=>250|10=>324|11=>325|12=>326|13=>327|14=>328|15=>329|16=>330|17=>331|18=>332|30=>338|31=>288|32=>289|33=>339|34=>340|35=>260|40=>342|n=>n,λ|23=>37|25=>3|3=>3|32=>234|22=>37|0=>0|44=>290|46=>292|4=>4|36=>284|35=>283|41=>221|5=>5|9=>9|53=>311|57=>315|63=>327|64=>309|n=>n,λ|n=>n⟩
def Tryz.sortInt:Go.Proofs.SlLaysM.n5 Tryz.prog Tryz.ab3:={
 mixed:=by kernel_rfl
 f5:=⟨Tryz.f275.name,by decide,Tryz.func275.trans (dn some (by kernel_rfl))⟩
 f7:=⟨Tryz.f304.name,by decide,Tryz.func304.trans (dn some (by kernel_rfl))⟩
 f8:=Tryz.func161.trans (dn some (by kernel_rfl))
 f10:=⟨Tryz.f324.name,by decide,Tryz.func324.trans (dn some (by kernel_rfl))⟩
 f11:=⟨Tryz.f325.name,by decide,Tryz.func325.trans (dn some (by kernel_rfl))⟩
 f12:=⟨Tryz.f326.name,by decide,Tryz.func326.trans (dn some (by kernel_rfl))⟩
 f13:=⟨Tryz.f327.name,by decide,Tryz.func327.trans (dn some (by kernel_rfl))⟩
 f14:=⟨Tryz.f328.name,by decide,Tryz.func328.trans (dn some (by kernel_rfl))⟩
 f15:=⟨Tryz.f329.name,by decide,Tryz.func329.trans (dn some (by kernel_rfl))⟩
 f16:=⟨Tryz.f330.name,by decide,Tryz.func330.trans (dn some (by kernel_rfl))⟩
 f17:=⟨Tryz.f331.name,by decide,Tryz.func331.trans (dn some (by kernel_rfl))⟩
 f18:=⟨Tryz.f332.name,by decide,Tryz.func332.trans (dn some (by kernel_rfl))⟩
 f19:=Tryz.func249.trans (dn some (by kernel_rfl))
 f20:=Tryz.func250.trans (dn some (by kernel_rfl))
 f30:=⟨Tryz.f338.name,by decide,Tryz.func338.trans (dn some (by kernel_rfl))⟩
 f31:=Tryz.func288.trans (dn some (by kernel_rfl))
 f32:=Tryz.func289.trans (dn some (by kernel_rfl))
 f33:=⟨Tryz.f339.name,by decide,Tryz.func339.trans (dn some (by kernel_rfl))⟩
 f34:=⟨Tryz.f340.name,by decide,Tryz.func340.trans (dn some (by kernel_rfl))⟩
 f35:=⟨Tryz.f260.name,by decide,Tryz.func260.trans (dn some (by kernel_rfl))⟩
 f40:=⟨Tryz.f342.name,by decide,Tryz.func342.trans (dn some (by kernel_rfl))⟩
 t0:=Tryz.underlying0
 a0:=Tryz.isAgg0
 z0:=Tryz.sizeOf0
 v0:=Tryz.zeroValue0
 t3:=Tryz.underlying3
 a3:=Tryz.isAgg3
 z3:=Tryz.sizeOf3
 v3:=Tryz.zeroValue3
 t4:=Tryz.underlying4
 a4:=Tryz.isAgg4
 z4:=Tryz.sizeOf4
 v4:=Tryz.zeroValue4
 t5:=Tryz.underlying5
 a5:=Tryz.isAgg5
 z5:=Tryz.sizeOf5
 v5:=Tryz.zeroValue5
 t9:=Tryz.underlying9
 a9:=Tryz.isAgg9
 z9:=Tryz.sizeOf9
 v9:=Tryz.zeroValue9
 t22:=Tryz.underlying37
 a22:=Tryz.isAgg37
 z22:=Tryz.sizeOf37
 v22:=Tryz.zeroValue37
 t23:=Tryz.underlying37
 a23:=Tryz.isAgg37
 z23:=Tryz.sizeOf37
 v23:=Tryz.zeroValue37
 t25:=Tryz.underlying3
 a25:=Tryz.isAgg3
 z25:=Tryz.sizeOf3
 v25:=Tryz.zeroValue3
 t32:=Tryz.underlying234
 a32:=Tryz.isAgg234
 z32:=Tryz.sizeOf234
 v32:=Tryz.zeroValue234
 t35:=Tryz.underlying283
 a35:=Tryz.isAgg283
 z35:=Tryz.sizeOf283
 v35:=Tryz.zeroValue283
 t36:=Tryz.underlying284
 a36:=Tryz.isAgg284
 z36:=Tryz.sizeOf284
 v36:=Tryz.zeroValue284
 t41:=Tryz.underlying221
 a41:=Tryz.isAgg221
 z41:=Tryz.sizeOf221
 v41:=Tryz.zeroValue221
 t44:=Tryz.underlying290
 a44:=Tryz.isAgg290
 z44:=Tryz.sizeOf290
 v44:=Tryz.zeroValue290
 t46:=Tryz.underlying292
 a46:=Tryz.isAgg292
 z46:=Tryz.sizeOf292
 v46:=Tryz.zeroValue292
 t53:=Tryz.underlying311
 a53:=Tryz.isAgg311
 z53:=Tryz.sizeOf311
 v53:=Tryz.zeroValue311
 t57:=Tryz.underlying315
 a57:=Tryz.isAgg315
 z57:=Tryz.sizeOf315
 v57:=Tryz.zeroValue315
 t63:=Tryz.underlying327
 a63:=Tryz.isAgg327
 z63:=Tryz.sizeOf327
 v63:=Tryz.zeroValue327
 t64:=Tryz.underlying309
 a64:=Tryz.isAgg309
 z64:=Tryz.sizeOf309
 v64:=Tryz.zeroValue309}
end Go.Proofs
namespace Go.Proofs.YthhlipkkjippfaaGreatDoor
open Go Go.ak cL
open Go.Maps Go.Sort Go.Shelf Go.RowKit
set_option maxRecDepth 10000
@[reducible] def nV:nc:=⟨False⟩
attribute [local instance] bP nV
def R0:Value->Option (DataW Unit×List MemPlace):=λ_=>some (.lit (.bool true),[])
def XJ{w:World}{b G:Nat}{j:Array MapEntry}{xs:List Int}(M:dR w.heap[b]? (j,G))(U:j.size=xs.length)(N:∀(i:Nat)(e:MapEntry) x,j[i]?=some e->xs[i]?=some x->e.key=.int .i64 x)(aa:∀x∈xs,-9223372036854775808<=x/\x<=9223372036854775807)(ad:xs.length<=1000000000) :
  ∃D0:DataW Unit,w.ownsMap Tryz.prog 3 R0 b xs.length D0/\(intKeys D0).Perm xs/\Maps.size D0=xs.length:=by
 have ab:∀x∈xs,(Lit.int .i64 x).wf=true:=λx k=>WalkArith.wf_i64 (by have:=aa x k;omega);have Z:∀e∈j.toList,∃x∈xs,e.key=.int .i64 x:=by
  intro e B;obtain⟨i,hi,rfl⟩:=hF.1 B;have Y:i<j.size:=by simpa using hi
  have k:xs[i]?=some xs[i]:=c5 (by omega);exact⟨_,dd k,N i _ _ (by simp[Y]) k⟩
 have O:∀e∈j.toList,∀x∈xs,e.key=.int .i64 x->WideElems.rd Tryz.prog 3 R0 e=some (.int .i64 x,.lit (.bool true)):=by
  intro e B x k F;simp[WideElems.rd,F,keyOf_int_mk Tryz.underlying3 (ab x k),R0]
 refine⟨_,⟨j,G,M.1,⟨by rw[U];unfold maxLen;omega,M.2,λe B=>?_⟩,by omega,rfl⟩,?_,?_⟩
 ·obtain⟨x,k,F⟩:=Z e B;exact⟨_,O e B x k F⟩
 ·show(((j.toList.map (WideElems.rg Tryz.prog 3 R0)).foldr DataW.insert []).map λp=>Go.intOf p.1).Perm xs;refine((WideShapes.sorted_perm _).map _).trans ?_;have:(j.toList.map (WideElems.rg Tryz.prog 3 R0)).map (λp=>Go.intOf p.1)=xs:=by
   apply hX;intro i;rw[e3,e3];by_cases hi:i<j.size
   ·have B:j.toList[i]?=some j[i]:=by simp[hi]
    have k:xs[i]?=some xs[i]:=c5 (by omega);have F:=N i j[i] xs[i] (by simp[hi]) k;have:=O j[i] (dd B) _ (dd k) F;rw[B,k];simp[WideElems.rg,this,Go.intOf]
   rw[hJ (by simp;omega),hJ (by omega)];rfl
  rw[this]
 show((j.toList.map (WideElems.rg Tryz.prog 3 R0)).foldr DataW.insert []).length=xs.length;rw[(WideShapes.sorted_perm _).length_eq];simp[U]
def ab2{xs ys:List Int}(h:xs.Perm ys):jo xs=jo ys:=mergeSort_of_perm_i h
def abu{w:World}{I:aD}{B g:Nat}{cur:Array Value}{e:TypeId}{Y:Nat×Nat}(F:cZ w I)(O:I.dX g)(ab:B<=g)(aa:w.heap[g]?=some (.cells cur e Y)) :
  cZ w (I.dz g cur.toList)/\ff B I (I.dz g cur.toList):=by
 have G:∀b,b≠g->(I.dz g cur.toList).cell b=I.cell b:=λb k=>by funext o;simp[aD.dz,k]
 have N:I.le (I.dz g cur.toList):=⟨λb o v j=>by
  have k:b≠g:=by rintro rfl;rw[O.1 o]at j;cases j
  rw[G b k];exact j,λ_ _ h=>h,λ_ h=>h⟩
 refine⟨⟨λb o v j=>?_,λb U j=>F.mp b U j,F.df,λg d Z=>(F.dK g d Z).mono N⟩,.of N (λb k=>G b (by omega)) (λ_ _=>rfl)⟩;by_cases k:b=g
 ·subst k;simp only[aD.dz,hK]at j;cases M:cur[o]? with
  |none=>simp[M,O.1 o]at j
  |some x=>simp[M]at j;subst j;simp[World.cell?,aa,M]
 rw[G b k]at j;exact F.cell b o v j
def ace(m:Nat):AnyZI.SortsIn Tryz.prog Tryz.PW Fence.wide m:=
 ⟨λoC off j ss W k B F=>va.2 (AnyM.slices_Sort_int Tryz.sortInt oC off j ss W k B F),
  λp j W=>va.2 (AnyM.slices_Sort_int_none Tryz.sortInt p j W)⟩
def Vm(xs:List Int)(vs:List D)(aU:∀x∈xs,-9223372036854775808<=x/\x<=9223372036854775807)(aN:xs.length<=1000000000) :
  gA Tryz.prog 205 [.aH 276 [.box (.map (xs.map enc) vs)]] (.slice 1 ((jo xs).map enc)):=by
 intro w I ao j aj aR;obtain⟨v,rfl⟩:∃v,ao = #[v]:=by
  match ao,aj with
  | ⟨[a]⟩,_=>exact⟨a,rfl⟩
 have hv:=aR 0 v _ rfl rfl;obtain⟨p,rfl,ay⟩:∃p,v=.func (.func 276) #[] #[p]/\Rd I p (.box (.map (xs.map enc) vs)):=by
  generalize xs.map (enc:Int->D)=an at hv⊢;cases hv with
  |aH f ps ds M Y=>
   match ps,M with
   | ⟨[p]⟩,_=>exact⟨p,rfl,Y 0 p _ rfl rfl⟩
 obtain⟨b,G,rfl,ah,ae⟩:∃b G,p=.pointer (some ⟨b,0,none⟩)/\w.cell? ⟨b,0,none⟩=some (.map G)/\Rd I (.map G) (.map (xs.map enc) vs):=by
  generalize xs.map (enc:Int->D)=an at ay⊢;cases ay with
  |box b d val M Y ag=>
   have ar:=Y 0 (by simp[D.cells]);have ab:=ag 0 _ rfl;obtain⟨G,aO⟩:∃G,val 0=.map G:=by
    generalize val 0=z at ab;cases ab<;>exact⟨_,rfl⟩
   rw[aO]at ar ab;exact⟨b,G,rfl,j.cell _ _ _ ar,ab⟩
 have au:b<w.heap.size:=World.block_lt_of_cell? w ⟨b,0,none⟩ ah;have aB:∀(S:List Int->Prop)(N:Nat),N<=1000000000->SeqGives Fence.wide 2 Tryz.prog 276 #[.pointer (some ⟨b,0,none⟩)] encZ S N w->(∀ss,S ss->jo ss=jo xs) ->
   Calls Tryz.prog 205 #[.func (.func 276) #[] #[.pointer (some ⟨b,0,none⟩)]] w λe w'=>∃v J,e=.returned v/\dq w.heap.size w w'/\ff w.heap.size I J/\cZ w' J/\Rd J v (.slice 1 ((jo xs).map enc)):=by
  intro S N a8 aS aG;have aq:=AnyZI.sorted_in Tryz.acd Fence.wide 5 trivial trivial trivial trivial rfl (by omega) (ace _) (enters_of Tryz.func275 (by kernel_rfl) rfl) 276 #[.pointer (some ⟨b,0,none⟩)] trivial (enters_of Tryz.func276 (by kernel_rfl) rfl) S N (by unfold maxLen;omega) (by omega) w aS;change CallsIn _ _ Tryz.prog 205 _ _ _ at aq;refine((va (n:=5)).1 aq).mono ?_;rintro e w' ⟨v,ss,rfl,aI,aa,_,aJ⟩;have al:=aG ss aI;unfold jo at al;have aj:(jo xs).length=xs.length:=by unfold jo;rw[(q2 _ _).length_eq]
  change ss.mergeSort leI=jo xs at al;rw[al]at aa;generalize jo xs=ys at aa aj;obtain⟨n,aa⟩:∃n,w'.ownsRow w.heap.size 3 1 v n (ys.map encZ):=⟨_,aa⟩;have Z:dq w.heap.size w w':=dq.of aJ λh=>h.elim;have az:cZ w' I:=⟨λb o u O=>(ma (w:=w) (a:=⟨b,o,none⟩) (Z.block b (j.lt O))).trans (j.cell b o u O),λb F O=>by
   exact dR.to (Z.block b (j.nM O)) (j.mp b F O),λb ad=>(Z.block b (j.kW ad)).trans (j.df b ad),j.dK⟩
  obtain⟨ak,⟨rfl,h0⟩| ⟨g,a6,cur,rfl,av,ai,aP,aK,ba,aT⟩⟩:=aa
  ·have:ys=[]:=by simpa [h0]using ak
   subst this;exact⟨_,I,rfl,Z,ff.refl _ _,az,.ko _ _ _ (j3 _)⟩
  have aQ:=j.dX av;obtain⟨aW,aX⟩:=abu (B:=w.heap.size) az aQ av ai;refine⟨_,_,rfl,Z,aX,aW,.slice _ _ _ _ _ _ (λk=>(cur[k]?).getD undef) (by simpa using ak) aP aK (λd ad=>?_) (λk aw=>?_) (λk x U=>?_)⟩
  ·obtain⟨y,_,rfl⟩:=gg.1 ad;simp[tG,D.cells,D.one]
  ·have:cur[k]?=some (cur[k]'(by omega)):=e5 (by omega);simp[aD.dz,this]
  have aM:flat (ys.map (enc:Int->D))=ys.map enc:=by
   unfold flat;rw[q5];simp[tG,D.cells];rw[<-List.map_eq_flatMap];exact hN λz _=>(tG z).symm
  rw[aM]at U;have aw:k<ys.length:=by have:=(db.1 U).1;simpa using this
  have aA:ys[k]?=some ys[k]:=c5 aw;have aV:x=enc ys[k]:=by simpa [aA]using U.symm
  have O:cur[k]?=some (encZ ys[k]):=by
   have M:(cur.toList.take (n*1))[k]?=(ys.map encZ)[k]?:=by rw[aT]
   rw[List.getElem?_take_of_lt (by simp at ak;omega)]at M;simpa [aA]using M
  rw[O,aV,tG];exact .int _ _
 cases G with
 |none=>
  have U:xs=[]:=by
   generalize ax:xs.map (enc:Int->D)=an at ae;cases ae;simpa using ax
  subst U;exact aB (λss=>ss=[]) 0 (by omega) (AnyZI.keys_gives_nil (ρ:=Tryz.Fu) {Tryz.MJ with} Fence.wide _ trivial rfl b w au ah) (λss h=>by rw[h])
 |some af=>
  obtain⟨⟨F,aC⟩,M,Y,ag⟩:∃F:ME,I.mp af=some F/\F.1.size=(xs.map (enc:Int->D)).length/\∀(i:Nat)(e:MapEntry)(d:D),F.1[i]?=some e->(xs.map (enc:Int->D))[i]?=some d->Rd I e.key d:=by
   generalize ax:xs.map (enc:Int->D)=an at ae;cases ae with
   |map _ F _ _ aY aZ bb a1 bc=>exact⟨F,aY,aZ,a1⟩
  have ai:=j.mp af (F,aC) M;obtain⟨D0,aE,aF,a7⟩:=XJ (xs:=xs) ai (by simpa using Y) (λi e x aL U=>by
   have:=ag i e (enc x) aL (by simp[U]);rw[tG]at this;generalize e.key=z at this;cases this;rfl) aU aN
  exact aB (λss=>ss.Perm (intKeys D0)) (Maps.size D0) (by omega) (AnyZI.keys_gives (ρ:=Tryz.Fu) {Tryz.MJ with} Fence.wide _ trivial rfl (by omega) b af xs.length D0 w au ah aE) (λss h=>ab2 (h.trans aF))
open Go.Sy
noncomputable def zj:Sy.Callee:=⟨205,[.aH 276 (.box (.map (.int .i64) .bool))],[.list (.int .i64)],xS⟩
def XF:gZ Tryz.prog zj:=
 ⟨Enters.of Tryz.func205 (by decide),λa r h=>(by
  change List (Int×Bool)at a;change List Int at r;have h:xS a=some r:=h;unfold xS ae at h;split at h
  ·rename_i j;injection h with h;subst h;simp only[dk,ek,ea]at j;obtain⟨B,M⟩:=j;have:=Vm (a.map (·.1)) (a.map λp=>D.bool p.2) (λx G=>by
    obtain⟨p,F,rfl⟩:=gg.1 G;exact B p F) (by rw[hP];omega)
   have k:(a.map (·.1)).map (enc:Int->D)=a.map λp=>D.int .i64 p.1:=by rw[k7];rfl
   rw[k]at this;exact this
  ·cases h),
  λt h=>cy (ek.1 (rfl:zj.args.all dN=true) t h),λt h=>cy (ek.1 (rfl:zj.res.all dN=true) t h)⟩
noncomputable def Uh:Bk:=⟨zj,XF⟩
end Go.Proofs.YthhlipkkjippfaaGreatDoor
namespace Go.Proofs
open Go.Shelf
def Tryz.ab4:Go.Shelf.Ren:=⟨λ|6=>272|15=>161|14=>302|28=>249|29=>250|20=>316|21=>317|22=>318|23=>319|24=>320|25=>321|26=>322|27=>323|46=>335|47=>288|48=>289|49=>336|50=>337|57=>341|n=>n,λ|22=>24|24=>126|25=>302|3=>3|39=>234|0=>0|53=>290|55=>292|4=>4|46=>284|45=>283|50=>221|5=>5|9=>9|66=>311|70=>315|76=>327|77=>309|n=>n,λ|n=>n⟩
def Tryz.PR:Go.Proofs.SlLaysF0.n6 Tryz.prog Tryz.ab4:={
 mixed:=by kernel_rfl
 f6:=⟨Tryz.f272.name,by decide,Tryz.func272.trans (dn some (by kernel_rfl))⟩
 f14:=⟨Tryz.f302.name,by decide,Tryz.func302.trans (dn some (by kernel_rfl))⟩
 f15:=Tryz.func161.trans (dn some (by kernel_rfl))
 f20:=⟨Tryz.f316.name,by decide,Tryz.func316.trans (dn some (by kernel_rfl))⟩
 f21:=⟨Tryz.f317.name,by decide,Tryz.func317.trans (dn some (by kernel_rfl))⟩
 f22:=⟨Tryz.f318.name,by decide,Tryz.func318.trans (dn some (by kernel_rfl))⟩
 f23:=⟨Tryz.f319.name,by decide,Tryz.func319.trans (dn some (by kernel_rfl))⟩
 f24:=⟨Tryz.f320.name,by decide,Tryz.func320.trans (dn some (by kernel_rfl))⟩
 f25:=⟨Tryz.f321.name,by decide,Tryz.func321.trans (dn some (by kernel_rfl))⟩
 f26:=⟨Tryz.f322.name,by decide,Tryz.func322.trans (dn some (by kernel_rfl))⟩
 f27:=⟨Tryz.f323.name,by decide,Tryz.func323.trans (dn some (by kernel_rfl))⟩
 f28:=Tryz.func249.trans (dn some (by kernel_rfl))
 f29:=Tryz.func250.trans (dn some (by kernel_rfl))
 f46:=⟨Tryz.f335.name,by decide,Tryz.func335.trans (dn some (by kernel_rfl))⟩
 f47:=Tryz.func288.trans (dn some (by kernel_rfl))
 f48:=Tryz.func289.trans (dn some (by kernel_rfl))
 f49:=⟨Tryz.f336.name,by decide,Tryz.func336.trans (dn some (by kernel_rfl))⟩
 f50:=⟨Tryz.f337.name,by decide,Tryz.func337.trans (dn some (by kernel_rfl))⟩
 f57:=⟨Tryz.f341.name,by decide,Tryz.func341.trans (dn some (by kernel_rfl))⟩
 t0:=Tryz.underlying0
 a0:=Tryz.isAgg0
 z0:=Tryz.sizeOf0
 v0:=Tryz.zeroValue0
 t3:=Tryz.underlying3
 a3:=Tryz.isAgg3
 z3:=Tryz.sizeOf3
 v3:=Tryz.zeroValue3
 t4:=Tryz.underlying4
 a4:=Tryz.isAgg4
 z4:=Tryz.sizeOf4
 v4:=Tryz.zeroValue4
 t5:=Tryz.underlying5
 a5:=Tryz.isAgg5
 z5:=Tryz.sizeOf5
 v5:=Tryz.zeroValue5
 t9:=Tryz.underlying9
 a9:=Tryz.isAgg9
 z9:=Tryz.sizeOf9
 v9:=Tryz.zeroValue9
 t22:=Tryz.underlying24
 a22:=Tryz.isAgg24
 z22:=Tryz.sizeOf24
 v22:=Tryz.zeroValue24
 t25:=Tryz.underlying302
 a25:=Tryz.isAgg302
 z25:=Tryz.sizeOf302
 v25:=Tryz.zeroValue302
 t39:=Tryz.underlying234
 a39:=Tryz.isAgg234
 z39:=Tryz.sizeOf234
 v39:=Tryz.zeroValue234
 t45:=Tryz.underlying283
 a45:=Tryz.isAgg283
 z45:=Tryz.sizeOf283
 v45:=Tryz.zeroValue283
 t46:=Tryz.underlying284
 a46:=Tryz.isAgg284
 z46:=Tryz.sizeOf284
 v46:=Tryz.zeroValue284
 t50:=Tryz.underlying221
 a50:=Tryz.isAgg221
 z50:=Tryz.sizeOf221
 v50:=Tryz.zeroValue221
 t53:=Tryz.underlying290
 a53:=Tryz.isAgg290
 z53:=Tryz.sizeOf290
 v53:=Tryz.zeroValue290
 t55:=Tryz.underlying292
 a55:=Tryz.isAgg292
 z55:=Tryz.sizeOf292
 v55:=Tryz.zeroValue292
 t66:=Tryz.underlying311
 a66:=Tryz.isAgg311
 z66:=Tryz.sizeOf311
 v66:=Tryz.zeroValue311
 t70:=Tryz.underlying315
 a70:=Tryz.isAgg315
 z70:=Tryz.sizeOf315
 v70:=Tryz.zeroValue315
 t76:=Tryz.underlying327
 a76:=Tryz.isAgg327
 z76:=Tryz.sizeOf327
 v76:=Tryz.zeroValue327
 t77:=Tryz.underlying309
 a77:=Tryz.isAgg309
 z77:=Tryz.sizeOf309
 v77:=Tryz.zeroValue309}
def Tryz.ab6:Go.Shelf.Ren:=⟨λ|6=>75|15=>161|14=>160|28=>249|29=>250|20=>241|21=>242|22=>243|23=>244|24=>245|25=>246|26=>247|27=>248|46=>287|47=>288|48=>289|49=>290|50=>291|57=>311|n=>n,λ|22=>44|24=>62|25=>160|3=>3|39=>234|0=>0|53=>290|55=>292|4=>4|46=>284|45=>283|50=>221|5=>5|9=>9|66=>311|70=>315|76=>327|77=>309|n=>n,λ|n=>n⟩
def Tryz.ir:Go.Proofs.SlLaysF0.n6 Tryz.prog Tryz.ab6:={
 mixed:=by kernel_rfl
 f6:=⟨Tryz.f75.name,by decide,Tryz.func75.trans (dn some (by kernel_rfl))⟩
 f14:=⟨Tryz.f160.name,by decide,Tryz.func160.trans (dn some (by kernel_rfl))⟩
 f15:=Tryz.func161.trans (dn some (by kernel_rfl))
 f20:=⟨Tryz.f241.name,by decide,Tryz.func241.trans (dn some (by kernel_rfl))⟩
 f21:=⟨Tryz.f242.name,by decide,Tryz.func242.trans (dn some (by kernel_rfl))⟩
 f22:=⟨Tryz.f243.name,by decide,Tryz.func243.trans (dn some (by kernel_rfl))⟩
 f23:=⟨Tryz.f244.name,by decide,Tryz.func244.trans (dn some (by kernel_rfl))⟩
 f24:=⟨Tryz.f245.name,by decide,Tryz.func245.trans (dn some (by kernel_rfl))⟩
 f25:=⟨Tryz.f246.name,by decide,Tryz.func246.trans (dn some (by kernel_rfl))⟩
 f26:=⟨Tryz.f247.name,by decide,Tryz.func247.trans (dn some (by kernel_rfl))⟩
 f27:=⟨Tryz.f248.name,by decide,Tryz.func248.trans (dn some (by kernel_rfl))⟩
 f28:=Tryz.func249.trans (dn some (by kernel_rfl))
 f29:=Tryz.func250.trans (dn some (by kernel_rfl))
 f46:=⟨Tryz.f287.name,by decide,Tryz.func287.trans (dn some (by kernel_rfl))⟩
 f47:=Tryz.func288.trans (dn some (by kernel_rfl))
 f48:=Tryz.func289.trans (dn some (by kernel_rfl))
 f49:=⟨Tryz.f290.name,by decide,Tryz.func290.trans (dn some (by kernel_rfl))⟩
 f50:=⟨Tryz.f291.name,by decide,Tryz.func291.trans (dn some (by kernel_rfl))⟩
 f57:=⟨Tryz.f311.name,by decide,Tryz.func311.trans (dn some (by kernel_rfl))⟩
 t0:=Tryz.underlying0
 a0:=Tryz.isAgg0
 z0:=Tryz.sizeOf0
 v0:=Tryz.zeroValue0
 t3:=Tryz.underlying3
 a3:=Tryz.isAgg3
 z3:=Tryz.sizeOf3
 v3:=Tryz.zeroValue3
 t4:=Tryz.underlying4
 a4:=Tryz.isAgg4
 z4:=Tryz.sizeOf4
 v4:=Tryz.zeroValue4
 t5:=Tryz.underlying5
 a5:=Tryz.isAgg5
 z5:=Tryz.sizeOf5
 v5:=Tryz.zeroValue5
 t9:=Tryz.underlying9
 a9:=Tryz.isAgg9
 z9:=Tryz.sizeOf9
 v9:=Tryz.zeroValue9
 t22:=Tryz.underlying44
 a22:=Tryz.isAgg44
 z22:=Tryz.sizeOf44
 v22:=Tryz.zeroValue44
 t25:=Tryz.underlying160
 a25:=Tryz.isAgg160
 z25:=Tryz.sizeOf160
 v25:=Tryz.zeroValue160
 t39:=Tryz.underlying234
 a39:=Tryz.isAgg234
 z39:=Tryz.sizeOf234
 v39:=Tryz.zeroValue234
 t45:=Tryz.underlying283
 a45:=Tryz.isAgg283
 z45:=Tryz.sizeOf283
 v45:=Tryz.zeroValue283
 t46:=Tryz.underlying284
 a46:=Tryz.isAgg284
 z46:=Tryz.sizeOf284
 v46:=Tryz.zeroValue284
 t50:=Tryz.underlying221
 a50:=Tryz.isAgg221
 z50:=Tryz.sizeOf221
 v50:=Tryz.zeroValue221
 t53:=Tryz.underlying290
 a53:=Tryz.isAgg290
 z53:=Tryz.sizeOf290
 v53:=Tryz.zeroValue290
 t55:=Tryz.underlying292
 a55:=Tryz.isAgg292
 z55:=Tryz.sizeOf292
 v55:=Tryz.zeroValue292
 t66:=Tryz.underlying311
 a66:=Tryz.isAgg311
 z66:=Tryz.sizeOf311
 v66:=Tryz.zeroValue311
 t70:=Tryz.underlying315
 a70:=Tryz.isAgg315
 z70:=Tryz.sizeOf315
 v70:=Tryz.zeroValue315
 t76:=Tryz.underlying327
 a76:=Tryz.isAgg327
 z76:=Tryz.sizeOf327
 v76:=Tryz.zeroValue327
 t77:=Tryz.underlying309
 a77:=Tryz.isAgg309
 z77:=Tryz.sizeOf309
 v77:=Tryz.zeroValue309}
def Tryz.ab9:Go.Shelf.Ren:=⟨λ|6=>189|15=>161|14=>263|28=>249|29=>250|20=>293|21=>294|22=>295|23=>296|24=>297|25=>298|26=>299|27=>300|46=>312|47=>288|48=>289|49=>313|50=>314|57=>334|n=>n,λ|22=>136|24=>170|25=>174|3=>3|39=>234|0=>0|53=>290|55=>292|4=>4|46=>284|45=>283|50=>221|5=>5|9=>9|66=>311|70=>315|76=>327|77=>309|n=>n,λ|n=>n⟩
def Tryz.cq:Go.Proofs.SlLaysF0.n6 Tryz.prog Tryz.ab9:={
 mixed:=by kernel_rfl
 f6:=⟨Tryz.f189.name,by decide,Tryz.func189.trans (dn some (by kernel_rfl))⟩
 f14:=⟨Tryz.f263.name,by decide,Tryz.func263.trans (dn some (by kernel_rfl))⟩
 f15:=Tryz.func161.trans (dn some (by kernel_rfl))
 f20:=⟨Tryz.f293.name,by decide,Tryz.func293.trans (dn some (by kernel_rfl))⟩
 f21:=⟨Tryz.f294.name,by decide,Tryz.func294.trans (dn some (by kernel_rfl))⟩
 f22:=⟨Tryz.f295.name,by decide,Tryz.func295.trans (dn some (by kernel_rfl))⟩
 f23:=⟨Tryz.f296.name,by decide,Tryz.func296.trans (dn some (by kernel_rfl))⟩
 f24:=⟨Tryz.f297.name,by decide,Tryz.func297.trans (dn some (by kernel_rfl))⟩
 f25:=⟨Tryz.f298.name,by decide,Tryz.func298.trans (dn some (by kernel_rfl))⟩
 f26:=⟨Tryz.f299.name,by decide,Tryz.func299.trans (dn some (by kernel_rfl))⟩
 f27:=⟨Tryz.f300.name,by decide,Tryz.func300.trans (dn some (by kernel_rfl))⟩
 f28:=Tryz.func249.trans (dn some (by kernel_rfl))
 f29:=Tryz.func250.trans (dn some (by kernel_rfl))
 f46:=⟨Tryz.f312.name,by decide,Tryz.func312.trans (dn some (by kernel_rfl))⟩
 f47:=Tryz.func288.trans (dn some (by kernel_rfl))
 f48:=Tryz.func289.trans (dn some (by kernel_rfl))
 f49:=⟨Tryz.f313.name,by decide,Tryz.func313.trans (dn some (by kernel_rfl))⟩
 f50:=⟨Tryz.f314.name,by decide,Tryz.func314.trans (dn some (by kernel_rfl))⟩
 f57:=⟨Tryz.f334.name,by decide,Tryz.func334.trans (dn some (by kernel_rfl))⟩
 t0:=Tryz.underlying0
 a0:=Tryz.isAgg0
 z0:=Tryz.sizeOf0
 v0:=Tryz.zeroValue0
 t3:=Tryz.underlying3
 a3:=Tryz.isAgg3
 z3:=Tryz.sizeOf3
 v3:=Tryz.zeroValue3
 t4:=Tryz.underlying4
 a4:=Tryz.isAgg4
 z4:=Tryz.sizeOf4
 v4:=Tryz.zeroValue4
 t5:=Tryz.underlying5
 a5:=Tryz.isAgg5
 z5:=Tryz.sizeOf5
 v5:=Tryz.zeroValue5
 t9:=Tryz.underlying9
 a9:=Tryz.isAgg9
 z9:=Tryz.sizeOf9
 v9:=Tryz.zeroValue9
 t22:=Tryz.underlying136
 a22:=Tryz.isAgg136
 z22:=Tryz.sizeOf136
 v22:=Tryz.zeroValue136
 t25:=Tryz.underlying174
 a25:=Tryz.isAgg174
 z25:=Tryz.sizeOf174
 v25:=Tryz.zeroValue174
 t39:=Tryz.underlying234
 a39:=Tryz.isAgg234
 z39:=Tryz.sizeOf234
 v39:=Tryz.zeroValue234
 t45:=Tryz.underlying283
 a45:=Tryz.isAgg283
 z45:=Tryz.sizeOf283
 v45:=Tryz.zeroValue283
 t46:=Tryz.underlying284
 a46:=Tryz.isAgg284
 z46:=Tryz.sizeOf284
 v46:=Tryz.zeroValue284
 t50:=Tryz.underlying221
 a50:=Tryz.isAgg221
 z50:=Tryz.sizeOf221
 v50:=Tryz.zeroValue221
 t53:=Tryz.underlying290
 a53:=Tryz.isAgg290
 z53:=Tryz.sizeOf290
 v53:=Tryz.zeroValue290
 t55:=Tryz.underlying292
 a55:=Tryz.isAgg292
 z55:=Tryz.sizeOf292
 v55:=Tryz.zeroValue292
 t66:=Tryz.underlying311
 a66:=Tryz.isAgg311
 z66:=Tryz.sizeOf311
 v66:=Tryz.zeroValue311
 t70:=Tryz.underlying315
 a70:=Tryz.isAgg315
 z70:=Tryz.sizeOf315
 v70:=Tryz.zeroValue315
 t76:=Tryz.underlying327
 a76:=Tryz.isAgg327
 z76:=Tryz.sizeOf327
 v76:=Tryz.zeroValue327
 t77:=Tryz.underlying309
 a77:=Tryz.isAgg309
 z77:=Tryz.sizeOf309
 v77:=Tryz.zeroValue309}
end Go.Proofs
namespace Go.Proofs.YthhlipkkjippfaaGreatDoor
open Go Go.ak Go.Sy cL Go.RowKit Go.Sort
attribute [local instance] bP nV
set_option maxRecDepth 10000
theorem IL(x:Written):aI.cells 16 x=[.int .i64 x.id,.int .i64 x.aS,.int .i64 x.br,.int .i64 x.start.n,.int .i64 x.start.d,.int .i64 x.length.n,.int .i64 x.length.d,.int .i64 x.aN.step,.int .i64 x.aN.alter,.int .i64 x.aN.aO]:=rfl
def adt(x y:Written)(h:aI.cells 16 x=aI.cells 16 y):x=y:=by
 rw[IL,IL]at h;obtain⟨j,G,M,⟨N,O⟩,⟨U,Y⟩,k,B,F⟩:=x;obtain⟨Z,ae,af,⟨ag,ah⟩,⟨ai,aj⟩,aa,ab,ad⟩:=y;simp only[o1,D.int.injEq,adP,and_true]at h;obtain⟨rfl,rfl,rfl,rfl,rfl,rfl,rfl,rfl,rfl,rfl⟩:=h;rfl
noncomputable instance adG:cL Written:=Ee 16 (⟨0,0,0,⟨0,0⟩,⟨0,0⟩,⟨0,0,0⟩⟩:Written) adt
theorem V1(x:Written):enc x=.agg [.int .i64 x.id,.int .i64 x.aS,.int .i64 x.br,.int .i64 x.start.n,.int .i64 x.start.d,.int .i64 x.length.n,.int .i64 x.length.d,.int .i64 x.aN.step,.int .i64 x.aN.alter,.int .i64 x.aN.aO]:=rfl
theorem abQ:cL.size Written=10:=rfl
theorem teS:lC 136=some ⟨1,24,[.slice 10 []],.slice 170⟩:=rfl
theorem teW:lC 170=some ⟨10,80,[.int .i64 0,.int .i64 0,.int .i64 0,.int .i64 0,.int .i64 0,.int .i64 0,.int .i64 0,.int .i64 0,.int .i64 0,.int .i64 0],.struct [(0,3),(1,3),(2,3),(3,58),(5,58),(7,60)]⟩:=rfl
theorem teM:lC 176=some ⟨1,8,[.map [] []],.map 3 170⟩:=rfl
theorem teQ:lC 180=some ⟨1,8,[.kg],.jJ⟩:=rfl
theorem teC:lC 174=some ⟨1,8,[.kg],.jJ⟩:=rfl
theorem teY:lC 194=some ⟨1,8,[.kg],.jJ⟩:=rfl
theorem acG:lC 3=some ⟨1,8,[.int .i64 0],.dE .i64⟩:=rfl
theorem acF:lC 4=some ⟨1,1,[.bool false],.jJ⟩:=rfl
noncomputable def env(l:List (FuncId×ak.Spec)):Env:={E:=lC,C:=tu l,jE:=eqs,P:=Tryz.prog}
def rm{l:List (FuncId×ak.Spec)}(h:sY Tryz.prog l):c6 Tryz.prog (env l):=haveI:=bP;⟨P7,h.ok,K6,(λ_ _ _ _ h=>by cases h),rfl⟩
attribute [local congr] aX.Vo
attribute [local simp] eg gr dL evalOp cg ak.get kq strip bH ak.after tB typed nS holds eE R.ok R.bad nU eS yE qI P3 CO Op.operands Call.operands dw cO fw dm vX th fW tu pw kj tG V2 V6 V4 Go.ak.wa VI VF VL VH VK abS abV FV Yd bB D.cells T.gq D.one iF fz lG iw setAt fD je ot lS oK bJ dM kN iO kU ly Eb arith fM ui ua eK oL uZ TD.agg env cR List.map ei kX rP mG nN mapOf pZ aaL aaM aaN aaO aaP aaQ aaR aaS V5 abT VJ PI gone unbox nq mf mA mF V3 VG abR List.contains_cons List.contains_nil V0 V1 abQ acG acF teS teW teM teQ teC teY
theorem aaU{P:Program}{n:Nat}{Q:Exit->St->Prop}{s:St}{w0:World}{I0:aD}{F:bS}(aa:F.r=none){g:Operand}{ps:Array Tmp}{j B:Code}{gf:FuncId}{caps:List T}(Z:tA (cg s.t g)=some (gf,caps))(h:∀bc iS,bc=j->iS=B->∀K:T->List AO->Prop,(∀u l',@Dl _ F P w0 I0 n Q s s.l.length l'->K u l')->jV P gf (.bj s.l.length::caps) (s.l++[.loop s.l.length n ps bc iS s.t .ready none]) K) :
  @aX _ F P w0 I0 n (.rangeFunc g ps j B) s Q:=
 @ak.OP _ F P w0 I0 n Q s aa g ps j B gf caps Z λN _=>have k:=h j B rfl rfl _ (λ_ _ h=>h);⟨k.1,λw0 I0 w I m G vals M O U Y=>k.2 w0 I0 w I m G vals _ M O U Y⟩
section
variable {bc iS:Code}{tm:Tm}{mm:List (Int×Written)}
noncomputable def fP(j k LP B:AO)(zs:List Written):List AO:=[j,k,.var 136 [.row 5],LP,B,.row 170 10 (zs.map enc)]
def abz{v0 F:Nat->Value}{j B:Tm}{LP af:AO}(M:LP=.loop 3 13 #[7] bc iS tm .ready none)(ar:af=.loop 3 13 #[7] bc iS tm .busy none)(
   az:∀(x:Written)(zs:List Written)(ad:AO)(aa:Nat->Value)(Y:Tm),(zs.length+1)*80<=140737488355328->(∃aG vs aj,ad=AO.iter aG vs aj)->∀(U:Option Code->List AO->Prop),(∀ab,(∃v f,ab=AO.frame 8 v f)->U none [.frame 0 v0 j,.frame 1 F B,.var 136 [.row 9],LP,.frame 4 aa Y,.dead,ad,.var 170 (bB (.d (enc x))),ab,.row 170 10 ((zs++[x]).map enc)]) ->
   ∀(R:bS)(w0:World)(I0:aD)(vals:Nat->Value)(ft:Tm)(Q:Exit->St->Prop),(∀e ae s2,oR e=some ae->sW s2 8 vals ft 3 3 13 #[7] bc iS tm ae (U ae)->Q e s2) ->
    @aX _ R Tryz.prog w0 I0 13 bc ⟨lv [7] [.d (enc x)] tm,fP (.frame 0 v0 j) (.frame 1 F B) LP (.frame 4 aa Y) zs++[ad,.var 170 (bB (.d (enc x))),.frame 8 vals ft]⟩ (ux λs1=>∃s2,ak.Sub s1 s2/\s2.l[8]?=some (.frame 8 vals ft)/\s2.l[3]?=some LP/\@aX _ R Tryz.prog w0 I0 13 iS ⟨s2.t,s2.l.set 3 af⟩ Q))(ax:mm.length*80<=140737488355328) :
  jV Tryz.prog 190 [.bj 3,.d (.box (.map (mm.map kE) (mm.map vE)))] [.frame 0 v0 j,.frame 1 F B,.var 136 [.bq 10],LP] λu l'=>∃zs aa Y,zs.Perm (mm.map (·.2))/\l'=fP (.frame 0 v0 j) (.frame 1 F B) LP (.frame 4 aa Y) zs:=by
 have G:c6 Tryz.prog (env []):=rm trivial;refine jV.of G (Enters.of Tryz.func190 (by decide)) Tryz.func190 rfl (by rw[Tryz.ntmps190];simp) λR aK w0 I0 vals ft Q ag=>?_;rw[Tryz.ntmps190];simp only[List.length_cons,List.length_nil,List.cons_append,List.nil_append]at ag⊢;simp only[jP];refine aX.sub (s':=⟨[(0,.bj 3),(1,.d (.box (.map (mm.map kE) (mm.map vE))))],fP (.frame 0 v0 j) (.frame 1 F B) LP (.frame 4 vals ft) []⟩) (Sub.IY (s:=⟨[(0,.bj 3),(1,.d (.box (.map (mm.map kE) (mm.map vE))))],[.frame 0 v0 j,.frame 1 F B,.var 136 [.bq 10],LP,.frame 4 vals ft]⟩) 2 0 170 10 rfl rfl) ?_;refine aX.rS G none [0,6] λK aC=>?_;simp[yf];refine iE (s':=⟨[(0,.bj 3),(6,.ptr 6 0)],fP (.frame 0 v0 j) (.frame 1 F B) LP (.frame 4 vals ft) []++[.iter (mm.map kE) (mm.map vE) []]⟩) (by first|rfl| (simp[fP];done)) (aC _ ?_);refine aX.block ?_;refine aX.X1 mm (λdone zs=>⟨[(0,.bj 3),(6,.ptr 6 0)],fP (.frame 0 v0 j) (.frame 1 F B) LP (.frame 4 vals ft) zs++[.iter (mm.map kE) (mm.map vE) done]⟩) (λzs e=>if zs.length<mm.length then some (.inl (zs++[e.2]):List Written⊕Unit)else none) [] (λaH=>∃zs,aH=.inl zs/\zs.Perm (mm.map (·.2))) ?_ (Sub.refl _) λdone zs K av aA=>?_
 ·intro l hl;refine⟨.inl (l.map (·.2)),?_,_,rfl,hl.map _⟩;have:∀(l:List (Int×Written))(zs:List Written),zs.length+l.length<=mm.length->iterM (λzs e=>if zs.length<mm.length then some (.inl (zs++[e.2]):List Written⊕Unit)else none) l zs=some (.inl (zs++l.map (·.2))):=by
   intro l;induction l with
   |nil=>intro zs _;simp[iterM]
   |cons e l aB=>
    intro zs O;simp only[List.length_cons]at O;simp only[iterM];rw[if_pos (by omega)];simp only;rw[aB (zs++[e.2]) (by simp;omega)];simp
  simpa using this l [] (by simp[hl.length_eq])
 refine aX.X7 G rfl rfl rfl rfl rfl rfl (by decide) (by decide) rfl rfl rfl rfl (λi aL vd aw hv hi=>?_) λau=>?_
 ·obtain⟨⟨k,x⟩,ah,rfl,rfl⟩:=XN aw hv;obtain⟨o,N,_,Z⟩:=aA i _ ah hi;have ai:zs.length<mm.length:=by
   by_cases h:zs.length<mm.length
   ·exact h
   simp[h]at N
  rw[if_pos ai]at N;injection N with N;subst N;have Z:=λs'=>Z s' _ rfl;dsimp only at Z;show aX _ _ _ _ _ ⟨[(0,.bj 3),(6,.ptr 6 0)],fP (.frame 0 v0 j) (.frame 1 F B) LP (.frame 4 vals ft) zs++[.iter (mm.map kE) (mm.map vE) (done++[i])]⟩ _;refine aX.block ?_;refine aX.rS G none [0,4,6] λK aE=>?_;simp[wc,fP,XC,ac8,ah];refine iE (s':=⟨[(0,.bj 3),(4,.ptr 7 0),(6,.ptr 6 0)],fP (.frame 0 v0 j) (.frame 1 F B) LP (.frame 4 vals ft) zs++[.iter (mm.map kE) (mm.map vE) (done++[i]),.var 170 (bB (.d (enc x)))]⟩) (by first|rfl| (simp[fP];done)) (aE _ ?_);refine aX.rC G [0,6,14] λK aF=>?_;refine ed.seq G none 2 [0,6,11,12] (by decide) (by decide) λaJ an=>?_;simp[fP];refine iE (s':=⟨[(0,.bj 3),(6,.ptr 6 0),(11,.bj 3),(12,.d (enc x))],fP (.frame 0 v0 j) (.frame 1 F B) LP (.frame 4 vals ft) zs++[.iter (mm.map kE) (mm.map vE) (done++[i]),.var 170 (bB (.d (enc x)))]⟩) (by first|rfl| (simp[fP];done)) (an _ ?_);refine ed.bj G 3 [.d (enc x)] rfl rfl trivial (by decide) (by simp[jT]) (show _=some (AO.loop 3 13 #[7] bc iS tm .ready none) by rw[<-M];rfl) rfl (by decide) λU aq=>?_;simp only[<-M,<-ar];refine az x zs (.iter (mm.map kE) (mm.map vE) (done++[i])) vals ft ?_ ⟨_,_,_,rfl⟩ U λab ⟨aI,al,ao⟩=>aq none _ (ed.fin G none ?_)
  ·have:=la 80 (Nat.succ_le_of_lt ai);exact hB this ax
  subst ao;simp;refine iE (s':=⟨[(0,.bj 3),(6,.ptr 6 0),(14,.d (.bool false))],[.frame 0 v0 j,.frame 1 F B,.var 136 [.row 9],LP,.frame 4 vals ft,.dead,.iter (mm.map kE) (mm.map vE) (done++[i]),.var 170 (bB (.d (enc x))),.frame 8 aI al,.row 170 10 ((zs++[x]).map enc)]⟩) (by first|rfl| (simp;done)) (aF _ ?_);refine aX.cond (b:=false) rfl (λh=>by cases h) λh=>aX.skip (Z _ ?_);show ak.Sub _ ⟨[(0,.bj 3),(6,.ptr 6 0)],fP (.frame 0 v0 j) (.frame 1 F B) LP (.frame 4 vals ft) (zs++[x])++[.iter (mm.map kE) (mm.map vE) (done++[i])]⟩;exact Sub.bV [0,1,2,3,4,9,6] (by decide) (by simp[oM,M]) (by simp[cN,AO.bV,T.bV,T.cY,idx,fP,M]) (by simp[kL,T.bV,T.cY,idx])
 obtain⟨aM,O,ay⟩:=av (λi hi=>au i (by simpa using hi));injection O with O;subst O;refine ag _ _ (.inr rfl) ⟨⟨[],fP (.frame 0 v0 j) (.frame 1 F B) LP (.frame 4 vals ft) zs⟩,?_,trivial,rfl,zs,_,_,ay,rfl⟩;exact Sub.bV [0,1,2,3,4,5] (by decide) (by simp[oM,fP,M]) (by simp[cN,AO.bV,T.bV,T.cY,idx,fP,M]) trivial
end
section
variable {mm:List (Int×Written)}
def abx{v0:Nat->Value}{j:Tm}(ar:mm.length*80<=140737488355328) :
  jV Tryz.prog 262 [.bq 10,.d (.aH 190 [.box (.map (mm.map kE) (mm.map vE))])] [.frame 0 v0 j] λu l'=>u=.row 2/\∃(zs:List Written)(aB:Nat->Value)(al:Tm),zs.Perm (mm.map (·.2))/\l'=[.frame 0 v0 j,.frame 1 aB al,.row 170 10 (zs.map enc)]:=by
 have N:c6 Tryz.prog (env []):=rm trivial;refine jV.of N (Enters.of Tryz.func262 (by decide)) Tryz.func262 rfl (by rw[Tryz.ntmps262];simp) λR an w0 I0 vals ft Q U=>?_;rw[Tryz.ntmps262];simp only[List.length_cons,List.length_nil,List.cons_append,List.nil_append]at U⊢;simp only[jP];refine aX.rS N none [1,2] λK ae=>?_;simp;refine iE (s':=⟨[(1,.d (.aH 190 [.box (.map (mm.map kE) (mm.map vE))])),(2,.ptr 2 0)],[.frame 0 v0 j,.frame 1 vals ft,.var 136 [.bq 10]]⟩) (by first|rfl| (simp;done)) (ae _ ?_);refine aX.abB (λs'=>∃zs:List Written,zs.Perm (mm.map (·.2))/\Sub s' ⟨[(2,.ptr 2 0)],[.frame 0 v0 j,.frame 1 vals ft,.var 136 [.row 3],.row 170 10 (zs.map enc)]⟩) (λ_ aj=>?_) ?_
 ·refine aX.rS N none [2,6] λK ae=>?_;simp;refine iE (s':=⟨[(2,.ptr 2 0),(6,.d (.aH 190 [.box (.map (mm.map kE) (mm.map vE))]))],[.frame 0 v0 j,.frame 1 vals ft,.var 136 [.bq 10]]⟩) (by first|rfl| (simp;done)) (ae _ ?_);refine aX.block ?_;refine aaU an (gf:=190) (caps:=[.d (.box (.map (mm.map kE) (mm.map vE)))]) rfl λbc iS ao aq K aa=>?_;dsimp only[List.length_cons,List.length_nil]at aa⊢;refine(abz (LP:=.loop 3 13 #[7] bc iS [(2,.ptr 2 0),(6,.d (.aH 190 [.box (.map (mm.map kE) (mm.map vE))]))] .ready none) rfl rfl ?_ ar).mono ?_
  ·rintro x zs Y F k aE ⟨aF,vs,aD,ai⟩ aC ah R w0 I0 G B Q U;obtain⟨LP,ab⟩:∃LP,LP=AO.loop 3 13 #[7] bc iS [(2,.ptr 2 0),(6,.d (.aH 190 [.box (.map (mm.map kE) (mm.map vE))]))] .ready none:=⟨_,rfl⟩;obtain⟨M,Z⟩:∃M,M=AO.loop 3 13 #[7] bc iS [(2,.ptr 2 0),(6,.d (.aH 190 [.box (.map (mm.map kE) (mm.map vE))]))] .busy none:=⟨_,rfl⟩;have au:∀s2,(∃O,ak.Sub s2 O/\O.l[8]?=some (.frame 8 G B)/\O.l[3]?=some M/\O.l.set 3 LP=[.frame 0 v0 j,.frame 1 vals ft,.var 136 [.row 9],LP,.frame 4 F k,.dead,Y,.var 170 (bB (.d (enc x))),.frame 8 G B,.row 170 10 ((zs++[x]).map enc)])->Q .normal s2:=by
    rintro s2 ⟨O,ax,ay,az,aA⟩;refine U .normal none s2 rfl ⟨O,ax,ay,by rw[az,Z],?_⟩;have ag:=ah (.frame 8 G B) ⟨_,_,rfl⟩;simp only[Option.isNone_none,hK];rw[<-ab,aA];rw[<-ab]at ag;exact ag
   simp only[<-ab,<-Z];clear U ah aa aj;subst ao;subst aq;refine aX.HD N none [2,5] λK af=>?_;simp[lv,fP];refine iE (s':=⟨[(2,.ptr 2 0),(5,.ptr 9 0)],fP (.frame 0 v0 j) (.frame 1 vals ft) LP (.frame 4 F k) zs++[Y,.var 170 (bB (.d (enc x))),.frame 8 G B,.var 170 (bB (.d (enc x)))]⟩) (by first|rfl| (simp[fP];done)) (af _ ?_);refine⟨_,Sub.refl _,rfl,rfl,?_⟩;show aX _ _ _ _ _ ⟨[(2,.ptr 2 0),(5,.ptr 9 0)],[.frame 0 v0 j,.frame 1 vals ft,.var 136 [.row 5],M,.frame 4 F k,.row 170 10 (zs.map enc),Y,.var 170 (bB (.d (enc x))),.frame 8 G B,.var 170 (bB (.d (enc x)))]⟩ _;refine aX.block ?_;refine aX.HD N none [] λK aw=>?_;simp;refine And.intro (by omega) ?_;refine iE (s':=⟨[],[.frame 0 v0 j,.frame 1 vals ft,.var 136 [.row 10],M,.frame 4 F k,.dead,Y,.var 170 (bB (.d (enc x))),.frame 8 G B,.var 170 (bB (.d (enc x))),.row 170 10 ((zs++[x]).map enc)]⟩) (by first|rfl| (simp;done)) (aw _ ?_);refine au _ ⟨⟨[],[.frame 0 v0 j,.frame 1 vals ft,.var 136 [.row 9],M,.frame 4 F k,.dead,Y,.var 170 (bB (.d (enc x))),.frame 8 G B,.row 170 10 ((zs++[x]).map enc)]⟩,?_,rfl,rfl,rfl⟩;exact Sub.bV [0,1,2,3,4,5,6,7,8,10] (by decide) (by simp[oM,Z,ai]) (by simp[cN,AO.bV,T.bV,T.cY,idx,Z,ai]) trivial
  rintro u l' ⟨zs,F,k,ad,rfl⟩;refine aa _ _ ⟨3,13,#[7],bc,iS,_,.ready,none,rfl,by simp,?_⟩;refine aj _ ⟨zs,ad,?_⟩;show ak.Sub ⟨[(2,.ptr 2 0),(6,.d (.aH 190 [.box (.map (mm.map kE) (mm.map vE))]))],[.frame 0 v0 j,.frame 1 vals ft,.var 136 [.row 5],.loop 3 13 #[7] bc iS [(2,.ptr 2 0),(6,.d (.aH 190 [.box (.map (mm.map kE) (mm.map vE))]))] .exhausted none,.frame 4 F k,.row 170 10 (zs.map enc)]⟩ _;exact Sub.bV [0,1,2,5] (by decide) (by simp[oM]) (by simp[cN,AO.bV,T.bV,T.cY,idx]) (by simp[kL,T.bV,T.cY,idx])
 rintro s' ⟨zs,ad,av⟩;refine aX.sub av ?_;refine aX.rS N none [4] λK af=>?_;simp;refine iE (s':=⟨[(4,.row 3)],[.frame 0 v0 j,.frame 1 vals ft,.var 136 [.row 3],.row 170 10 (zs.map enc)]⟩) (by first|rfl|simp) (af _ ?_);refine aX.ret ?_;refine U _ _ (.inl rfl) ⟨⟨[(4,.row 2)],[.frame 0 v0 j,.frame 1 vals ft,.row 170 10 (zs.map enc)]⟩,Sub.bV [0,1,3] (by decide) (by simp[oM]) (by simp[cN,AO.bV]) (by simp[kL,T.bV,T.cY,idx]),by simp[eX],rfl,by simp[eX,CY],zs,_,_,ad,rfl⟩
def aby(O:mm.length*80<=140737488355328) :
  jV Tryz.prog 188 [.d (.aH 190 [.box (.map (mm.map kE) (mm.map vE))])] [] λu l'=>u=.row 1/\∃(zs:List Written)(v0:Nat->Value)(F:Tm),zs.Perm (mm.map (·.2))/\l'=[.frame 0 v0 F,.row 170 10 (zs.map enc)]:=by
 have j:c6 Tryz.prog (env []):=rm trivial;refine jV.of j (Enters.of Tryz.func188 (by decide)) Tryz.func188 rfl (by rw[Tryz.ntmps188];simp) λR ab w0 I0 vals ft Q B=>?_;rw[Tryz.ntmps188];simp only[List.length_nil,List.nil_append]at B⊢;simp only[jP];refine aX.rS j none [0] λK k=>?_;simp;refine iE (s':=⟨[(0,.d (.aH 190 [.box (.map (mm.map kE) (mm.map vE))]))],[.frame 0 vals ft]⟩) (by first|rfl|simp) (k _ ?_);refine aX.rC j [2] λK k=>?_;refine ed.seq j none 1 [3] (by decide) (by decide) λZ M=>?_;simp;refine iE (s':=⟨[(3,.d (.aH 190 [.box (.map (mm.map kE) (mm.map vE))]))],[.frame 0 vals ft]⟩) (by first|rfl|simp) (M _ ?_);refine ed.call j 262 [.bq 10,.d (.aH 190 [.box (.map (mm.map kE) (mm.map vE))])] rfl rfl trivial (by decide) (by simp[eD]) λaa N=>?_;refine(abx O).mono ?_;rintro _ _ ⟨rfl,zs,Y,G,U,rfl⟩;refine N _ _ (ed.fin j none ?_);simp;refine iE (s':=⟨[(2,.row 2)],[.frame 0 vals ft,.frame 1 Y G,.row 170 10 (zs.map enc)]⟩) (by first|rfl|simp) (k _ ?_);refine aX.ret ?_;refine B _ _ (.inl rfl) ⟨⟨[(2,.row 1)],[.frame 0 vals ft,.row 170 10 (zs.map enc)]⟩,Sub.bV [0,2] (by decide) (by simp[oM]) (by simp[cN,AO.bV]) (by simp[kL,T.bV,T.cY,idx]),by simp[eX],rfl,by simp[eX,CY],zs,_,_,U,rfl⟩
end
abbrev lL:Written->Written->Int:=iV qP mj
def adu(x:Written)(y:D)(j:y∈aI.cells 16 x):∃n,y=.int .i64 n:=by
 rw[IL]at j;simp only[fa,s4,adM]at j;rcases j with rfl|rfl|rfl|rfl|rfl|rfl|rfl|rfl|rfl|rfl<;>exact⟨_,rfl⟩
def EE:Flat Written 10:=⟨λx=>rfl,λx=>rfl,λx y j=>by
 obtain⟨n,rfl⟩:=adu x y j;rfl⟩
def Wz{l:List AO}{id:Nat}{xs:List Written}(Y:l[id]?=some (.row 170 10 (xs.map enc)))(j:xs.length<4611686018427387904)(Z:∀x∈xs,mX x)(M:gY lL xs) :
  sU Tryz.prog 189 [.row id,.d (.fn 100)] l (.d (.aL [])) (l.set id (.row 170 10 ((fU lL xs).map enc))):=by
 haveI:Inhabited {x:Written // mX x}:=⟨⟨⟨0,0,0,⟨0,1⟩,⟨0,1⟩,⟨0,0,4⟩⟩,by decide,by decide,by decide⟩⟩;refine @Wy Written _ (@oI ⟨True⟩) (@oI nV) trivial rfl _ _ _ _ _ mX _ lL EE (qK (λ_=>rfl)) (λx y j B=>@gZ.kF _ (@oI ⟨True⟩) _ _ (@Bk.k ⟨True⟩ (@Ru ⟨True⟩)) (x,y) _ (adp j B)) (λb c d w vs O G N U=>?_) (λp c F w=>AnyF.slices_SortFunc_none {Tryz.cq with} p c F w) _ _ _ Y j Z M;exact AnyQ.slices_SortFunc_eq Tryz.cq 10 Tryz.isAgg170 Tryz.sizeOf170 _ (λx=>by simp[gX,EE.len]) (λx v hv=>by
  simp only[gX,gg]at hv;obtain⟨y,B,rfl⟩:=hv;have:=EE.sc _ y B;cases y<;>simp[pA]at this<;>rfl) _ (CP (qK (λ_=>rfl))) 100 vs b 0 c d w (Enters.of Tryz.func100 (by decide)) O G N U
noncomputable def zM:Di:=λg ts l=>if g=189 then(match ts with
 | [.row id,.d (.fn 100)]=>(match l[id]? with
  |some (.row 170 10 els)=>some ⟨.d (.aL []),l.set id (.row 170 10 ((fU lL (els.map dec)).map enc)),(els.map (dec:D->Written)).map enc=els/\(∀x∈els.map (dec:D->Written),mX x)/\gY lL (els.map (dec:D->Written))/\els.length<=1000000000⟩
  |_=>none)
 |_=>none)else none
def Wu:IQ Tryz.prog zM:=by
 intro g ts l r j N;unfold zM at j;split at j
 ·rename_i G;subst G;split at j
  ·rename_i id;split at j
   ·rename_i els M;cases j;obtain⟨k,B,F,O⟩:=N;refine⟨Enters.of Tryz.func189 (by decide),?_⟩;exact Wz (xs:=els.map dec) (by rw[k];exact M) (by simp;omega) B F
   cases j
  cases j
 cases j
noncomputable def zF(l:List (FuncId×ak.Spec)):Env:={env l with F:=zM}
def V9{l:List (FuncId×ak.Spec)}(h:sY Tryz.prog l):c6 Tryz.prog (zF l):=⟨(rm h).E,(rm h).C,(rm h).eq,Wu,(rm h).prog⟩
theorem Vl{mm:List (Int×Written)}(Z:mm.length*80<=140737488355328)(aa:∀x∈mm.map (·.2),mX x)(G:gY lL (mm.map (·.2)))(U:mm.length<=1000000000) :
  gA Tryz.prog 98 [.aH 190 [.box (.map (mm.map kE) (mm.map vE))],.fn 100] (enc (fU lL (mm.map (·.2)))):=by
 have j:c6 Tryz.prog (zF []):=V9 trivial;refine gA.Zb j Tryz.func98 rfl (by rw[Tryz.ntmps98];simp) λR ak w0 I0 Q F=>?_;rw[Tryz.ntmps98];refine aX.rS j none [0,1] λK B=>?_;simp;refine iE (s':=⟨[(0,.d (.aH 190 [.box (.map (mm.map kE) (mm.map vE))])),(1,.d (.fn 100))],[]⟩) (by first|rfl|simp) (B _ ?_);refine aX.rC j [1,5] λK B=>?_;refine ed.seq j none 1 [1,6] (by decide) (by decide) λai N=>?_;simp;refine iE (s':=⟨[(1,.d (.fn 100)),(6,.d (.aH 190 [.box (.map (mm.map kE) (mm.map vE))]))],[]⟩) (by first|rfl|simp) (N _ ?_);refine ed.call j 188 [.d (.aH 190 [.box (.map (mm.map kE) (mm.map vE))])] rfl rfl trivial (by decide) (by simp[eD,zF]) λaj O=>?_;refine(aby Z).mono ?_;rintro _ _ ⟨rfl,zs,v0,M,k,rfl⟩;have ad:gY lL zs:=G.perm k.symm;have ab:∀x∈zs,mX x:=λx af=>aa x (k.subset af);have Y:zs.length<=1000000000:=by rw[k.length_eq];simpa using U
 have ae:fU lL (mm.map (·.2))=fU lL zs:=yw (oq (qK (λ_=>rfl)) _) (oq (qK (λ_=>rfl)) _) ((oj _ _).trans (k.symm.trans (oj _ _).symm)) (G.perm (oj _ _).symm);rw[ae]at F;refine O _ _ (ed.fin j none ?_);simp;refine iE (s':=⟨[(1,.d (.fn 100)),(5,.row 1)],[.frame 0 v0 M,.row 170 10 (zs.map enc)]⟩) (by first|rfl|simp) (B _ ?_);refine aX.sub (s':=⟨[(1,.d (.fn 100)),(5,.row 0)],[.row 170 10 (zs.map enc)]⟩) (Sub.bV [1] (by decide) (by simp[oM]) (by simp[cN,AO.bV]) (by simp[kL,T.bV,T.cY,idx])) ?_;refine aX.rS j none [5] λK ag=>?_;simp[zF,zM];refine And.intro ⟨ab,ad,Y⟩ ?_;refine iE (s':=⟨[(5,.row 0)],[.row 170 10 ((fU lL zs).map enc)]⟩) (by first|rfl|simp) (ag _ ?_);refine aX.rS j none [4] λK ah=>?_;simp;refine iE (s':=⟨[(4,.row 0)],[.row 170 10 ((fU lL zs).map enc)]⟩) (by first|rfl|simp) (ah _ ?_);refine aX.ret ?_;refine F _ _ (.inl rfl) ?_;simp[CH,eX]
noncomputable def zi:Sy.Callee:=⟨98,[.aH 190 (.box (.map (.int .i64) (.st 16))),.fn 100],[.list (.st 16)],uV⟩
def XE:gZ Tryz.prog zi:=
 ⟨Enters.of Tryz.func98 (by decide),λa r h=>(by
  change List (Int×Written)×Unit at a;change List Written at r;obtain⟨mm,u⟩:=a;have h:uV (mm,u)=some r:=h;unfold uV at h;split at h
  ·rename_i F;injection h with h;subst h;obtain⟨j,B,k⟩:=F;have j:∀p∈mm,mX p.2:=j;have k:mm.length<=1000000000:=k;exact Vl (mm:=mm) (by omega) (λx M=>by
    obtain⟨p,G,rfl⟩:=gg.1 M;exact j p G) B k
  ·cases h),
  λt h=>cy (ek.1 (rfl:zi.args.all dN=true) t h),λt h=>cy (ek.1 (rfl:zi.res.all dN=true) t h)⟩
noncomputable def Ug:Bk:=⟨zi,XE⟩
end Go.Proofs.YthhlipkkjippfaaGreatDoor
namespace Go.Proofs.YthhlipkkjippfaaGreatDoor
open Go Go.ak Go.Sy Go.RowKit Go.Sort
attribute [local instance] bP nV
set_option maxRecDepth 10000
def jv:∀(x:List (Int×Int)),∃n:Int,∀p∈x,p.1<n
 | []=>⟨0,by simp⟩
 |p::x=>by
  obtain⟨n,j⟩:=jv x;refine⟨max n (p.1+1),λq hq=>?_⟩;rcases fa.1 hq with rfl|hq
  ·omega
  have:=j q hq;omega
def YH(at_:List (Int×Int)):∃a,o9 at_ a:=by
 obtain⟨n,j⟩:=jv at_;refine⟨⟨1,1,n,0,0,⟨0,1⟩,⟨1,1⟩,⟨0,0,4⟩⟩,?_,by dsimp only;omega,show bF ⟨0,1⟩ by decide,by dsimp only;omega,show bO ⟨0,0,4⟩ by decide,by dsimp only;omega⟩;have:ar at_ n 0=0:=by
  unfold ar;rw[n3.2 (λp k=>by
   have:=j p k;simp;omega)];rfl
 simp only[this];decide
theorem Gf(x:aq):aI.cells 5 x=[.int .i64 x.id,.int .i64 x.part,.int .i64 x.aw,.int .i64 x.aS,.int .i64 x.br,.int .i64 x.start.n,.int .i64 x.start.d,.int .i64 x.length.n,.int .i64 x.length.d,.int .i64 x.aN.step,.int .i64 x.aN.alter,.int .i64 x.aN.aO]:=rfl
def NF(x:aq)(y:D)(j:y∈aI.cells 5 x):∃n,y=.int .i64 n:=by
 rw[Gf]at j;simp only[fa,s4,adM]at j;rcases j with rfl|rfl|rfl|rfl|rfl|rfl|rfl|rfl|rfl|rfl|rfl|rfl<;>exact⟨_,rfl⟩
noncomputable def yz:ju:=⟨272,.st 5,[.aH 273 (.box (.map (.int .i64) (.int .i64)))],Cj⟩
def XD:oz Tryz.prog yz.f yz.t yz.args yz.fn:=
 Qs (@oI ⟨True⟩) (D0:=@oI nV) trivial rfl (i:=5) (k:=12) (t:=.box (.map (.int .i64) (.int .i64))) (ok:=o9) (cf:=λat_=>bf (nK at_)) (⟨0,0,0,0,0,⟨0,0⟩,⟨0,0⟩,⟨0,0,0⟩⟩:aq)
  (
   λ(x y:aq) h=>by
   rw[Gf,Gf]at h;obtain⟨Y,ad,ae,af,ag,⟨ah,ai⟩,⟨aj,ak⟩,Z,aa,ab⟩:=x;obtain⟨al,au,av,aw,ax,⟨ay,az⟩,⟨aA,aB⟩,an,ao,ar⟩:=y;simp only[o1,D.int.injEq,adP,and_true]at h;obtain⟨rfl,rfl,rfl,rfl,rfl,rfl,rfl,rfl,rfl,rfl,rfl,rfl⟩:=h;rfl)
  (λx=>rfl)
  (
   λ(x:aq) y j=>by
   obtain⟨n,rfl⟩:=NF x y j;rfl)
  (λc=>YH c) (λc=>CQ (wS c))
  (λ(at_:List (Int×Int))(x y:aq) U j=>@gZ.kF _ (@oI ⟨True⟩) _ _ (@Bk.k ⟨True⟩ (@R4 ⟨True⟩)) (x,y,at_) _ (YI U j))
  (Enters.of Tryz.func272 (by decide))
  (
   λe aD _ aC O b c d w vs M F G N=>by
   exact AnyQ.slices_SortFunc_eq Tryz.PR 12 Tryz.isAgg126 Tryz.sizeOf126 _ (λx=>rfl) (λx v hv=>by
    simp only[gg]at hv;obtain⟨y,j,rfl⟩:=hv;obtain⟨n,rfl⟩:=NF x.1 y j;rfl) _ (CP O) 273 vs b 0 c d w (Enters.of Tryz.func273 (by decide)) M F G N)
  (λp c B w=>AnyF.slices_SortFunc_none {Tryz.PR with} p c B w)
theorem Iq(x:ay):aI.cells 15 x=[.int .i64 x.part,.int .i64 x.start.n,.int .i64 x.start.d,.int .i64 x.length.n,.int .i64 x.length.d,.int .i64 x.aN.step,.int .i64 x.aN.alter,.int .i64 x.aN.aO]:=rfl
def Qi(x:ay)(y:D)(j:y∈aI.cells 15 x):∃n,y=.int .i64 n:=by
 rw[Iq]at j;simp only[fa,s4,adM]at j;rcases j with rfl|rfl|rfl|rfl|rfl|rfl|rfl|rfl<;>exact⟨_,rfl⟩
noncomputable def vz:ju:=⟨75,.st 15,[.aH 76 (.box (.fn 73))],xR⟩
def MD:oz Tryz.prog vz.f vz.t vz.args vz.fn:=
 Qs (@oI ⟨True⟩) (D0:=@oI nV) trivial rfl (i:=15) (k:=8) (t:=.box (.fn 73)) (ok:=λ_=>dY) (cf:=λ_=>iV tS tK) (⟨0,⟨0,0⟩,⟨0,0⟩,⟨0,0,0⟩⟩:ay)
  (
   λ(x y:ay) h=>by
   rw[Iq,Iq]at h;obtain⟨Y,⟨ad,ae⟩,⟨af,ag⟩,Z,aa,ab⟩:=x;obtain⟨ah,⟨al,an⟩,⟨ao,aq⟩,ai,aj,ak⟩:=y;simp only[o1,D.int.injEq,adP,and_true]at h;obtain⟨rfl,rfl,rfl,rfl,rfl,rfl,rfl,rfl⟩:=h;rfl)
  (λx=>rfl)
  (
   λ(x:ay) y j=>by
   obtain⟨n,rfl⟩:=Qi x y j;rfl)
  (λc=>⟨⟨0,⟨0,1⟩,⟨1,1⟩,⟨0,0,4⟩⟩,by decide,by decide,by decide,by decide⟩) (λc=>qK (λ_=>rfl))
  (λ(_:Unit)(x y:ay) U j=>@gZ.kF _ (@oI ⟨True⟩) _ _ (@Bk.k ⟨True⟩ (@Uk ⟨True⟩)) (x,y,()) _ (acD U j))
  (Enters.of Tryz.func75 (by decide))
  (
   λe au _ ar O b c d w vs M F G N=>by
   exact AnyQ.slices_SortFunc_eq Tryz.ir 8 Tryz.isAgg62 Tryz.sizeOf62 _ (λx=>rfl) (λx v hv=>by
    simp only[gg]at hv;obtain⟨y,j,rfl⟩:=hv;obtain⟨n,rfl⟩:=Qi x.1 y j;rfl) _ (CP O) 76 vs b 0 c d w (Enters.of Tryz.func76 (by decide)) M F G N)
  (λp c B w=>AnyF.slices_SortFunc_none {Tryz.ir with} p c B w)
end Go.Proofs.YthhlipkkjippfaaGreatDoor
namespace Go.Proofs.YthhlipkkjippfaaGreatDoor
open Go Go.ak Go.Sy
attribute [local instance] nV
set_option maxRecDepth 100000
noncomputable def R3:=DM [.list (.st 1),.list (.st 5)] [.list (.st 5)] Ba [Jq] [yz] ⟨XD,trivial⟩ Tryz.func204
noncomputable def RY:=bk [.list (.st 1),.list (.st 5)] [.list (.st 5),tI] A7 [Jp,R3] Tryz.func114
noncomputable def vQ:=bk [.st 6] [.bool] pq [JZ,Jo,Tz,Jp,TJ,RY,T2] Tryz.func45
noncomputable def Tx:=bk [.st 6,tI] [.list (.st 5),tI] BZ [vQ,TC,TG] Tryz.func68
noncomputable def J9:=bk [.st 6,tI] [.st 18,tI] xU [Tx,DI,Up,Kc] Tryz.func33
noncomputable def Kb:=bk [.st 6,.st 18] [.bool] xW [vQ,DI,Kc,Uf,Um] Tryz.func41
noncomputable def Ka:=bk [.st 6,.st 18] [.list (.st 5),tI] xV [Kb,DI,RI] Tryz.func71
noncomputable def J7:=DM [.st 13,.st 14] [.list (.st 15),tI] nY [JU,Jm,vQ,J9,Ka,JR] [vz] ⟨MD,trivial⟩ Tryz.func11
noncomputable def Rt:=bk [.st 18] [.list tI,tI] AU [y1,RT,Uh] Tryz.func116
noncomputable def Rm:=bk [.st 18,tI] [.list tI,tI] AS [Rt] Tryz.func46
noncomputable def J6:=bk [.st 13] [.list (.st 18),tI] pr [vQ,J9,Rm,Rn] Tryz.func16
noncomputable def Ui:=bk [.st 18,.box (.st 13)] [.bool] Hb [Kb] Tryz.func40
noncomputable def Ue:=bk [.list (.st 18),.aH 40 (.box (.st 13))] [tI] Ha [Ui] Tryz.func89
noncomputable def TW:=bk [.list (.st 18),.aH 40 (.box (.st 13))] [.bool] GZ [Ue] Tryz.func39
noncomputable def Rp:=bk [.list (.st 18)] [.st 18,tI] w9 [TU,TV,RU,Ug] Tryz.func42
noncomputable def J8:=DM [.st 13,.st 14,.list (.st 18)] [.list (.st 15),tI] uW [JU,Jm,vQ,TW,Rp,Ka,JR] [vz] ⟨MD,trivial⟩ Tryz.func14
noncomputable def RS:=bk [] [.bool] xe [RQ,J7,J6,J8,Jn,JP] Tryz.func8
noncomputable def Su:=bk [.st 4] [tI] Bo [] Tryz.func172
noncomputable def Sq:=bk [.st 6,.st 4] [.list (.st 5)] Bm [Su] Tryz.func86
noncomputable def YK:=nk [.st 4,.st 1] [.dI tI,.dI tI,.dI tI,.dI tI,.nil 10] BC [JG] Tryz.func87
noncomputable def SL:=bk [.st 4,tI,.st 3] [.st 3,tI] Bz [DG,pT,y3,JF,Jw] Tryz.func88
noncomputable def JL:=Uz [.st 6,.st 4] [.st 18] xG [Sq,SL] [YK] Tryz.func38
noncomputable def Tb:=bk [.st 13,.st 14] [.list (.st 15),tI] BO [JO,JL,JQ] Tryz.func12
noncomputable def S8:=bk [.st 13] [.list (.st 18),tI] uP [DF,JL,SZ,S0] Tryz.func17
noncomputable def RP:=bk [.st 13,.st 14,.list (.st 18)] [.bool] A5 [RS,S9,RR,J7,Tb,JP,J8,Tc,J6,S8,Ta] Tryz.func3
end Go.Proofs.YthhlipkkjippfaaGreatDoor
namespace Go.Proofs.YthhlipkkjippfaaGreatDoor
open Go Go.ak Go.Sy
attribute [local instance] bP bX
def mC(v:View):Prop:=v.aK.length<=60/\(bD v).length<=80
instance (v:View):Decidable (mC v):=inferInstanceAs (Decidable (_/\_))
def aas{v:View}(h:(bD v).length<=1048576):BA v=some (decide (mC v)):=by
 have M:∀k,((v.aK.take k).flatMap aB.notes).length<=(bD v).length:=λk=>by
  have:bD v=(v.aK.take k).flatMap aB.notes++(v.aK.drop k).flatMap aB.notes:=by unfold bD;rw[<-s5,mx]
  rw[this,dT];omega
 unfold BA;rw[cu (σ:=Int) (st:=λz k=>(z,k)) (l:=v.aK.take 61) (λz m=>.inl (z+(m.notes.length:Int))) (λz=>z) (λk z=>z=(((v.aK.take k).flatMap aB.notes).length:Int)) (λk x z F hi=>by
  have U:=CR F;have j:=U.2;have Y:=aZ j;have B:=M k;have N:=M (k+1);rw[Ik j,s5,dT]at N;simp only[hL,List.flatMap_nil,iu]at N;dsimp only;rw[ah (by simpa using Y),af,ah (by simp;omega),aY (aF j),av (by omega),av (by omega)];rfl) (λk x z z' F hi G=>by
  have j:=(CR F).2;injection G with G;rw[Ik j,s5,dT,<-G,hi];simp) (λz hi=>by
  dsimp only;have:(v.aK.take 61).length=min 61 v.aK.length:=fb;by_cases B:v.aK.length<=61
  ·rw[ag (by simp;omega),af];rfl
  rw[ah (by simp;omega),af,ag (by simp;omega)]) 0 rfl]
 rw[eh (f:=λ(z:Int)(m:aB)=>.inl (z+(m.notes.length:Int))) (fin:=λz=>z) (λz m=>z+(m.notes.length:Int)) (v.aK.take 61) 0 (λ_ _ _=>rfl),af];by_cases B:v.aK.length<=60
 ·rw[ah (c3 (by omega)),af,j5 (by omega)];have O:∀(l:List aB)(z:Int),l.foldl (λz m=>z+(m.notes.length:Int)) z=z+((l.flatMap aB.notes).length:Int):=λl=>by
   induction l with
   |nil=>intro z;simp
   |cons m l Z=>intro z;rw[List.foldl_cons,Z,hL,dT];omega
  rw[O];congr 1;rw[gl,Qd (p:=mC v),Qd];unfold mC bD;omega
 rw[ag (da (by omega)),af];congr 1;rw[eq_comm,hA];exact λh=>B h.1
def XO{l:List View}(hl:l.length<=1048576)(h:∀v∈l,(bD v).length<=1048576):∃b,A6 l=some b/\(b=true->∀v∈l,(bD v).length<=1000000):=by
 unfold A6;rw[nJ l.length (λk=>decide (50<=k)||l[k]?.any λv=>!decide (mC v)) false (λk j=>by
  have B:l[k]?=some l[k]:=c5 j;rw[B];generalize l[k]=x at B;have e:∀a q:Bool,ab a (some true) (aa (some q) λU=>some (!U))=some (a || !q):=λa q=>by cases a<;>rfl
  have F:Sy.leI 50 (k:Int)=decide (50<=k):=j2.2 (by omega);rw[ah (c3 (by omega)),aY (aF B),aas (h x (dd B)),e,af,F];show ab (decide (50<=k) || !decide (mC x)) _ _=some (if(decide (50<=k) || !decide (mC x))=true then _ else _);cases (decide (50<=k) || !decide (mC x))with
  |true=>rfl
  |false=>rw[gE,av (by omega)];rfl) (by rw[ag (by simp)])]
 cases N:(List.range l.length).any (λk=>decide (50<=k)||l[k]?.any λv=>!decide (mC v))with
 |true=>exact⟨false,rfl,λh=>by cases h⟩
 |false=>
  refine⟨true,rfl,λ_ v hv=>?_⟩;obtain⟨k,j⟩:=uu hv;have:=h8.1 N k (ib.2 (aZ j));rw[j]at this;have G:¬(decide (50<=k) || !decide (mC v))=true:=this;have M:mC v:=by
   refine fl λO=>G ?_;simp[O]
  have:=M.2;omega
def Pr{β:Type}{x:List ay×Int}(j:x.1.length<=1000000000000)(f:Bool->Option β):aa (ab true (aa (mL (x.1,x.1)) λk=>ab k (some (aC x.2 x.2)) (some false)) (some false)) f=f true:=by
 refine(au (x:=true) ?_).trans rfl;refine(ah rfl).trans ((au (HQ j)).trans ?_);exact(ah (c3 rfl)).trans (dn some (c3 rfl))
def Yw{l:List aB}(F:l.length<=1000000)(B:∀m∈l,m.notes.length<=1000000):BE (l,l)=some true:=by
 unfold BE;refine(ag (by simp)).trans ?_;rw[il (l:=l) (λ_=>false) false (λk x j=>by
  have G:=aZ j;have M:=B x (dd j);rw[ah (c3 (by omega)),aY (aF j),aY (aF j),OL,af,aY (aF j),aY (aF j),aau (by omega),af,c3 (show x.aw=x.aw/\x.key=x.key/\x.length=x.length from⟨rfl,rfl,rfl⟩),c3 (show x.notes=x.notes from rfl)];refine(au (x:=false) rfl).trans ((ag rfl).trans ?_);rw[av (by omega)];rfl) (by rw[ag (by simp)])]
 have:l.any (λ_=>false)=false:=by rw[h8];intro x _;simp
 rw[this];rfl
def IC{l:List View}(hl:l.length<=1000000)(h:∀v∈l,v.aK.length<=1000000/\(bD v).length<=1000000):xN (l,l)=some true:=by
 unfold xN;refine(ag (by simp)).trans ?_;rw[il (l:=l) (λ_=>false) false (λk x j=>by
  have M:=aZ j;obtain⟨B,F⟩:=h x (dd j);have e:BD (x,x)=some true:=by
   unfold BD;refine(au (Yw B λm G=>hB (gG G) F)).trans ?_;exact(au (x:=true) (ah (c3 rfl))).trans rfl
  rw[ah (c3 (by omega)),aY (aF j),aY (aF j),e,af];refine(ag rfl).trans ?_;rw[av (by omega)];rfl) (by rw[ag (by simp)])]
 have:l.any (λ_=>false)=false:=by rw[h8];intro x _;simp
 rw[this];rfl
def VV{w:c8}(h:w.score.bars.length<=1048576):∃d,pr w=some d/\uP w=some d/\xN (d.1,d.1)=some true:=by
 refine⟨_,(VU h).trans Hx,Hx,?_⟩;split
 ·rename_i j;split
  ·refine IC (by have:=VR j;dsimp only;omega) λv hv=>?_;have k:=KW j hv;have B:=j.2.1.1.2;have:=k.2.1;have:=k.2.2.2.1;omega
  exact IC (by simp) λv hv=>by cases hv
 exact IC (by simp) λv hv=>by cases hv
def abq{w:c8}{r:Room}(h:lz w r):(if jc w r then(ir (kl w.score r.bp (bK r.form)),(0:Int))else([],1)).1.length<=1000000000000:=by
 split
 ·rename_i j;obtain⟨k,_⟩:=sL h.2.1 j.2.2.1;have:=(yh (c:=r.bp) j.1 k).2;have B:=j.1.2.2.1.1.2;dsimp only;rw[PU];omega
 simp
def adg{w:c8}{r:Room}(h:lz w r)(l:List View):(sM w r l).1.length<=1000000000000:=by
 unfold sM;split
 ·simp
 split
 ·rename_i j;split
  ·cases k:jY (λp=>dp w.score r.bp (bK r.form) (ch l p)) w.score.parts []with
   |inr e=>simp
   |inl z=>
    obtain⟨F,_⟩:=sL h.2.1 j.2.2.1;obtain⟨_,G⟩:=yS (λp=>w5 j.1 F (ch l p)) _ _ _ (λx B=>by cases B) k;have M:=j.1.2.2.1.1.2;rw[List.length_nil]at G;show(ir z).length<=_;rw[PU];omega
  simp
 simp
theorem XP{w:c8}{r:Room}(h:lz w r)(O:xe ()=some true){l:List View}(hl:l.length<=1048576)(hv:∀v∈l,(bD v).length<=1048576):A5 (w,(r,l))=some true:=by
 obtain⟨q,U,_⟩:=WA w r;obtain⟨f,M,N⟩:=XO hl hv;obtain⟨d,B,F,G⟩:=VV h.1;unfold A5;dsimp only;refine(au O).trans ?_;have e:∀c q f:Bool,aa (some q) (λY=>ab (!Y) (some true) (aa (some f) λZ=>ab (!Z) (some c) (some false)))=some (!q||(!f&&c)):=λc q f=>by cases q<;>cases f<;>rfl
 rw[U,M,e];refine(au rfl).trans ?_;cases j:(!q||(!f&&Sy.leI (l.length:Int) 2400))with
 |true=>rfl
 |false=>
  have k:2400<l.length\/∀v∈l,(bD v).length<=1000000:=by
   rw[kb]at j;cases f with
   |true=>exact .inr (N rfl)
   |false=>
    have:=vc (show decide ((l.length:Int)<=2400)=false from j.2);exact .inl (by omega)
  refine(ag rfl).trans ((au (CJ h)).trans ((au (aaG h)).trans ((Pr (abq h) _).trans ?_)));refine(au (QF h k)).trans ((au (aaH h k)).trans ((Pr (adg h l) _).trans ?_));refine(au B).trans ((au F).trans ?_);refine(au (x:=true) ?_).trans rfl;refine(ah rfl).trans ((au G).trans ?_);exact(ah rfl).trans (dn some (c3 rfl))
def IG(m:aB):Nat:=cj 6 (.st 17) m
def Dc(v:View):Nat:=cj 8 (.st 18) v
def NI:∀l:List aB,(l.flatMap aB.notes).length<=(l.map IG).sum
 | []=>j3 _
 |m::l=>by
  have j:m.notes.length+1<=cj 5 (.list (.st 16)) m.notes:=sQ 3 (.st 16) m.notes;have k:IG m=1+(1+(cj 5 (.st 0) m.length+cj 5 (.list (.st 16)) m.notes))+1:=rfl;have:=NI l;rw[e7,List.sum_cons,hL,dT];omega
def adh{l:List View}(h:(l.map Dc).sum+1<=1048576){v:View}(hv:v∈l):(bD v).length<=1048576:=by
 have j:=Fw (gg.2 ⟨v,hv,rfl⟩:Dc v∈l.map Dc);have k:Dc v=1+((v.aK.map IG).sum+1)+1:=rfl;have B:=NI v.aK;have F:(bD v).length=(v.aK.flatMap aB.notes).length:=rfl;omega
def XQ(k:Ty.den (.st 13))(h0:cj 9 (.st 13) k<=1048576)(M:lh 9 (.st 13) k)(B:Ty.den (.st 14))(G:cj 9 (.st 14) B<=1048576)(N:lh 9 (.st 14) B)(j:Ty.den (.list (.st 18)))(F:cj 9 (.list (.st 18)) j<=1048576)(O:lh 9 (.list (.st 18)) j):A5 (k,(B,j))=some true:=
 XP (abY h0 G) head_eq (l:=j) (hB (tc _) (hB (sQ 7 (.st 18) j) F)) λ_ hv=>adh F hv
end Go.Proofs.YthhlipkkjippfaaGreatDoor
