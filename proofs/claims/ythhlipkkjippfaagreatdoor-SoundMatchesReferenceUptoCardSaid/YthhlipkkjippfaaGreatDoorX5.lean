import Derived.Test.YthhlipkkjippfaaGreatDoorX4
import Derived.Lib.SliceRun
import Derived.ProofKit
import Derived.ChangeArms
import Derived.Deep.Slices
import Derived.Carry
set_option linter.all false
namespace Go.Sy
open Go Go.ak
variable [aI][Λ:cH][cz][dg][bm][R0:bS]
section
variable {P:Program}{V:Env}{C:Cx}{ρ ρ':aU}{σ bA:Sk}{s:St}
def kz{i j:Nat}(h:i≠j):Nat.beq i j=false:=by
 cases e:Nat.beq i j with
 |false=>rfl
 |true=>exact absurd (eb e) h
def tU(m k j:Nat):hasB (jW m k) j=(hasB m j||decide (k=j)):=by
 have h:∀m j:Nat,hasB m j=m.testBit j:=λm j=>by
  unfold hasB Nat.testBit;have:∀x:Nat,Nat.beq (Nat.land x 1) 1=(1 &&& x != 0):=λx=>by
   show Nat.beq (x &&& 1) 1=_;rw[Nat.and_comm 1 x,Nat.and_one_is_mod];have:=Qx x;rcases this with h|h<;>rw[h]<;>rfl
  exact this _
 rw[h,h];show(m ||| (1 <<< k)).testBit j=_;rw[Nat.testBit_or];congr 1;rw[Nat.testBit_shiftLeft];by_cases e:k=j
 ·subst e;simp
 simp[e];intro F;have:j-k≠0:=by omega
 obtain⟨q,B⟩:∃q,j-k=q+1:=⟨j-k-1,by omega⟩;rw[B,Nat.testBit_succ];simp
def ij(k:Nat):List (Nat×TX)->Bool
 | []=>false
 | (i,_)::r=>Nat.beq i k||ij k r
def E0{k:Nat}:∀{t:List (Nat×TX)},ij k t=false->ba t k=.undef
 | [],_=>rfl
 | (i,u)::r,h=>by
  simp only[ij,kb]at h;simp only[ba,h.1,cond_false];exact E0 h.2
def z8(j:Nat)(x:TX):∀(t:List (Nat×TX))(k:Nat),k≠j->ba (fB j x t) k=ba t k/\ij k (fB j x t)=ij k t
 | [],k,h=>by
  have:=kz (λe:j=k=>h e.symm);simp[fB,ba,ij,this]
 | (i,u)::r,k,h=>by
  have B:=kz (λe:j=k=>h e.symm);simp only[fB];cases M:Nat.ble j i with
  |true=>
   cases N:Nat.beq j i with
   |true=>simp
   |false=>simp[ba,ij,B]
  |false=>
   simp only[cond_false,ba,ij];obtain⟨F,G⟩:=z8 j x r k h;rw[F,G];exact⟨rfl,rfl⟩
def Mx(j:Nat)(x:TX):∀(t:List (Nat×TX)),ij j t=false->ba (fB j x t) j=x
 | [],_=>by simp[fB,ba]
 | (i,u)::r,h=>by
  simp only[ij,kb]at h;simp only[fB];cases k:Nat.ble j i with
  |true=>
   have:Nat.beq j i=false:=kz (λe=>by subst e;simp at h);simp[this,ba]
  |false=>simp only[cond_false,ba,h.1];exact Mx j x r h.2
def CF(F:Nat):∀(t:List (Nat×TX))(seen k:Nat),(hasB seen k=true->ij k (jN F t seen)=false)/\(hasB seen k=false->ba (jN F t seen) k=.undef\/ba (jN F t seen) k=ba t k)
 | [],seen,k=>⟨λ_=>rfl,λ_=>.inl rfl⟩
 | (
    i,u)::r,seen,k=>by
  simp only[jN];have M:=CF F r (jW seen i) k;have U:=CF F r seen k;have aa:=CF F r (jW seen i) i;cases G:(hasB F i && !hasB seen i)with
  |false=>
   simp only[cond_false];refine⟨U.1,λh=>?_⟩;by_cases B:i=k
   ·subst B;have hl:hasB F i=false:=by simpa [h]using G
    left;have:∀(t:List (Nat×TX))(seen:Nat),ij i (jN F t seen)=false:=by
     intro t;induction t with
     |nil=>intro _;rfl
     |cons p t N=>
      obtain⟨j,w⟩:=p;intro seen;simp only[jN];cases Y:(hasB F j && !hasB seen j)with
      |false=>exact N seen
      |true=>
       have Z:i≠j:=by rintro rfl;simp[hl]at Y
       simp only[cond_true];cases wB w with
       |true=>exact N _
       |false=>simp only[cond_false];rw[(z8 j w _ i Z).2];exact N _
    exact E0 (this r seen)
   rcases U.2 h with e|e
   ·exact .inl e
   right;rw[e];simp only[ba,kz B,cond_false]
  |true=>
   simp only[cond_true];simp only[dk,gj]at G;have O:ij i (jN F r (jW seen i))=false:=aa.1 (by rw[tU];simp);cases ab:wB u with
   |true=>
    simp only[cond_true];refine⟨λh=>M.1 (by rw[tU,h];rfl),λh=>?_⟩;by_cases B:i=k
    ·subst B;exact .inl (E0 O)
    rcases M.2 (by rw[tU,h];simp[B])with e|e
    ·exact .inl e
    right;rw[e];simp only[ba,kz B,cond_false]
   |false=>
    simp only[cond_false];refine⟨λh=>?_,λh=>?_⟩
    ·have B:k≠i:=by rintro rfl;rw[h]at G;simp at G
     rw[(z8 i u _ k B).2];exact M.1 (by rw[tU,h];rfl)
    by_cases B:i=k
    ·subst B;right;rw[Mx i u _ O];simp[ba]
    rw[(z8 i u _ k (λe=>B e.symm)).1];rcases M.2 (by rw[tU,h];simp[B])with e|e
    ·exact .inl e
    right;rw[e];simp only[ba,kz B,cond_false]
def Mp(k:Nat):hasB 0 k=false:=by
 unfold hasB;have:Nat.shiftRight 0 k=0:=Nat.zero_shiftRight k;rw[this];rfl
theorem vm(j:Nat)(h:bh ρ σ s):bh ρ (σ.cR j) s:=by
 refine⟨h.eC,λk=>?_,h.l⟩;show RX ρ (ba (jN j σ.t 0) k) _;rcases (CF j σ.t 0 k).2 (Mp k)with e|e
 ·rw[e];exact .undef _
 rw[e];exact h.t k
mutual
theorem TX.beq_eq:∀{x y:TX},TX.beq x y=true->x=y
 |.undef,y,h=>by cases y<;>simp[TX.beq]at h<;>rfl
 |.gone,y,h=>by cases y<;>simp[TX.beq]at h<;>rfl
 |.d t x,y,h=>by
  cases y<;>simp[TX.beq]at h
  obtain⟨rfl,j⟩:=h;rw[X.beq_eq j]
 |.bq s,y,h=>by cases y<;>simp[TX.beq]at h;rw[h]
 |.ej,y,h=>by cases y<;>simp[TX.beq]at h<;>rfl
 |.ptr i o,y,h=>by cases y<;>simp[TX.beq]at h;rw[h.1,h.2]
 |.bu t e o,y,h=>by
  cases y<;>simp[TX.beq]at h
  obtain⟨⟨rfl,j⟩,B⟩:=h;rw[X.beq_eq j,B]
 |.row i,y,h=>by cases y<;>simp[TX.beq]at h;rw[h]
 |.bx i k o,y,h=>by
  cases y<;>simp[TX.beq]at h
  obtain⟨⟨rfl,j⟩,B⟩:=h;rw[X.beq_eq j,B]
 |.map i,y,h=>by cases y<;>simp[TX.beq]at h;rw[h]
 |.bj i,y,h=>by cases y<;>simp[TX.beq]at h;rw[h]
 |.cC i n,y,h=>by cases y<;>simp[TX.beq]at h;rw[h.1,h.2]
 |.bI i t x,y,h=>by
  cases y<;>simp[TX.beq]at h
  obtain⟨⟨rfl,rfl⟩,B⟩:=h;rw[X.beq_eq B]
 |.agg a,y,h=>by
  cases y<;>simp[TX.beq]at h
  rw[TX.vT h]
 |.aL a,y,h=>by
  cases y<;>simp[TX.beq]at h
  rw[TX.vT h]
 |.aH f a,y,h=>by
  cases y<;>simp[TX.beq]at h
  rw[h.1,TX.vT h.2]
theorem TX.vT:∀{x y:List TX},TX.pW x y=true->x=y
 | [],y,h=>by cases y<;>simp[TX.pW]at h<;>rfl
 |a::r,y,h=>by
  cases y<;>simp[TX.pW]at h
  rw[TX.beq_eq h.1,TX.vT h.2]
end
def P9:∀{x y:List (Nat×TX)},sF x y=true->x=y
 | [],[],_=>rfl
 | (i,a)::r,(j,b)::s,h=>by
  simp only[sF,dk]at h;rw[eb h.1.1,TX.beq_eq h.1.2,P9 h.2]
 | [],_::_,h=>by simp[sF]at h
 |_::_,[],h=>by simp[sF]at h
def AX.beq_eq{x y:AX}(h:AX.beq x y=true):x=y:=by
 cases x<;>cases y<;>simp[AX.beq]at h
 ·rfl
 ·rw[h.1,TX.vT h.2]
 ·obtain⟨⟨⟨j,k⟩,B⟩,F⟩:=h;rw[j,k,B,X.beq_eq F]
 ·obtain⟨⟨⟨j,k⟩,B⟩,F⟩:=h;rw[j,k,B,X.beq_eq F]
 ·obtain⟨⟨⟨j,k⟩,B⟩,F⟩:=h;rw[j,k,B,X.beq_eq F]
 ·obtain⟨⟨⟨⟨j,k⟩,B⟩,F⟩,G⟩:=h;rw[j,k,B,X.beq_eq F,X.beq_eq G]
 ·obtain⟨⟨j,k⟩,B⟩:=h;rw[j,k,B]
 ·obtain⟨⟨⟨j,k⟩,B⟩,F⟩:=h;rw[j,k,B,F]
 rfl
def vP:∀{x y:List AX},lK x y=true->x=y
 | [],[],_=>rfl
 |a::r,b::s,h=>by
  simp only[lK,dk]at h;rw[AX.beq_eq h.1,vP h.2]
 | [],_::_,h=>by simp[lK]at h
 |_::_,[],h=>by simp[lK]at h
structure vI(n h:Nat)(ρ:aU)(g:Nat->X)(ρ':aU)(g':Nat->X):Prop where
 lk:∀i v,i<n->lk ρ i=some v->lk ρ' i=some v
 g:∀p v,p<h->(g p).den ρ=some v->(g' p).den ρ'=some v
def Kq{i n:Nat}(h:Nat.blt i n=true):i<n:=hg h
theorem X.fJ{n h:Nat}{g O:Nat->X}(Z:vI n h ρ g ρ' O):∀{x:X},x.cB n h=true->∀{v:Sy.V},(x.fill g).den ρ=some v->(x.fill O).den ρ'=some v:=by
 intro x;induction x with
 |var i=>intro k v hv;exact Z.lk i v (Kq k) hv
 |hole p=>intro k v hv;exact Z.g p v (Kq k) hv
 |pair a b ab ad=>
  intro k v hv;simp only[X.cB,dk]at k;simp only[X.fill,X.den]at hv⊢;cases U:(a.fill g).den ρ<;>cases Y:(b.fill g).den ρ<;>simp[U,Y]at hv
  rw[ab k.1 U,ad k.2 Y];simp[hv]
 |aH f x G|box x G|proj i j x G|mk i x G|u1 o x G=>
  intro k v hv;simp only[X.cB]at k;simp only[X.fill,X.den]at hv⊢;cases B:(x.fill g).den ρ<;>simp[B]at hv
  rw[G k B];simpa using hv
 |u2 o x y M N=>
  intro k v hv;simp only[X.cB,dk]at k;simp only[X.fill,X.den]at hv⊢;cases B:(x.fill g).den ρ<;>cases F:(y.fill g).den ρ<;>simp[B,F]at hv
  rw[M k.1 B,N k.2 F];simpa using hv
 |u3 o x y z M N ae=>
  intro k v hv;simp only[X.cB,dk]at k;simp only[X.fill,X.den]at hv⊢;cases B:(x.fill g).den ρ<;>cases F:(y.fill g).den ρ<;>cases aa:(z.fill g).den ρ<;>simp[B,F,aa]at hv
  rw[M k.1.1 B,N k.1.2 F,ae k.2 aa];simpa using hv
 |_=>intro k v hv;exact hv
mutual
theorem TX.fJ {n h:Nat} {g aa:Nat->X} (Y:vI n h ρ g ρ' aa):∀{c:TX},c.cB n h=true->∀{t:T},RX ρ (c.fill g) t->RX ρ' (c.fill aa) t
 |.undef,_,t,_=>.undef t
 |.gone,_,t,j=>by simp only[TX.fill]at j⊢;cases j;exact .gone
 |.d t x,B,u,j=>by
  simp only[TX.fill]at j⊢;obtain⟨hv,v,F,rfl⟩:=j7 j;exact .d t _ v hv (X.fJ Y B F)
 |.bq s,_,t,j=>by simp only[TX.fill]at j⊢;cases j;exact .bq _
 |.ej,_,t,j=>by simp only[TX.fill]at j⊢;cases j;exact .ej
 |.ptr i o,_,t,j=>by simp only[TX.fill]at j⊢;cases j;exact .ptr _ _
 |.bu t e o,B,u,j=>by
  simp only[TX.fill]at j⊢;cases j with
  |bu _ _ b off size els k v F O ad ae af ag=>exact .bu t _ b _ size els k v F (X.fJ Y B O) ad ae af ag
 |.row i,_,t,j=>by simp only[TX.fill]at j⊢;cases j;exact .row _
 |.bx i k o,B,t,j=>by
  simp only[TX.fill]at j⊢;cases j with
  |bx _ _ _ kk m F=>exact .bx _ _ _ kk m (X.fJ Y B F)
 |.map i,_,t,j=>by simp only[TX.fill]at j⊢;cases j;exact .map _
 |.bj i,_,t,j=>by simp only[TX.fill]at j⊢;cases j;exact .bj _
 |.cC i n,_,t,j=>by simp only[TX.fill]at j⊢;cases j;exact .cC _ _
 |.bI i t x,B,u,j=>by
  simp only[TX.fill]at j⊢;cases j with
  |bI _ _ _ xs F=>exact .bI _ _ _ xs (X.fJ Y B F)
 |.agg cs,B,t,j=>by
  simp only[TX.fill,TX.cB]at j B⊢;obtain⟨M,Z⟩:=TX.wm Y (cs:=cs) B;cases j with
  |agg _ ts F O=>exact .agg _ ts (by rw[M.2,<-M.1];exact F) λi c t G ht=>Z i c t G λN U=>O i N t U ht
  |iN _ ds F O=>exact .iN _ ds (by rw[M.2,<-M.1];exact F) λi c d G ab=>Z i c (.d d) G λN U=>O i N d U ab
 |.aL cs,B,t,j=>by
  simp only[TX.fill,TX.cB]at j B⊢;obtain⟨M,Z⟩:=TX.wm Y (cs:=cs) B;cases j with
  |aL _ ts F O=>exact .aL _ ts (by rw[M.2,<-M.1];exact F) λi c t G ht=>Z i c t G λN U=>O i N t U ht
  |fV _ ds F O=>exact .fV _ ds (by rw[M.2,<-M.1];exact F) λi c d G ab=>Z i c (.d d) G λN U=>O i N d U ab
 |.aH f cs,B,t,j=>by
  simp only[TX.fill,TX.cB]at j B⊢;obtain⟨M,Z⟩:=TX.wm Y (cs:=cs) B;cases j with
  |aH _ _ ts F O=>exact .aH f _ ts (by rw[M.2,<-M.1];exact F) λi c t G ht=>Z i c t G λN U=>O i N t U ht
  |iW _ _ ds F O=>exact .iW f _ ds (by rw[M.2,<-M.1];exact F) λi c d G ab=>Z i c (.d d) G λN U=>O i N d U ab
theorem TX.wm {n h:Nat} {g aa:Nat->X} (Y:vI n h ρ g ρ' aa):∀{cs:List TX},TX.r9 n h cs=true->((TX.j8 g cs).length=cs.length/\(TX.j8 aa cs).length=cs.length)/\∀(i:Nat) c t,(TX.j8 aa cs)[i]?=some c->(∀N,(TX.j8 g cs)[i]?=some N->RX ρ N t)->RX ρ' c t
 | [],_=>⟨⟨rfl,rfl⟩,λi c t G=>by simp[TX.j8]at G⟩
 |c0::cs,B=>by
  simp only[TX.r9,dk]at B;obtain⟨M,Z⟩:=TX.wm Y (cs:=cs) B.2;refine⟨⟨by simp[TX.j8,M.1],by simp[TX.j8,M.2]⟩,λi c t G j=>?_⟩;cases i with
  |zero=>
   simp only[TX.j8,List.getElem?_cons_zero,c4]at G j;subst G;exact TX.fJ Y B.1 (j _ rfl)
  |succ i=>
   simp only[TX.j8,List.getElem?_cons_succ]at G j;exact Z i c t G j
end
end
end Go.Sy
namespace Go.Sy
open Go Go.ak
variable [aI][cH][cz][dg][bm][bS]
section
variable {P:Program}{V:Env}{C:Cx}{ρ ρ':aU}{σ bA:Sk}{s:St}
theorem AX.fJ{n h:Nat}{g O:Nat->X}(N:vI n h ρ g ρ' O){a:AX}(G:a.cB n h=true){o:AO}(F:bR ρ (a.fill g) o):bR ρ' (a.fill O) o:=by
 cases a with
 |dead=>simp only[AX.fill]at F⊢;cases F;exact .dead
 |var ty cs=>
  simp only[AX.fill,AX.cB]at F G⊢;obtain⟨U,ae⟩:=TX.wm N (cs:=cs) G;cases F with
  |var _ _ ts B=>exact .var ty _ ts (F2.of (by rw[U.2,<-U.1];exact B.len) λi c t ab ht=>ae i c t ab λaf ad=>B.get ad ht)
 |row Z e t x=>
  simp only[AX.fill,AX.cB]at F G⊢;cases F with
  |row _ _ _ xs h0 B=>exact .row e t _ xs h0 (X.fJ N G B)
  |bn _ _ _ xs h0 B=>exact .bn e t _ xs h0 (X.fJ N G B)
 |map Z k v x=>
  simp only[AX.fill,AX.cB]at F G⊢;cases F with
  |map _ _ _ m h0 M B=>exact .map k v _ m h0 M (X.fJ N G B)
  |dJ _ _ _ m h0 M B=>exact .dJ k v _ m h0 M (X.fJ N G B)
 |bw e kk t x=>
  simp only[AX.fill,AX.cB]at F G⊢;cases F with
  |bw _ _ _ _ m h0 M B=>exact .bw e kk t _ m h0 M (X.fJ N G B)
 |fA e kk t x k=>
  simp only[AX.fill,AX.cB,dk]at F G⊢;cases F with
  |fA _ _ _ _ _ m n h0 M B aa=>exact .fA e kk t _ _ m n h0 M (X.fJ N G.1 B) (X.fJ N G.2 aa)
 |dx j b rs=>simp only[AX.fill]at F⊢;cases F with|dx _ _ _ vals ft B M=>exact .dx j b rs vals ft B M
 |lp j b rs st=>simp only[AX.fill]at F⊢;cases F with|lp _ _ _ _ k ps bc Y tm B M=>exact .lp j b rs st k ps bc Y tm B M
 |eI=>simp only[AX.fill]at F⊢;cases F with|eI o h=>exact .eI o h
theorem Sk.fJ{n h n1 Z:Nat}{g G:Nat->X}(U:vI n h ρ g ρ' G){j:Sk}(M:j.cB n h=true)(ab:ep Z ρ')(Y:bh ρ (j.fill g n1) s):bh ρ' (j.fill G Z) s:=by
 simp only[Sk.cB,dk,ek]at M;refine⟨ab,λk=>?_,?_⟩
 ·have B:=Y.t k;show RX ρ' (ba (j.t.map λp=>(p.1,p.2.fill G)) k) _;have B:RX ρ (ba (j.t.map λp=>(p.1,p.2.fill g)) k) (ak.get s.t k):=B;rw[zY (TX.fill g) rfl]at B;rw[zY (TX.fill G) rfl];by_cases F:ba j.t k=.undef
  ·rw[F];exact .undef _
  have:∀t:List (Nat×TX),ba t k ≠ .undef->∃p∈t,ba t k=p.2:=by
   intro t;induction t with
   |nil=>intro h;exact absurd rfl h
   |cons p r ah=>
    intro F;simp only[ba]at F⊢;cases e:Nat.beq p.1 k with
    |true=>exact⟨p,by simp,rfl⟩
    |false=>
     rw[e]at F;obtain⟨q,af,ag⟩:=ah F;exact⟨q,by simp[af],ag⟩
  obtain⟨p,ae,e⟩:=this j.t F;rw[e]at B⊢;exact TX.fJ U (M.1 p ae) B
 have B:F2 (bR ρ) (j.l.map (AX.fill g)) s.l:=Y.l;show F2 (bR ρ') (j.l.map (AX.fill G)) s.l;refine F2.of (by have:=B.len;simpa using this) λi a o N ad=>?_;simp only[e3,e4]at N;obtain⟨aa,O,rfl⟩:=N;exact AX.fJ U (M.2 aa (dd O)) (B.get (i:=i) (by simp[O]) ad)
theorem Qo:∀{ts:List Ty}{xs:List X}{y:(aP ts).den},xs.length=ts.length->(fu xs).den ρ=some ⟨aP ts,y⟩->∀(j:Nat) x,xs[j]?=some x->x.den ρ=cK ts y j
 | [],xs,y,hl,h,j,x,k=>by
  have:xs=[]:=by simpa using hl
  subst this;simp at k
 | [t],xs,y,hl,h,j,x,k=>by
  match xs,hl with
  | [z],_=>
   cases j with
   |zero=>simp at k;subst k;exact h
   |succ j=>simp at k
 |t::u::ts,xs,y,hl,h,j,x,k=>by
  match xs,hl with
  |z::w::r,hl=>
   rw[Qn]at h;simp only[X.den]at h;cases B:z.den ρ with
   |none=>simp[B]at h
   |some p=>
    cases F:(fu (w::r)).den ρ with
    |none=>simp[B,F]at h
    |some q=>
     simp only[B,F,c4]at h;obtain⟨M,N⟩:=p;obtain⟨O,G⟩:=q;have h:(⟨.aL M O,(N,G)⟩:Sy.V)=⟨.aL t (aP (u::ts)),y⟩:=h;cases h;cases j with
     |zero=>simp at k;subst k;rw[B];rfl
     |succ j=>
      have:=Qo (ts:=u::ts) (xs:=w::r) (y:=G) (by simpa using hl) F j x (by simpa using k);rw[this];rfl
theorem instS_ok{j:Sk}{k n0:Nat}{ts:List Ty}{ρ0:aU}{xs:List X}{y:(aP ts).den}(h:bh ρ σ s)(hi:instS j k σ=some xs)(O:ts.length=k)(al:(fu xs).den ρ=some ⟨aP ts,y⟩)(ag:j.cB n0 k=true)(af:∀i v,i<n0->lk ρ i=some v->lk ρ0 i=some v)(ah:ep n0 ρ0):∃s',Sub s s'/\bh ((n0,⟨aP ts,y⟩)::ρ0) (j.fill (tL n0 k) (n0+1)) s':=by
 unfold instS at hi;split at hi
 ·rename_i A B ps aj;simp only at hi;generalize aw:Lo j (B.re (ps.map (·.2)))=vs at hi;cases F:(sF (j.fill (rO vs) σ.n).t (B.re (ps.map (·.2))).t&&lK (j.fill (rO vs) σ.n).l (B.re (ps.map (·.2))).l&&r7 (ps.map (·.2))&&oN (ps.map (·.2)) B.l)with
  |false=>simp[F]at hi
  |true=>
   simp only[F,cond_true,c4]at hi;simp only[dk]at F;obtain⟨⟨⟨Z,aa⟩,ab⟩,ad⟩:=F;obtain⟨s1,aq,ar,au⟩:=Yx _ (vm (FW j.t 0) h) aj;obtain⟨s2,av,Y⟩:=Sk.CD ar ab ad;have N:(B.re (ps.map (·.2))).n=σ.n:=au;have e:j.fill (rO vs) σ.n=B.re (ps.map (·.2)):=by
    have G:=P9 Z;have M:=vP aa;show(⟨_,_,_⟩:Sk)=_;cases ae:B.re (ps.map (·.2))with
    |mk a b c=>
     rw[ae]at G M N;simp only[Sk.fill]at G M⊢;simp only at N;rw[G,M,N]
   rw[<-e]at Y;refine⟨s2,Sub.trans' aq av,Sk.fJ (n1:=σ.n) ⟨λi v ai hv=>?_,λp v ak hv=>?_⟩ ag (ah.push (p3 n0) _) Y⟩
   ·have:=af i v ai hv;simp only[lk,kz (by omega:n0≠i),cond_false];exact this
   have an:xs.length=ts.length:=by rw[<-hi,O];simp
   have ao:xs[p]?=some (rO vs p):=by rw[<-hi];simp[ak]
   have U:=Qo an al p _ ao;rw[hv]at U;show(pf k p (.var n0)).den _=_;rw[<-O,wY p (a:=y) (show(X.var n0).den _=some ⟨aP ts,y⟩from jB n0 _ ρ0) (by omega),<-U]
 cases hi
end
def rK{α:Type}(step:(α->Prop)->α->Prop):Nat->α->Prop
 |0,_=>False
 |n+1,z=>step (rK step n) z
abbrev LJ:=Nat->Sy.V->Prop
abbrev LQ:=Ex->Sk->aU->LJ->Prop
def ic(p:Sy.V->Prop)(J:LJ):LJ
 |0=>p
 |k+1=>J k
def Tr.wp(cs:List Callee):Tr->aU->LQ->LJ->Prop
 |.leaf e σ,ρ,Q,J=>Q e σ ρ J
 |.out k x,ρ,_,J=>∃v,x.den ρ=some v/\J k v
 |.bQ x t,ρ,Q,J=>x.den ρ=some ⟨.bool,true⟩/\Tr.wp cs t ρ Q J
 |.get v xs k t,ρ,Q,J=>∃(u:Ty)(l:List u.den)(kk:IntKind)(i:Int)(e:u.den),xs.den ρ=some ⟨.list u,l⟩/\k.den ρ=some ⟨.int kk,i⟩/\an l i=some e/\Tr.wp cs t ((v,⟨u,e⟩)::ρ) Q J
 |.call v c x t,ρ,Q,J=>∃(C:Callee)(a:(aP C.args).den)(y:(aP C.res).den),cs[c]?=some C/\x.den ρ=some ⟨aP C.args,a⟩/\C.fn a=some y/\Tr.wp cs t ((v,⟨aP C.res,y⟩)::ρ) Q J
 |.fL c a b,ρ,Q,J=>∃b0:Bool,c.den ρ=some ⟨.bool,b0⟩/\(b0=true->Tr.wp cs a ρ Q J)/\(b0=false->Tr.wp cs b ρ Q J)
 |.gI c a b,ρ,Q,J=>∃(u:Ty)(xs:List u.den),c.den ρ=some ⟨.list u,xs⟩/\(xs=[]->Tr.wp cs a ρ Q J)/\Tr.wp cs b ρ Q J
 |.join ty v a b,ρ,Q,J=>Tr.wp cs a ρ Q (ic (λz=>∃y:ty.den,z=⟨ty,y⟩/\Tr.wp cs b ((v,⟨ty,y⟩)::ρ) Q J) J)
 |.loop ty v init body,ρ,Q,J=>∃j:ty.den,init.den ρ=some ⟨ty,j⟩/\∃n,rK (λagain z=>Tr.wp cs body ((v,⟨ty,z⟩)::ρ) Q (ic (λz'=>∃y:ty.den,z'=⟨ty,y⟩/\again y) J)) n j
 |.bad _,_,_,_=>False
theorem ud{α:Type}{s1 s2:(α->Prop)->α->Prop}(h:∀p q z,(∀y,p y->q y)->s1 p z->s2 q z):∀{n:Nat}{z:α},rK s1 n z->rK s2 n z
 |0,_,j=>j
 |n+1,z,j=>h _ _ z (λy k=>ud h k) j
theorem ny{p q:Sy.V->Prop}{J J':LJ}(h:∀v,p v->q v)(j:∀k v,J k v->J' k v):∀k v,ic p J k v->ic q J' k v
 |0,v,hv=>h v hv
 |k+1,v,hv=>j k v hv
theorem Tr.wp_mono{cs:List Callee}:∀{t:Tr}{ρ:aU}{Q Q':LQ}{J J':LJ},(∀k v,J k v->J' k v)->(∀e σ ρ' Z aa,(∀k v,Z k v->aa k v)->Q e σ ρ' Z->Q' e σ ρ' aa)->Tr.wp cs t ρ Q J->Tr.wp cs t ρ Q' J':=by
 intro t;induction t with
 |leaf e σ=>intro ρ Q Q' J J' j B h;exact B e σ ρ J J' j h
 |out k x=>intro ρ Q Q' J J' j B ⟨v,F,G⟩;exact⟨v,F,j k v G⟩
 |bQ x t N=>intro ρ Q Q' J J' j B ⟨F,G⟩;exact⟨F,N j B G⟩
 |get v xs k t N=>intro ρ Q Q' J J' j B ⟨u,l,kk,i,e,F,G,M,O⟩;exact⟨u,l,kk,i,e,F,G,M,N j B O⟩
 |call v c x t N=>intro ρ Q Q' J J' j B ⟨C,a,y,F,G,M,O⟩;exact⟨C,a,y,F,G,M,N j B O⟩
 |fL c a b U Y=>intro ρ Q Q' J J' j B ⟨b0,F,G,M⟩;exact⟨b0,F,λh=>U j B (G h),λh=>Y j B (M h)⟩
 |gI c a b U Y=>intro ρ Q Q' J J' j B ⟨u,xs,F,G,M⟩;exact⟨u,xs,F,λh=>U j B (G h),Y j B M⟩
 |join ty v a b U Y=>
  intro ρ Q Q' J J' j B h;exact U (ny (λz ⟨y,F,G⟩=>⟨y,F,Y j B G⟩) j) B h
 |loop ty v i b N=>
  intro ρ Q Q' J J' j B ⟨ae,F,n,G⟩;exact⟨ae,F,n,ud (s1:=λagain z=>Tr.wp cs b ((v,⟨ty,z⟩)::ρ) Q (ic (λz'=>∃y:ty.den,z'=⟨ty,y⟩/\again y) J)) (λp q z ab ad=>N (ny (λz' ⟨y,M,O⟩=>⟨y,M,ab y O⟩) j) B ad) G⟩
 |bad w=>intro ρ Q Q' J J' _ _ h;exact h
def eR(Q:LQ):Prop:=∀e σ ρ j B,(∀k v,j k v->B k v)->Q e σ ρ j->Q e σ ρ B
theorem j6{cs:List Callee}{f:Ex->Sk->Tr}{Q:LQ}(Y:eR Q):∀{t:Tr}{ρ:aU}{J:LJ},Tr.wp cs (ev f t) ρ Q J->Tr.wp cs t ρ (λe σ ρ' J'=>Tr.wp cs (f e σ) ρ' Q J') J:=by
 intro t;induction t with
 |leaf e σ=>intro ρ J h;exact h
 |out k x=>intro ρ J h;exact h
 |bQ x t G=>intro ρ J ⟨j,B⟩;exact⟨j,G B⟩
 |get v xs k t G=>intro ρ J ⟨u,l,kk,i,e,j,B,F,M⟩;exact⟨u,l,kk,i,e,j,B,F,G M⟩
 |call v c x t G=>intro ρ J ⟨C,a,y,j,B,F,M⟩;exact⟨C,a,y,j,B,F,G M⟩
 |fL c a b N O=>intro ρ J ⟨b0,j,B,F⟩;exact⟨b0,j,λh=>N (B h),λh=>O (F h)⟩
 |gI c a b N O=>intro ρ J ⟨u,xs,j,B,F⟩;exact⟨u,xs,j,λh=>N (B h),O F⟩
 |join ty v a b N O=>
  intro ρ J h;have:=N (J:=ic (λz=>∃y:ty.den,z=⟨ty,y⟩/\Tr.wp cs (ev f b) ((v,⟨ty,y⟩)::ρ) Q J) J) h;show Tr.wp cs a ρ _ (ic _ J);refine Tr.wp_mono (ny ?_ (λ_ _ h=>h)) ?_ this
  ·rintro z ⟨y,j,B⟩;exact⟨y,j,O B⟩
  intro e σ ρ' Z aa U h;exact Tr.wp_mono U Y h
 |loop ty v i b G=>
  intro ρ J ⟨ae,j,n,B⟩;refine⟨ae,j,n,ud ?_ B⟩;intro p q z ab ad;refine Tr.wp_mono (ny ?_ (λ_ _ h=>h)) ?_ (G ad)
  ·rintro z' ⟨y,F,M⟩;exact⟨y,F,ab y M⟩
  intro e σ ρ' Z aa U h;exact Tr.wp_mono U Y h
 |bad w=>intro ρ J h;exact h
theorem O3{cs:List Callee}{e:Ex}{ab:Sk}{ad:Nat}{Q:LQ}{p:Sy.V->Prop}(ah:eR Q):∀{t:Tr}{k:Nat}{ρ:aU}{J:LJ},(∀v,J k v->p v)->Tr.wp cs (resolve e ab ad k t) ρ Q J ->
  Tr.wp cs t ρ (λM σ ρ' J'=>if e=M then ∃xs v,instS ab ad σ=some xs/\(fu xs).den ρ'=some v/\p v else Q M σ ρ' J') J:=by
 intro t;have ae:eR (λM σ ρ' J'=>if e=M then ∃xs v,instS ab ad σ=some xs/\(fu xs).den ρ'=some v/\p v else Q M σ ρ' J'):=by
  intro M σ ρ' af ag ai h;by_cases U:e=M
  ·rw[if_pos U]at h⊢;exact h
  rw[if_neg U]at h⊢;exact ah M σ ρ' af ag ai h
 induction t with
 |leaf M σ=>
  intro k ρ J B h;simp only[resolve]at h;show if e=M then _ else _
  split at h
  ·rename_i U;rw[if_pos U];split at h
   ·rename_i xs ak;obtain⟨v,F,G⟩:=h;exact⟨xs,v,ak,F,B v G⟩
   exact h.elim
  rename_i U;rw[if_neg U];exact h
 |out k x=>intro _ ρ J B h;exact h
 |bQ x t O=>intro k ρ J B ⟨F,G⟩;exact⟨F,O B G⟩
 |get v xs i t O=>intro k ρ J B ⟨u,l,kk,j,e,F,G,N,Y⟩;exact⟨u,l,kk,j,e,F,G,N,O B Y⟩
 |call v c x t O=>intro k ρ J B ⟨C,a,y,F,G,N,Y⟩;exact⟨C,a,y,F,G,N,O B Y⟩
 |fL c a b Z aa=>intro k ρ J B ⟨b0,F,G,N⟩;exact⟨b0,F,λh=>Z B (G h),λh=>aa B (N h)⟩
 |gI c a b Z aa=>intro k ρ J B ⟨u,xs,F,G,N⟩;exact⟨u,xs,F,λh=>Z B (G h),aa B N⟩
 |join ty v a b Z aa=>
  intro k ρ J B h;have:=Z (k:=k+1) (J:=ic (λz=>∃y:ty.den,z=⟨ty,y⟩/\Tr.wp cs (resolve e ab ad k b) ((v,⟨ty,y⟩)::ρ) Q J) J) B h;show Tr.wp cs a ρ _ (ic _ J);refine Tr.wp_mono (ny ?_ (λ_ _ h=>h)) ae this;rintro z ⟨y,F,G⟩;exact⟨y,F,aa B G⟩
 |loop ty v i b O=>
  intro k ρ J B ⟨an,F,n,G⟩;refine⟨an,F,n,ud ?_ G⟩;intro ao q z aj al;refine Tr.wp_mono (ny ?_ (λ_ _ h=>h)) ae (O (k:=k+1) (J:=ic _ J) B al);rintro z' ⟨y,N,Y⟩;exact⟨y,N,aj y Y⟩
 |bad w=>intro k ρ J B h;exact h
def YV{cs:List Callee}{e:Ex}:∀{t:Tr}{ρ:aU}{Q:LQ}{J:LJ},leaves e t=[]->eR Q->Tr.wp cs t ρ Q J->Tr.wp cs t ρ (λM σ ρ' J'=>M≠e/\Q M σ ρ' J') J:=by
 intro t;induction t with
 |leaf M σ=>
  intro ρ Q J hl B h;refine⟨λaf=>?_,h⟩;simp[leaves,af]at hl
 |out k x=>intro ρ Q J hl B h;exact h
 |bQ x t O=>intro ρ Q J hl B ⟨F,G⟩;exact⟨F,O hl B G⟩
 |get v xs i t O=>intro ρ Q J hl B ⟨u,l,kk,j,e,F,G,N,U⟩;exact⟨u,l,kk,j,e,F,G,N,O hl B U⟩
 |call v c x t O=>intro ρ Q J hl B ⟨C,a,y,F,G,N,U⟩;exact⟨C,a,y,F,G,N,O hl B U⟩
 |fL c a b Y Z=>
  intro ρ Q J hl B ⟨b0,F,G,N⟩;simp only[leaves,x1]at hl;exact⟨b0,F,λh=>Y hl.1 B (G h),λh=>Z hl.2 B (N h)⟩
 |gI c a b Y Z=>
  intro ρ Q J hl B ⟨u,xs,F,G,N⟩;simp only[leaves,x1]at hl;exact⟨u,xs,F,λh=>Y hl.1 B (G h),Z hl.2 B N⟩
 |join ty v a b Y Z=>
  intro ρ Q J hl B h;simp only[leaves,x1]at hl;have aa:eR (λM σ ρ' J'=>M≠e/\Q M σ ρ' J'):=λM σ ρ' ad ae ab h=>⟨h.1,B _ _ _ _ _ ab h.2⟩;have:=Y hl.1 B h;show Tr.wp cs a ρ _ (ic _ J);refine Tr.wp_mono (ny ?_ (λ_ _ h=>h)) aa this;rintro z ⟨y,F,G⟩;exact⟨y,F,Z hl.2 B G⟩
 |loop ty v i b O=>
  intro ρ Q J hl B ⟨ai,F,n,G⟩;have aa:eR (λM σ ρ' J'=>M≠e/\Q M σ ρ' J'):=λM σ ρ' ad ae ab h=>⟨h.1,B _ _ _ _ _ ab h.2⟩;refine⟨ai,F,n,ud ?_ G⟩;intro p q z ag ah;refine Tr.wp_mono (ny ?_ (λ_ _ h=>h)) aa (O hl B ah);rintro z' ⟨y,N,U⟩;exact⟨y,N,ag y U⟩
 |bad w=>intro ρ Q J hl B h;exact h
end Go.Sy
namespace Go.Sy
open Go Go.ak
class oy[aI][bm]:Prop where
 ez:∀g ls,aI.ez g=some ls->bm.dI g=some (.agg (ls.map (.int .i64)))
variable [aI][cH][cz][dg][bm][oy][bS]
def P6{s:Tm}:∀g ls,aI.ez g=some ls->cg s (.global g)=.bu ls.length [.agg (ls.map (.int .i64))] 0 0:=λg ls h=>by
 simp only[cg,oy.ez g ls h,D.cells,hP]
def cU(n:Nat)(ρ ρ':aU):Prop:=∀i,i<n->lk ρ' i=lk ρ i
theorem cU.refl(n:Nat)(ρ:aU):cU n ρ ρ:=λ_ _=>rfl
theorem cU.trans{n m:Nat}{a b c:aU}(h:cU n a b)(k:cU m b c)(j:n<=m):cU n a c:=λi hi=>(k i (by omega)).trans (h i hi)
def cU.push{n m:Nat}(j:n<=m)(ρ:aU)(v:Sy.V):cU n ρ ((m,v)::ρ):=λi hi=>by
 simp only[lk,kz (by omega:m≠i),cond_false]
theorem cU.ext{n:Nat}{ρ ρ':aU}(h:cU n ρ ρ')(j:ep n ρ):Ext ρ ρ':=λi v hv=>by rw[h i (FF j hv)];exact hv
def bY.Lm{cs:List Callee}{n:Nat}{ρ ρ':aU}{is:List Ins}(h:bY cs n ρ is ρ'):cU n ρ ρ'/\n<=kP n is:=by
 induction h with
 |nil n ρ=>exact⟨.refl n ρ,ec _⟩
 |bQ n ρ x r ρ' _ _ j=>exact j
 |get n ρ xs k r ρ' t l kk i e _ _ _ _ j=>
  obtain⟨B,F⟩:=j;exact⟨(cU.push (ec n) ρ _).trans B (by omega),by simp only[kP];omega⟩
 |call n ρ c x r ρ' C a y _ _ _ _ j=>
  obtain⟨B,F⟩:=j;exact⟨(cU.push (ec n) ρ _).trans B (by omega),by simp only[kP];omega⟩
def wy{cs:List Callee}{t:Tr}{Q:LQ}{J:LJ}:∀{is:List Ins}{n:Nat}{ρ:aU},Tr.wp cs (qj t n is) ρ Q J->∃ρ',bY cs n ρ is ρ'/\Tr.wp cs t ρ' Q J
 | [],n,ρ,h=>⟨ρ,.nil n ρ,h⟩
 |.bQ x::r,n,ρ,⟨h1,j⟩=>by
  obtain⟨ρ',B,F⟩:=wy j;exact⟨ρ',.bQ n ρ x r ρ' h1 B,F⟩
 |.get xs k::r,n,ρ,⟨u,l,kk,i,e,h1,j,G,M⟩=>by
  obtain⟨ρ',B,F⟩:=wy M;exact⟨ρ',.get n ρ xs k r ρ' u l kk i e h1 j G B,F⟩
 |.call c x::r,n,ρ,⟨C,a,y,h1,j,G,M⟩=>by
  obtain⟨ρ',B,F⟩:=wy M;exact⟨ρ',.call n ρ c x r ρ' C a y h1 j G B,F⟩
section
variable {P:Program}{V:Env}{C:Cx}{cs:List Callee}{n:Nat}{ops:List Oper}
def ml(P:Program)(n:Nat)(ops:List Oper)(o:Oper)(s:St)(K:St->Prop):Prop:=
 ∀(w0:World)(I0:aD)(a:Act)(w:World)(Q:Exit->Act->World->Prop)(j:Act->World->Prop),Rel w0 I0 n s a w->(∀s' k w',K s'->Rel w0 I0 n s' k w'->j k w') ->
  if Region.wanted o (yielded ops.toArray a.tmps)=true then o.wpIn dS 0 P a w j Q else(∀f,o.about P w a.eval=some f->dS.fn f)/\j (a.put o.dst undef) w
def ox(P:Program)(n:Nat)(ops:List Oper):List Oper->St->(St->Prop)->Prop
 | [],s,K=>K s
 |o::r,s,K=>ml P n ops o s λs'=>ox P n ops r s' K
theorem ox.wp{w0:World}{I0:aD}{Q:Exit->Act->World->Prop}{K:St->Prop}(k:∀s a w,K s->Rel w0 I0 n s a w->Q .normal a w):∀(r:List Oper)(s:St)(a:Act)(w:World),Rel w0 I0 n s a w->ox P n ops r s K->wpListIn dS 0 P ops.toArray Q r a w
 | [],s,a,w,j,h=>k s a w h j
 |o::r,s,a,w,j,h=>by
  unfold wpListIn;exact h w0 I0 a w Q _ j λs' B w' F G=>ox.wp k r s' B w' G F
def CN{o:Oper}{s:St}{K:St->Prop}{pc:PC}{t:T}{l':List AO}(Y:dL ops s.t o.guard=some pc)(Z:holds pc)(B:bZ P o (cg s.t) s.l t l')(O:eE n o.dst=true)(M:K ⟨bH s.t o.dst t,l'⟩):ml P n ops o s K:=by
 intro w0 I0 a w Q ad aa N;obtain⟨F,I,m,G,U,ht⟩:=aa;rw[if_pos ((pJ ht Y).2 Z)];refine cr.wpIn B.1 ((B.2 w0 I0 w I m a.eval G (λx ae=>nw G.sat.dK ht x)).mono λv w' ⟨J,m',j,ab,hv⟩=>?_);exact N _ _ _ M ⟨by cases o.dst<;>simp[Act.put,F],J,m',ab,U.put j.du,jk F O (λk=>(ht k).mono j) hv⟩
def P0{o:Oper}{s:St}{K:St->Prop}{pc:PC}(M:dL ops s.t o.guard=some pc)(O:¬holds pc)(F:eE n o.dst=true)(k:K ⟨bH s.t o.dst ak.gone,s.l⟩):ml P n ops o s K:=by
 intro w0 I0 a w Q Z U B;obtain⟨j,I,m,Y,G,ht⟩:=U;rw[if_neg (λN=>O ((pJ ht M).1 N))];exact⟨λf _=>ow f,B _ _ _ k ⟨by cases o.dst<;>simp[Act.put,j],I,m,Y,G.put (.refl I),jk j F ht Mi⟩⟩
theorem qy{ρ:aU}{tX:List (Nat×TX)}{t:Tm}(h:∀k,RX ρ (ba tX k) (ak.get t k))(x:Operand):RX ρ (gJ tX x) (cg t x):=by
 cases x with
 |tmp k=>exact h k
 |func f=>exact .d (.fn f) _ () (cy rfl) rfl
 |global g=>exact .undef _
 |const v=>
  show RX ρ (D3 v) (tB v);unfold D3;split
  ·exact .d .bool _ _ (cy rfl) rfl
  ·exact .d (.int _) _ _ (cy rfl) rfl
  ·rename_i s;exact .d .str _ s (cy rfl) (by
    cases s with|mk d=>cases d with|mk l=>rfl)
  ·exact .bq 0
  ·exact .ej
  exact .undef _
theorem Mn{ρ:aU}{σ:Sk}{s:St}{g:Option (Nat×Bool)}(h:∀j b d,g=some (j,b)->(ops[j]?).bind (·.dst)=some d->RX ρ (ba σ.t d) (ak.get s.t d))(k:nD ops σ g=.yes):∃pc,dL ops s.t g=some pc/\holds pc:=by
 unfold nD at k;split at k
 ·exact⟨[],rfl,trivial⟩
 rename_i j b;split at k
 ·rename_i d G;have M:=h _ _ _ rfl G;split at k
  ·rename_i c U;rw[U]at M;obtain⟨B,N,O⟩:=iT M;have:B=c:=(fH (N.symm.trans (rfl:(X.bool c).den ρ=some ⟨.bool,c⟩)));subst this;cases F:(B == b)with
   |true=>exact⟨[(j,B,b)],by simp only[dL,G,O],by simpa using F,trivial⟩
   |false=>simp[F]at k
  ·cases k
  ·cases k
  cases k
 cases k
theorem Mm{ρ:aU}{σ:Sk}{s:St}{g:Option (Nat×Bool)}(h:∀j b d,g=some (j,b)->(ops[j]?).bind (·.dst)=some d->RX ρ (ba σ.t d) (ak.get s.t d))(k:nD ops σ g=.no):∃pc,dL ops s.t g=some pc/\¬holds pc:=by
 unfold nD at k;split at k
 ·cases k
 rename_i j b;split at k
 ·rename_i d N;have B:=h _ _ _ rfl N;split at k
  ·rename_i c M;rw[M]at B;obtain⟨F,Y,G⟩:=iT B;have:F=c:=(fH (Y.symm.trans (rfl:(X.bool c).den ρ=some ⟨.bool,c⟩)));subst this;cases U:(F == b)with
   |true=>simp[U]at k
   |false=>exact⟨[(j,F,b)],by simp only[dL,N,G],λO=>by have:=O.1;simp[this]at U⟩
  ·cases k
  ·rename_i M;rw[M]at B;have G:=E1 B;exact⟨[(0,true,false)],by simp only[dL,N,G,ak.gone],λO=>by cases O.1⟩
  cases k
 cases k
def Xe{ρ:aU}{σ:Sk}{s:St}(h:bh ρ σ s){g:Option (Nat×Bool)}{x:X}{b:Bool}(k:nD ops σ g=.ask x b){c:Bool}(ad:x.den ρ=some ⟨.bool,c⟩):∃pc,dL ops s.t g=some pc/\(holds pc↔c=b):=by
 unfold nD at k;split at k
 ·cases k
 rename_i j G;split at k
 ·rename_i d ab;have N:=h.t d;split at k
  ·rename_i B M;cases aa:(B == G)<;>simp[aa]at k
  ·rename_i ae _ M;injection k with O U;subst O;subst U;rw[M]at N;obtain⟨B,Y,Z⟩:=iT N;have:c=B:=fH (ad.symm.trans Y);subst this;exact⟨[(j,c,G)],by simp only[dL,ab,Z],⟨λF=>F.1,λF=>⟨F,trivial⟩⟩⟩
  ·cases k
  cases k
 cases k
def KS{ρ:aU}{σ:Sk}{s:St}(h:bh ρ σ s){x:X}{c:Bool}(Z:x.den ρ=some ⟨.bool,c⟩):bh ρ (σ.decide x c) s:=by
 refine⟨h.eC,λk=>?_,h.l⟩;show RX ρ (ba (oG x c σ.t) k) _;have F:=h.t k;generalize ak.get s.t k=u at F;have key:∀t:List (Nat×TX),RX ρ (ba t k) u->RX ρ (ba (oG x c t) k) u:=by
  intro t;induction t with
  |nil=>intro h;exact h
  |cons p r M=>
   intro h;obtain⟨j,y⟩:=p;by_cases G:∃z,y=.d .bool z
   ·obtain⟨z,rfl⟩:=G;simp only[oG,ba]at h⊢;cases B:Nat.beq j k with
    |false=>rw[B]at h;exact M h
    |true=>
     rw[B]at h;simp only[cond_true]at h⊢;cases Y:X.beq x z with
     |false=>exact h
     |true=>
      have:=X.beq_eq Y;subst this;obtain⟨N,O,U⟩:=iT h;have:c=N:=fH (Z.symm.trans O);subst this;rw[U];exact fp rfl
   have:oG x c ((j,y)::r)=(j,y)::oG x c r:=by
    cases y with
    |d t z=>cases t<;>first|rfl|exact absurd ⟨_,rfl⟩ G
    |_=>rfl
   rw[this];simp only[ba]at h⊢;cases B:Nat.beq j k with
   |false=>rw[B]at h;exact M h
   |true=>rw[B]at h;exact h
 exact key σ.t F
def Hn{ρ:aU}{tX:List (Nat×TX)}{t:Tm}(h:∀k,RX ρ (ba tX k) (ak.get t k)){j:Option Nat}{x:TX}{u:T}(F:RX ρ x u):∀k,RX ρ (ba (jm tX j x) k) (ak.get (bH t j u) k):=by
 intro k;cases j with
 |none=>exact h k
 |some d=>
  show RX ρ (bif Nat.beq d k then x else ba tX k) (if d=k then u else ak.get t k);by_cases B:d=k
  ·subst B;rw[if_pos rfl,h6];exact F
  rw[if_neg B,kz B];exact h k
def IT(P:Program)(cs:List Callee)(n:Nat)(ops:List Oper)(H:yL)(σ:Sk)(ρ:aU):Prop:=
 ∀(o:Oper)(m:Nat)(F:(TX->Sk->Tr)->Tr)(s:St)(Q:LQ)(J:LJ)(K:TX->Sk->Tr)(k:St->Prop)(pc:PC),H o m σ=some F->bh ρ σ s->eR Q->eE n o.dst=true->dL ops s.t o.guard=some pc->holds pc->Tr.wp cs (F K) ρ Q J ->
  (∀x j ρ' J' u s',Tr.wp cs (K x j) ρ' Q J'->cU σ.n ρ ρ'->σ.n<=j.n->bh ρ' j s'->RX ρ' x u->k ⟨bH s'.t o.dst u,s'.l⟩)->ml P n ops o s k
theorem CI(an:bM P V C)(aq:fG P C cs)(ag:C.nt=n){H:yL}{ai:Nat}{K:St->Prop}{Q:LQ}(ab:eR Q){n0:Nat}{ρ0:aU}(ao:∀σ ρ,cU n0 ρ0 ρ->n0<=σ.n->IT P cs n ops H σ ρ):∀(r:List Oper){σ:Sk}{ρ:aU}{s:St}{J:LJ},cU n0 ρ0 ρ->n0<=σ.n->bh ρ σ s->Tr.wp cs (mc C H ai ops r σ) ρ Q J ->
  (∀bA ρ' J',Q .normal bA ρ' J'->cU σ.n ρ ρ'->σ.n<=bA.n->∀s',bh ρ' bA s'->K s')->ox P n ops r s K
 | [],σ,ρ,s,J,_,_,h,j,ad=>ad σ ρ J j (.refl _ _) (ec _) s h
 |o::r,σ,ρ,s,J,av,aO,h,j,ad=>by
  have aw:∀{σ1:Sk}{pc:PC},σ1.n=σ.n->bh ρ σ1 s->dL ops s.t o.guard=some pc->holds pc->Tr.wp cs (bif !eE C.nt o.dst then .bad 15 else match rn C ops (gJ σ1.t) σ1.l σ1.n σ1.l.length o with|some q=>qj (mc C H ai ops r (s8 σ1 o.dst q)) σ1.n q.ins|none=>match H o (MX ai ops r) σ1 with|some F=>F λx N=>mc C H ai ops r ⟨N.n,jm N.t o.dst x,N.l⟩|none=>.bad (30000+o.dst.getD 9999)) ρ Q J->ox P n ops (o::r) s K:=by
   intro σ1 pc ah B M au j;cases G:eE C.nt o.dst with
   |false=>rw[G]at j;exact j.elim
   |true=>
    rw[G]at j;simp only[pb,cond_false]at j;rw[ag]at G;split at j
    ·rename_i q aI;obtain⟨ρ',hi,j⟩:=wy j;obtain⟨Z,aG⟩:=hi.ext B.eC;obtain⟨aC,az⟩:=hi.Lm;have aD:σ1.l.length=s.l.length:=B.l.len;obtain⟨t,ht,ar⟩:=Eo (ρT:=cg s.t) an aq B.l (λx _=>qy B.t x) P6 Z aI hi;have fin:∀(l':List AO),bZ P o (cg s.t) s.l t l'->RL ρ' (match q.bE with |.none=>σ1.l |.new a=>σ1.l++[a] |.aQ l'=>l') l'->ox P n ops (o::r) s K:=by
      intro l' aH hl;refine CN M au aH G ?_;refine CI an aq ag ab ao r (σ:=s8 σ1 o.dst q) (av.trans aC (by omega)) (show n0<=kP σ1.n q.ins by omega) ⟨aG,Hn (λk=>(B.t k).mono Z) ht,hl⟩ j ?_;intro bA aj J' ax O af s' aa;have af:kP σ1.n q.ins<=bA.n:=af;have O:cU (kP σ1.n q.ins) ρ' aj:=O;exact ad bA aj J' ax (by rw[<-ah];exact aC.trans O az) (by omega) s' aa
     split at ar
     ·rename_i ae;rw[ae]at fin;exact fin _ ar (B.l.mono Z)
     ·rename_i a ae;obtain⟨aN,aA,aB,_⟩:=ar;rw[ae]at fin;exact fin _ (aB aD) (F2.app (B.l.mono Z) (.cons aA .nil))
     rename_i l1 ae;obtain⟨l',aA,aB⟩:=ar;rw[ae]at fin;exact fin l' (aB aD) aA
    split at j
    ·rename_i F aF;refine ao σ1 ρ av (by omega) o _ F s Q J _ _ pc aF B ab G M au j ?_;intro x N ρ' J' u s' aL Z az aa aK;refine CI an aq ag ab ao r (σ:=⟨N.n,jm N.t o.dst x,N.l⟩) (av.trans Z (by omega)) (show n0<=N.n by omega) ⟨aa.eC,Hn aa.t aK,aa.l⟩ aL ?_;intro bA aj aE ax O af aM aJ;have af:N.n<=bA.n:=af;have O:cU N.n ρ' aj:=O;exact ad bA aj aE ax (by rw[<-ah];exact Z.trans O az) (by omega) aM aJ
    exact j.elim
  have skip:∀{σ1:Sk}{pc:PC},σ1.n=σ.n->bh ρ σ1 s->dL ops s.t o.guard=some pc->¬holds pc->Tr.wp cs (bif !eE C.nt o.dst then .bad 16 else mc C H ai ops r {σ1 with t:=jm σ1.t o.dst .gone}) ρ Q J->ox P n ops (o::r) s K:=by
   intro σ1 pc ah B M au j;cases G:eE C.nt o.dst with
   |false=>rw[G]at j;exact j.elim
   |true=>
    rw[G]at j;simp only[pb,cond_false]at j;rw[ag]at G;refine P0 M au G ?_;refine CI an aq ag ab ao r (σ:={σ1 with t:=jm σ1.t o.dst .gone}) av (show n0<=σ1.n by omega) ⟨B.eC,Hn B.t .gone,B.l⟩ j ?_;intro bA ρ' J' ab O hl s' aa;exact ad bA ρ' J' ab (by rw[<-ah];exact O) (by rw[<-ah];exact hl) s' aa
  simp only[mc]at j;split at j
  ·rename_i M;obtain⟨pc,U,Y⟩:=Mn (λ_ _ d _ _=>h.t d) M;exact aw rfl h U Y j
  ·rename_i M;obtain⟨pc,U,Y⟩:=Mm (λ_ _ d _ _=>h.t d) M;exact skip rfl h U Y j
  ·rename_i x b M;obtain⟨c,B,ak,al⟩:=j;obtain⟨pc,U,Y⟩:=Xe h M B;have G:=KS h B;cases c with
   |true=>
    have ak:=ak rfl;cases b with
    |true=>exact aw (σ1:=σ.decide x true) rfl G U (Y.2 rfl) ak
    |false=>exact skip (σ1:=σ.decide x true) rfl G U (λay=>by cases Y.1 ay) ak
   |false=>
    have al:=al rfl;cases b with
    |true=>exact skip (σ1:=σ.decide x false) rfl G U (λay=>by cases Y.1 ay) al
    |false=>exact aw (σ1:=σ.decide x false) rfl G U (Y.2 rfl) al
  exact j.elim
end
end Go.Sy
namespace Go.ak
open Go Go.RowKit
variable [bm][bS]
section
variable {P:Program}{V:Env}{w0 w:World}{I0 I:aD}{m:Nat->Value}{l:List AO}{n:Nat}{Q:Exit->St->Prop}{s:St}
def qV(P:Program)(g:FuncId)(ts:List T)(l:List AO)(ft:Tm)(K:T->List AO->Prop):Prop:=
 Enters P g/\∀(w0:World)(I0:aD)(w:World)(I:aD)(m:Nat->Value)(j:Array Value)(vals:Nat->Value),aJ w0 I0 w I m l->j.size=ts.length->(∀(i:Nat) v x,j[i]?=some v->ts[i]?=some x->az I m l v x)->(∀k,az I m l (vals k) (ak.get ft k)) ->
  Calls P g j w λe w'=>∃v,e=.returned v/\∃t l' J m',K t l'/\aJ w0 I0 w' J m' l'/\az J m' l' v t/\(∀b,I.df b->J.df b)/\∀k,az J m' l' (vals k) (ak.get ft k)
theorem qV.of{f:FuncId}{fn:Func}{c:Code}{ts:List T}{l:List AO}{ft:Tm}{K:T->List AO->Prop}(ar:c6 P V)(aA:Enters P f)(aC:P.funcs[f]?=some fn)(aw:fn.body=some c)(a7:ts.length<=fn.ntmps)(h:∀(R:bS),R.r=none->∀w0 I0 vals(Q:Exit->St->Prop),(∀e s2,(e=.ret\/e=.normal)->sX V s2 fn.results.toList l.length vals ft K->Q e s2)->aX P w0 I0 fn.ntmps c ⟨jP 0 ts,l++[.frame l.length vals ft]⟩ Q):qV P f ts l ft K:=by
 refine⟨aA,λw0 I0 w I m N vals Z aO av aF=>?_⟩;let R:bS:=⟨none,I.df⟩;refine zl (R:=λe w'=>∃v,e=.returned v/\∃t l' J m',K t l'/\aJ w0 I0 w' J m' l'/\az J m' l' v t/\(∀b,I.df b->J.df b)/\∀k,az J m' l' (vals k) (get ft k)) rfl aC aw ?_;have al:aJ w0 I0 w I (aQ m l.length (.bool false)) (l++[.frame l.length vals ft])/\Le I m l I (aQ m l.length (.bool false)) (l++[.frame l.length vals ft]):=by
  have Y:∀k,k<l.length->(l++[AO.frame l.length vals ft])[k]?=l[k]?:=λk O=>e1 O;have aN:(l++[AO.frame l.length vals ft])[l.length]?=some (.frame l.length vals ft):=by simp
  have ag:Le I m l I (aQ m l.length (.bool false)) (l++[.frame l.length vals ft]):=by
   refine⟨.refl I,by simp,λid M hv=>⟨?_,bU m _ (by omega)⟩,λid M U=>⟨?_,bU m _ (by omega)⟩,λid aq s' els' M af=>⟨els',?_⟩⟩
   ·unfold isVar at hv⊢;rw[Y id M];exact hv
   ·unfold isRow at U⊢;rw[Y id M]at U;exact U
   rw[Y id M]at af;exact af
  have ao:∀k,k≠l.length->alive (l++[AO.frame l.length vals ft]) k=true->alive l k=true:=by
   intro k O au;obtain⟨o,F,G⟩:=bN.1 au;have aK:k<l.length:=by have:=(db.1 F).1;simp at this;omega
   rw[Y k aK]at F;exact bN.2 ⟨o,F,G⟩
  refine⟨⟨Z.below,Z.sat,Z.ext,λid o F=>?_,λi j b aG hi aH ad ae=>?_⟩,ag⟩
  ·by_cases M:id<l.length
   ·rw[Y id M]at F;rw[bU m _ (by omega)];by_cases G:o=.dead
    ·subst G;trivial
    exact(Z.obj id o F).cF ag (λ_ _=>rfl) (λ_ _=>⟨rfl,rfl⟩) (.push (λ_ _ _=>rfl) rfl)
   have:id=l.length:=by
    have:=(db.1 F).1;simp at this;omega
   subst this;rw[aN]at F;injection F with F;subst F;rw[dH];refine⟨rfl,by simp,λk=>?_⟩;have e:(l++[AO.frame l.length vals ft]).take l.length=l:=by simp
   rw[e];refine(aF k).mono ⟨.refl I,ec _,λid M hv=>⟨hv,bU m _ (by omega)⟩,λid M U=>⟨U,bU m _ (by omega)⟩,λid aq s' els' M af=>⟨els',af⟩⟩
  by_cases ai:i=l.length
  ·subst ai;rw[dH]at ad;cases ad
  by_cases aj:j=l.length
  ·subst aj;rw[dH]at ae;cases ae
  rw[bU m _ ai]at ad;rw[bU m _ aj]at ae;exact Z.sep i j b aG (ao i ai hi) (ao j aj aH) ad ae
 obtain⟨al,ag⟩:=al;have aS:Rel w0 I0 fn.ntmps ⟨jP 0 ts,l++[.frame l.length vals ft]⟩ {tmps:=N++Array.replicate (fn.ntmps-N.size) undef,defers:=[]} w:=by
  refine⟨by simp;omega,I,_,al,eJ.nil λ_ h=>h,λk=>?_⟩;rw[H6];simp only[j3,hK,Nat.sub_zero];cases G:ts[k]? with
  |none=>exact .undef _
  |some d=>
   have O:k<N.size:=by rw[aO];exact(db.1 G).1
   have hv:N[k]?=some N[k]:=e5 O;have:(N++Array.replicate (fn.ntmps-N.size) undef).getD k undef=N[k]:=by
    rw[hz,j1 O,hv];rfl
   rw[this];exact(av k _ d hv G).mono ag
 refine na (λe a ba ⟨s2,⟨ak,ab,aT,aP,aE,O⟩,U⟩=>?_) (h R rfl w0 I0 vals (λe s2=>(e=.ret\/e=.normal)/\sX V s2 fn.results.toList l.length vals ft K) (λe s2 ak aW=>⟨ak,aW⟩) _ _ aS);obtain⟨_,a6,m',aV,ax,aU⟩:=aT _ _ _ _ _ U;obtain⟨w',J,an,aI,ay,aB⟩:=zE (P:=P) (fn:=fn) (a:=a) ak aV ax;refine aB _ ?_;have ht:∀k,az J m' ab.l (a.tmps.getD k undef) (get ab.t k):=λk=>ay _ _ (aU k);obtain⟨aa,aY,aZ,ah⟩:=yl (P:=P) ar.E an ht fn.results.toList aP;have aR:(results fn a.tmps).run P w'=.ok (if h:aa.length=1 then aa[0]else .tuple aa.toArray) w':=by
  rw[CG];simp only[e8,sb,adZ,aY,Result.andThen_ok,Sem.run_pure];simp
 have aD:=an.obj _ _ aE;refine⟨_,aR,_,rfl,_,_,J,m',O,an,?_,aI,λk=>(aD.2.2 k).mono (Le.vC J m' ab.l l.length)⟩;have B:aa.length=(fn.results.toList.map λv=>(eX V ab v).1).length:=by simp[aZ]
 generalize (fn.results.toList.map λv=>(eX V ab v).1)=a1 at B ah
 match a1,B with
 | [t],B=>
  have aM:aa.length=1:=B;rw[adK aM];exact ah 0 _ t (c5 (by omega)) rfl
 | [],B=>
  rw[dif_neg (by simp at B;simp[B])];exact .aL _ _ (by simpa using B) (λi v d hv G=>ah i v d (by simpa using hv) G)
 |t1::t2::a8,B=>
  rw[dif_neg (by rw[B];simp)];exact .aL _ _ (by simpa using B) (λi v d hv G=>ah i v d (by simpa using hv) G)
theorem OP(aP:bS.r=none){g:Operand}{ps:Array Tmp}{assign body:Code}{gf:FuncId}{caps:List T}(aA:tA (cg s.t g)=some (gf,caps))(h:∀N,ak.get s.t N=.undef->qV P gf (.bj s.l.length::caps) (s.l++[.loop s.l.length n ps assign body s.t .ready none]) ((N,.bj s.l.length)::s.t) λ_ l'=>Dl P w0 I0 n Q s s.l.length l') :
  aX P w0 I0 n (.rangeFunc g ps assign body) s Q:=λa w U=>by
 obtain⟨ah,I,m,M,aD,ht⟩:=U;obtain⟨vs,aI,aU,aC⟩:=Vj (nw M.sat.dK ht g) aA;obtain⟨N,Z⟩:=Mf s.t;obtain⟨aF,aB⟩:=h N Z;refine wpIn_rangeFunc ?_;intro fn a8;have aR:dS.round=none:=aP;rw[aR];obtain⟨J,ai,G,ax,aw⟩:=M.Q5;obtain⟨j,Y⟩:∃j:Loop,j={state:=.ready,pending:=none,fn,tmps:=a.tmps,params:=ps,assign,body,defers:=w.heap.size}:=⟨_,rfl⟩;have aM:((w.alloc (.deferred (some []))).alloc (.loop j)).heap[w.heap.size+1]?=some (.loop j):=by
  have:=World.alloc_heap_new (w.alloc (.deferred (some []))) (.loop j);rwa [World.size_alloc]at this
 have aN:=ai.sat.dX (b:=w.heap.size+1) (by simp);have aO:dZ w0.heap.size ((w.alloc (.deferred (some []))).alloc (.loop j)) J (aQ m s.l.length (.func (.yield (w.heap.size+1)) #[] #[])) (s.l++[.loop s.l.length n ps assign body s.t .ready none]) (.func (.yield (w.heap.size+1)) #[] #[]) (.loop s.l.length n ps assign body s.t .ready none):=by
  refine⟨w.heap.size+1,j,rfl,?_,aM,?_,by simp,λk=>?_,aN⟩
  ·have:=M.below.size;omega
  ·rw[Y];exact⟨rfl,rfl,rfl,rfl,rfl,ah⟩
  have e:(s.l++[AO.loop s.l.length n ps assign body s.t .ready none]).take s.l.length=s.l:=by simp
  rw[e,Y];exact((ht k).mono G).mono ⟨.refl J,ec _,λid ab hv=>⟨hv,bU m _ (by omega)⟩,λid ab U=>⟨U,bU m _ (by omega)⟩,λid a7 s' els' ab aJ=>⟨els',aJ⟩⟩
 have aH:World.grownBy (w.alloc (.deferred (some []))) ((w.alloc (.deferred (some []))).alloc (.loop j)) none:=q0 _ _ _;obtain⟨ad,aW⟩:=ai.Cp (b0:=w.heap.size+1) rfl (by simp) aH (ec _) (by simp) aO;have al:az J (aQ m s.l.length (.func (.yield (w.heap.size+1)) #[] #[])) (s.l++[.loop s.l.length n ps assign body s.t .ready none]) (.func (.yield (w.heap.size+1)) #[] #[]) (.bj s.l.length):=
  .bj _ _ (by simp[isVar,AO.isVar]) (dH m _ _)
 refine⟨w.heap.size+1,[mark w.heap.size],(w.alloc (.deferred (some []))).alloc (.loop j),{target:=.fn (.func gf) vs,args:= #[.func (.yield (w.heap.size+1)) #[] #[]]},(w.alloc (.deferred (some []))).alloc (.loop j),gf,
  #[.func (.yield (w.heap.size+1)) #[] #[]]++vs,(w.alloc (.deferred (some []))).alloc (.loop j),?_,?_,λao _=>ow ao,?_,λh=>by simp[dS,Fence.wide]at h,?_⟩
 ·rw[Y];exact run_enterLoop_outer _ _ _ _ _
 ·simp only[resolve,aI];simp[go_sem]
 ·simp[invoke,aF _ _]
 refine Kv ?_ _;have ar:∀(i:Nat) v x,(#[Value.func (.yield (w.heap.size+1)) #[] #[]]++vs)[i]?=some v->(T.bj s.l.length::caps)[i]?=some x->az J (aQ m s.l.length (.func (.yield (w.heap.size+1)) #[] #[])) (s.l++[.loop s.l.length n ps assign body s.t .ready none]) v x:=λi v x hv O=>by
  rcases i with _|i
  ·rw[j1 (by simp)]at hv;simp at hv O;subst hv;subst O;exact al
  have aT:vs[i]?=some v:=by
   rw[q7 (by simp)]at hv;simpa using hv
  simp at O;exact((aC i v x aT O).mono G).mono ad
 have au:∀k,az J (aQ m s.l.length (.func (.yield (w.heap.size+1)) #[] #[])) (s.l++[.loop s.l.length n ps assign body s.t .ready none]) (if k=N then .func (.yield (w.heap.size+1)) #[] #[]else a.tmps.getD k undef) (get ((N,.bj s.l.length)::s.t) k):=λk=>by
  simp only[get];by_cases B:N=k
  ·subst B;simp only[hK];exact al
  rw[if_neg B,if_neg (hU B)];exact((ht k).mono G).mono ad
 have av:=aB w0 I0 _ J _ (#[Value.func (.yield (w.heap.size+1)) #[] #[]]++vs) (λk=>if k=N then .func (.yield (w.heap.size+1)) #[] #[]else a.tmps.getD k undef) aW (by simp[aU];omega) ar au;refine av.mono ?_;rintro e w' ⟨v,rfl,t,l',J',m',B,aV,hv,aE,ag⟩;obtain⟨base,k,aY,bc,iS,tm,st,F,aK,aS,aa⟩:=B;have aj:=ag N;simp only[get,hK]at aj;have aL:m' s.l.length=.func (.yield (w.heap.size+1)) #[] #[]:=by
  cases aj with
  |bj _ _ _ aq=>exact aq
 obtain⟨r,aZ,an,ba,bb,a1,a6⟩:=aV.sI (st':=.exhausted) (pend':=F) aK aL;have aG:=run_endLoop (P:=P) aZ (by rw[an.1];exact aS);have ae:r.pending=F:=an.2.1;refine⟨F,_,by rw[<-ae];exact aG,?_⟩;have af:Rel w0 I0 n ⟨s.t,l'.set s.l.length (.loop base k aY bc iS tm .exhausted F)⟩ {a with defers:=[mark w.heap.size]++a.defers} (w'.putObj (w.heap.size+1) (.loop {r with state:=.exhausted})):=by
  refine⟨ah,J',m',?_,?_,λk=>?_⟩
  ·have:({r with state:=.exhausted}:Loop)={r with state:=.exhausted,pending:=F}:=by rw[<-ae]
   rw[this];exact a6
  ·refine eJ.rX (I:=J) (eJ.cons (aD.rX (J:=I) λ_ h=>h) (λb ay=>G.du.df b ay) (by exact M.below.size) aw ax) aE
  have:=ag k;simp only[get]at this;by_cases B:N=k
  ·subst B;rw[Z];exact .undef _
  rw[if_neg B,if_neg (hU B)]at this;exact this.mono a1
 cases F with
 |none=>exact⟨_,aa,af⟩
 |some c=>exact aa _ _ af
end
end Go.ak
namespace Go.Sy
open Go Go.ak Go.RowKit
variable [bm][bS]
section
variable [aI][cz][dg]
variable {P:Program}{V:Env}{n:Nat}{ops:List Oper}
theorem acj{o:Oper}{s:St}{K:St->Prop}{pc:PC}{g:FuncId}{ts:List T}{ft:Tm}(aa:dL ops s.t o.guard=some pc)(ad:holds pc)(O:eE n o.dst=true)(j:eD V.E (cg s.t) o=some (g,ts))(Z:∀k,ak.get ft k=.undef\/ak.get ft k=ak.get s.t k)(h:qV P g ts s.l ft λu l'=>K ⟨bH ft o.dst u,l'⟩):ml P n ops o s K:=by
 intro w0 I0 a w Q an ae M;obtain⟨B,I,m,F,U,ht⟩:=ae;rw[if_pos ((pJ ht aa).2 ad)];refine cr.wpIn (tz j) ?_;obtain⟨G,af,ab,N⟩:=pY (P:=P) (w:=w) (ρ:=a.eval) h.1 (λx _=>nw F.sat.dK ht x) j;rw[af];simp only[cr];refine(h.2 w0 I0 w I m G (λk=>a.tmps.getD k undef) F ab N λk=>?_).mono ?_
 ·rcases Z k with e|e
  ·rw[e];exact .undef _
  rw[e];exact ht k
 rintro e w' ⟨v,Y,t,l',J,m',ag,ah,ai,al,aj⟩;exact⟨v,Y,M _ _ _ ag ⟨by cases o.dst<;>simp[Act.put,B],J,m',ah,U.yb al,jk B O aj ai⟩⟩
theorem acm{o:Oper}{s:St}{K:St->Prop}{pc:PC}{id base k:Nat}{ts:List T}{ps:Array Tmp}{bc O:Code}{tm ft:Tm}(bd:dL ops s.t o.guard=some pc)(ag:holds pc)(aU:eE n o.dst=true)(aC:jT V.E (cg s.t) o=some (id,ts))(bb:∀k,ak.get ft k=.undef\/ak.get ft k=ak.get s.t k)(hl:s.l[id]?=some (.loop base k ps bc O tm .ready none))(bn:ps.size=ts.length)(bm:ps.toList.all (λp=>decide (p<k))=true)(
   h:∀(R:bS)(w0:World)(I0:aD)(N:Nat)(vals:Nat->Value)(Q:Exit->St->Prop),ak.get ft N=.undef->(∀e B s2,oR e=some B->sW s2 s.l.length vals ((N,.bj id)::ft) id base k ps bc O tm B (λl'=>K ⟨bH ft o.dst (.d (.bool B.isNone)),l'⟩)->Q e s2) ->
   @aX _ R P w0 I0 k bc ⟨lv ps.toList ts tm,s.l++[.frame s.l.length vals ((N,.bj id)::ft)]⟩ (ux λs1=>∃s2,Sub s1 s2/\s2.l[s.l.length]?=some (.frame s.l.length vals ((N,.bj id)::ft))/\s2.l[id]?=some (.loop base k ps bc O tm .ready none)/\@aX _ R P w0 I0 k O ⟨s2.t,s2.l.set id (.loop base k ps bc O tm .busy none)⟩ Q)):ml P n ops o s K:=by
 intro w0 I0 a w Q aH br aM;obtain⟨aA,I,m,ai,aV,ht⟩:=br;rw[if_pos ((pJ ht bd).2 ag)];obtain⟨b,ad,f,bQ,bR,bP,aw,bs,av,aO⟩:=QR (P:=P) (w:=w) (ρ:=a.eval) (λx _=>nw ai.sat.dK ht x) aC;obtain⟨Y,aP,bq,bO,bB,_,_⟩:=ai.sI (st':=.ready) (pend':=none) hl aw;obtain⟨bU,bT,ax,has,aR,aB⟩:=bq;obtain⟨N,ao⟩:=Mf ft;generalize ah:(λj=>if j=N then Value.func (.yield b) #[] #[]else a.tmps.getD j undef)=vals;have bf:ak.isVar s.l id=true:=by unfold ak.isVar;rw[hl];rfl
 have bt:∀j,az I m s.l (vals j) (ak.get ((N,.bj id)::ft) j):=λj=>by
  rw[<-ah];simp only[ak.get];by_cases U:N=j
  ·subst U;simp only[hK];exact .bj id b bf aw
  rw[if_neg U,if_neg (hU U)];rcases bb j with e|e
  ·rw[e];exact .undef _
  rw[e];exact ht j
 have ar:∀{aa:aD}{Z:Nat->Value}{an:World}{l1:List AO},aJ w0 I0 an aa Z l1->l1[s.l.length]?=some (.frame s.l.length vals ((N,.bj id)::ft))->Z id=.func (.yield b) #[] #[]:=λ{aa Z an l1} ae a6=>by
  have G:=(ae.obj _ _ a6).2.2 N;rw[<-ah]at G;simp only[hK,ak.get]at G;cases G with
  |bj _ _ _ af=>exact af
 unfold Oper.wpIn;refine⟨λ_ _=>ow _,?_⟩;rw[Oper.semAt_eq _ _ _ (QQ aC),bs,run_yield aP (by rw[ax,av,bn]),Oper.uponIn_round];refine⟨λh=>by simp[dS,Fence.wide]at h,?_⟩;obtain⟨bD,au⟩:=ai.frame (vals:=vals) (ft:=(N,.bj id)::ft) bt;have ay:=HN (m:=aQ m s.l.length (.bool false)) (l:=s.l++[.frame s.l.length vals ((N,.bj id)::ft)]) (I:=I) ps.toList ad.toList ts Y.tmps tm (by simpa using av) (λi v x hv bE=>(aO i v x (by simpa using hv) bE).mono au) (λp ag=>by rw[aB];simpa using ek.1 bm p ag) (λq=>((bB q).mono (Le.vC I m s.l base)).mono au);have a8:(Y.params.zip ad).foldl (λtmps(x:Tmp×Value)=>tmps.setIfInBounds x.1 x.2) Y.tmps=(ps.toList.zip ad.toList).foldl (λt(p:Tmp×Value)=>t.setIfInBounds p.1 p.2) Y.tmps:=by
  rw[<-LB,Array.toList_zip,ax]
 have bu:@Rel _ ⟨some b,I.df⟩ w0 I0 k ⟨lv ps.toList ts tm,s.l++[.frame s.l.length vals ((N,.bj id)::ft)]⟩ {tmps:=(Y.params.zip ad).foldl (λtmps(x:Tmp×Value)=>tmps.setIfInBounds x.1 x.2) Y.tmps,defers:=[]} w:=by
  rw[a8];exact @Rel.mk _ ⟨some b,I.df⟩ _ _ _ _ _ _ (ay.1.trans aB) ⟨I,_,bD,@eJ.nil _ ⟨some b,I.df⟩ _ _ λ_ h=>h,ay.2⟩
 have bC:=h ⟨some b,I.df⟩ w0 I0 N vals (λe s2=>∃B,oR e=some B/\@sW _ ⟨some b,I.df⟩ s2 s.l.length vals ((N,.bj id)::ft) id base k ps bc O tm B (λl'=>K ⟨bH ft o.dst (.d (.bool B.isNone)),l'⟩)) ao (λe B s2 G af=>⟨B,G,af⟩) _ _ bu;refine roundIn_of_wpIn (F:=dS) (ow _) ?_;rw[has,aR];refine na (λe aI an M=>?_) bC;obtain⟨s1,M,bo⟩:=M;cases e<;>simp only[ux]at M
 obtain⟨s2,bw,ba,bh,aS⟩:=M;obtain⟨bz,aa,Z,ae,aW,bA⟩:=bw _ _ _ _ _ bo;obtain⟨aF,bF,aE,bW,bX,bG,bI⟩:=ae.sI (st':=.busy) (pend':=none) bh (ar ae ba);have aT:=run_beginRound (P:=P) bF aE.1;refine⟨_,aT,?_⟩;have aK:({aF with state:=.busy}:Loop)={aF with state:=.busy,pending:=none}:=by rw[<-aE.2.1]
 rw[aK];refine na (λe bN bM M=>?_) (aS aI _ (@Rel.mk _ ⟨some b,I.df⟩ _ _ _ _ _ _ bz ⟨aa,Z,bI,aW,λq=>(bA q).mono bG⟩));obtain⟨s',⟨B,U,aG,bx,aq,bl,aN⟩,bp⟩:=M;obtain⟨_,ab,al,aj,aY,bV⟩:=bx _ _ _ _ _ bp;obtain⟨b1,bJ,bY,bZ,b0,bK,bL⟩:=aj.sI (st':=if B.isNone then .ready else .done) (pend':=B) bl (ar aj aq);have aZ:=run_endRound (P:=P) B bJ;have bg:∀b,I.df b->ab.df b:=by
  obtain⟨_,_,_,_,aL⟩:=aY;exact aL
 have a7:=(aj.obj _ _ aq).2.2;have a1:∀q,az ab al (aG.l.set id (.loop base k ps bc O tm (if B.isNone then .ready else .done) B)) (a.tmps.getD q undef) (ak.get ft q):=λq=>by
  have G:=a7 q;rw[<-ah]at G;simp only[ak.get]at G;by_cases M:N=q
  ·subst M;rw[ao];exact .undef _
  rw[if_neg M,if_neg (hU M)]at G;exact(G.mono (Le.vC ab al aG.l s.l.length)).mono bK
 have fin:∃v w',(Instr.endRound b B).run P bM=.ok v w'/\aH (a.put o.dst v) w':=by
  refine⟨_,_,aZ,aM _ _ _ aN ⟨by cases o.dst<;>simp[Act.put,aA],ab,al,bL,aV.yb bg,?_⟩⟩;exact jk aA aU a1 (.d _ _ (.bool _))
 cases e<;>simp only[oR,c4]at U<;>first| (subst U;exact fin)|cases U
end
end Go.Sy
namespace Go.Sy
open Go Go.ak
variable [aI]
inductive Dn where
 |skip
 |done (n:Nat) (ins:List Ins)
abbrev fC:=List (X×Bool)
def zA(D:fC)(x:X):Option Bool:=match D with
 | []=>none
 |p::r=>bif X.beq p.1 x then some p.2 else zA r x
def tF(D:fC):TX->TX
 |.d .bool x=>(match zA D x with
  |some c=>.d .bool (.bool c)
  |none=>.d .bool x)
 |t=>t
def kH(σ:Sk):fC->Sk
 | []=>σ
 |p::r=>Sk.decide p.1 p.2 (kH σ r)
def oO:List Ins->List Ins->Bool
 | [],[]=>true
 |.bQ x::r,.bQ y::s=>X.beq x y&&oO r s
 |.get x k::r,.get y j::s=>X.beq x y&&X.beq k j&&oO r s
 |.call c x::r,.call d y::s=>Nat.beq c d&&X.beq x y&&oO r s
 |_,_=>false
def vw(e:yK)(l:List AX):List AX:=match e with
 |.none=>l
 |.new a=>l++[a]
 |.aQ l'=>l'
def isNone(l:List AX):yK->Bool
 |.none=>true
 |.aQ l'=>lK l' l
 |.new _=>false
def rq(C:Cx)(ops:List Oper)(ρX:Operand->TX)(l:List AX)(n:Nat)(o:Oper):Option Nat->Option dr
 |none=>rn C ops ρX l n l.length o
 |some id=>match rn C ops ρX l n id o with
  |some q=>(match q.bE,l[id]? with
   |.new a,some .dead=>some ⟨q.ins,q.t,.aQ (l.set id a)⟩
   |_,_=>none)
  |none=>none
def My(o:Oper):Bool:=match o.op with
 |.alloc _=>true
 |_=>false
def rZ(ops:List Oper):Nat:=(ops.filter My).length
def qm(ops:List Oper)(N i:Nat):Option Nat:=bif Nat.ble 2 (rZ ops)&&(match ops[i]? with
 |some o=>My o
 |none=>false)then some (N-rZ ops+rZ (ops.take i))else none
def mP(ops:List Oper)(σ:Sk):Sk:=bif Nat.ble 2 (rZ ops)then {σ with l:=σ.l++List.replicate (rZ ops) .dead}else σ
def nZ(C:Cx)(ops:List Oper)(kp:Nat->Option Nat)(D:fC):List (Nat×Oper×Dn)->List (Nat×TX)->List AX->List (Nat×TX)×List Nat
 | [],t,_=>(t,[])
 | (_,o,.skip)::r,t,l=>nZ C ops kp D r (jm t o.dst .gone) l
 | (i,o,.done n _)::r,t,l=>match rq C ops (gJ t) l n o (kp i)with
  |some q=>bif isNone l q.bE then nZ C ops kp D r (jm t o.dst (tF D q.t)) l else
   ((nZ C ops kp D r (jm t o.dst (tF D q.t)) (vw q.bE l)).1,i::(nZ C ops kp D r (jm t o.dst (tF D q.t)) (vw q.bE l)).2)
  |none=>nZ C ops kp D r t l
def Dq(A:List Nat)(ws:List Nat)(m:Nat):Nat:=ws.foldl (λm k=>Nat.lor (jW m k) ((A[k]?).getD 0)) m
def s9:List Oper->List Nat->List Nat
 | [],A=>A
 |o::r,A=>s9 r (A++[Dq A (waits o) 0])
def Dr(ops:List Oper)(A:List Nat):Bool:=(List.range ops.length).all λi=>match ops[i]? with
 |some o=>Nat.beq ((A[i]?).getD 0) (Dq A (waits o) 0)
 |none=>true
def wt(A:List Nat)(i j:Nat):Bool:=hasB ((A[i]?).getD 0) j
def QN(q:Oper)(k:Nat):Bool:=match q.dst with
 |some d=>Nat.beq d k
 |none=>false
def qO(ops:List Oper)(k:Nat)(p:Nat->Bool):Bool:=(List.range ops.length).all λj=>match ops[j]? with
 |some q=>!QN q k||p j
 |none=>true
def mE(ops:List Oper)(A:List Nat)(t0 t:List (Nat×TX))(i:Nat)(o:Oper):List (Nat×TX):=((mO ops o).filterMap λk=>bif qO ops k (λj=>wt A i j)then none else some (k,ba t0 k))++t
def OW(ops:List Oper)(A:List Nat)(i:Nat)(o:Oper):Bool:=(mO ops o).all λk=>qO ops k (λj=>wt A i j)||qO ops k (λj=>wt A j i||Nat.beq i j)
def qW(A:List Nat)(i:Nat):List Nat->List Bool->Bool
 |h::H,b::S=>((!wt A i h||b)&&(!(Nat.beq h i||wt A h i) || !b))&&qW A i H S
 |_,_=>true
def sB(i:Nat):List Nat->List Bool->List Bool
 |h::H,b::S=>(b||Nat.beq h i)::sB i H S
 |_,_=>[]
def vU:List Bool->List Bool->Bool
 | [],[]=>true
 |true::a,true::b=>vU a b
 |false::a,false::b=>vU a b
 |_,_=>false
def kV(S:List Bool):List (List Bool×List AX)->Option (List AX)
 | []=>none
 |p::r=>bif vU p.1 S then some p.2 else kV S r
def wz(H:List Nat)(i:Nat):Bool:=H.any λh=>Nat.beq h i
def Ii(C:Cx)(ops:List Oper)(A:List Nat)(kp:Nat->Option Nat)(t0 t:List (Nat×TX))(rs:List Dn)(H:List Nat):List Nat->List (List Bool×List AX)->List (List Bool×List AX)
 | [],T=>T
 |h::r,T=>Ii C ops A kp t0 t rs H r (T++T.filterMap λp=>match ops[h]?,rs[h]? with
  |some o,some (.done n _)=>bif qW A h H p.1 then(match rq C ops (gJ (mE ops A t0 t h o)) p.2 n o (kp h)with
   |some q=>some (sB h H p.1,vw q.bE p.2)
   |none=>none)else none
  |_,_=>none)
def AH(C:Cx)(ops:List Oper)(kp:Nat->Option Nat)(j t:List (Nat×TX))(D:fC)(H:List Nat)(Ls:List (List Bool×List AX))(i:Nat)(o:Oper)(S:List Bool)(l:List AX):Dn->Bool
 |.skip=>!wz H i&&(match nD ops ⟨0,j,[]⟩ o.guard with |.no=>true|_=>false)&&(match o.dst with|some d=>wB (ba t d)|none=>true)
 |.done n k=>(match nD ops ⟨0,j,[]⟩ o.guard with |.yes=>true|_=>false)&&(match rq C ops (gJ j) l n o (kp i)with
  |some q=>oO q.ins k&&(match o.dst with|some d=>TX.beq (tF D q.t) (ba t d)|none=>true)&&(bif isNone l q.bE then !wz H i else(match kV (sB i H S) Ls with|some l'=>lK (vw q.bE l) l'|none=>false))
  |none=>false)
def tw(C:Cx)(ops:List Oper)(A:List Nat)(kp:Nat->Option Nat)(t0 t:List (Nat×TX))(l0:List AX)(D:fC)(H:List Nat)(Ls:List (List Bool×List AX))(rs:List Dn):Bool:=
 Am ops&&Dr ops A&&(match kV (H.map λ_=>false) Ls with|some l=>lK l l0|none=>false)&&(H.all λh=>Nat.blt h ops.length)&&(List.range ops.length).all λi=>match ops[i]?,rs[i]? with
  |some o,some d=>eE C.nt o.dst&&OW ops A i o&&Ls.all λp=>!qW A i H p.1||AH C ops kp (mE ops A t0 t i o) t D H Ls i o p.1 p.2 d
  |_,_=>false
def uh(C:Cx)(ops:List Oper)(dA:Sk)(D:fC)(n:Nat)(rs:List Dn):Option Sk:=
 let kp:=qm ops dA.l.length;let p:=nZ C ops kp D ((List.range ops.length).zip (ops.zip rs)) (kH dA D).t dA.l;let Ls:=Ii C ops (s9 ops []) kp (kH dA D).t p.1 rs p.2 p.2 [(p.2.map λ_=>false,dA.l)]
 bif tw C ops (s9 ops []) kp (kH dA D).t p.1 dA.l D p.2 Ls rs then(match kV (p.2.map λ_=>true) Ls with
  |some l=>some ⟨n,p.1,l⟩
  |none=>none)else none
def pz(C:Cx)(ops:List Oper)(dA:Sk):List Oper->Sk->fC->List Dn->Tr
 | [],σ,D,rs=>(match uh C ops dA D σ.n rs.reverse with
  |some k=>.leaf .normal k
  |none=>.bad (1800+ops.length))
 |o::r,σ,D,rs=>
  let j:=λ(σ:Sk)(D:fC)=>match rq C ops (gJ σ.t) σ.l σ.n o (qm ops dA.l.length rs.length)with
   |some q=>qj (pz C ops dA r (s8 σ o.dst q) D (.done σ.n q.ins::rs)) σ.n q.ins
   |none=>.bad (30000+o.dst.getD 9999)
  let skip:=λ(σ:Sk)(D:fC)=>pz C ops dA r {σ with t:=jm σ.t o.dst .gone} D (.skip::rs)
  match nD ops σ o.guard with
  |.yes=>j σ D
  |.no=>skip σ D
  |.ask x b=>.fL x (bif b then j (σ.decide x true) ((x,true)::D)else skip (σ.decide x true) ((x,true)::D)) (bif b then skip (σ.decide x false) ((x,false)::D)else j (σ.decide x false) ((x,false)::D))
  |.bad=>.bad 4
def vZ(C:Cx)(ops:List Oper)(σ:Sk):Tr:=pz C ops (mP ops σ) ops (mP ops σ) [] []
def nC(l:List AX)(id:Nat):List Nat:=l.zipIdx.map λp=>bif Nat.beq p.2 id||(match p.1 with |.eI=>true|_=>false)then zN+p.2 else p.2
def tP(ids:List Nat)(id:Nat):Bool:=r7 ids && !(ids.any λi=>Nat.beq i id)
def ET(C:Cx)(ty:TypeId)(cs:List TX):Option Ty:=match C.ty ty with
 |some t=>some t
 |none=>(match cs with
  | [.d (.aH f t) _]=>some (.aH f t)
  | [.d (.fn f) _]=>some (.fn f)
  |_=>none)
def EU(C:Cx)(σ:Sk)(j:Nat):Option Sk:=match ba σ.t j with
 |.ptr id 0=>(match σ.l[id]? with
  |some (.var ty cs)=>(match ET C ty cs with
   |some t=>(match rW t cs with
    |some (.d u x)=>if u=t then(bif dN (.box t)&&tP (nC σ.l id) id&&oN (nC σ.l id) σ.l then some ⟨σ.n,(j,.d (.box t) (.box x))::(σ.re (nC σ.l id)).t,(σ.re (nC σ.l id)).l⟩else none)else none
    |_=>none)
   |none=>none)
  |_=>none)
 |_=>none
def vY(id:Nat):List Ty->Nat->Sk->Sk
 | [],_,σ=>σ
 |t::ts,k,σ=>vY id ts (k+1) (match np σ (.cell id k)with
  |.d _ _=>σ
  |_=>(match pS σ (.cell id k) (.data t)with|some bA=>bA|none=>σ))
def zy(C:Cx)(σ:Sk)(j:Nat):Sk:=match ba σ.t j with
 |.ptr id 0=>(match σ.l[id]? with
  |some (.var ty _)=>(match C.ty ty with
   |some t=>(match fI gh t .unit with
    |some ps=>vY id (ps.map (·.1)) 0 σ
    |none=>σ)
   |none=>σ)
  |_=>σ)
 |_=>σ
def j9(C:Cx):Sk->List Nat->Sk
 |σ,[]=>σ
 |σ,j::r=>match EU C (zy C σ j) j with
  |some bA=>j9 C bA r
  |none=>j9 C σ r
def HV(σ:Sk)(j:Nat):Option Sk:=match ba σ.t j with
 |.ptr id 0=>(match σ.l[id]? with
  |some (.var ty [.aH f [.ptr i 0]])=>(bif Nat.beq i id&&tP (nC σ.l id) id&&oN (nC σ.l id) σ.l then some ⟨σ.n,(j,.d (.self f) (.self f))::(σ.re (nC σ.l id)).t,(σ.re (nC σ.l id)).l⟩else none)
  |_=>none)
 |_=>none
def me:List Nat->Sk->Sk
 | [],σ=>σ
 |j::r,σ=>match HV σ j with
  |some bA=>me r bA
  |none=>me r σ
def slotsOf(σ:Sk):List Nat:=σ.t.map (·.1)
def mw(C:Cx):List Oper->List Nat
 | []=>[]
 |o::r=>(match o.op with
  |.makeFunc (.func f) _ cs=>bif C.EV.any (Nat.beq f)then cs.toList.filterMap (λx=>match x with |.tmp t=>some t|_=>none)else []
  |_=>[])++mw C r
def hZ(f:Func):Code:=match f.body with|some c=>c|none=>.skip
def jn(rs:List ResultVar):Nat:=rs.foldl (λm r=>match r with |.tmp t=>jW m t |.cell a _=>jW m a) 0
def O2(C:Cx)(ty:TypeId)(l:List AX)(a:TX):Option TX:=match C.ty ty,a with
 |some t,.ptr id off=>match l[id]? with
  |some (.var _ cs)=>bif Nat.ble (off+t.size) cs.length then rW t ((cs.drop off).take t.size)else none
  |_=>none
 |_,_=>none
def oh(C:Cx)(σ:Sk):List ResultVar->Option (List TX)
 | []=>some []
 |.tmp t::r=>(oh C σ r).map (ba σ.t t :: ·)
 |.cell a ty::r=>match O2 C ty σ.l (ba σ.t a)with
  |some x=>(oh C σ r).map (x :: ·)
  |none=>none
def Zi(T:Tr):Tr:=ev (λe j=>match e with |.normal=>.leaf .normal j|_=>.bad 21) T
def fo(T:Tr):Tr:=ev (λe j=>.leaf (.fo e) j) T
def QA(T:Tr):Tr:=ev (λe j=>match e with |.fo e=>.leaf e j|_=>.bad 27) T
def isDone(σ:Sk):Bool:=σ.l.any λa=>match a with |.lp _ _ _ (.done _)=>true|_=>false
def CK(p:Sk->Bool)(j n0:Nat)(T:Tr)(f:Sk->Tr):Tr:=
 bif (leaves .normal T).any p then
  QA (vo j n0 (ev (λe σ=>match e with |.normal=>(bif p σ then fo (f σ)else .leaf .normal σ)|e=>.leaf (.fo e) σ) T) λk=>fo (f k))
 else vo j n0 T f
def ab1(j:Nat)(ls:List Sk)(σ:Sk):Bool:=isDone σ||ls.any λk=>k.t.any λq=>hasB j q.1&&(match q.2 with |.ptr .. =>true|_=>false)&&(match ba σ.t q.1 with |.undef=>true|_=>false)
def yr(j n0:Nat)(T:Tr)(f:Sk->Tr):Tr:=CK (ab1 j (leaves .normal T)) j n0 T f
def HF:List ResultVar->List Nat
 | []=>[]
 |.tmp t::r=>t::HF r
 |_::r=>HF r
def ab0(rs:List Nat)(ls:List Sk)(σ:Sk):Bool:=isDone σ||rs.any λj=>(match ba σ.t j with |.undef=>true|_=>false)&&ls.any λk=>match ba k.t j with |.ptr .. =>true|_=>false
def Pw(rs:List Nat)(j n0:Nat)(T:Tr)(f:Sk->Tr):Tr:=CK (ab0 rs (leaves .normal T)) j n0 T f
mutual
def TX.clean:TX->Bool
 |.undef=>false
 |.sub _ _ _=>false
 |.gone=>false
 |.agg cs=>TX.rl cs
 |.aL cs=>TX.rl cs
 |.aH _ cs=>TX.rl cs
 |_=>true
def TX.rl:List TX->Bool
 | []=>true
 |t::ts=>t.clean&&TX.rl ts
end
mutual
def TX.refs:TX->List Nat
 |.ptr id _=>[id]
 |.row id=>[id]
 |.bx id _ _=>[id]
 |.map id=>[id]
 |.bj id=>[id]
 |.cC id _=>[id]
 |.bI id _ _=>[id]
 |.agg cs=>TX.sw cs
 |.aL cs=>TX.sw cs
 |.aH _ cs=>TX.sw cs
 |_=>[]
def TX.sw:List TX->List Nat
 | []=>[]
 |t::ts=>t.refs++TX.sw ts
end
def oS(j:Nat)(t:List (Nat×TX)):List (Nat×TX):=(jN j t 0).map λp=>(p.1,bif p.2.clean then p.2 else .undef)
def fS:List (Nat×TX)->List Nat
 | []=>[]
 |p::r=>p.2.refs++fS r
inductive fg where
 |mk (id j k:Nat) (ps:List Nat) (bc body:Code) (t:List (Nat×TX)) (outer:List fg)
def fg.id:fg->Nat
 |.mk id _ _ _ _ _ _ _=>id
def wo(id:Nat):List fg->Option fg
 | []=>none
 |x::r=>bif Nat.beq x.id id then some x else wo id r
def findF(g:Nat):List (Nat×Func)->Option Func
 | []=>none
 |p::r=>bif Nat.beq p.1 g then some p.2 else findF g r
def pF:Nat->List TX->List (Nat×TX)
 |_,[]=>[]
 |k,t::ts=>(k,t)::pF (k+1) ts
def CZ:List TX->TX
 | [x]=>x
 |xs=>.aL xs
def iq(d:Nat):AX->AX
 |.dx j b r=>bif Nat.ble d j then .eI else .dx j b r
 |.lp j b r s=>bif Nat.ble d j then .eI else .lp j b r s
 |a=>a
def kR(j b:Nat)(l:List AX):Bool:=match l[b]? with
 |some (.dx B k _)=>Nat.beq j B&&Nat.beq b k
 |_=>false
abbrev Runner:=Cx->List fg->Lv->Code->Sk->Tr
def DO(run:Runner)(C:Cx)(L:List fg)(fn:Func)(ts:List TX)(σ:Sk)(t0:List (Nat×TX))(K:TX->Sk->Tr):Tr:=
 bif !Nat.ble ts.length fn.ntmps then .bad 24 else
 Pw (HF fn.results.toList) (jn fn.results.toList) σ.n
  (
   ev (λe j=>match e with |.normal=>.leaf .normal (j.cR (jn fn.results.toList)) |.ret=>.leaf .normal (j.cR (jn fn.results.toList))|_=>.bad 21)
   (run {C with nt:=fn.ntmps,dep:=C.dep+1,lu:=false} L ⟨jn fn.results.toList,[],jn fn.results.toList⟩ (hZ fn) ⟨σ.n,pF 0 ts,σ.l++[.dx C.dep σ.l.length (fS t0)]⟩))
  λj=>match oh C j fn.results.toList with
   |some xs=>bif kR C.dep σ.l.length j.l then K (CZ xs) ⟨j.n,t0,j.l.map (iq C.dep)⟩else .bad 23
   |none=>.bad 22
def ym:List Nat->List TX->List (Nat×TX)->List (Nat×TX)
 |p::ps,x::xs,t=>ym ps xs ((p,x)::t)
 |_,_,t=>t
def lO(C:Cx)(id j b:Nat)(rs:List Nat)(n1:Nat)(t0:List (Nat×TX))(K:TX->Sk->Tr)(e:Ex)(k:Sk):Tr:=match k.l[id]? with
 |some (.lp F B G .busy)=>bif Nat.beq F j&&Nat.beq B b&&decide (G=rs)&&kR C.dep n1 k.l then
   fo (K (.d .bool (.bool (decide (e=.normal)))) ⟨k.n,t0,(k.l.set id (.lp j b rs (if e=.normal then .ready else .done e))).map (iq C.dep)⟩)else .bad 28
 |_=>.bad 28
def IM(run:Runner)(C:Cx)(L:List fg)(id:Nat)(ts:List TX)(σ:Sk)(t0:List (Nat×TX))(K:TX->Sk->Tr):Tr:=match wo id L,σ.l[id]? with
 |some (
     .mk _ j k ps bc body t outer),some (.lp G b rs .ready)=>
  bif Nat.beq G j&&Nat.beq ps.length ts.length&&ps.all (λp=>Nat.blt p k)then
   QA (
       yr 0 σ.n
    (
     ev (λe B=>match e with |.normal=>.leaf .normal B |.ret=>lO C id j b rs σ.l.length t0 K .ret B |.exit i=>lO C id j b rs σ.l.length t0 K (.exit i) B|_=>.bad 26)
     (
      yr (gn body ⟨0,[],0⟩) σ.n
      (Zi (run {C with nt:=k,dep:=C.dep+1,lu:=true} outer ⟨gn body ⟨0,[],0⟩,[],0⟩ bc ⟨σ.n,ym ps ts t,σ.l++[.dx C.dep σ.l.length (id::fS t0)]⟩))
      λB=>match B.l[id]? with
       |some (.lp M F N .ready)=>bif Nat.beq M j&&Nat.beq F b&&decide (N=rs)&&kR C.dep σ.l.length B.l then run {C with nt:=k,dep:=C.dep+1,lu:=true} outer ⟨0,[],0⟩ body ⟨B.n,B.t,B.l.set id (.lp j b rs .busy)⟩else .bad 25
       |_=>.bad 25))
    λB=>lO C id j b rs σ.l.length t0 K .normal B)
  else .bad 29
 |_,_=>.bad 29
def tV(
     run:Runner)(C:Cx)(L:List fg):yL:=λo m σ=>match o.op with
 |.binOp j t x y _=>(match j,C.E t,gJ σ.t x,y with
  |.eql,some ⟨_,_,_,.slice _⟩,.d (.list _) xs,.const (.slice none 0 0)=>some λK=>.gI xs (K (.d .bool (.bool true)) σ) (K (.d .bool (.bool false)) σ)
  |_,_,_,_=>none)
 |.call c=>(match c.callee with
  |.value f=>(match gJ σ.t f with
   |.bj id=>some λK=>IM run C L id (mV C.E c.argTypes.toList (c.args.toList.map (gJ σ.t))) σ (oS m σ.t) K
   |t=>(match lM t with
    |some (g,ts)=>(match findF g C.lU with
     |some fn=>some λK=>DO run C L fn (mV C.E c.argTypes.toList (c.args.toList.map (gJ σ.t))++ts) σ (oS m σ.t) K
     |none=>none)
    |none=>none))
  |_=>none)
 |_=>none
def ye(run:Runner)(C:Cx)(L:List fg)(B:Nat)(fn:Func)(caps:List TX)(ps:List Nat)(bc F:Code)(σ:Sk)(t0:List (Nat×TX)):Tr:=
 bif !Nat.ble (caps.length+1) fn.ntmps || !fn.results.toList.isEmpty || !Nat.ble σ.l.length σ.l.length then .bad 32 else
 ev (λe k=>match e with
  |.normal=>fin k
  |.ret=>fin k
  |_=>.bad 31) (run {C with nt:=fn.ntmps,dep:=C.dep+2,lu:=false} (.mk σ.l.length C.dep C.nt ps bc F t0 L::L) ⟨0,[],0⟩ (hZ fn)
   ⟨σ.n,pF 0 (.bj σ.l.length::caps),σ.l++[.lp C.dep σ.l.length (fS t0) .ready,.dx (C.dep+1) (σ.l.length+1) (σ.l.length::fS t0)]⟩)
where fin (k:Sk):Tr:=bif kR (C.dep+1) (σ.l.length+1) k.l then(match k.l[σ.l.length]? with
 |some (.lp j _ _ .ready)=>bif Nat.beq j C.dep then .leaf .normal (Sk.cR B ⟨k.n,t0,k.l.map (iq C.dep)⟩)else .bad 31
 |some (.lp j _ _ (.done .ret))=>bif Nat.beq j C.dep then .leaf .ret (Sk.cR B ⟨k.n,t0,k.l.map (iq C.dep)⟩)else .bad 31
 |some (.lp j _ _ (.done (.exit i)))=>bif Nat.beq j C.dep then .leaf (.exit i) (Sk.cR B ⟨k.n,t0,k.l.map (iq C.dep)⟩)else .bad 31
 |_=>.bad 31)else .bad 31
def exec:Nat->Cx->List fg->Lv->Code->Sk->Tr
 |0,_,_,_,_,_=>.bad 8
 |f+1,C,L,live,c,σ=>match c with
  |.skip=>.leaf .normal σ
  |.region _ ops d=>ev (λe j=>.leaf e (j.cR live.out)) (bif d then vZ C ops.toList (j9 C (me (slotsOf σ) σ) (mw C ops.toList))else mc C (tV (exec f) C L) live.out ops.toList ops.toList (j9 C (me (slotsOf σ) σ) (mw C ops.toList)))
  |.seq a b=>yr (gn b live) σ.n (exec f C L {live with out:=gn b live} a σ) (exec f C L live b)
  |.cond c a b=>match gJ σ.t c with
   |.d .bool (.bool true)=>exec f C L live a σ
   |.d .bool (.bool false)=>exec f C L live b σ
   |.d .bool x=>.fL x (exec f C L live a σ) (exec f C L live b σ)
   |_=>.bad 9
  |.block id b=>ev (λe j=>match e with |.exit i=>(bif Nat.beq i id then .leaf .normal j else .leaf e j)|e=>.leaf e j) (exec f C L {live with ex:=(id,live.out)::live.ex} b σ)
  |.loop b=>wH (gn (.loop b) live) σ.n (exec f C L {live with out:=gn (.loop b) live} b) 6 σ (σ.cR (gn (.loop b) live))
  |.exit id=>.leaf (.exit id) σ
  |.ret=>.leaf .ret σ
  |.rangeFunc g ps a b=>bif C.lu then .bad 30 else match lM (gJ (oS (gn (.rangeFunc g ps a b) live) σ.t) g)with
   |some (gf,caps)=>(match findF gf C.lU with
    |some fn=>ye (exec f) C L live.out fn caps ps.toList a b σ (oS (gn (.rangeFunc g ps a b) live) σ.t)
    |none=>.bad 33)
   |none=>.bad 34
  |_=>.bad 10
def pG:Nat->List Ty->List (Nat×TX)
 |_,[]=>[]
 |k,t::ts=>(k,.d t (.var k))::pG (k+1) ts
def ja(g:Sk->Option (X)):Nat->Tr->Tr
 |k,.leaf e σ=>match e with
  |.exit _=>.bad 11
  |.fo _=>.bad 11
  |_=>match g σ with
   |some x=>.out k x
   |none=>.bad 12
 |_,.out k x=>.out k x
 |k,.bQ x t=>.bQ x (ja g k t)
 |k,.get v xs i t=>.get v xs i (ja g k t)
 |k,.call v c x t=>.call v c x (ja g k t)
 |k,.fL c a b=>.fL c (ja g k a) (ja g k b)
 |k,.gI c a b=>.gI c (ja g k a) (ja g k b)
 |k,.join ty v a b=>.join ty v (ja g (k+1) a) (ja g k b)
 |k,.loop ty v i b=>.loop ty v i (ja g (k+1) b)
 |_,.bad w=>.bad w
def HK(C:Cx)(rs:List ResultVar)(j:List Ty)(σ:Sk):Option X:=match oh C σ rs with
 |some ts=>match gy σ.l j ts with
  |some (xs,_)=>some (fu xs)
  |none=>none
 |none=>none
def sD(C:Cx)(rs:List ResultVar)(c:Code)(j k:List Ty):Tr:=
 ja (HK C rs k) 0 (exec 400 C [] ⟨jn rs,[],jn rs⟩ c ⟨j.length,pG 0 j,[]⟩)
def pB:List NS->List TX->Option (List X)
 | [],[]=>some []
 |.dI t::r,.d u x::cs=>if u=t then(pB r cs).map (x :: ·)else none
 |.nil s::r,.bq s'::cs=>bif Nat.beq s s' then pB r cs else none
 |_,_=>none
def HJ(C:Cx)(rs:List ResultVar)(sh:List NS)(σ:Sk):Option X:=match oh C σ rs with
 |some [.agg cs]=>(pB sh cs).map fu
 |_=>none
def Ig(C:Cx)(rs:List ResultVar)(c:Code)(j:List Ty)(sh:List NS):Tr:=
 ja (HJ C rs sh) 0 (exec 400 C [] ⟨jn rs,[],jn rs⟩ c ⟨j.length,pG 0 j,[]⟩)
end Go.Sy
namespace Go.Sy
open Go Go.ak
variable [aI][cH][cz][dg][bm][oy][bS]
def z7:∀{a b:List Ins},oO a b=true->a=b
 | [],[],_=>rfl
 |.bQ x::r,.bQ y::s,h=>by
  simp only[oO,dk]at h;rw[X.beq_eq h.1,z7 h.2]
 |.get x k::r,.get y j::s,h=>by
  simp only[oO,dk]at h;rw[X.beq_eq h.1.1,X.beq_eq h.1.2,z7 h.2]
 |.call c x::r,.call d y::s,h=>by
  simp only[oO,dk]at h;rw[eb h.1.1,X.beq_eq h.1.2,z7 h.2]
 | [],_::_,h=>by cases h
 |_::_,[],h=>by simp[oO]at h
 |.bQ _::_,.get _ _::_,h=>by cases h
 |.bQ _::_,.call _ _::_,h=>by cases h
 |.get _ _::_,.bQ _::_,h=>by cases h
 |.get _ _::_,.call _ _::_,h=>by cases h
 |.call _ _::_,.bQ _::_,h=>by cases h
 |.call _ _::_,.get _ _::_,h=>by cases h
def bY.again{cs:List Callee}{n:Nat}{G ad ρ:aU}{is:List Ins}(h:bY cs n G is ad):ep n G->Ext ad ρ->∀ρ0,(∀i,lk ρ0 i=lk ρ i)->∃B,bY cs n ρ0 is B/\∀i,lk B i=lk ρ i:=by
 induction h with
 |nil n G=>intro _ _ ρ0 h0;exact⟨ρ0,.nil n ρ0,h0⟩
 |bQ n G x r ad aj Y Z=>
  intro M F ρ0 h0;obtain⟨B,aa,ab⟩:=Z M F ρ0 h0;have ak:=X.eT (λi v hv=>(h0 i).trans (F i v ((Y.ext M).1 i v hv)):Ext G ρ0) aj;exact⟨B,.bQ n ρ0 x r B ak aa,ab⟩
 |get n G xs k r ad t l kk i e af ag ah Y Z=>
  intro M F ρ0 h0;have O:=M.push (p3 n) ⟨t,e⟩;have N:=(Y.ext O).1;have ae:Ext G ρ0:=λi v hv=>(h0 i).trans (F i v (N i v (Ext.push M _ i v hv)));have ai:lk ρ n=some ⟨t,e⟩:=F n _ (N n _ (jB n _ _));obtain⟨B,aa,ab⟩:=Z O F ((n,⟨t,e⟩)::ρ0) (λj=>by
   by_cases U:n=j
   ·subst U;rw[jB,ai]
   simp only[lk,kz U,cond_false];exact h0 j)
  exact⟨B,.get n ρ0 xs k r B t l kk i e (X.eT ae af) (X.eT ae ag) ah aa,ab⟩
 |call n G c x r ad C a y af ag ah Y Z=>
  intro M F ρ0 h0;have O:=M.push (p3 n) ⟨aP C.res,y⟩;have N:=(Y.ext O).1;have ae:Ext G ρ0:=λi v hv=>(h0 i).trans (F i v (N i v (Ext.push M _ i v hv)));have ai:lk ρ n=some ⟨aP C.res,y⟩:=F n _ (N n _ (jB n _ _));obtain⟨B,aa,ab⟩:=Z O F ((n,⟨aP C.res,y⟩)::ρ0) (λj=>by
   by_cases U:n=j
   ·subst U;rw[jB,ai]
   simp only[lk,kz U,cond_false];exact h0 j)
  exact⟨B,.call n ρ0 c x r B C a y af (X.eT ae ag) ah aa,ab⟩
def jq(ρ:aU)(D:fC):Prop:=∀p∈D,p.1.den ρ=some ⟨.bool,p.2⟩
theorem jq.mono{ρ ρ':aU}{D:fC}(h:jq ρ D)(j:Ext ρ ρ'):jq ρ' D:=λp k=>X.eT j (h p k)
def KT{ρ:aU}:∀{D:fC},jq ρ D->∀{x c},zA D x=some c->x.den ρ=some ⟨.bool,c⟩
 | [],_,x,c,h=>by cases h
 |p::r,k,x,c,h=>by
  simp only[zA]at h;cases j:X.beq p.1 x with
  |true=>
   rw[j]at h;injection h with h;rw[<-X.beq_eq j,<-h];exact k p (by simp)
  |false=>rw[j]at h;exact KT (λq B=>k q (by simp[B])) h
def VE{ρ:aU}{D:fC}(B:jq ρ D){x:TX}{t:T}(h:RX ρ x t):RX ρ (tF D x) t:=by
 unfold tF;split
 ·split
  ·rename_i c F;obtain⟨b,j,k⟩:=iT h;have:b=c:=fH (j.symm.trans (KT B F));subst this;rw[k];exact fp rfl
  exact h
 exact h
def KP{ρ:aU}{σ:Sk}{s:St}(h:bh ρ σ s):∀{D:fC},jq ρ D->bh ρ (kH σ D) s
 | [],_=>h
 |p::r,j=>KS (KP h λq k=>j q (by simp[k])) (j p (by simp))
def sT(cs:List Callee)(ρ:aU):Dn->Prop
 |.skip=>True
 |.done n B=>∃j k,ep n j/\bY cs n j B k/\Ext k ρ
section
variable {P:Program}{V:Env}{C:Cx}{cs:List Callee}{n:Nat}{ops:List Oper}{dA:Sk}
def MO{D:fC}{m:Nat}{rs:List Dn}{k:Sk}(h:uh C ops dA D m rs=some k):∃(t:List (Nat×TX))(H:List Nat)(Ls:List (List Bool×List AX))(l:List AX),tw C ops (s9 ops []) (qm ops dA.l.length) (kH dA D).t t dA.l D H Ls rs=true/\kV (H.map λ_=>true) Ls=some l/\k=⟨m,t,l⟩/\t=(nZ C ops (qm ops dA.l.length) D ((List.range ops.length).zip (ops.zip rs)) (kH dA D).t dA.l).1:=by
 unfold uh at h;simp only at h;generalize nZ C ops (qm ops dA.l.length) D ((List.range ops.length).zip (ops.zip rs)) (kH dA D).t dA.l=p at h⊢;generalize Ii C ops (s9 ops []) (qm ops dA.l.length) (kH dA D).t p.1 rs p.2 p.2 [(p.2.map λ_=>false,dA.l)]=Ls at h;cases j:tw C ops (s9 ops []) (qm ops dA.l.length) (kH dA D).t p.1 dA.l D p.2 Ls rs with
 |false=>rw[j]at h;cases h
 |true=>
  rw[j]at h;simp only[cond_true]at h;split at h
  ·rename_i l hl;injection h with h;exact⟨p.1,p.2,Ls,l,j,hl,h.symm,rfl⟩
  cases h
theorem HO{Q:LQ}:∀(r:List Oper){σ:Sk}{ρ:aU}{J:LJ}{D:fC}{rs:List Dn},ep σ.n ρ->jq ρ D->(∀d∈rs,sT cs ρ d)->Tr.wp cs (pz C ops dA r σ D rs) ρ Q J ->
  ∃j ρ' J' B F,Q .normal j ρ' J'/\uh C ops dA B j.n F=some j/\ep j.n ρ'/\cU σ.n ρ ρ'/\σ.n<=j.n/\jq ρ' B/\∀d∈F,sT cs ρ' d
 | [],σ,ρ,J,D,rs,O,N,ab,k=>by
  simp only[pz]at k;split at k
  ·rename_i j hl;have M:j.n=σ.n:=by
    obtain⟨_,_,_,l,_,_,rfl,_⟩:=MO hl;rfl
   exact⟨j,ρ,J,D,rs.reverse,k,by rw[M];exact hl,by rw[M];exact O,.refl _ _,by omega,N,λd hd=>ab d (by simpa using hd)⟩
  exact k.elim
 |o::r,σ,ρ,J,D,rs,O,N,ab,k=>by
  have ae:∀{σ1:Sk}{G:fC},σ1.n=σ.n->jq ρ G->Tr.wp cs (match rq C ops (gJ σ1.t) σ1.l σ1.n o (qm ops dA.l.length rs.length)with|some q=>qj (pz C ops dA r (s8 σ1 o.dst q) G (.done σ1.n q.ins::rs)) σ1.n q.ins|none=>.bad (30000+o.dst.getD 9999)) ρ Q J ->
    ∃j ρ' J' B F,Q .normal j ρ' J'/\uh C ops dA B j.n F=some j/\ep j.n ρ'/\cU σ.n ρ ρ'/\σ.n<=j.n/\jq ρ' B/\∀d∈F,sT cs ρ' d:=by
   intro σ1 G M af k;split at k
   ·rename_i q aA;obtain⟨ao,hi,k⟩:=wy k;have al:ep σ1.n ρ:=by rw[M];exact O
    obtain⟨an,aw⟩:=hi.ext al;obtain⟨ax,ay⟩:=hi.Lm;obtain⟨j,ρ',J',B,F,ag,ah,ai,U,ad,aj,ak⟩:=HO r (σ:=s8 σ1 o.dst q) (D:=G) (rs:=.done σ1.n q.ins::rs) aw (af.mono an) (λd hd=>by
     rcases fa.1 hd with rfl|hd
     ·exact⟨ρ,ao,al,hi,.refl _⟩
     have:=ab d hd;cases d with
     |skip=>trivial
     |done n aB=>obtain⟨a,b,aq,ar,au⟩:=this;exact⟨a,b,aq,ar,au.trans an⟩) k
    have U:cU (kP σ1.n q.ins) ao ρ':=U;have ad:kP σ1.n q.ins<=j.n:=ad;exact⟨j,ρ',J',B,F,ag,ah,ai,by rw[<-M];exact ax.trans U ay,by omega,aj,ak⟩
   exact k.elim
  have skip:∀{σ1:Sk}{G:fC},σ1.n=σ.n->jq ρ G->Tr.wp cs (pz C ops dA r {σ1 with t:=jm σ1.t o.dst .gone} G (.skip::rs)) ρ Q J ->
    ∃j ρ' J' B F,Q .normal j ρ' J'/\uh C ops dA B j.n F=some j/\ep j.n ρ'/\cU σ.n ρ ρ'/\σ.n<=j.n/\jq ρ' B/\∀d∈F,sT cs ρ' d:=by
   intro σ1 G M af k;obtain⟨j,ρ',J',B,F,ag,ah,ai,U,ad,aj,ak⟩:=HO r (σ:={σ1 with t:=jm σ1.t o.dst .gone}) (D:=G) (rs:=.skip::rs) (by rw[<-M]at O;exact O) af (λd hd=>by
    rcases fa.1 hd with rfl|hd
    ·trivial
    exact ab d hd) k
   exact⟨j,ρ',J',B,F,ag,ah,ai,by rw[<-M];exact U,by rw[<-M];exact ad,aj,ak⟩
  simp only[pz]at k;split at k
  ·exact ae rfl N k
  ·exact skip rfl N k
  ·rename_i x b az;obtain⟨c,av,Y,Z⟩:=k;have aa:jq ρ ((x,c)::D):=λp hp=>by
    rcases fa.1 hp with rfl|hp
    ·exact av
    exact N p hp
   cases c with
   |true=>
    have Y:=Y rfl;cases b with
    |true=>exact ae (σ1:=σ.decide x true) rfl aa Y
    |false=>exact skip (σ1:=σ.decide x true) rfl aa Y
   |false=>
    have Z:=Z rfl;cases b with
    |true=>exact skip (σ1:=σ.decide x false) rfl aa Z
    |false=>exact ae (σ1:=σ.decide x false) rfl aa Z
  exact k.elim
def x8{kp:Nat->Option Nat}{D:fC}:∀{z:List (Nat×Oper×Dn)}{t:List (Nat×TX)}{l:List AX}{k:Nat},(∀x∈z,x.2.1.dst≠some k)->ba (nZ C ops kp D z t l).1 k=ba t k
 | [],t,l,k,_=>rfl
 | (
    i,o,d)::r,t,l,k,h=>by
  have G:o.dst≠some k:=h (i,o,d) (by simp);have j:∀x∈r,x.2.1.dst≠some k:=λx M=>h x (by simp[M]);have put:∀x:TX,ba (jm t o.dst x) k=ba t k:=λx=>by
   cases B:o.dst with
   |none=>rfl
   |some e=>
    show(bif Nat.beq e k then x else ba t k)=_;rw[kz (λF=>G (by rw[B,F]))];rfl
  cases d with
  |skip=>exact(x8 j).trans (put _)
  |done m N=>
   simp only[nZ];split
   ·cases isNone _ _ with
    |true=>exact(x8 j).trans (put _)
    |false=>exact(x8 j).trans (put _)
   exact x8 j
def Wb{o:Oper}{ρX:Operand->TX}{ρT:Operand->T}{lX:List AX}{l:List AO}{ρ ρ':aU}{k:Option Nat}{q:dr}(B:bM P V C)(M:fG P C cs)(hl:RL ρ lX l)(G:∀x∈o.op.operands,RX ρ (ρX x) (ρT x))(F:∀g ls,aI.ez g=some ls->ρT (.global g)=.bu ls.length [.agg (ls.map (.int .i64))] 0 0)(j:Ext ρ ρ')(h:rq C ops ρX lX n o k=some q)(hi:bY cs n ρ q.ins ρ'):cD P o ρT l l.length ρ' q:=by
 cases k with
 |none=>
  have h:rn C ops ρX lX n lX.length o=some q:=h;rw[hl.len]at h;exact Eo B M hl G F j h hi
 |some id=>
  simp only[rq]at h;split at h
  ·rename_i ah ab;split at h
   ·rename_i a aa Z;injection h with h;subst h;obtain⟨u,ad,N⟩:=Eo B M hl G F j ab hi;rw[aa]at N;obtain⟨O,ae,_,af⟩:=N;obtain⟨ag,U,Y⟩:=F2.left hl Z;cases Y;exact⟨u,ad,l.set id O,F2.set (hl.mono j) ae id,λ_=>af U⟩
   cases h
  cases h
def MZ{S:List Bool}{l:List AX}:∀{Ls:List (List Bool×List AX)},kV S Ls=some l->(S,l)∈Ls
 | [],h=>by cases h
 |p::r,h=>by
  have key:∀a b:List Bool,vU a b=true->a=b:=by
   intro a;induction a with
   |nil=>intro b h;cases b with
    |nil=>rfl
    |cons _ _=>cases h
   |cons x a k=>intro b h;cases b with
    |nil=>cases x<;>cases h
    |cons y b=>cases x<;>cases y<;>first|cases h|exact dn _ (k b h)
  simp only[kV]at h;cases j:vU p.1 S with
  |true=>
   rw[j]at h;simp only[cond_true,c4]at h;rw[<-key _ _ j,<-h];exact q9
  |false=>rw[j]at h;exact ka _ (MZ h)
def PA{i:Nat}{f g:Nat->Bool}:∀{H:List Nat},(∀h∈H,g h=(f h||Nat.beq h i))->sB i H (H.map f)=H.map g
 | [],_=>rfl
 |h::H,k=>by
  simp only[e7,sB];rw[k h (by simp),PA λx j=>k x (by simp[j])]
def IX{A:List Nat}{i:Nat}{f:Nat->Bool}:∀{H:List Nat},(∀h∈H,(wt A i h=true->f h=true)/\((Nat.beq h i||wt A h i)=true->f h=false))->qW A i H (H.map f)=true
 | [],_=>rfl
 |h::H,k=>by
  simp only[e7,qW,dk];obtain⟨F,G⟩:=k h (by simp);refine⟨⟨?_,?_⟩,IX λx B=>k x (by simp[B])⟩
  ·cases j:wt A i h with
   |false=>rfl
   |true=>rw[F j];rfl
  cases j:(Nat.beq h i||wt A h i)with
  |false=>rfl
  |true=>rw[G j];rfl
def OZ{w0 w:World}{I0:aD}{n:Nat}{s:St}{a:Act}(h:Rel w0 I0 n s a w):∀k,Rel w0 I0 n ⟨s.t,s.l++List.replicate k .dead⟩ a w
 |0=>by simpa using h
 |k+1=>by
  obtain⟨O,I,m,G,M,N⟩:=OZ h k;obtain⟨B,F⟩:=G.push;rw[h7,<-List.replicate_succ']at B F;exact⟨O,I,m,B,M,λj=>(N j).mono F⟩
def Ln{ρ:aU}:∀k,RL ρ (List.replicate k .dead) (List.replicate k .dead)
 |0=>.nil
 |k+1=>.cons .dead (Ln k)
theorem abb{σ:Sk}{ρ:aU}{s:St}(j:bh ρ σ s):∃s',bh ρ (mP ops σ) s'/\(mP ops σ).n=σ.n/\(mP ops σ).t=σ.t/\∀{w0 I0 m a w},Rel w0 I0 m s a w->Rel w0 I0 m s' a w:=by
 unfold mP;cases Nat.ble 2 (rZ ops)with
 |false=>exact⟨s,j,rfl,rfl,λh=>h⟩
 |true=>exact⟨⟨s.t,s.l++List.replicate (rZ ops) .dead⟩,⟨j.eC,j.t,F2.app j.l (Ln _)⟩,rfl,rfl,λh=>OZ h _⟩
end
section
variable {P:Program}{V:Env}{C:Cx}{cs:List Callee}{n:Nat}{ops:List Oper}{w0:World}{I0:aD}{ρ:aU}{D:fC}{rs:List Dn}{t:List (Nat×TX)}{H:List Nat}{Ls:List (List Bool×List AX)}{A:List Nat}{t0:List (Nat×TX)}{kp:Nat->Option Nat}{l0:List AX}
def Good(ops:List Oper)(ρ:aU)(t0 t:List (Nat×TX))(H:List Nat)(Ls:List (List Bool×List AX))(B:Array Bool)(s:St):Prop:=
 ∃l,kV (H.map λh=>B.getD h false) Ls=some l/\RL ρ l s.l /\
  (∀k,(∀j o,ops[j]?=some o->o.dst=some k->B.getD j false=true)->RX ρ (ba t k) (ak.get s.t k)) /\
  ∀k,(∀j o,ops[j]?=some o->o.dst=some k->B.getD j false=false)->RX ρ (ba t0 k) (ak.get s.t k)
def Xf(a b k:Nat):hasB (Nat.lor a b) k=(hasB a k||hasB b k):=by
 have h:∀m j:Nat,hasB m j=m.testBit j:=λm j=>by
  unfold hasB Nat.testBit;show Nat.beq ((m >>> j) &&& 1) 1=_;rw[Nat.and_comm];rcases Qx (m >>> j)with e|e<;>simp[Nat.one_and_eq_mod_two,e]<;>rfl
 rw[h,h,h];exact Nat.testBit_or a b k
theorem I5{A:List Nat}{j:Nat}:∀{ws:List Nat}{m:Nat},hasB (Dq A ws m) j=true->hasB m j=true\/∃k∈ws,j=k\/wt A k j=true
 | [],m,h=>.inl h
 |w::ws,m,h=>by
  rcases I5 (ws:=ws) (m:=Nat.lor (jW m w) ((A[w]?).getD 0)) h with h| ⟨k,hk,h⟩
  ·rw[Xf,tU,iv,iv,ea]at h;rcases h with (h|h)|h
   ·exact .inl h
   ·exact .inr ⟨w,by simp,.inl h.symm⟩
   exact .inr ⟨w,by simp,.inr h⟩
  exact .inr ⟨k,by simp[hk],h⟩
def De{G:Array Bool}(U:Dr ops A=true)(aa:Am ops=true)(Y:sS ops G):∀(i:Nat){o:Oper}{j:Nat},ops[i]?=some o->(∀k∈waits o,G.getD k false=true)->wt A i j=true->G.getD j false=true:=by
 intro i;induction i using Nat.strongRecOn with
 |ind i ad=>
  intro o j F ab h;have B:=ek.1 U i (ib.2 (db.1 F).1);rw[F]at B;have B:=eb B;unfold wt at h;rw[B]at h;rcases I5 h with h| ⟨k,hk,h⟩
  ·rw[Mp]at h;cases h
  have M:=Fz aa F k hk;have N:=ab k hk;rcases h with rfl|h
  ·exact N
  have Z:k<ops.length:=Nat.lt_trans M (db.1 F).1;have O:ops[k]?=some ops[k]:=c5 Z;exact ad k M O (Y k _ O N) h
def QM{k:Nat}{p:Nat->Bool}(h:qO ops k p=true){j:Nat}{q:Oper}(F:ops[j]?=some q)(G:q.dst=some k):p j=true:=by
 have B:=ek.1 h j (ib.2 (db.1 F).1);rw[F]at B;simpa [QN,G,h6]using B
def MP{i:Nat}{o:Oper}{k:Nat}:(qO ops k (λj=>wt A i j)=true->ba (mE ops A t0 t i o) k=ba t k)/\(qO ops k (λj=>wt A i j)=false->k∈mO ops o->ba (mE ops A t0 t i o) k=ba t0 k):=by
 unfold mE;generalize mO ops o=L;induction L with
 |nil=>exact⟨λ_=>rfl,λ_ h=>by cases h⟩
 |cons x r B=>
  simp only[List.filterMap_cons];cases F:qO ops x (λj=>wt A i j)with
  |true=>
   simp only[cond_true];refine⟨B.1,λh hk=>?_⟩;rcases fa.1 hk with rfl|hk
   ·rw[F]at h;cases h
   exact B.2 h hk
  |false=>
   simp only[cond_false];have e:∀M:List (Nat×TX),ba (((x,ba t0 x)::M)++t) k=bif Nat.beq x k then ba t0 x else ba (M++t) k:=λ_=>rfl
   rw[e];refine⟨λh=>?_,λh hk=>?_⟩
   ·rw[kz (λN=>by rw[N,h]at F;cases F)];exact B.1 h
   by_cases G:x=k
   ·subst G;rw[h6];rfl
   rw[kz G];rcases fa.1 hk with rfl|hk
   ·exact absurd rfl G
   exact B.2 h hk
def Xx{i:Nat}(h:wz H i=false):∀k∈H,Nat.beq k i=false:=λk j=>by
 simp only[wz,h8]at h;exact Bool.eq_false_iff.2 (h k j)
def aci(aW:bM P V C)(a6:fG P C cs)(bd:C.nt=n)(aX:jq ρ D)(bj:∀d∈rs,sT cs ρ d)(bh:∀h∈H,h<ops.length){M Y:Array Bool}{i:Nat}{o:Oper}{d:Dn}(ax:ops[i]?=some o)(ah:d∈rs)(ad:sS ops M)(ay:M.getD i false=false)(aT:∀j∈waits o,M.getD j false=true)(ag:∀k,Y.getD k false=if k=i then true else M.getD k false){s:St}(a7:Good ops ρ t0 t H Ls M s)(au:Dr ops A=true)(av:Am ops=true)(ai:eE C.nt o.dst=true)(bg:OW ops A i o=true)(ae:∀S l,(S,l)∈Ls->qW A i H S=true->AH C ops kp (mE ops A t0 t i o) t D H Ls i o S l d=true):ml P n ops o s (Good ops ρ t0 t H Ls Y):=by
 obtain⟨l,aL,ar,aM,aN⟩:=a7;have a1:qW A i H (H.map λh=>M.getD h false)=true:=by
  refine IX λh Z=>⟨λbm=>De au av ad i ax aT bm,λhx=>?_⟩;cases aH:M.getD h false with
  |false=>rfl
  |true=>
   rw[iv]at hx;rcases hx with hx|hx
   ·have:=eb hx;subst this;rw[ay]at aH;cases aH
   have bc:=bh h Z;have B:ops[h]?=some ops[h]:=c5 bc;have:=De au av ad h B (ad h _ B aH) hx;rw[ay]at this;cases this
 have ae:=ae _ l (MZ aL) a1;have aY:sB i H (H.map λh=>M.getD h false)=H.map λh=>Y.getD h false:=PA λh _=>by
  rw[ag];by_cases e:h=i
  ·subst e;rw[if_pos rfl,h6,Bool.or_true]
  rw[if_neg e,kz e,T0]
 have aS:∀k,k∈mO ops o->RX ρ (ba (mE ops A t0 t i o) k) (ak.get s.t k):=λk aa=>by
  have G:=ek.1 bg k aa;cases az:qO ops k (λj=>wt A i j)with
  |true=>
   rw[MP.1 az];exact aM k λj q B U=>De au av ad i ax aT (QM az B U)
  |false=>
   rw[MP.2 az aa];rw[az,lB]at G;refine aN k λj q B U=>?_;have h2:=QM G B U;rw[iv]at h2;rcases h2 with h2|h2
   ·cases hl:M.getD j false with
    |false=>rfl
    |true=>
     have:=De au av ad j B (ad j q B hl) h2;rw[ay]at this;cases this
   have:=eb h2;subst this;exact ay
 have aQ:∀j b af,o.guard=some (j,b)->(ops[j]?).bind (·.dst)=some af->RX ρ (ba (mE ops A t0 t i o) af) (ak.get s.t af):=λj b af G h2=>aS af (by
  unfold mO;rw[G];simp only[h2];simp)
 have aD:∀{u:T},(∀e,o.dst=some e->RX ρ (ba t e) u)->∀k,(∀j q,ops[j]?=some q->q.dst=some k->Y.getD j false=true)->RX ρ (ba t k) (ak.get (bH s.t o.dst u) k):=by
  intro u hx k aa;by_cases O:o.dst=some k
  ·rw[O];show RX ρ (ba t k) (if k=k then u else _);rw[if_pos rfl];exact hx k O
  have G:ak.get (bH s.t o.dst u) k=ak.get s.t k:=by
   cases ah:o.dst with
   |none=>rfl
   |some e=>show(if e=k then u else _)=_;rw[if_neg (λZ=>O (by rw[ah,Z]))]
  rw[G];exact aM k λj q B U=>by
   have:=aa j q B U;rw[ag]at this;by_cases al:j=i
   ·subst al;rw[ax]at B;injection B with B;subst B;exact absurd U O
   rw[if_neg al]at this;exact this
 have aE:∀{u:T},∀k,(∀j q,ops[j]?=some q->q.dst=some k->Y.getD j false=false)->RX ρ (ba t0 k) (ak.get (bH s.t o.dst u) k):=by
  intro u k aa;have O:o.dst≠some k:=λO=>by
   have:=aa i o ax O;rw[ag,if_pos rfl]at this;cases this
  have G:ak.get (bH s.t o.dst u) k=ak.get s.t k:=by
   cases ah:o.dst with
   |none=>rfl
   |some e=>show(if e=k then u else _)=_;rw[if_neg (λZ=>O (by rw[ah,Z]))]
  rw[G];exact aN k λj q B U=>by
   have:=aa j q B U;rw[ag]at this;by_cases al:j=i
   ·subst al;rw[if_pos rfl]at this;cases this
   rw[if_neg al]at this;exact this
 have aK:wz H i=false->kV (H.map λh=>Y.getD h false) Ls=some l:=λbf=>by
  rw[<-aL];refine dn (λS=>kV S Ls) (hN λh Z=>?_);rw[ag,if_neg λe=>?_];have:=Xx bf h Z;rw[e,h6]at this;cases this
 rw[bd]at ai;cases d with
 |skip=>
  simp only[AH,dk,gj]at ae;obtain⟨⟨aA,N⟩,ab⟩:=ae;split at N
  ·rename_i aG;obtain⟨pc,an,ao⟩:=Mm (σ:=⟨0,mE ops A t0 t i o,[]⟩) (s:=s) aQ aG;refine P0 an ao ai ⟨l,aK aA,ar,aD λe aF=>?_,aE⟩;rw[aF]at ab;simp only at ab;generalize ba t e=y at ab⊢;cases y<;>first|exact .undef _|exact .gone|cases ab
  cases N
 |done bu bt=>
  simp only[AH,dk]at ae;obtain⟨aA,N⟩:=ae;split at aA
  ·rename_i aG;obtain⟨pc,an,ao⟩:=Mn (σ:=⟨0,mE ops A t0 t i o,[]⟩) (s:=s) aQ aG;split at N
   ·rename_i q B;simp only[dk]at N;obtain⟨⟨N,ab⟩,F⟩:=N;have a8:=z7 N;obtain⟨bw,bx,bo,bp,bq⟩:=bj _ ah;obtain⟨aU,hi,aO⟩:=bp.again bo bq ρ λ_=>rfl;have aV:Ext ρ aU:=λi v hv=>(aO i).trans hv;have aq:Ext aU ρ:=λi v hv=>(aO i).symm.trans hv;rw[<-a8]at hi;have aZ:∀x∈o.op.operands,RX ρ (gJ (mE ops A t0 t i o) x) (cg s.t x):=λx hx=>by
     cases x with
     |tmp k=>exact aS k (sk _ (vb.2 ⟨.tmp k,by simpa using hx,rfl⟩))
     |const v=>exact qy (tX:=[]) (t:=[]) (λ_=>.undef _) (.const v)
     |global g=>exact .undef _
     |func f=>exact qy (tX:=[]) (t:=[]) (λ_=>.undef _) (.func f)
    obtain⟨u,bl,aw⟩:=Wb aW a6 ar aZ P6 aV B hi;have aJ:∀e,o.dst=some e->RX ρ (ba t e) u:=λe aF=>by
     rw[aF]at ab;rw[<-TX.beq_eq ab];exact VE aX (bl.mono aq)
    have aP:∀{e:yK},(match kV (sB i H (H.map λh=>M.getD h false)) Ls with|some l'=>lK (vw e l) l'|none=>false)=true->∀l':List AO,bZ P o (cg s.t) s.l u l'->RL ρ (vw e l) l'->ml P n ops o s (Good ops ρ t0 t H Ls Y):=by
     intro e F l' G h2;split at F
     ·rename_i bn aR;have bb:=vP F;rw[aY]at aR;exact CN an ao G ai ⟨bn,aR,by rw[<-bb];exact h2,aD aJ,aE⟩
     cases F
    split at aw
    ·rename_i aj;rw[aj]at F;simp only[isNone,cond_true,gj]at F;exact CN an ao aw ai ⟨l,aK F,ar,aD aJ,aE⟩
    ·rename_i bs aj;obtain⟨br,aB,aC,_⟩:=aw;rw[aj]at F;exact aP F _ (aC rfl) (F2.app ar (.cons (aB.mono aq) .nil))
    rename_i l1 aj;obtain⟨l',aB,aC⟩:=aw;rw[aj]at F;cases aI:lK l1 l with
    |false=>
     simp only[isNone,aI,cond_false]at F;exact aP F _ (aC rfl) (aB.mono aq)
    |true=>
     simp only[isNone,aI,cond_true,gj]at F;have:=vP aI;subst this;exact CN an ao (aC rfl) ai ⟨l1,aK F,aB.mono aq,aD aJ,aE⟩
   cases N
  cases aA
theorem Q9(ay:bM P V C)(aF:fG P C cs)(aK:C.nt=n)(az:jq ρ D)(aM:∀d∈rs,sT cs ρ d)(ai:tw C ops A kp t0 t l0 D H Ls rs=true){Q:Exit->Act->World->Prop}(aB:∀s l a w,kV (H.map λ_=>true) Ls=some l->RL ρ l s.l->(∀k,RX ρ (ba t k) (ak.get s.t k))->Rel w0 I0 n s a w->Q .normal a w) :
  ∀(N:Nat)(B:Array Bool)(a:Act)(w:World),B.size=ops.length->vB ops.length B=N->sS ops B->(∃s,Rel w0 I0 n s a w/\Good ops ρ t0 t H Ls B s)->wpAnyIn dS 0 P .any ops.toArray Q N B a w:=by
 simp only[tw,dk]at ai;obtain⟨⟨⟨⟨ab,ax⟩,_⟩,aA⟩,aD⟩:=ai;have al:∀h∈H,h<ops.length:=λh aa=>by
  have:=ek.1 aA h aa;simpa [Nat.blt_eq]using this
 have done:∀(B:Array Bool)(a:Act)(w:World),(∀i,i<ops.length->B.getD i false=true)->(∃s,Rel w0 I0 n s a w/\Good ops ρ t0 t H Ls B s)->Q .normal a w:=by
  rintro B a w hl ⟨s,ae,l,af,av,aw,_⟩;rw[show(H.map λh=>B.getD h false)=H.map λ_=>true from hN λh aa=>hl h (al h aa)]at af;exact aB s l a w af av (λk=>aw k λj o F _=>hl j (db.1 F).1) ae
 intro N;induction N with
 |zero=>
  intro B a w M an Z U;have hl:∀i,i<ops.length->B.getD i false=true:=by
   intro i hi;have:=List.length_eq_zero_iff.1 an;have:=(x3.1 this) i (ib.2 hi);simpa using this
  refine⟨?_,done B a w hl U⟩;refine F4.2 λi hi=>?_;have G:=OX hi;have:=((HB M G (c5 G)).1 hi).1;rw[hl i G]at this;cases this
 |succ N aP=>
  intro B a w M an Z U;refine⟨λh0=>?_,λi hi=>?_⟩
  ·
   refine done B a w (λi hi=>?_) U;induction i using Nat.strongRecOn with
   |ind i aQ=>
    cases aE:B.getD i false with
    |true=>rfl
    |false=>
     have F:ops[i]?=some ops[i]:=c5 hi;have:i∈Region.ready .any ops.toArray B:=(HB M hi F).2 ⟨aE,λj aj=>aQ j (Fz ab F j aj) (Nat.lt_trans (Fz ab F j aj) hi)⟩;rw[h0]at this;cases this
  have G:=OX hi;have F:ops[i]?=some ops[i]:=c5 G;obtain⟨ag,Y⟩:=(HB M G F).1 hi;have ah:∀j,(B.setIfInBounds i true).getD j false=if j=i then true else B.getD j false:=λj=>W1 M G
  have aO:vB ops.length (B.setIfInBounds i true)=N:=by have:=ac6 M G ag;omega
  have O:=ek.1 aD i (ib.2 G);generalize ops[i]=o at F Y;obtain⟨s,ae,aI⟩:=U;rw[F]at O;split at O
  ·rename_i o' d ad aG;injection ad with ad;subst ad;simp only[dk]at O;obtain⟨⟨aq,ar⟩,au⟩:=O;have aN:=aci ay aF aK az aM al F (dd aG) Z ag Y ah aI ax ab aq ar (λS l aJ aC=>by
    have:=ek.1 au (S,l) aJ;rw[aC]at this;simpa using this)
   unfold wpOpIn;have:ops.toArray[i]?=some o:=by simpa using F
   simp only[this];exact aN w0 I0 a w Q _ ae λs' ao w' aH aL=>aP _ ao w' (by simp[M]) aO (Z.step F Y ah) ⟨s',aL,aH⟩
  cases O
omit [cz] [dg] [bm] [bS]in
theorem D6(m:Nat)(σ:Sk):∀D:fC,(kH ⟨m,σ.t,σ.l⟩ D).t=(kH σ D).t
 | []=>rfl
 |p::r=>dn (oG p.1 p.2) (D6 m σ r)
theorem VX(au:bM P V C)(aw:fG P C cs)(aB:C.nt=n)(aA:P.follows .mixedOrders=true){σ:Sk}{ρ0:aU}{s:St}{Q:LQ}{J:LJ}{N:Exit->St->Prop}{id:Nat}(F:bh ρ0 σ s)(B:Tr.wp cs (vZ C ops σ) ρ0 Q J)(U:∀bA ρ' J',Q .normal bA ρ' J'->cU σ.n ρ0 ρ'->σ.n<=bA.n->∀s',bh ρ' bA s'->N .normal s'):aX P w0 I0 n (.region id ops.toArray true) s N:=by
 obtain⟨aM,aN,aO,_,aP⟩:=abb (ops:=ops) F;have U:∀bA ρ' J',Q .normal bA ρ' J'->cU (mP ops σ).n ρ0 ρ'->(mP ops σ).n<=bA.n->∀s',bh ρ' bA s'->N .normal s':=by rw[aO];exact U
 have B:Tr.wp cs (pz C ops (mP ops σ) ops (mP ops σ) [] []) ρ0 Q J:=B;have F:=aN;intro a w Z;have Z:=aP Z;generalize mP ops σ=σ at F B U;generalize aM=s at F Z;obtain⟨M,ρ,J',D,rs,ao,O,ab,ag,aq,ah,ar⟩:=HO (Q:=Q) ops F.eC (λp aD=>by cases aD) (λd ad=>by cases ad) B;have aj:Ext ρ0 ρ:=ag.ext F.eC;have al:bh ρ ⟨M.n,σ.t,σ.l⟩ s:=⟨ab,λk=>(F.t k).mono aj,F.l.mono aj⟩;refine wpIn_region_any aA ?_;obtain⟨t,H,Ls,l,G,hl,O,ht⟩:=MO O;have av:∀(k:Nat),(∀o∈ops,o.dst≠some k)->ba t k=ba (kH σ D).t k:=λk ae=>by rw[ht];exact x8 λx af=>ae _ (adV (adV af).2).1
 have aG:kV (H.map λ_=>false) Ls=some σ.l:=by
  have G:=G;simp only[tw,dk]at G;obtain⟨⟨⟨⟨_,_⟩,h⟩,_⟩,_⟩:=G;split at h
  ·rename_i aI az;rw[az,vP h]
  cases h
 have ai:=KP al ah;have Y:∀i,(Array.replicate ops.length false).getD i false=false:=λi=>by
  rw[hz];cases af:(Array.replicate ops.length false)[i]? with
  |none=>rfl
  |some b=>have:=e6.1 af;simp at this;simp[<-this.2]
 have aE:Rel w0 I0 n s a {w with drawn:=w.drawn+1}:=by
  obtain⟨aH,I,m,B,ax,ht⟩:=Z;exact⟨aH,I,m,(B.call (w':={w with drawn:=w.drawn+1}) ⟨rfl,rfl,rfl,ec _,λ_ _=>rfl,λ_=>tc _⟩ (ff.refl _ _) ⟨B.sat.cell,B.sat.mp,B.sat.df,B.sat.dK⟩).1,ax,ht⟩
 have:=Q9 (w0:=w0) (I0:=I0) (Q:=λe an w'=>∃s',N e s'/\Rel w0 I0 n s' an w') au aw aB ah ar G (λs2 aI aQ aR aa aJ aK aL=>by
  rw[hl]at aa;injection aa with aa;subst aa;have aF:bh ρ M s2:=by rw[O];exact⟨by rw[O]at ab;exact ab,aK,aJ⟩
  exact⟨s2,U M ρ J' ao ag aq s2 aF,aL⟩) ops.length (Array.replicate ops.length false) a {w with drawn:=w.drawn+1} (by simp)
  (by unfold vB;rw[J2.2 (λi _=>by rw[Y];rfl)];simp)
  (λi o _ ak=>by rw[Y]at ak;cases ak)
  ⟨s,aE,σ.l,(by rw[show(H.map λh=>(Array.replicate ops.length false).getD h false)=H.map λ_=>false from hN λh _=>Y h];exact aG),al.l,λk ae=>by
   rw[av k λo aC ad=>by
    obtain⟨j,ay,rfl⟩:=hF.1 aC;have:=ae j _ (c5 ay) ad;rw[Y]at this;cases this]
   rw[<-D6 M.n σ D];exact ai.t k,λk _=>by rw[<-D6 M.n σ D];exact ai.t k⟩
 simpa using this
end
end Go.Sy
namespace Go.Sy
open Go Go.ak
variable [aI][cH][cz][dg][bm][bS]
def wJ:∀{ts:List T}{ds:List ak.D},ts.mapM fz=some ds->ts=ds.map .d
 | [],ds,h=>by simp at h;subst h;rfl
 |t::ts,ds,h=>by
  rw[l2]at h;cases j:fz t with
  |none=>rw[j]at h;cases h
  |some d=>
   cases k:ts.mapM fz with
   |none=>rw[j,k]at h;cases h
   |some r=>
    rw[j,k]at h;simp only[Option.bind_eq_bind,Option.bind_some,Option.pure_def,c4]at h;subst h;rw[wJ k];cases t<;>simp[fz]at j
    subst j;rfl
section
variable {P:Program}{V:Env}{C:Cx}{ρ:aU}{σ bA:Sk}{s:St}
def YC{t:Ty}(hv:isVal t){ts:List T}{v:t.den}(h:iF (cd t) ts=.d (t.enc v))(hl:cd t=false->ts.length=1):ts=(t.enc v).cells.map .d/\∀x∈(t.enc v).cells,x.one=true:=by
 cases j:cd t with
 |false=>
  obtain⟨B,F⟩:=lN j hv.1 hv.2 v;rw[B]
  match ts,hl j with
  | [u],_=>
   rw[j]at h;simp only[iF,hR,h9,List.headD_cons]at h;subst h;exact⟨rfl,λx k=>by simp at k;subst k;exact F⟩
 |true=>
  cases t with
  |st i=>
   have e:(Ty.st i).enc v=.agg (aI.cells i v):=rfl;rw[e]at h⊢;rw[j]at h;simp only[iF,hK]at h;split at h
   ·rename_i ds G;injection h with h;injection h with h;rw[wJ G,h];exact⟨rfl,cz.AJ i v⟩
   cases h
  |_=>cases j
def WT(j:bM P V C){ty:TypeId}{cs:List TX}{t:Ty}(h:ET C ty cs=some t):isVal t:=by
 unfold ET at h;split at h
 ·rename_i k;injection h with h;subst h;obtain⟨i,_,_,_,hv,_⟩:=j.info k;exact hv
 split at h
 ·injection h with h;subst h;exact cy rfl
 ·injection h with h;subst h;exact cy rfl
 cases h
def WU(
        af:bM P V C)(h:bh ρ σ s){j:Nat}(B:EU C σ j=some bA):∃s',Sub s s'/\bh ρ bA s'/\bA.n=σ.n:=by
 unfold EU at B;split at B
 ·rename_i id ao;split at B
  ·rename_i ty cs an;split at B
   ·rename_i t au;split at B
    ·rename_i u x F;split at B
     ·rename_i av;subst av;generalize aC:nC σ.l id=ids at B;cases M:(dN (.box u)&&tP ids id&&oN ids σ.l)with
      |false=>rw[M]at B;cases B
      |true=>
       rw[M]at B;simp only[cond_true,c4]at B;subst B;rw[dk,dk]at M;obtain⟨⟨O,G⟩,aj⟩:=M;unfold tP at G;rw[dk]at G;have hv:=WT af au;have aa:ids.Nodup:=wU G.1;have aq:id∉ids:=λN=>by
        have:(ids.any λi=>Nat.beq i id)=true:=hM.2 ⟨id,N,h6 id⟩;rw[this]at G;cases G.2
       obtain⟨az,ah,ai⟩:=F2.left h.l an;cases ai with
       |var _ _ ts ab=>
        have N:=Ax hv ab F;have Y:=h.t j;rw[ao]at Y;generalize ag:iF (cd u) ts=ay at N;cases N with
        |d _ _ v aB ae=>
         obtain⟨aw,ax⟩:=YC hv ag (λar=>by
          unfold rW at F;rw[ar]at F;simp only[cond_false]at F;split at F
          ·rw[<-ab.len];rfl
          cases F)
         generalize al:ak.get s.t j=aA at Y;cases Y;obtain⟨s1,Z,ad⟩:=Sk.HA h (ids:=ids) aa aj;refine⟨⟨(j,.d (.box (u.enc v)))::s1.t,s1.l⟩,?_,⟨h.eC,λk=>?_,ad.l⟩,rfl⟩
         ·exact acv j id (u.enc v) ids al (by rw[ah,aw]) ax aq aa Z.1 Z.2.1 Z.2.2
         show RX ρ (bif Nat.beq j k then _ else ba (σ.re ids).t k) (if j=k then _ else ak.get s1.t k);by_cases U:j=k
         ·subst U;rw[if_pos rfl,h6];exact .d (.box u) (.box x) v (cy O) (by simp only[X.den,ae])
         have O:Nat.beq j k=false:=by
          cases e:Nat.beq j k with
          |false=>rfl
          |true=>exact absurd (eb e) U
         rw[if_neg U,O];exact ad.t k
     cases B
    cases B
   cases B
  cases B
 cases B
def abv(h:bh ρ σ s){j:Nat}(B:HV σ j=some bA):∃s',Sub s s'/\bh ρ bA s'/\bA.n=σ.n:=by
 unfold HV at B;split at B
 ·rename_i id ao;split at B
  ·rename_i ty f i an;generalize az:nC σ.l id=ids at B;cases G:(Nat.beq i id&&tP ids id&&oN ids σ.l)with
   |false=>rw[G]at B;cases B
   |true=>
    rw[G]at B;simp only[cond_true,c4]at B;subst B;rw[dk,dk]at G;obtain⟨⟨N,M⟩,aj⟩:=G;have:=eb N;subst this;unfold tP at M;rw[dk]at M;have ad:ids.Nodup:=wU M.1;have aq:i∉ids:=λY=>by
     have:(ids.any λk=>Nat.beq k i)=true:=hM.2 ⟨i,Y,h6 i⟩;rw[this]at M;cases M.2
    obtain⟨ax,ah,ai⟩:=F2.left h.l an;cases ai with
    |var _ _ ts au=>
     cases au with
     |cons af ag=>
      cases ag;cases af with
      |aH _ _ aw aa F=>
       match aw,aa,F with
       | [u],_,F=>
        have ab:=F 0 _ _ rfl rfl;cases ab;have U:=h.t j;rw[ao]at U;generalize al:ak.get s.t j=ay at U;cases U;obtain⟨s1,Z,ae⟩:=Sk.HA h (ids:=ids) ad aj;refine⟨⟨(j,.d (.self f))::s1.t,s1.l⟩,?_,⟨h.eC,λk=>?_,ae.l⟩,rfl⟩
        ·exact P2 j i (.self f) _ ids al ah aq ad Z.1 Z.2.1 Z.2.2 λI J m b vs _ Y ar av G=>abw Y ar av G
        show RX ρ (bif Nat.beq j k then _ else ba (σ.re ids).t k) (if j=k then _ else ak.get s1.t k);by_cases O:j=k
        ·subst O;rw[if_pos rfl,h6];exact .d (.self f) (.self f) () (cy rfl) rfl
        have N:Nat.beq j k=false:=by
         cases e:Nat.beq j k with
         |false=>rfl
         |true=>exact absurd (eb e) O
        rw[if_neg O,N];exact ae.t k
      |iW _ _ ds aa F=>
       match ds,aa,F with
       | [u],_,F=>
        have ab:=F 0 _ _ rfl rfl;cases ab
  cases B
 cases B
theorem HU:∀{js:List Nat}{σ:Sk}{s:St},bh ρ σ s->∃s',Sub s s'/\bh ρ (me js σ) s'/\(me js σ).n=σ.n
 | [],σ,s,h=>⟨s,Sub.refl s,h,rfl⟩
 |j::r,σ,s,h=>by
  simp only[me];split
  ·rename_i σ1 k;obtain⟨s1,B,F,G⟩:=abv h k;obtain⟨s2,M,N,O⟩:=HU (js:=r) F;exact⟨s2,Sub.trans' B M,N,O.trans G⟩
  exact HU (js:=r) h
theorem zw{id:Nat}:∀{ts:List Ty}{k:Nat}{σ:Sk}{s:St},bh ρ σ s->∃s',Sub s s'/\bh ρ (vY id ts k σ) s'/\(vY id ts k σ).n=σ.n
 | [],k,σ,s,h=>⟨s,Sub.refl s,h,rfl⟩
 |t::ts,k,σ,s,h=>by
  simp only[vY];split
  ·exact zw h
  split
  ·rename_i σ1 j;obtain⟨s1,B,F,G⟩:=Ja h j;obtain⟨s2,M,N,O⟩:=zw (id:=id) (ts:=ts) (k:=k+1) F;exact⟨s2,Sub.trans' B M,N,O.trans G⟩
  exact zw h
theorem VA{j:Nat}(h:bh ρ σ s):∃s',Sub s s'/\bh ρ (zy C σ j) s'/\(zy C σ j).n=σ.n:=by
 unfold zy;have z:∃s',Sub s s'/\bh ρ σ s'/\σ.n=σ.n:=⟨s,Sub.refl s,h,rfl⟩;split
 ·split
  ·split
   ·split
    ·exact zw h
    exact z
   exact z
  exact z
 exact z
theorem ES(k:bM P V C):∀{js:List Nat}{σ:Sk}{s:St},bh ρ σ s->∃s',Sub s s'/\bh ρ (j9 C σ js) s'/\(j9 C σ js).n=σ.n
 | [],σ,s,h=>⟨s,Sub.refl s,h,rfl⟩
 |j::r,σ,s,h=>by
  simp only[j9];split
  ·rename_i σ1 B;obtain⟨ad,Z,aa,ab⟩:=VA (C:=C) (j:=j) h;obtain⟨s1,G,M,N⟩:=WU k aa B;obtain⟨s2,O,U,Y⟩:=ES k (js:=r) M;exact⟨s2,λw0 I0 n a w F=>O _ _ _ _ _ (G _ _ _ _ _ (Z _ _ _ _ _ F)),U,Y.trans (N.trans ab)⟩
  exact ES k (js:=r) h
end
end Go.Sy
namespace Go.Sy
open Go Go.ak
section
variable [aI]
@[reducible] def gw(Λ:cH)(j:Nat)(x:LF):cH:=⟨λi=>if i=j then some x else Λ.lam i⟩
def hY(Λ k:cH):Prop:=∀j x,Λ.lam j=some x->k.lam j=some x
def hY.push{Λ:cH}{j:Nat}{x:LF}(h:Λ.lam j=none):hY Λ (gw Λ j x):=λi y k=>by
 show(if i=j then some x else Λ.lam i)=some y;by_cases hi:i=j
 ·subst hi;rw[h]at k;cases k
 rw[if_neg hi];exact k
theorem hY.trans{a b c:cH}(h:hY a b)(k:hY b c):hY a c:=λj x B=>k j x (h j x B)
def Ri{Λ F:cH}(h:hY Λ F){ρ:aU}{a:AX}{o:AO}(k:@bR _ Λ ρ a o):@bR _ F ρ a o:=by
 cases k with
 |dead=>exact @bR.dead _ F ρ
 |var ty cs ts B=>exact @bR.var _ F ρ ty cs ts B
 |row e t x xs h0 B=>exact @bR.row _ F ρ e t x xs h0 B
 |bn e t x xs h0 B=>exact @bR.bn _ F ρ e t x xs h0 B
 |map k v x m h0 G B=>exact @bR.map _ F ρ k v x m h0 G B
 |dJ k v x m h0 G B=>exact @bR.dJ _ F ρ k v x m h0 G B
 |bw e kk t x m h0 G B=>exact @bR.bw _ F ρ e kk t x m h0 G B
 |fA e kk t x k m n h0 G B N=>exact @bR.fA _ F ρ e kk t x k m n h0 G B N
 |dx j b rs vals ft B G=>exact @bR.dx _ F ρ j b rs vals ft (h _ _ B) G
 |lp j b rs st k ps bc M tm B G=>exact @bR.lp _ F ρ j b rs st k ps bc M tm (h _ _ B) G
 |eI o B=>exact @bR.eI _ F ρ o B
def HL{Λ j:cH}(h:hY Λ j){ρ:aU}{l:List AX}{m:List AO}(k:@RL _ Λ ρ l m):@RL _ j ρ l m:=F2.mono (λ_ _=>Ri h) k
def Rk{Λ G:cH}{d:Nat}(h:∀j,j<d->G.lam j=Λ.lam j){ρ:aU}{a:AX}{o:AO}(k:@bR _ G ρ a o):@bR _ Λ ρ (iq d a) o:=by
 cases k with
 |dead=>exact @bR.dead _ Λ ρ
 |var ty cs ts B=>exact @bR.var _ Λ ρ ty cs ts B
 |row e t x xs h0 B=>exact @bR.row _ Λ ρ e t x xs h0 B
 |bn e t x xs h0 B=>exact @bR.bn _ Λ ρ e t x xs h0 B
 |map k v x m h0 F B=>exact @bR.map _ Λ ρ k v x m h0 F B
 |dJ k v x m h0 F B=>exact @bR.dJ _ Λ ρ k v x m h0 F B
 |bw e kk t x m h0 F B=>exact @bR.bw _ Λ ρ e kk t x m h0 F B
 |fA e kk t x k m n h0 F B N=>exact @bR.fA _ Λ ρ e kk t x k m n h0 F B N
 |dx j b rs vals ft B F=>
  simp only[iq];cases e:Nat.ble d j with
  |true=>exact @bR.eI _ Λ ρ _ rfl
  |false=>
   have:j<d:=by
    rcases p6 j d with h|h
    ·exact h
    rw[zz h]at e;cases e
   exact @bR.dx _ Λ ρ j b rs vals ft ((h j this).symm.trans B) F
 |lp j b rs st k ps bc M tm B F=>
  simp only[iq];cases e:Nat.ble d j with
  |true=>exact @bR.eI _ Λ ρ _ rfl
  |false=>
   have:j<d:=by
    rcases p6 j d with h|h
    ·exact h
    rw[zz h]at e;cases e
   exact @bR.lp _ Λ ρ j b rs st k ps bc M tm ((h j this).symm.trans B) F
 |eI o B=>exact @bR.eI _ Λ ρ o B
def HM{Λ B:cH}{d:Nat}(h:∀j,j<d->B.lam j=Λ.lam j){ρ:aU}{l:List AX}{m:List AO}(k:@RL _ B ρ l m):@RL _ Λ ρ (l.map (iq d)) m:=F2.map (F2.mono (λ_ _=>Rk h) k)
inductive jt[cH](ρ:aU):fg->Prop
 |mk (id j k ps bc body t outer b) (jj:Array Tmp) (tm:Tm):cH.lam j=some (.loop b k jj bc body tm)->jj.toList=ps->(∀q,RX ρ (ba t q) (ak.get tm q))->(∀x,x∈outer->jt ρ x)->jt ρ (.mk id j k ps bc body t outer)
theorem jt.mono[cH]{ρ ρ':aU}(h:Ext ρ ρ'){x:fg}(k:jt ρ x):jt ρ' x:=by
 induction k with
 |mk id j k ps bc B t O b U tm F G M _ N=>exact .mk id j k ps bc B t O b U tm F G (λq=>(M q).mono h) N
theorem jt.lam{Λ B:cH}(h:hY Λ B){ρ:aU}{x:fg}(k:@jt _ Λ ρ x):@jt _ B ρ x:=by
 induction k with
 |mk id j k ps bc F t U b Y tm G M N _ O=>exact @jt.mk _ B ρ id j k ps bc F t U b Y tm (h _ _ G) M N O
def lH[cH](ρ:aU)(L:List fg):Prop:=∀x,x∈L->jt ρ x
def Lu{id:Nat}:∀{L:List fg}{x:fg},wo id L=some x->x∈L/\x.id=id
 | [],x,h=>by simp[wo]at h
 |y::r,x,h=>by
  simp only[wo]at h;cases e:Nat.beq y.id id with
  |true=>rw[e]at h;simp at h;subst h;exact⟨by simp,eb e⟩
  |false=>rw[e]at h;obtain⟨j,k⟩:=Lu h;exact⟨by simp[j],k⟩
def IV:∀{ts:List T}{r:Nat},r∈ng ts->∃(i:Nat)(t:T),ts[i]?=some t/\r∈eB t
 | [],r,h=>by simp[ng]at h
 |t::ts,r,h=>by
  simp only[ng,hD]at h;rcases h with h|h
  ·exact⟨0,t,rfl,h⟩
  obtain⟨i,u,j,k⟩:=IV h;exact⟨i+1,u,by simpa using j,k⟩
def OY:∀{cs:List TX}{i:Nat}{c:TX}{r:Nat},cs[i]?=some c->r∈c.refs->r∈TX.sw cs
 | [],i,c,r,h,_=>by simp at h
 |u::cs,i,c,r,h,j=>by
  simp only[TX.sw,hD];cases i with
  |zero=>simp at h;subst h;exact .inl j
  |succ i=>exact .inr (OY (by simpa using h) j)
def KE:∀{cs:List TX}{i:Nat}{c:TX},TX.rl cs=true->cs[i]?=some c->c.clean=true
 | [],i,c,_,h=>by simp at h
 |u::cs,i,c,j,h=>by
  simp only[TX.rl,dk]at j;cases i with
  |zero=>simp at h;subst h;exact j.1
  |succ i=>exact KE j.2 (by simpa using h)
def Vd{ρ:aU}{c:TX}{t:T}(h:RX ρ c t):c.clean=true->∀r∈eB t,r∈c.refs:=by
 have key:∀{cs:List TX}{ts:List T},cs.length=ts.length->(∀(i:Nat) c t,cs[i]?=some c->ts[i]?=some t->c.clean=true->∀r∈eB t,r∈c.refs)->TX.rl cs=true->∀r∈ng ts,r∈TX.sw cs:=by
  intro cs ts hl G B r j;obtain⟨i,t,ht,N⟩:=IV j;have hi:=(db.1 ht).1;have M:cs[i]?=some (cs[i]'(by omega)):=c5 (by omega);exact OY M (G i _ t M ht (KE B M) r N)
 induction h with
 |undef t=>intro B;cases B
 |gone=>intro B;cases B
 |ptr id off=>intro _ r j;exact j
 |row id=>intro _ r j;exact j
 |bx id k off kk n F=>intro _ r j;exact j
 |map id=>intro _ r j;exact j
 |bj id=>intro _ r j;exact j
 |cC id n=>intro _ r j;exact j
 |sub=>intro h;cases h
 |bI id t x xs F=>intro _ r j;exact j
 |agg cs ts F _ G=>intro B r j;exact key F G B r j
 |aL cs ts F _ G=>intro B r j;exact key F G B r j
 |aH f cs ts F _ G=>intro B r j;exact key F G B r j
 |_=>intro _ r j;simp[eB]at j
end
end Go.Sy
namespace Go.Sy
open Go Go.ak
variable [aI][Λ:cH][cz][dg][bm][oy][R0:bS]
def MG{ρ:aU}{σ:Sk}{s:St}(h:bh ρ σ s)(m:Nat):∃ft:Tm,(∀k,ak.get ft k=.undef\/ak.get ft k=ak.get s.t k)/\(∀k,RX ρ (ba (oS m σ.t) k) (ak.get ft k))/\nf ft (fS (oS m σ.t)):=by
 have h0:=(vm m h).t;have h0:∀k,RX ρ (ba (jN m σ.t 0) k) (ak.get s.t k):=h0;have key:∀(t:List (Nat×TX)),(∀k,ij k t=true->RX ρ (ba t k) (ak.get s.t k))->∃ft:Tm,(∀k,ak.get ft k=.undef\/ak.get ft k=ak.get s.t k)/\(∀k,RX ρ (ba (t.map λp=>(p.1,bif p.2.clean then p.2 else .undef)) k) (ak.get ft k))/\nf ft (fS (t.map λp=>(p.1,bif p.2.clean then p.2 else .undef))):=by
  intro t ht;have:∀(
       t:List (Nat×TX)) (seen:List Nat),(∀k,k∉seen->ij k t=true->RX ρ (ba t k) (ak.get s.t k))->∃ft:Tm,(∀k,k∉seen->(ak.get ft k=.undef\/ak.get ft k=ak.get s.t k))/\(∀k,k∉seen->RX ρ (ba (t.map λp=>(p.1,bif p.2.clean then p.2 else .undef)) k) (ak.get ft k))/\∀k,k∉seen->∀r∈eB (ak.get ft k),r∈fS (t.map λp=>(p.1,bif p.2.clean then p.2 else .undef)):=by
   intro t;induction t with
   |nil=>intro seen _;exact⟨[],λk _=>.inl rfl,λk _=>.undef _,λk _ r F=>by simp[ak.get,eB]at F⟩
   |cons p t Y=>
    intro seen ht;obtain⟨i,u⟩:=p;obtain⟨ft,M,N,O⟩:=Y (i::seen) λk B U=>by
     simp only[fa,not_or]at B;have:=ht k B.2 (by simp[ij,U]);simpa only[ba,kz (λe:i=k=>B.1 e.symm),cond_false]using this
    refine⟨(i,bif u.clean then ak.get s.t i else .undef)::ft,λk B=>?_,λk B=>?_,λk B r F=>?_⟩
    ·simp only[ak.get];by_cases j:i=k
     ·subst j;rw[if_pos rfl];cases u.clean<;>simp
     rw[if_neg j];exact M k (by simp[B];exact λe=>j e.symm)
    ·simp only[ak.get,e7,ba];by_cases j:i=k
     ·subst j;rw[if_pos rfl,h6];simp only[cond_true];cases G:u.clean with
      |false=>exact .undef _
      |true=>
       have:=ht i B (by simp[ij,h6]);simpa only[ba,h6,cond_true]using this
     rw[if_neg j,kz j];exact N k (by simp[B];exact λe=>j e.symm)
    simp only[ak.get]at F;simp only[e7,fS,hD];by_cases j:i=k
    ·subst j;rw[if_pos rfl]at F;cases G:u.clean with
     |false=>rw[G]at F;simp[eB]at F
     |true=>
      rw[G]at F;simp only[cond_true]at F⊢;have:=ht i B (by simp[ij,h6]);simp only[ba,h6,cond_true]at this;exact .inl (Vd this G r F)
    rw[if_neg j]at F;exact .inr (O k (by simp[B];exact λe=>j e.symm) r F)
  obtain⟨ft,M,N,O⟩:=this t [] λk _=>ht k;exact⟨ft,λk=>M k (by simp),λk=>N k (by simp),λk=>O k (by simp)⟩
 exact key (jN m σ.t 0) λk _=>h0 k
section
variable {P:Program}{V:Env}{C:Cx}{ρ:aU}{σ:Sk}{s:St}
theorem yk(G:bM P V C)(h:bh ρ σ s):∀{rs:List ResultVar}{xs:List TX},oh C σ rs=some xs->nS (rs.map λv=>(eX V s v).2)/\F2 (RX ρ) xs (rs.map λv=>(eX V s v).1)
 | [],xs,j=>by
  simp only[oh,c4]at j;subst j;exact⟨trivial,.nil⟩
 |.tmp t::r,xs,j=>by
  simp only[oh,e4]at j;obtain⟨ys,F,rfl⟩:=j;obtain⟨N,O⟩:=yk G h F;exact⟨⟨trivial,N⟩,.cons (h.t t) O⟩
 |.cell a ty::r,xs,j=>by
  simp only[oh]at j;split at j
  ·rename_i x k;simp only[e4]at j;obtain⟨ys,F,rfl⟩:=j;obtain⟨N,O⟩:=yk G h F;have M:=h.t a;unfold O2 at k;split at k
   ·rename_i t id off ah ad;rw[ad]at M;split at k
    ·rename_i ak Z ag;cases B:Nat.ble (off+t.size) Z.length with
     |false=>rw[B]at k;cases k
     |true=>
      rw[B]at k;simp only[cond_true]at k;have B:=hg B;obtain⟨i,ae,U,af,hv,_⟩:=G.info ah;obtain⟨aj,aa,ab⟩:=F2.left h.l ag;generalize ai:get s.t a=u at M;cases M;cases ab with
      |var _ _ ts Y=>
       have e:eX V s (.cell a ty)=(iF (cd t) ((ts.drop off).take t.size),True):=by
        simp only[eX,ai,fD,ae,aa];rw[if_pos (by rw[U,<-Y.len];exact B),U,af];rfl
       refine⟨?_,?_⟩
       ·simp only[e7,e];exact⟨trivial,N⟩
       simp only[e7,e];exact .cons (Ax hv ((Y.drop off).take t.size) k) O
    cases k
   cases k
  cases j
end
def oJ:Ex->Exit
 |.normal=>.normal
 |.ret=>.ret
 |.exit i=>.exit i
 |.fo _=>.goto 0
section
variable {P:Program}{V:Env}{C:Cx}{cs:List Callee}{n:Nat}{w0:World}{I0:aD}
def HE(e:Ex)(k:Sk)(B:Nat)(p:Sy.V->Prop)(Q:LQ):LQ:=λj σ ρ' J'=>if e=j then ∃xs v,instS k B σ=some xs/\(fu xs).den ρ'=some v/\p v else Q j σ ρ' J'
def aa8{e:Ex}{G:Sk}{O:Nat}{p:Sy.V->Prop}{Q:LQ}(M:eR Q):eR (HE e G O p Q):=by
 intro j σ ρ B F N h;unfold HE at h⊢;by_cases k:e=j
 ·rw[if_pos k]at h⊢;exact h
 rw[if_neg k]at h⊢;exact M j σ ρ B F N h
theorem tt{f:Ex->Sk->Tr}{Q:LQ}(j:eR Q):eR (λe σ ρ' J'=>Tr.wp cs (f e σ) ρ' Q J'):=λ_ _ _ _ _ k h=>Tr.wp_mono k j h
def jU(P:Program)(cs:List Callee)(n:Nat)(w0:World)(I0:aD)(L:List fg)(c:Code)(σ:Sk)(T:Tr):Prop:=
 ∀(ρ:aU)(s:St)(Q:LQ)(J:LJ)(j:Exit->St->Prop),bh ρ σ s->lH ρ L->eR Q->T.wp cs ρ Q J ->
  (∀e bA ρ' J',Q e bA ρ' J'->cU σ.n ρ ρ'->σ.n<=bA.n->∀s',bh ρ' bA s'->j (oJ e) s')->aX P w0 I0 n c s j
theorem jU.go{L:List fg}{c:Code}{σ:Sk}{T:Tr}(h:jU P cs n w0 I0 L c σ T){ρ:aU}{s:St}{Q:LQ}{J:LJ}{j:Exit->St->Prop}(G:bh ρ σ s)(B:lH ρ L)(F:eR Q)(M:T.wp cs ρ Q J)(k:∀e bA ρ' J',Q e bA ρ' J'->cU σ.n ρ ρ'->σ.n<=bA.n->∀s',bh ρ' bA s'->j (oJ e) s'):aX P w0 I0 n c s j:=h ρ s Q J j G B F M k
theorem lH.mono{ρ ρ':aU}{L:List fg}(h:lH ρ L)(j:Ext ρ ρ'):lH ρ' L:=λx k=>(h x k).mono j
def P8{K:St->Prop}{Q:Exit->St->Prop}{e:Ex}(h:e ≠ .normal)(s:St):qL K Q (oJ e) s=Q (oJ e) s:=by
 cases e<;>first|rfl|exact absurd rfl h
def eo(cs:List Callee)(n0:Nat)(ρ:aU)(f:Sk->Tr)(Q:LQ):LQ:=λe bA ρ' J'=>if e=.normal then(cU n0 ρ ρ'->n0<=bA.n->∀s',bh ρ' bA s'->∃k j B F,Sub s' B/\bh j k B/\cU n0 ρ j/\n0<=k.n/\Tr.wp cs (f k) j Q F)else Q e bA ρ' J'
theorem vn{n0:Nat}{ρ:aU}{f:Sk->Tr}{Q:LQ}(F:eR Q):eR (eo cs n0 ρ f Q):=by
 intro e σ ρ' k B G h;unfold eo at h⊢;by_cases j:e=.normal
 ·rw[if_pos j]at h⊢;exact h
 rw[if_neg j]at h⊢;exact F e σ ρ' k B G h
def Py{af n0:Nat}{T:Tr}{f:Sk->Tr}{ρ:aU}{Q:LQ}{J:LJ}(ai:ep n0 ρ)(G:eR Q)(j:Tr.wp cs (vo af n0 T f) ρ Q J):∃k,Tr.wp cs T ρ (eo cs n0 ρ f Q) k:=by
 have ag:leaves .normal T=[]->Tr.wp cs T ρ Q J->∃k,Tr.wp cs T ρ (eo cs n0 ρ f Q) k:=λhl j=>
  ⟨_,Tr.wp_mono (λ_ _ h=>h) (λe σ ρ' F M O h=>by
   unfold eo;rw[if_neg h.1];exact G e σ ρ' F M O h.2) (YV hl G j)⟩
 have ae:Tr.wp cs (vo.Ah af n0 T f) ρ Q J->∃k,Tr.wp cs T ρ (eo cs n0 ρ f Q) k:=by
  intro j;unfold vo.Ah at j;split at j
  ·rename_i hl;exact ag hl j
  split at j
  ·rename_i ab ts ar;cases Y:ab.cB n0 ts.length with
   |false=>rw[Y]at j;exact j.elim
   |true=>
    rw[Y]at j;simp only[cond_true]at j;have j:=O3 (p:=λz=>∃aa:(aP ts).den,z=⟨aP ts,aa⟩/\Tr.wp cs (f (ab.fill (tL n0 ts.length) (n0+1))) ((n0,⟨aP ts,aa⟩)::ρ) Q J) G (λv h=>h) j;refine⟨_,Tr.wp_mono (λ_ _ h=>h) (λe σ ρ' F M O h=>?_) j⟩;unfold eo;by_cases B:Ex.normal=e
    ·subst B;rw[if_pos rfl]at h⊢;obtain⟨xs,v,ak,al,aa,rfl,an⟩:=h;intro U ad s' Z;obtain⟨s2,ao,aq⟩:=instS_ok (ρ0:=ρ) Z ak rfl al Y (λi v hi hv=>by rw[<-U i hi];exact hv) ai;exact⟨_,_,s2,J,ao,aq,cU.push (ec n0) ρ _,tc n0,an⟩
    rw[if_neg B]at h;rw[if_neg λaj=>B aj.symm];exact G e σ ρ' F M O h
  exact j.elim
 have ah:Tr.wp cs (ev (λe σ=>match e with |.normal=>f σ|e=>.leaf e σ) T) ρ Q J->∃k,Tr.wp cs T ρ (eo cs n0 ρ f Q) k:=by
  intro j;have j:=j6 G j;refine⟨_,Tr.wp_mono (λ_ _ h=>h) (λe σ ρ' F M O h=>?_) j⟩;unfold eo;by_cases B:e=.normal
  ·subst B;rw[if_pos rfl];exact λU ad s' Z=>⟨σ,ρ',s',F,Sub.refl s',Z,U,ad,h⟩
  rw[if_neg B];cases e with
  |normal=>exact absurd rfl B
  |_=>exact G _ σ ρ' F M O h
 unfold vo at j;split at j
 ·rename_i hl;exact ag hl j
 ·cases N:lV T with
  |true=>rw[N]at j;exact ae j
  |false=>
   rw[N]at j;simp only[cond_false]at j;exact ah j
 cases N:(lV T || !qi T||O8 (leaves .normal T))with
 |true=>rw[N]at j;exact ae j
 |false=>
  rw[N]at j;simp only[cond_false]at j;exact ah j
def Pz{p:Sk->Bool}{au n0:Nat}{T:Tr}{f:Sk->Tr}{ρ:aU}{Q:LQ}{J:LJ}(ah:ep n0 ρ)(F:eR Q)(j:Tr.wp cs (CK p au n0 T f) ρ Q J):∃N,Tr.wp cs T ρ (eo cs n0 ρ f Q) N:=by
 unfold CK at j;cases ai:(leaves .normal T).any p with
 |false=>rw[ai]at j;exact Py ah F j
 |true=>
  rw[ai]at j;simp only[cond_true]at j;have j:=j6 F j;obtain⟨B,ag,j⟩:∃B:LQ,B=_/\Tr.wp cs _ ρ B J:=⟨_,rfl,j⟩;have U:eR B:=by rw[ag];exact tt F
  have Z:∀e k ρ J,B (.fo e) k ρ J->Q e k ρ J:=λe k ρ J h=>by rw[ag]at h;exact h
  obtain⟨N,j⟩:=Py ah U j;have af:=vn (cs:=cs) (n0:=n0) (ρ:=ρ) (f:=λk=>fo (f k)) U;have j:=j6 af j;refine⟨N,Tr.wp_mono (λ_ _ h=>h) (λe σ ρ' O ax G h=>?_) j⟩;unfold eo;by_cases Y:e=.normal
  ·subst Y;rw[if_pos rfl];intro ad ae s' ak;simp only[]at h;cases aj:p σ with
   |true=>
    rw[aj]at h;simp only[cond_true]at h;have h:=j6 af h;refine⟨σ,ρ',s',O,Sub.refl s',ak,ad,ae,Tr.wp_mono (λ_ _ h=>h) (λab k ρ M al G h=>?_) h⟩;have h:eo cs n0 _ _ B (.fo ab) k ρ M:=h;unfold eo at h;rw[if_neg (by intro h;cases h)]at h;exact F _ _ _ _ _ G (Z _ _ _ _ h)
   |false=>
    rw[aj]at h;have h:eo cs n0 ρ (λk=>fo (f k)) B .normal σ ρ' O:=h;unfold eo at h;rw[if_pos rfl]at h;obtain⟨k,aw,av,M,an,ao,aq,ar,aa⟩:=h ad ae s' ak;have aa:=j6 U aa;exact⟨k,aw,av,M,an,ao,aq,ar,Tr.wp_mono (λ_ _ h=>h) (λab k ρ M al G h=>F _ _ _ _ _ G (Z _ _ _ _ h)) aa⟩
  rw[if_neg Y];have h:eo cs n0 ρ (λk=>fo (f k)) B (.fo e) σ ρ' O:=by
   cases e with
   |normal=>exact absurd rfl Y
   |_=>exact h
  unfold eo at h;rw[if_neg (by intro h;cases h)]at h;exact F _ _ _ _ _ G (Z _ _ _ _ h)
theorem HW{G n0:Nat}{T:Tr}{f:Sk->Tr}{ρ:aU}{Q:LQ}{J:LJ}(B:ep n0 ρ)(k:eR Q)(F:Tr.wp cs (yr G n0 T f) ρ Q J):∃j,Tr.wp cs T ρ (eo cs n0 ρ f Q) j:=Pz B k F
theorem abA{rs:List Nat}{G n0:Nat}{T:Tr}{f:Sk->Tr}{ρ:aU}{Q:LQ}{J:LJ}(B:ep n0 ρ)(k:eR Q)(F:Tr.wp cs (Pw rs G n0 T f) ρ Q J):∃j,Tr.wp cs T ρ (eo cs n0 ρ f Q) j:=Pz B k F
def abC{L:List fg}{x y:Code}{ak:Nat}{σ:Sk}{T:Tr}{f:Sk->Tr}(af:jU P cs n w0 I0 L x σ T)(ag:∀k,jU P cs n w0 I0 L y k (f k)):jU P cs n w0 I0 L (x.seq y) σ (yr ak σ.n T f):=by
 intro ρ s Q J ax G Y B M U;obtain⟨aw,M⟩:=HW G.eC B M;refine aX.seq (af.go G Y (vn B) M λe bA ρ' J' j N O s' Z=>?_);unfold eo at j;by_cases F:e=.normal
 ·subst F;rw[if_pos rfl]at j;obtain⟨k,az,ay,av,ah,ai,aa,ab,aj⟩:=j N O s' Z;refine aX.sub ah ((ag k).go ai (Y.mono (aa.ext G.eC)) B aj λe au ar ad al an ao aq ae=>?_);exact U e au ar ad al (aa.trans an ab) (hB ab ao) aq ae
 rw[if_neg F]at j;rw[P8 F];exact U e bA ρ' J' j N O s' Z
def FM{L:List fg}{x:Code}{aw:Nat}{Y:Sk->Tr}(ad:∀aj,jU P cs n w0 I0 L x aj (Y aj)):∀(f:Nat)(σ A:Sk),jU P cs n w0 I0 L (.loop x) σ (wH aw σ.n Y f σ A)
 |0,σ,A=>λ_ _ _ _ _ _ _ _ j _=>j.elim
 |f+1,σ,A=>by
  intro ρ s Q J aD G aa U j Z;simp only[wH]at j;split at j
  ·rename_i N B aG;split at j
   ·rename_i ae ts aF;split at j
    ·rename_i xs ao;split at j
     ·rename_i aE;cases O:N.cB σ.n B.length with
      |false=>rw[O]at j;exact j.elim
      |true=>
       rw[O]at j;simp only[cond_true]at j;obtain⟨aC,aq,m,ag⟩:=j;generalize ai:(λ(again:(aP B).den->Prop)(z:(aP B).den)=>Tr.wp cs (resolve .normal N B.length 0 (Y (N.fill (tL σ.n B.length) (σ.n+1)))) ((σ.n,⟨aP B,z⟩)::ρ) Q (ic (λz'=>∃y:(aP B).den,z'=⟨aP B,y⟩/\again y) J))=step at ag;obtain⟨aB,ax,ay⟩:=instS_ok (ρ0:=ρ) G ao rfl aq O (λi v _ hv=>hv) G.eC;refine aX.loop (X:=Nat×(aP B).den×St) (λz=>z.2.2) (λz=>rK step z.1 z.2.1/\bh ((σ.n,⟨aP B,z.2.1⟩)::ρ) (N.fill (tL σ.n B.length) (σ.n+1)) z.2.2) (λz=>z.1) (m,aC,aB) ⟨ag,ay⟩ ax ?_;rintro⟨k,z,s1⟩ ⟨F,ak⟩;cases k with
       |zero=>exact F.elim
       |succ k=>
        have F:step (rK step k) z:=F;rw[<-ai]at F;have F:=O3 (p:=λz'=>∃y:(aP B).den,z'=⟨aP B,y⟩/\rK step k y) U (λv h=>by rw[ai]at h;exact h) F;refine(ad _).go ak (aa.mono (Ext.push G.eC _)) (aa8 U) F λe bA ρ' J' M al an s' ah=>?_;have af:cU σ.n ρ ρ':=(cU.push (ec σ.n) ρ _).trans al (tc σ.n);unfold HE at M;by_cases ab:Ex.normal=e
        ·subst ab;rw[if_pos rfl]at M;obtain⟨aH,v,ar,au,y,rfl,av⟩:=M;obtain⟨s2,az,aA⟩:=instS_ok (ρ0:=ρ) ah ar rfl au O (λi v hi hv=>by rw[<-af i hi];exact hv) G.eC;exact⟨(k,y,s2),⟨av,aA⟩,p3 k,az⟩
        rw[if_neg ab]at M;rw[P8 (λh=>ab h.symm)];exact Z e bA ρ' J' M af (hB (tc σ.n) an) s' ah
     exact(FM ad f σ ae).go G aa U j Z
    exact(FM ad f σ ae).go G aa U j Z
   exact j.elim
  exact j.elim
end
def mY(P:Program)(fs:List (Nat×Func)):Prop:=∀g fn,findF g fs=some fn->P.funcs[g]?=some fn/\Enters P g/\fn.body=some (hZ fn)
def vK(P:Program)(V:Env)(cs:List Callee)(fs:List (Nat×Func))(run:Runner):Prop:=
 ∀[cH][bS](C:Cx)(L:List fg)(k:Lv)(c:Code)(σ:Sk)(w0:World)(I0:aD),bM P V C->fG P C cs->C.lU=fs->(C.lu=false->bS.r=none)->(∀j,C.dep<=j->cH.lam j=none)->jU P cs C.nt w0 I0 L c σ (run C L k c σ)
omit Λ R0 in
theorem bM.Dd{P:Program}{V:Env}{C:Cx}(h:bM P V C)(a b:Nat)(c:Bool):bM P V {C with nt:=a,dep:=b,lu:=c}:=⟨h.ok,h.E,h.eq,h.sub,h.ty⟩
def H7{ρ:aU}:∀{ts:List TX}{j:List T}{k:Nat},F2 (RX ρ) ts j->∀q,RX ρ (ba (pF k ts) q) (ak.get (jP k j) q)
 | [],j,k,h=>λq=>.undef _
 |t::ts,j,k,h=>λq=>by
  cases h with
  |cons F G=>
   simp only[pF,jP,ba,ak.get];by_cases B:k=q
   ·subst B;rw[if_pos rfl,h6];exact F
   rw[if_neg B,kz B];exact H7 G q
def acQ{ρ:aU}{xs:List TX}{k:List T}(h:F2 (RX ρ) xs k):RX ρ (CZ xs) (CY k):=by
 have j:RX ρ (.aL xs) (.aL k):=.aL xs k h.len λi c t B ht=>h.get B ht
 match xs,k,h,j with
 | [],_,.nil,j=>exact j
 | [x],_,.cons h1 .nil,j=>exact h1
 |_::_::_,_,.cons h1 (.cons F G),j=>exact j
theorem Ff{ρ:aU}{j b:Nat}{lX:List AX}{l:List AO}(hl:RL ρ lX l)(h:kR j b lX=true):∃vals ft,l[b]?=some (.frame b vals ft)/\Λ.lam j=some (.frame b vals ft):=by
 unfold kR at h;split at h
 ·rename_i Y O rs G;rw[dk]at h;have k:=eb h.1;have B:=eb h.2;subst k;subst B;obtain⟨o,M,N⟩:=F2.left hl G;cases N with
  |dx _ _ _ vals ft F U=>exact⟨vals,ft,M,F⟩
 cases h
def ya{Λ:cH}{j:Nat}{x:LF}:(gw Λ j x).lam j=some x:=if_pos rfl
def Cr{Λ:cH}{d:Nat}{x:LF}:∀j,j<d->(gw Λ d x).lam j=Λ.lam j:=λj k=>if_neg (by omega)
def Cq{Λ:cH}{d:Nat}{x:LF}(h:∀j,d<=j->Λ.lam j=none):∀j,d+1<=j->(gw Λ d x).lam j=none:=λj k=>by
 show(if j=d then some x else Λ.lam j)=none;rw[if_neg (by omega)];exact h j (by omega)
theorem bh.l'{Λ:cH}{ρ:aU}{σ:Sk}{s:St}(h:@bh _ Λ ρ σ s):@RL _ Λ ρ σ.l s.l:=@bh.l _ Λ _ _ _ h
def bh.t'{Λ:cH}{ρ:aU}{σ:Sk}{s:St}(h:@bh _ Λ ρ σ s):∀k,RX ρ (ba σ.t k) (ak.get s.t k):=@bh.t _ Λ _ _ _ h
def bh.mu{Λ:cH}{ρ:aU}{σ:Sk}{s:St}(h:@bh _ Λ ρ σ s):ep σ.n ρ:=@bh.eC _ Λ _ _ _ h
section
variable {P:Program}{V:Env}{C:Cx}{cs:List Callee}{fs:List (Nat×Func)}{run:Runner}{n:Nat}{ops:List Oper}{L:List fg}
def UK(aN:vK P V cs fs run)(Z:bM P V C)(ab:fG P C cs)(aC:mY P fs)(aJ:C.lU=fs)(ah:∀j,C.dep<=j->Λ.lam j=none){o:Oper}{g:FuncId}{fn:Func}{ts:List TX}{af:List T}{σ:Sk}{s:St}{ρ:aU}{t0:List (Nat×TX)}{ft:Tm}{Q:LQ}{J:LJ}{K:TX->Sk->Tr}{Y:St->Prop}{pc:PC}(aI:findF g fs=some fn)(N:bh ρ σ s)(aE:lH ρ L)(aa:eR Q)(aH:eE n o.dst=true)(aK:dL ops s.t o.guard=some pc)(aL:holds pc)(aG:eD V.E (cg s.t) o=some (g,af))(al:F2 (RX ρ) ts af)(ax:∀k,ak.get ft k=.undef\/ak.get ft k=ak.get s.t k)(ay:∀k,RX ρ (ba t0 k) (ak.get ft k))(az:nf ft (fS t0))(F:Tr.wp cs (DO run C L fn ts σ t0 K) ρ Q J)(aD:∀x B ρ' J' u s',Tr.wp cs (K x B) ρ' Q J'->cU σ.n ρ ρ'->σ.n<=B.n->bh ρ' B s'->RX ρ' x u->Y ⟨bH s'.t o.dst u,s'.l⟩):ml P n ops o s Y:=by
 unfold DO at F;cases ae:Nat.ble ts.length fn.ntmps with
 |false=>rw[ae]at F;exact F.elim
 |true=>
  rw[ae]at F;simp only[pb,cond_false]at F;obtain⟨au,av,aw⟩:=aC g fn aI;refine acj (V:=V) aK aL aH aG ax (qV.of Z.ok av au aw (by rw[<-al.len];exact hg ae) λR aF w0 I0 vals a6 ag=>?_);have aj:σ.l.length=s.l.length:=N.l.len;have ai:hY Λ (gw Λ C.dep (.frame s.l.length vals ft)):=hY.push (ah _ (ec _));have aP:@bh _ (gw Λ C.dep (.frame s.l.length vals ft)) ρ ⟨σ.n,pF 0 ts,σ.l++[.dx C.dep σ.l.length (fS t0)]⟩ ⟨jP 0 af,s.l++[.frame s.l.length vals ft]⟩:=by
   refine @bh.mk _ (gw Λ C.dep (.frame s.l.length vals ft)) _ _ _ N.eC (H7 al) (F2.app (HL ai N.l) (.cons ?_ .nil));rw[aj];exact @bR.dx _ (gw Λ C.dep (.frame s.l.length vals ft)) ρ C.dep s.l.length _ vals ft ya az
  obtain⟨a1,F⟩:=abA (Λ:=gw Λ C.dep (.frame s.l.length vals ft)) (R0:=R) N.eC aa F;have F:=j6 (vn (Λ:=gw Λ C.dep (.frame s.l.length vals ft)) (R0:=R) aa) F;have aM:=@aN (gw Λ C.dep (.frame s.l.length vals ft)) R {C with nt:=fn.ntmps,dep:=C.dep+1,lu:=false} L ⟨jn fn.results.toList,[],jn fn.results.toList⟩ (hZ fn) ⟨σ.n,pF 0 ts,σ.l++[.dx C.dep σ.l.length (fS t0)]⟩ w0 I0 (Z.Dd _ _ _) ⟨ab.sigs,ab.turns,ab.ns⟩ aJ (λ_=>aF) (Cq ah);refine jU.go (Λ:=gw Λ C.dep (.frame s.l.length vals ft)) (R0:=R) aM aP (λx aQ=>jt.lam ai (aE x aQ)) (tt (vn (Λ:=gw Λ C.dep (.frame s.l.length vals ft)) (R0:=R) aa)) F ?_;intro e bA ρ' J' G aA aB s' aO;have fin:eo (Λ:=gw Λ C.dep (.frame s.l.length vals ft)) (R0:=R) cs σ.n ρ (λB=>match oh C B fn.results.toList with
   |some xs=>bif kR C.dep σ.l.length B.l then K (CZ xs) ⟨B.n,t0,B.l.map (iq C.dep)⟩else .bad 23
   |none=>.bad 22) Q .normal (bA.cR (jn fn.results.toList)) ρ' J'->sX V s' fn.results.toList s.l.length vals ft λu l'=>Y ⟨bH ft o.dst u,l'⟩:=by
   intro G;unfold eo at G;rw[if_pos rfl]at G;obtain⟨B,aZ,aq,ar,aS,O,an,aT,M⟩:=G aA aB s' (vm (Λ:=gw Λ C.dep (.frame s.l.length vals ft)) (R0:=R) _ aO);simp only[]at M;split at M
   ·rename_i xs aR;cases ad:kR C.dep σ.l.length B.l with
    |false=>rw[ad]at M;exact M.elim
    |true=>
     rw[ad]at M;simp only[cond_true]at M;obtain⟨bb,a7,ao,U⟩:=Ff (Λ:=gw Λ C.dep (.frame s.l.length vals ft)) O.l' ad;rw[ya]at U;injection U with U;injection U with a8 aX aY;subst aX;subst aY;rw[aj]at ao;obtain⟨aV,aW⟩:=yk (Λ:=gw Λ C.dep (.frame s.l.length vals ft)) Z O aR;refine⟨aq,aS,aV,ao,?_⟩;exact aD (CZ xs) ⟨B.n,t0,B.l.map (iq C.dep)⟩ aZ ar _ ⟨ft,aq.l⟩ M an aT ⟨O.mu,λk=>(ay k).mono (an.ext N.eC),HM Cr O.l'⟩ (acQ aW)
   exact M.elim
  cases e with
  |normal=>exact ag _ _ (.inr rfl) (fin G)
  |ret=>exact ag _ _ (.inl rfl) (fin G)
  |exit i=>exact G.elim
  |fo e=>exact G.elim
theorem O6{ρ:aU}:∀{ps:List Nat}{xs:List TX}{j:List T}{t:List (Nat×TX)}{tm:Tm},ps.length=xs.length->F2 (RX ρ) xs j->(∀k,RX ρ (ba t k) (ak.get tm k))->∀k,RX ρ (ba (ym ps xs t) k) (ak.get (lv ps j tm) k)
 | [],xs,j,t,tm,hl,B,h=>by
  cases xs with
  |nil=>cases B;exact h
  |cons=>simp at hl
 |p::ps,[],j,t,tm,hl,B,h=>by simp at hl
 |p::ps,x::xs,j,t,tm,hl,B,h=>by
  cases B with
  |cons G M=>
   have:∀k,RX ρ (ba ((p,x)::t) k) (ak.get ((p,_)::tm) k):=λk=>by
    simp only[ba,ak.get];by_cases F:p=k
    ·subst F;rw[if_pos rfl,h6];exact G
    rw[if_neg F,kz F];exact h k
   intro k;exact O6 (ps:=ps) (xs:=xs) (t:=(p,x)::t) (tm:=(p,_)::tm) (by simpa using hl) M this k
theorem wI{ρ:aU}{j b id:Nat}{rs:List Nat}{st:Ls}{lX:List AX}{l:List AO}(hl:RL ρ lX l)(h:lX[id]?=some (.lp j b rs st)):∃k ps bc B tm,l[id]?=some (.loop b k ps bc B tm (qp st) (rR st))/\Λ.lam j=some (.loop b k ps bc B tm)/\nf tm rs:=by
 obtain⟨o,M,N⟩:=F2.left hl h;cases N with
 |lp _ _ _ _ k ps bc B tm F G=>exact⟨k,ps,bc,B,tm,M,F,G⟩
def ady(bP:vK P V cs fs run)(bz:bM P V C)(aB:fG P C cs)(bG:C.lU=fs)(bE:∀j,C.dep<=j->Λ.lam j=none){o:Oper}{id:Nat}{ts:List TX}{aT:List T}{σ:Sk}{s:St}{ρ:aU}{t0:List (Nat×TX)}{ft:Tm}{Q:LQ}{J:LJ}{K:TX->Sk->Tr}{bw:St->Prop}{pc:PC}(aj:bh ρ σ s)(cd:lH ρ L)(bd:eR Q)(cj:eE n o.dst=true)(cp:dL ops s.t o.guard=some pc)(cz:holds pc)(cI:jT V.E (cg s.t) o=some (id,aT))(bS:F2 (RX ρ) ts aT)(b4:∀k,ak.get ft k=.undef\/ak.get ft k=ak.get s.t k)(b5:∀k,RX ρ (ba t0 k) (ak.get ft k))(b6:nf ft (fS t0))(M:Tr.wp cs (IM run C L id ts σ t0 K) ρ Q J)(cc:∀x B ρ' J' u s',Tr.wp cs (K x B) ρ' Q J'->cU σ.n ρ ρ'->σ.n<=B.n->bh ρ' B s'->RX ρ' x u->bw ⟨bH s'.t o.dst u,s'.l⟩):ml P n ops o s bw:=by
 unfold IM at M;split at M
 ·rename_i cZ j k ps bc ab t aS av b rs cm cq;obtain⟨cy,cY⟩:=Lu cm;cases af:(Nat.beq av j&&Nat.beq ps.length ts.length&&ps.all (λp=>Nat.blt p k))with
  |false=>rw[af]at M;exact M.elim
  |true=>
   rw[af]at M;simp only[cond_true]at M;rw[dk,dk]at af;obtain⟨⟨aV,aL⟩,b1⟩:=af;have aV:=eb aV;have aL:=eb aL;subst aV;have cw:=cd _ cy;cases cw with
   |mk _ _ _ _ _ _ _ _ b0 ag tm a7 a8 b8 b9=>
   obtain⟨cK,cO,bY,bZ,cR,aE,Y,br⟩:=wI (bh.l' aj) cq;rw[a7]at Y;injection Y with Y;injection Y with bx aX aY aZ a1 a6;subst bx;subst aX;subst aY;subst aZ;subst a1;subst a6;have bL:σ.l.length=s.l.length:=(bh.l' aj).len;have cB:ag.size=aT.length:=by rw[<-bS.len,<-aL,<-a8];simp
   refine acm (V:=V) (tm:=tm) cp cz cj cI b4 aE cB (by rw[a8,ek];intro p cA;have:=ek.1 b1 p cA;exact c3 (hg this)) ?_;intro R w0 I0 N vals bX cX bC;generalize cn:((N,T.bj id)::ft)=aA at bC⊢;have b7:nf aA (id::fS t0):=λk r au=>by
    rw[<-cn]at au;simp only[ak.get]at au;by_cases bK:N=k
    ·rw[if_pos bK]at au;simp[eB]at au;subst au;simp
    rw[if_neg bK]at au;exact ka _ (b6 k r au)
   generalize aP:gw Λ C.dep (.frame s.l.length vals aA)=F;have aO:hY Λ F:=aP▸hY.push (bE _ (ec _));have bQ:F.lam C.dep=some (.frame s.l.length vals aA):=aP▸ya;have cx:∀j,j<C.dep->F.lam j=Λ.lam j:=aP▸Cr;have bI:∀j,C.dep+1<=j->F.lam j=none:=aP▸Cq bE;have cE:@bh _ F ρ ⟨σ.n,ym ps ts t,σ.l++[.dx C.dep σ.l.length (id::fS t0)]⟩ ⟨lv ag.toList aT tm,s.l++[.frame s.l.length vals aA]⟩:=by
    refine @bh.mk _ F _ _ _ (show ep σ.n ρ from bh.mu aj) (by rw[a8];exact O6 aL bS b8) (F2.app (HL aO (bh.l' aj)) (.cons ?_ .nil));rw[bL];exact @bR.dx _ F ρ C.dep s.l.length _ vals aA bQ b7
   have bA:@lH _ F ρ aS:=λx cH=>jt.lam aO (b9 x cH);have M:=j6 bd M;obtain⟨ah,bD,M⟩:∃ah:LQ,ah=_/\Tr.wp cs _ ρ ah J:=⟨_,rfl,M⟩;have bf:eR ah:=by rw[bD];exact tt bd
   obtain⟨cT,M⟩:=HW (Λ:=F) (R0:=R) (bh.mu aj) bf M;have aM:=vn (Λ:=F) (R0:=R) (cs:=cs) (n0:=σ.n) (ρ:=ρ) (f:=λB=>lO C id av b0 rs σ.l.length t0 K .normal B) bf;have M:=j6 aM M;have bg:=tt (cs:=cs) (f:=λe B=>match e with |.normal=>Tr.leaf .normal B |.ret=>lO C id av b0 rs σ.l.length t0 K .ret B |.exit i=>lO C id av b0 rs σ.l.length t0 K (.exit i) B|_=>.bad 26) aM;obtain⟨bt,M⟩:=HW (Λ:=F) (R0:=R) (bh.mu aj) bg M;have bB:=vn (Λ:=F) (R0:=R) (cs:=cs) (n0:=σ.n) (ρ:=ρ) (f:=λB=>match B.l[id]? with
       |some (.lp U O Z .ready)=>bif Nat.beq U av&&Nat.beq O b0&&decide (Z=rs)&&kR C.dep σ.l.length B.l then run {C with nt:=k,dep:=C.dep+1,lu:=true} aS ⟨0,[],0⟩ ab ⟨B.n,B.t,B.l.set id (.lp av b0 rs .busy)⟩else .bad 25
       |_=>.bad 25) bg
   have M:=j6 bB M;have cf:=tt (cs:=cs) (f:=λe B=>match e with |.normal=>Tr.leaf .normal B|_=>.bad 21) bB;have cC:=@bP F R {C with nt:=k,dep:=C.dep+1,lu:=true} aS ⟨gn ab ⟨0,[],0⟩,[],0⟩ bc ⟨σ.n,ym ps ts t,σ.l++[.dx C.dep σ.l.length (id::fS t0)]⟩ w0 I0 (bz.Dd _ _ _) ⟨aB.sigs,aB.turns,aB.ns⟩ bG (λh=>by cases h) bI;refine jU.go (Λ:=F) (R0:=R) cC cE bA cf M ?_;intro e σ1 cS bu ai ca cb s1 cF;cases e with
   |ret=>exact ai.elim
   |exit i=>exact ai.elim
   |fo e=>exact ai.elim
   |normal=>
   show ∃s2,_;have ai:eo (Λ:=F) (R0:=R) _ _ _ _ _ .normal σ1 cS bu:=ai;unfold eo at ai;rw[if_pos rfl]at ai;obtain⟨B,bW,s2,cV,cL,aJ,bU,aQ,an⟩:=ai ca cb s1 cF;simp only[]at an;split at an
   ·rename_i U O Z ct;cases af:(Nat.beq U av&&Nat.beq O b0&&decide (Z=rs)&&kR C.dep σ.l.length B.l)with
    |false=>rw[af]at an;exact an.elim
    |true=>
     rw[af]at an;simp only[cond_true]at an;simp only[dk,ea]at af;obtain⟨⟨⟨aq,ar⟩,aW⟩,b2⟩:=af;have aq:=eb aq;have ar:=eb ar;subst aq;subst ar;subst aW;have bF:∀{ρ:aU}{lX:List AX}{l:List AO},@RL _ F ρ lX l->kR C.dep σ.l.length lX=true->l[s.l.length]?=some (.frame s.l.length vals aA):=by
      intro ρ lX l hl bl;obtain⟨c0,cW,aE,Y⟩:=Ff (Λ:=F) hl bl;rw[bQ]at Y;injection Y with Y;injection Y with br cP cQ;subst cP;subst cQ;rw[bL]at aE;exact aE
     have bO:∀{ρ:aU}{lX:List AX}{l:List AO}{st:Ls},@RL _ F ρ lX l->lX[id]?=some (.lp U O Z st)->l[id]?=some (.loop O k ag bc ab tm (qp st) (rR st)):=by
      intro ρ lX l st hl bl;obtain⟨cK,cO,bY,bZ,cR,aE,Y,br⟩:=wI (Λ:=F) hl bl;rw[aO _ _ a7]at Y;injection Y with Y;injection Y with bx aX aY aZ a1 a6;subst aX;subst aY;subst aZ;subst a1;subst a6;exact aE
     refine⟨s2,cL,bF aJ.l' b2,bO aJ.l' ct,?_⟩;have bN:∀{ρ:aU}(st:Ls),@bR _ F ρ (.lp U O Z st) (.loop O k ag bc ab tm (qp st) (rR st)):=λ{ρ} st=>@bR.lp _ F ρ U O Z st k ag bc ab tm (aO _ _ a7) br;have cG:@bh _ F bW ⟨B.n,B.t,B.l.set id (.lp U O Z .busy)⟩ ⟨s2.t,s2.l.set id (.loop O k ag bc ab tm .busy none)⟩:=
      @bh.mk _ F _ _ _ aJ.mu aJ.t' (F2.set aJ.l' (bN .busy) id)
     have cD:=@bP F R {C with nt:=k,dep:=C.dep+1,lu:=true} aS ⟨0,[],0⟩ ab ⟨B.n,B.t,B.l.set id (.lp U O Z .busy)⟩ w0 I0 (bz.Dd _ _ _) ⟨aB.sigs,aB.turns,aB.ns⟩ bG (λh=>by cases h) bI;refine jU.go (Λ:=F) (R0:=R) cD cG (lH.mono (Λ:=F) bA (bU.ext (bh.mu aj))) bg an ?_;intro e aF ay aG aa bb aI aw bn;have bb:cU B.n bW ay:=bb;have aI:B.n<=aF.n:=aI;have bs:cU σ.n ρ ay:=bU.trans bb aQ;have bm:∀e B ρ J,ah (.fo e) B ρ J->Q e B ρ J:=λe B ρ J h=>by rw[bD]at h;exact h
     have fin:∀(G:Ex)(ae:Sk)(ao:aU)(az:LJ)(ax:St)(aK:LQ),eR aK->(G=.normal\/G=.ret\/∃i,G=.exit i)->Sub aw ax->@bh _ F ao ae ax->cU σ.n ρ ao->σ.n<=ae.n->(∀e B ρ J,aK (.fo e) B ρ J->Q e B ρ J)->Tr.wp cs (lO C id U O Z σ.l.length t0 K G ae) ao aK az->bX (oJ G) aw:=by
      intro G ae ao az ax aK ch ck bp aD aR bq cM ad;unfold lO at ad;split at ad
      ·rename_i bT aH bV cr;cases aN:(Nat.beq bT U&&Nat.beq aH O&&decide (bV=Z)&&kR C.dep σ.l.length ae.l)with
       |false=>rw[aN]at ad;exact ad.elim
       |true=>
        rw[aN]at ad;simp only[cond_true]at ad;simp only[dk,ea]at aN;obtain⟨⟨⟨aq,ar⟩,aW⟩,b3⟩:=aN;have aq:=eb aq;have ar:=eb ar;subst aq;subst ar;subst aW;have cN:=Tr.wp_mono (J':=az) (λ_ _ h=>h) (λe B ρ bt bu cu h=>bd _ _ _ _ _ cu (cM e B ρ bt h)) (j6 ch ad);have cJ:∃al,oR (oJ G)=some al/\al=(if G=.normal then none else some (KI G)):=by
         rcases ck with rfl|rfl| ⟨i,rfl⟩
         ·exact⟨_,rfl,rfl⟩
         ·exact⟨_,rfl,rfl⟩
         exact⟨_,rfl,rfl⟩
        obtain⟨al,cv,bJ⟩:=cJ;refine bC _ al _ cv ⟨ax,bp,bF aD.l' b3,bO aD.l' cr,?_⟩;have bo:(if al.isNone then LoopState.ready else .done)=qp (if G=.normal then Ls.ready else .done G)/\al=rR (if G=.normal then Ls.ready else .done G)/\al.isNone=decide (G=.normal):=by
         by_cases aC:G=.normal
         ·rw[bJ,if_pos aC,if_pos aC];exact⟨rfl,rfl,by simp[aC]⟩
         rw[bJ,if_neg aC,if_neg aC];exact⟨rfl,rfl,by simp[aC]⟩
        rw[bo.1,bo.2.2];rw[show(AO.loop aH k ag bc ab tm (qp (if G=.normal then Ls.ready else .done G)) al)=.loop aH k ag bc ab tm (qp (if G=.normal then Ls.ready else .done G)) (rR (if G=.normal then Ls.ready else .done G)) by rw[<-bo.2.1]];exact cc _ ⟨ae.n,t0,(ae.l.set id (.lp bT aH bV (if G=.normal then Ls.ready else .done G))).map (iq C.dep)⟩ ao az _ ⟨ft,ax.l.set id (.loop aH k ag bc ab tm (qp (if G=.normal then Ls.ready else .done G)) (rR (if G=.normal then Ls.ready else .done G)))⟩ cN aR bq
         (@bh.mk _ Λ _ _ _ (show ep ae.n ao from bh.mu aD) (λq=>(b5 q).mono (aR.ext (bh.mu aj))) (HM cx (F2.set aD.l' (bN _) id))) (fp rfl)
      exact ad.elim
     cases e with
     |normal=>
      have aa:eo (Λ:=F) (R0:=R) _ _ _ _ _ .normal aF ay aG:=aa;unfold eo at aa;rw[if_pos rfl]at aa;obtain⟨ae,ao,ax,az,bp,aD,aR,bq,ad⟩:=aa bs (hB aQ aI) aw bn;exact fin .normal ae ao az ax ah bf (.inl rfl) bp aD aR bq bm ad
     |ret=>
      have aa:Tr.wp cs (lO C id U O Z σ.l.length t0 K .ret aF) ay (eo (Λ:=F) (R0:=R) cs σ.n ρ (λB=>lO C id U O Z σ.l.length t0 K .normal B) ah) aG:=aa;exact fin .ret aF ay aG aw _ aM (.inr (.inl rfl)) (Sub.refl aw) bn bs (hB aQ aI) (λe B ρ J h=>bm e B ρ J (by unfold eo at h;rw[if_neg (by intro h;cases h)]at h;exact h)) aa
     |exit i=>
      have aa:Tr.wp cs (lO C id U O Z σ.l.length t0 K (.exit i) aF) ay (eo (Λ:=F) (R0:=R) cs σ.n ρ (λB=>lO C id U O Z σ.l.length t0 K .normal B) ah) aG:=aa;exact fin (.exit i) aF ay aG aw _ aM (.inr (.inr ⟨i,rfl⟩)) (Sub.refl aw) bn bs (hB aQ aI) (λe B ρ J h=>bm e B ρ J (by unfold eo at h;rw[if_neg (by intro h;cases h)]at h;exact h)) aa
     |fo e=>exact aa.elim
   exact an.elim
 exact M.elim
theorem ack(Y:c6 P V){o:Oper}{s:St}{K:St->Prop}{pc:PC}{t t2 e size sz G:Nat}{z els:List D}{x:Operand}(k:o.op=.binOp .eql t x (.const (.slice none 0 0)) t2)(N:V.E t=some ⟨sz,G,z,.slice e⟩)(aj:cg s.t x=.d (.slice size els))(ae:dL ops s.t o.guard=some pc)(af:holds pc)(aa:eE n o.dst=true)(O:∀b,(b=true->els=[])->K ⟨bH s.t o.dst (.d (.bool b)),s.l⟩):ml P n ops o s K:=by
 intro w0 I0 a w Q ak ag U;obtain⟨B,I,m,F,ab,ht⟩:=ag;rw[if_pos ((pJ ht ae).2 af)];refine cr.wpIn (by simp[k]) ?_;have hv:=cw (by have:=nw F.sat.dK ht x;rw[aj]at this;exact this);obtain⟨A,c,j⟩:=PK hv;have ai:=mW Y.E N;have ah:(execOp a.eval o).run P w=.ok (.value (.bool A.isNone)) w:=by
  have ad:a.eval (.const (.slice none 0 0))=.slice none 0 0:=rfl;have M:=Lib.run_eql_slice_nil (P:=P) w t e A els.length c 0 0 ai;unfold execOp;simp only[k,j,ad,e8,eqGuard];simp[M]
 rw[ah];simp only[cr];refine U _ _ _ (O A.isNone ?_) ⟨by cases o.dst<;>simp[Act.put,B],I,m,F,ab.put (.refl I),jk B aa ht (.d _ _ (.bool _))⟩;intro Z;rw[j]at hv;cases A with
 |none=>
  generalize hl:els.length=q at hv;cases hv;rfl
 |some a=>cases Z
def Xg(aq:vK P V cs fs run)(N:bM P V C)(al:fG P C cs)(az:mY P fs)(aa:C.lU=fs)(an:∀j,C.dep<=j->Λ.lam j=none){σ:Sk}{ρ:aU}(aj:lH ρ L):IT P cs n ops (tV run C L) σ ρ:=by
 intro o m F s Q J K aI pc k B ak Z ab ad ae O;obtain⟨ft,ag,ah,ai⟩:=MG B m;unfold tV at k;split at k
 ·rename_i aJ t x y t2 G;split at k
  ·rename_i s1 s2 aK e u xs ay aA;injection k with k;subst k;obtain⟨aL,zs,av,aw,ax⟩:=ae;have au:=qy B.t x;rw[aA]at au;obtain⟨hv,v,M,af⟩:=j7 au;rw[av]at M;injection M with M;cases M;refine ack (P:=P) N.ok G (by rw[N.E];exact ay) (size:=u.size) (els:=List.map u.enc v) af ab ad Z λb aC=>?_;cases b with
   |true=>exact O _ σ ρ J _ s (aw (List.map_eq_nil_iff.1 (aC rfl))) (.refl _ _) (ec _) B (fp rfl)
   |false=>exact O _ σ ρ J _ s ax (.refl _ _) (ec _) B (fp rfl)
  cases k
 ·rename_i c G;split at k
  ·rename_i f U;have Y:=qy B.t f;have aB:∀x∈c.args.toList,RX ρ (gJ σ.t x) (cg s.t x):=λx _=>qy B.t x;have ar:F2 (RX ρ) (mV C.E c.argTypes.toList (c.args.toList.map (gJ σ.t))) (fW V.E c.argTypes.toList (c.args.toList.map (cg s.t))):=It N (Es aB);split at k
   ·rename_i id aF;injection k with k;subst k;rw[aF]at Y;have aG:jT V.E (cg s.t) o=some (id,fW V.E c.argTypes.toList (c.args.toList.map (cg s.t))):=by
     generalize hv:cg s.t f=v at Y;cases Y;simp only[jT,G,U,hv]
    exact ady aq N al aa an B aj ak Z ab ad aG ar ag ah ai ae O
   split at k
   ·rename_i g ts aE;obtain⟨aH,M,af⟩:=DZ Y aE;split at k
    ·rename_i fn ao;injection k with k;subst k;have aD:eD V.E (cg s.t) o=some (g,fW V.E c.argTypes.toList (c.args.toList.map (cg s.t))++aH):=by
      rcases af with e| ⟨e,rfl⟩| ⟨ds,e,rfl⟩
      ·simp only[eD,G,U,e]
      ·simp only[eD,G,U,e,iu]
      simp only[eD,G,U,e]
     rw[aa]at ao;exact UK aq N al az aa an ao B aj ak Z ab ad aD (ar.app M) ag ah ai ae O
    cases k
   cases k
  cases k
 cases k
def Hy(bD:vK P V cs fs run)(aF:bM P V C)(ay:fG P C cs)(bg:mY P fs)(aK:C.lU=fs)(bC:R0.r=none)(aI:∀j,C.dep<=j->Λ.lam j=none){w0:World}{I0:aD}{g:Operand}{ps:Array Tmp}{bc G:Code}{ao m:Nat}{σ:Sk}{s:St}{ρ:aU}{gf:FuncId}{caps:List TX}{fn:Func}{Q:LQ}{J:LJ}{au:Exit->St->Prop}(aH:lM (gJ (oS m σ.t) g)=some (gf,caps))(aJ:findF gf C.lU=some fn)(ag:bh ρ σ s)(bl:lH ρ L)(aG:eR Q)(Y:Tr.wp cs (ye run C L ao fn caps ps.toList bc G σ (oS m σ.t)) ρ Q J)(ax:∀e bA ρ' J',Q e bA ρ' J'->cU σ.n ρ ρ'->σ.n<=bA.n->∀s',bh ρ' bA s'->au (oJ e) s'):aX P w0 I0 C.nt (.rangeFunc g ps bc G) s au:=by
 obtain⟨ft,bd,ah,aw⟩:=MG ag m;generalize oS m σ.t=t0 at aH Y ah aw;have ad:σ.l.length=s.l.length:=ag.l.len;refine aX.sub (acu bd) ?_;have bu:RX ρ (gJ t0 g) (cg ft g):=qy ah g;obtain⟨aA,aT,bF⟩:=DZ bu aH;have bs:tA (cg ft g)=some (gf,aA):=by
  rcases bF with e| ⟨e,rfl⟩| ⟨ds,e,rfl⟩<;>simp only[tA,e]
 unfold ye at Y;cases aj:(!Nat.ble (caps.length+1) fn.ntmps || !fn.results.toList.isEmpty || !Nat.ble σ.l.length σ.l.length)with
 |true=>rw[aj]at Y;exact Y.elim
 |false=>
  rw[aj]at Y;simp only[cond_false]at Y;simp only[kb,ta]at aj;obtain⟨⟨aE,av⟩,_⟩:=aj;have aE:=hg aE;have av:fn.results.toList=[]:=by simpa using av
  rw[aK]at aJ;obtain⟨a8,ba,bb⟩:=bg gf fn aJ;refine OP (s:=⟨ft,s.l⟩) bC bs λN bL=>?_;show qV P gf (.bj s.l.length::aA) (s.l++[.loop s.l.length C.nt ps bc G ft .ready none]) ((N,.bj s.l.length)::ft) _;refine qV.of aF.ok ba a8 bb (by simp only[List.length_cons,<-aT.len];omega) λR bp bI a7 vals bJ ai=>?_;have bn:(s.l++[AO.loop s.l.length C.nt ps bc G ft .ready none]).length=s.l.length+1:=by simp
  rw[bn]at ai⊢;have bo:s.l++[AO.loop s.l.length C.nt ps bc G ft .ready none]++[AO.frame (s.l.length+1) vals ((N,.bj s.l.length)::ft)]=s.l++[AO.loop s.l.length C.nt ps bc G ft .ready none,AO.frame (s.l.length+1) vals ((N,.bj s.l.length)::ft)]:=by simp
  rw[bo];generalize bt:((N,T.bj s.l.length)::ft)=aa at ai⊢;have bf:nf aa (s.l.length::fS t0):=λk r U=>by
   rw[<-bt]at U;simp only[ak.get]at U;by_cases aM:N=k
   ·rw[if_pos aM]at U;simp[eB]at U;subst U;simp
   rw[if_neg aM]at U;exact ka _ (aw k r U)
  generalize al:gw Λ C.dep (.loop s.l.length C.nt ps bc G ft)=ar;generalize an:gw ar (C.dep+1) (.frame (s.l.length+1) vals aa)=F;have aL:∀j,C.dep+1<=j->ar.lam j=none:=al▸Cq aI;have bw:∀j,C.dep+2<=j->F.lam j=none:=an▸Cq aL;have bz:hY Λ ar:=al▸hY.push (aI _ (ec _));have aO:hY ar F:=an▸hY.push (aL _ (ec _));have aN:hY Λ F:=bz.trans aO;have aP:F.lam C.dep=some (.loop s.l.length C.nt ps bc G ft):=aO _ _ (al▸ya);have aQ:F.lam (C.dep+1)=some (.frame (s.l.length+1) vals aa):=an▸ya;have bB:∀j,j<C.dep->F.lam j=Λ.lam j:=λj M=>by rw[<-an,Cr j (by omega),<-al,Cr j M]
  have bE:@bh _ F ρ ⟨σ.n,pF 0 (.bj σ.l.length::caps),σ.l++[.lp C.dep σ.l.length (fS t0) .ready,.dx (C.dep+1) (σ.l.length+1) (σ.l.length::fS t0)]⟩
    ⟨jP 0 (.bj s.l.length::aA),s.l++[.loop s.l.length C.nt ps bc G ft .ready none,.frame (s.l.length+1) vals aa]⟩:=by
   rw[ad];refine @bh.mk _ F _ _ _ (show ep σ.n ρ from bh.mu ag) (H7 (.cons (.bj _) aT)) (F2.app (HL aN (bh.l' ag)) (.cons ?_ (.cons ?_ .nil)))
   ·exact @bR.lp _ F ρ C.dep s.l.length _ .ready C.nt ps bc G ft aP aw
   exact @bR.dx _ F ρ (C.dep+1) (s.l.length+1) _ vals aa aQ bf
  have bm:@lH _ F ρ (.mk σ.l.length C.dep C.nt ps.toList bc G t0 L::L):=λx hx=>by
   have aV:∀x,x∈L->@jt _ F ρ x:=λx hx=>jt.lam aN (bl x hx);rcases fa.1 hx with rfl|hx
   ·exact @jt.mk _ F ρ σ.l.length C.dep C.nt ps.toList bc G t0 L s.l.length ps ft aP rfl ah aV
   exact aV x hx
  have Y:=j6 aG Y;have U:=@bD F R {C with nt:=fn.ntmps,dep:=C.dep+2,lu:=false} (.mk σ.l.length C.dep C.nt ps.toList bc G t0 L::L) ⟨0,[],0⟩ (hZ fn) ⟨σ.n,pF 0 (.bj σ.l.length::caps),σ.l++[.lp C.dep σ.l.length (fS t0) .ready,.dx (C.dep+1) (σ.l.length+1) (σ.l.length::fS t0)]⟩ bI a7 (aF.Dd _ _ _) ⟨ay.sigs,ay.turns,ay.ns⟩ aK (λ_=>bp) bw;refine jU.go (Λ:=F) (R0:=R) U bE bm (tt aG) Y ?_;intro e bA ρ' J' B ab af s' ae;have ab:cU σ.n ρ ρ':=ab;have af:σ.n<=bA.n:=af;have fin:Tr.wp cs (ye.fin C ao σ t0 bA) ρ' Q J'->sX V s' fn.results.toList (s.l.length+1) vals aa λ_ l'=>@Dl _ R0 P w0 I0 C.nt au ⟨ft,s.l⟩ s.l.length l':=by
   intro B;unfold ye.fin at B;cases az:kR (C.dep+1) (σ.l.length+1) bA.l with
   |false=>rw[az]at B;exact B.elim
   |true=>
    rw[az]at B;simp only[cond_true]at B;obtain⟨bO,bK,a1,aq⟩:=Ff (Λ:=F) (bh.l' ae) az;rw[aQ]at aq;injection aq with aq;injection aq with bN bG bH;subst bG;subst bH;rw[ad]at a1;refine⟨s',@Sub.refl _ R s',by rw[av];trivial,a1,?_⟩;have after:∀{b:Nat}{rs:List Nat}{st:Ls}{X:AO},bA.l[σ.l.length]?=some (.lp C.dep b rs st)->Mz X=true->@bh _ Λ ρ' (Sk.cR ao ⟨bA.n,t0,bA.l.map (iq C.dep)⟩) ⟨ft,s'.l.set s.l.length X⟩:=by
     intro b rs st X O br;refine vm (Λ:=Λ) (σ:=⟨bA.n,t0,bA.l.map (iq C.dep)⟩) (s:=⟨ft,s'.l.set s.l.length X⟩) ao ?_;refine @bh.mk _ Λ _ _ _ (show ep bA.n ρ' from bh.mu ae) (λk=>(ah k).mono (ab.ext (bh.mu ag))) ?_;have bq:@RL _ Λ ρ' (bA.l.map (iq C.dep)) s'.l:=HM bB (bh.l' ae);have aR:=F2.set bq (@bR.eI _ Λ ρ' X br) s.l.length;have e:(bA.l.map (iq C.dep)).set s.l.length .eI=bA.l.map (iq C.dep):=by
      apply hX;intro i;rw[e0];by_cases hi:s.l.length=i
      ·subst hi;rw[ad]at O;have bx:=(db.1 O).1;rw[if_pos rfl,if_pos (by simpa using bx),e3,O];simp[iq,zz (ec _)]
      rw[if_neg hi]
     rw[e]at aR;exact aR
    split at B
    ·rename_i j b rs O;cases M:Nat.beq j C.dep with
     |false=>rw[M]at B;exact B.elim
     |true=>
      rw[M]at B;simp only[cond_true]at B;have:=eb M;subst this;obtain⟨aS,aZ,aB,aC,a6,Z,aW,aY⟩:=wI (Λ:=F) (bh.l' ae) O;rw[ad]at Z;exact⟨_,_,_,_,_,_,_,_,Z,(by intro h;cases h),ax .normal _ ρ' J' B ab af _ (after O rfl)⟩
    ·rename_i j b rs O;cases M:Nat.beq j C.dep with
     |false=>rw[M]at B;exact B.elim
     |true=>
      rw[M]at B;simp only[cond_true]at B;have:=eb M;subst this;obtain⟨aS,aZ,aB,aC,a6,Z,aW,aY⟩:=wI (Λ:=F) (bh.l' ae) O;rw[ad]at Z;exact⟨_,_,_,_,_,_,_,_,Z,(by intro h;cases h),(letI:bS:=R0;aX.ret (ax .ret _ ρ' J' B ab af _ (after O rfl)))⟩
    ·rename_i j b rs i O;cases M:Nat.beq j C.dep with
     |false=>rw[M]at B;exact B.elim
     |true=>
      rw[M]at B;simp only[cond_true]at B;have:=eb M;subst this;obtain⟨aS,aZ,aB,aC,a6,Z,aW,aY⟩:=wI (Λ:=F) (bh.l' ae) O;rw[ad]at Z;exact⟨_,_,_,_,_,_,_,_,Z,(by intro h;cases h),(letI:bS:=R0;aX.exit (ax (.exit i) _ ρ' J' B ab af _ (after O rfl)))⟩
    exact B.elim
  cases e with
  |normal=>exact ai _ _ (.inr rfl) (fin B)
  |ret=>exact ai _ _ (.inl rfl) (fin B)
  |exit i=>exact B.elim
  |fo e=>exact B.elim
omit Λ R0 in
theorem Ll(aq:mY P fs)(aA:P.follows .mixedOrders=true)(f:Nat):vK P V cs fs (exec f):=by
 induction f with
 |zero=>
  intro Λ R C L F c σ w0 I0 _ _ _ _ _ ρ s Q J ai _ _ _ j _;exact j.elim
 |succ f ab=>
  intro Λ R C L F c σ w0 I0 M O aa af Z;intro ρ s Q J ai B ae N j k;cases c with
  |skip=>exact aX.skip (k _ _ _ _ j (.refl _ _) (ec _) s B)
  |region id ops d=>
   obtain⟨sz,aH,aI,aJ⟩:=HU (js:=slotsOf σ) B;refine aX.sub aH ?_;have k:∀e bA ρ' J',Q e bA ρ' J'->cU (me (slotsOf σ) σ).n ρ ρ'->(me (slotsOf σ) σ).n<=bA.n->∀s',bh ρ' bA s'->ai (oJ e) s':=by rw[aJ];exact k
   have B:=aI;have j:Tr.wp cs (ev (λe G=>.leaf e (G.cR F.out)) (bif d then vZ C ops.toList (j9 C (me (slotsOf σ) σ) (mw C ops.toList))else mc C (tV (exec f) C L) F.out ops.toList ops.toList (j9 C (me (slotsOf σ) σ) (mw C ops.toList)))) ρ Q J:=j;generalize me (slotsOf σ) σ=σ at B j k;obtain⟨aG,av,aw,ax⟩:=ES M (js:=mw C ops.toList) B;refine aX.sub av ?_;have k:∀e bA ρ' J',Q e bA ρ' J'->cU (j9 C σ (mw C ops.toList)).n ρ ρ'->(j9 C σ (mw C ops.toList)).n<=bA.n->∀s',bh ρ' bA s'->ai (oJ e) s':=by rw[ax];exact k
   have B:=aw;have j:Tr.wp cs (ev (λe G=>.leaf e (G.cR F.out)) (bif d then vZ C ops.toList (j9 C σ (mw C ops.toList))else mc C (tV (exec f) C L) F.out ops.toList ops.toList (j9 C σ (mw C ops.toList)))) ρ Q J:=j;generalize j9 C σ (mw C ops.toList)=σ at B j k;cases d with
   |true=>
    have j:Tr.wp cs (ev (λe G=>.leaf e (G.cR F.out)) (vZ C ops.toList σ)) ρ Q J:=j;have j:=j6 N j;have e:Code.region id ops true=Code.region id ops.toList.toArray true:=by simp
    rw[e];exact VX (ops:=ops.toList) M O rfl aA B j λbA ρ' J' U Y ad s' ag=>k .normal _ ρ' J' U Y ad s' (vm F.out ag)
   |false=>
    have j:Tr.wp cs (ev (λe G=>.leaf e (G.cR F.out)) (mc C (tV (exec f) C L) F.out ops.toList ops.toList σ)) ρ Q J:=j;have j:=j6 N j;have ah:=CI (K:=λs'=>ai .normal s') M O rfl (tt N) (n0:=σ.n) (ρ0:=ρ) (λσ1 aM aC aL=>Xg @ab M O aq aa Z (ae.mono (aC.ext B.eC))) ops.toList (cU.refl _ _) (ec _) B j λbA ρ' J' U Y ad s' ag=>k .normal _ ρ' J' U Y ad s' (vm F.out ag);intro a w aB;have e:Code.region id ops false=Code.region id ops.toList.toArray false:=by simp
    rw[e];exact F1 (ox.wp (Q:=λe ar w'=>∃s',ai e s'/\Rel w0 I0 C.nt s' ar w') (λs' a w U Y=>⟨s',U,Y⟩) ops.toList aG a w aB ah)
  |seq a b=>exact(abC (ab C L _ a σ w0 I0 M O aa af Z) (λG=>ab C L F b G w0 I0 M O aa af Z)).go B ae N j k
  |cond c a b=>
   simp only[exec]at j;have ah:=qy B.t c;split at j
   ·rename_i an;rw[an]at ah;obtain⟨ak,U,Y⟩:=iT ah;have:ak=true:=fH (U.symm.trans (rfl:(X.bool true).den ρ=some ⟨.bool,true⟩));subst this;exact aX.cond (by rw[Y];rfl) (λ_=>(ab C L F a σ w0 I0 M O aa af Z).go B ae N j k) (λh=>by cases h)
   ·rename_i an;rw[an]at ah;obtain⟨ak,U,Y⟩:=iT ah;have:ak=false:=fH (U.symm.trans (rfl:(X.bool false).den ρ=some ⟨.bool,false⟩));subst this;exact aX.cond (by rw[Y];rfl) (λh=>by cases h) (λ_=>(ab C L F b σ w0 I0 M O aa af Z).go B ae N j k)
   ·rename_i x _ _ an;rw[an]at ah;obtain⟨ak,U,Y⟩:=iT ah;obtain⟨au,aD,aE,aF⟩:=j;have:ak=au:=fH (U.symm.trans aD);subst this;exact aX.cond (b:=ak) (by rw[Y];rfl) (λh=>(ab C L F a σ w0 I0 M O aa af Z).go B ae N (aE h) k) (λh=>(ab C L F b σ w0 I0 M O aa af Z).go B ae N (aF h) k)
   exact j.elim
  |block id b=>
   have j:Tr.wp cs (ev (λe G=>match e with |.exit i=>(bif Nat.beq i id then .leaf .normal G else .leaf e G)|e=>.leaf e G) (exec f C L {F with ex:=(id,F.out)::F.ex} b σ)) ρ Q J:=j;refine aX.block ((ab C L _ b σ w0 I0 M O aa af Z).go B ae (tt N) (j6 N j) λe bA ρ' J' aj ad al s' ag=>?_);cases e with
   |normal=>exact k .normal _ ρ' J' aj ad al s' ag
   |ret=>exact k .ret _ ρ' J' aj ad al s' ag
   |fo e=>exact k (.fo e) _ ρ' J' aj ad al s' ag
   |exit i=>
    show if i=id then ai .normal s' else ai (.exit i) s'
    by_cases hi:i=id
    ·subst hi;rw[if_pos rfl];simp only[h6,cond_true]at aj;exact k .normal _ ρ' J' aj ad al s' ag
    rw[if_neg hi];simp only[kz hi,cond_false]at aj;exact k (.exit i) _ ρ' J' aj ad al s' ag
  |loop b=>exact(FM (λG=>ab C L _ b G w0 I0 M O aa af Z) 6 σ _).go B ae N j k
  |exit id=>exact aX.exit (k (.exit id) _ _ _ j (.refl _ _) (ec _) s B)
  |ret=>exact aX.ret (k .ret _ _ _ j (.refl _ _) (ec _) s B)
  |rangeFunc g ps bc aK=>
   simp only[exec]at j;cases ao:C.lu with
   |true=>rw[ao]at j;exact j.elim
   |false=>
    rw[ao]at j;simp only[cond_false]at j;split at j
    ·rename_i gf caps ay;split at j
     ·rename_i fn az;exact Hy @ab M O aq aa (af ao) Z ay az B ae N j k
     exact j.elim
    exact j.elim
  |_=>exact j.elim
end
end Go.Sy
namespace Go.Sy
open Go Go.ak
variable [aI][cz][dg][bm][oy]
section
variable [bS]
def AD:LQ:=λ_ _ _ _=>False
def KV{cs:List Callee}:∀{T:Tr}{B:List Ty}{ρ:aU}{r:qR B},Tr.den cs B T ρ=some r->Tr.wp cs T ρ AD (λk v=>kO B k v=some r):=by
 intro T;induction T with
 |leaf e σ=>intro B ρ r h;simp[Tr.den]at h
 |out k x=>
  intro B ρ r h;simp only[Tr.den]at h;split at h
  ·rename_i v hv;exact⟨v,hv,h⟩
  cases h
 |bQ x t G=>
  intro B ρ r h;simp only[Tr.den]at h;split at h
  ·rename_i b Y;cases b with
   |true=>exact⟨Y,G h⟩
   |false=>cases h
  cases h
 |get v xs k t G=>
  intro B ρ r h;simp only[Tr.den]at h;split at h
  ·rename_i u l kk i ah ai;cases ab:an (α:=u.den) l i with
   |none=>rw[ab]at h;cases h
   |some e=>rw[ab]at h;exact⟨u,l,kk,i,e,ah,ai,ab,G h⟩
  cases h
 |call v c x t G=>
  intro B ρ r h;simp only[Tr.den]at h;split at h
  ·rename_i C aj;split at h
   ·rename_i u aa;split at h
    ·rename_i a ak;cases M:C.fn a with
     |none=>rw[M]at h;cases h
     |some y=>
      rw[M]at h;have:=oD ak;subst this;exact⟨C,a,y,aj,aa,M,G h⟩
    cases h
   cases h
  cases h
 |fL c a b O U=>
  intro B ρ r h;simp only[Tr.den]at h;split at h
  ·rename_i b0 Y;refine⟨b0,Y,λe=>?_,λe=>?_⟩
   ·subst e;exact O h
   subst e;exact U h
  cases h
 |gI c a b O U=>
  intro B ρ r h;simp only[Tr.den]at h;split at h
  ·rename_i u xs ao;refine⟨u,xs,ao,λe=>?_,?_⟩
   ·subst e;simp only[List.isEmpty_nil,pd]at h;split at h
    ·rename_i Z;exact O (Z.trans h)
    cases h
   cases xs with
   |nil=>
    simp only[List.isEmpty_nil,pd]at h;split at h
    ·exact U h
    cases h
   |cons y ys=>exact U h
  cases h
 |join ty v a b O U=>
  intro B ρ r h;have ae:∀{w:Sy.V}{z:ty.den},dc ty w=some z->Tr.den cs B b ((v,⟨ty,z⟩)::ρ)=some r->∃y:ty.den,w=⟨ty,y⟩/\Tr.wp cs b ((v,⟨ty,y⟩)::ρ) AD (λk v=>kO B k v=some r):=λal Y=>⟨_,oD al,U Y⟩;simp only[Tr.den]at h;cases Z:jv 0 a with
  |false=>
   rw[Z]at h;simp only[cond_false]at h;cases N:Tr.den cs [ty] a ρ with
   |none=>rw[N]at h;cases h
   |some z=>
    rw[N]at h;have h:Tr.den cs B b ((v,⟨ty,z⟩)::ρ)=some r:=h;show Tr.wp cs a ρ _ (ic _ _);refine Tr.wp_mono (λk w j=>?_) (λ_ _ _ _ _ _ h=>h) (O N);cases k with
    |zero=>exact ae j h
    |succ k=>simp[kO]at j
  |true=>
   rw[Z]at h;simp only[cond_true]at h;cases N:Tr.den cs (ty::B) a ρ with
   |none=>rw[N]at h;cases B<;>cases h
   |some z=>
    rw[N]at h;cases B with
    |nil=>exact r.elim
    |cons s rest=>
     show Tr.wp cs a ρ _ (ic _ _);refine Tr.wp_mono (λk w j=>?_) (λ_ _ _ _ _ _ h=>h) (O N)
     match z,h with
     |.inl z,h=>
      have h:Tr.den cs (s::rest) b ((v,⟨ty,z⟩)::ρ)=some r:=h;cases k with
      |zero=>
       simp only[kO]at j;split at j
       ·rename_i z' ad;injection j with j;injection j with j;subst j;exact ae ad h
       cases j
      |succ k=>
       simp only[kO]at j;split at j
       ·injection j with j;cases j
       cases j
     |.inr z,h=>
      have h:some z=some r:=h;injection h with h;subst h;cases k with
      |zero=>
       simp only[kO]at j;split at j
       ·injection j with j;cases j
       cases j
      |succ k=>
       simp only[kO]at j;split at j
       ·rename_i y M;injection j with j;injection j with j;subst j;exact M
       cases j
 |loop ty v i b G=>
  intro B ρ r h;cases B with
  |nil=>simp[Tr.den]at h
  |cons s rest=>
   simp only[Tr.den]at h;split at h
   ·rename_i u aa;split at h
    ·rename_i ag af;have:=oD af;subst this;obtain⟨m,F⟩:=Ap h;refine⟨ag,aa,m,?_⟩;clear af h aa;induction m generalizing ag with
     |zero=>cases F
     |succ m au=>
      simp only[kS]at F;show Tr.wp cs b _ _ (ic _ _);split at F
      ·rename_i z' ad;refine Tr.wp_mono (λk w j=>?_) (λ_ _ _ _ _ _ h=>h) (G ad);cases k with
       |zero=>
        simp only[kO]at j;split at j
        ·rename_i aw ar;injection j with j;injection j with j;subst j;exact⟨_,oD ar,au _ F⟩
        cases j
       |succ k=>
        simp only[kO]at j;split at j
        ·injection j with j;cases j
        cases j
      ·rename_i y M;injection F with F;subst F;refine Tr.wp_mono (λk w j=>?_) (λ_ _ _ _ _ _ h=>h) (G M);cases k with
       |zero=>
        simp only[kO]at j;split at j
        ·injection j with j;cases j
        cases j
       |succ k=>
        simp only[kO]at j;split at j
        ·rename_i av aq;injection j with j;injection j with j;subst j;exact aq
        cases j
      cases F
    cases h
   cases h
 |bad w=>intro B ρ r h;simp[Tr.den]at h
theorem Lt{cs:List Callee}{g:Sk->Option X}{p:Sy.V->Prop}:∀{t:Tr}{k:Nat}{ρ:aU}{J:LJ},(∀v,J k v->p v)->Tr.wp cs (ja g k t) ρ AD J ->
  Tr.wp cs t ρ (λe σ ρ' _=>(e=.ret\/e=.normal)/\∃x v,g σ=some x/\x.den ρ'=some v/\p v) J:=by
 intro t;induction t with
 |leaf e σ=>
  intro k ρ J B h;cases e with
  |exit i=>exact h.elim
  |fo e=>exact h.elim
  |normal=>
   simp only[ja]at h;split at h
   ·rename_i x Z;obtain⟨v,F,G⟩:=h;exact⟨.inr rfl,x,v,Z,F,B v G⟩
   exact h.elim
  |ret=>
   simp only[ja]at h;split at h
   ·rename_i x Z;obtain⟨v,F,G⟩:=h;exact⟨.inl rfl,x,v,Z,F,B v G⟩
   exact h.elim
 |out k x=>intro _ ρ J B h;exact h
 |bQ x t N=>intro k ρ J B ⟨F,G⟩;exact⟨F,N B G⟩
 |get v xs i t N=>intro k ρ J B ⟨u,l,kk,j,e,F,G,M,O⟩;exact⟨u,l,kk,j,e,F,G,M,N B O⟩
 |call v c x t N=>intro k ρ J B ⟨C,a,y,F,G,M,O⟩;exact⟨C,a,y,F,G,M,N B O⟩
 |fL c a b U Y=>intro k ρ J B ⟨b0,F,G,M⟩;exact⟨b0,F,λh=>U B (G h),λh=>Y B (M h)⟩
 |gI c a b U Y=>intro k ρ J B ⟨u,xs,F,G,M⟩;exact⟨u,xs,F,λh=>U B (G h),Y B M⟩
 |join ty v a b U Y=>
  intro k ρ J B h;have:=U (k:=k+1) (J:=ic (λz=>∃y:ty.den,z=⟨ty,y⟩/\Tr.wp cs (ja g k b) ((v,⟨ty,y⟩)::ρ) AD J) J) B h;show Tr.wp cs a ρ _ (ic _ J);refine Tr.wp_mono (ny ?_ (λ_ _ h=>h)) (λ_ _ _ _ _ _ h=>h) this;rintro z ⟨y,F,G⟩;exact⟨y,F,Y B G⟩
 |loop ty v i b N=>
  intro k ρ J B ⟨ad,F,n,G⟩;refine⟨ad,F,n,ud ?_ G⟩;intro ae q z aa ab;refine Tr.wp_mono (ny ?_ (λ_ _ h=>h)) (λ_ _ _ _ _ _ h=>h) (N (k:=k+1) (J:=ic _ J) B ab);rintro z' ⟨y,M,O⟩;exact⟨y,M,aa y O⟩
 |bad w=>intro k ρ J B h;exact h
section
variable {P:Program}{V:Env}{C:Cx}{cs:List Callee}{ρ:aU}{σ:Sk}{s:St}
def abd(F:bM P V C)(h:bh ρ σ s){rs:List ResultVar}{k:List Ty}(hv:∀t∈k,isVal t){x:X}(j:HK C rs k σ=some x){r:(aP k).den}(G:x.den ρ=some ⟨aP k,r⟩):CH V s rs ((aP k).enc r):=by
 unfold HK at j;split at j
 ·rename_i xs M;split at j
  ·rename_i ys l' N;injection j with j;subst j;obtain⟨O,U⟩:=yk F h M;obtain⟨a,Z,B,Y,aa⟩:=sH h.l U N;have e:=(ou B.1 B.2).symm.trans G;injection e with e;injection e with _ e;subst e;refine⟨O,?_⟩;rw[Y]
   match k,a,hv with
   | [],a,_=>rfl
   | [t],a,_=>rfl
   |t::u::ts,a,hv=>
    have e:(aP (t::u::ts)).enc a=.aL (cJ (t::u::ts) a):=by rw[<-zD hv];rfl
    rw[e];cases ts<;>rfl
  cases j
 cases j
theorem Eg:∀{ts:List Ty}{a:(aP ts).den}{k j:Nat}{v:Sy.V},cK ts a j=some v->lk (nu ts a k) (k+j)=some v
 | [],a,k,j,v,h=>by simp[cK]at h
 | [t],a,k,0,v,h=>by
  simp only[cK,c4]at h;subst h;exact jB k _ _
 | [t],a,k,j+1,v,h=>by simp[cK]at h
 |t::u::ts,a,k,0,v,h=>by
  simp only[cK,c4]at h;subst h;exact jB k _ _
 |t::u::ts,a,k,j+1,v,h=>by
  have:=Eg (ts:=u::ts) (a:=a.2) (k:=k+1) (j:=j) h;show lk ((k,_)::nu (u::ts) a.2 (k+1)) _=_;rw[show k+(j+1)=k+1+j by omega];simp only[lk,kz (by omega:k≠k+1+j),cond_false];exact this
theorem Ef:∀{ts:List Ty}{a:(aP ts).den}{k:Nat},ep (k+ts.length) (nu ts a k)
 | [],a,k=>λp hp=>by simp[nu]at hp
 | [t],a,k=>λp hp=>by simp[nu]at hp;subst hp;simp
 |t::u::ts,a,k=>λp hp=>by
  simp only[nu,fa]at hp;rcases hp with rfl|hp
  ·simp
  have:=Ef (ts:=u::ts) (a:=a.2) (k:=k+1) p hp;simp at this⊢;omega
theorem H9:∀{ts:List Ty}{a:(aP ts).den}{k:Nat},(∀t∈ts,isVal t)->(∀j v,cK ts a j=some v->lk ρ (k+j)=some v)->∀i,RX ρ (ba (pG k ts) i) (get (kq k (cJ ts a)) i)
 | [],a,k,hv,h=>λi=>.undef _
 | [t],a,k,hv,h=>λi=>by
  show RX ρ (bif Nat.beq k i then .d t (.var k)else .undef) (if k=i then .d (t.enc a)else .undef);by_cases B:k=i
  ·subst B;rw[if_pos rfl,h6];exact .d t _ a (hv t (by simp)) (h 0 _ rfl)
  rw[if_neg B,kz B];exact .undef _
 |t::u::ts,a,k,hv,h=>λi=>by
  show RX ρ (bif Nat.beq k i then .d t (.var k)else ba (pG (k+1) (u::ts)) i) (if k=i then .d (t.enc a.1)else get (kq (k+1) (cJ (u::ts) a.2)) i);by_cases B:k=i
  ·subst B;rw[if_pos rfl,h6];exact .d t _ a.1 (hv t (by simp)) (h 0 _ rfl)
  rw[if_neg B,kz B];exact H9 (ts:=u::ts) (a:=a.2) (k:=k+1) (λt ht=>hv t (ka _ ht)) (λj v F=>by
   have:=h (j+1) v F;rw[show k+1+j=k+(j+1) by omega];exact this) i
omit [bS]in
theorem Ed:∀(ws:List Ty)(b:(aP ws).den),(cJ ws b).length=ws.length
 | [],_=>rfl
 | [_],_=>rfl
 |t::u::ts,b=>by simp[cJ,Ed (u::ts) b.2]
end
end
def Ez{α:Type}:∀(j:List (Nat×α))(t:Nat),j.find? (λp=>p.1 == t)=j.find? λp=>Nat.beq p.1 t
 | [],_=>rfl
 |p::r,t=>by
  have e:(p.1 == t)=Nat.beq p.1 t:=by
   rw[gl,r4];exact(Nat.beq_eq▸Iff.rfl)
  simp only[List.find?_cons,e,Ez r t]
omit [bm] [cz] [dg]in
theorem Zc{C j:Cx}{B:List (Nat×Ty)}(h:B.all (λp=>sJ C p.1 p.2)=true)(e:∀ty t,sJ j ty t=sJ C ty t:=by intros;rfl):∀ty t,(B.find? λp=>Nat.beq p.1 ty).map (·.2)=some t->sJ j ty t=true:=by
 intro ty t ht;rw[e4]at ht;obtain⟨p,k,rfl⟩:=ht;have F:=kA k;have G:=eb F;rw[e,<-G];exact ek.1 h p (hf k)
section
variable {P:Program}{V:Env}{C:Cx}{cs:List Callee}
def WM{f:FuncId}{fn:Func}{c:Code}{B F:List Ty}{a:(aP B).den}{r:(aP F).den}(M:bM P V C)(ab:fG P C cs)(U:mY P C.lU)(ag:C.nt=fn.ntmps)(af:P.follows .mixedOrders=true)(ae:P.funcs[f]?=some fn)(aa:fn.body=some c)(Z:∀t∈B,isVal t)(ah:∀t∈F,isVal t)(hl:B.length<=fn.ntmps)(h:nB cs (sD C fn.results.toList c B F) B F a=some r):gA P f (cJ B a) ((aP F).enc r):=by
 haveI:bS:=bP;refine gA.of M.ok ae aa (by rw[Ed];exact hl) λR Y w0 I0=>?_;have ak:=Lt (p:=λv=>v=⟨aP F,r⟩) (λv hv=>by
  have hv:dc (aP F) v=some r:=hv;exact oD hv) (KV h)
 have ai:bh (nu B a 0) ⟨B.length,pG 0 B,[]⟩ ⟨kq 0 (cJ B a),[]⟩:=
  ⟨by have:=Ef (ts:=B) (a:=a) (k:=0);simpa using this,H9 Z λj v hv=>Eg hv,.nil⟩
 have G:=Ll (V:=V) (cs:=cs) U af 400 C [] ⟨jn fn.results.toList,[],jn fn.results.toList⟩ c ⟨B.length,pG 0 B,[]⟩ w0 I0 M ab rfl (λ_=>Y) (λ_ _=>rfl);rw[ag]at G;refine jU.go (Λ:=MN) (R0:=R) G ai (λx G=>by cases G) (λ_ _ _ _ _ _ h=>h) ak ?_;rintro e bA ρ' J' ⟨ad,x,v,N,O,rfl⟩ _ _ s' aj;refine⟨?_,abd M aj ah N O⟩;rcases ad with rfl|rfl
 ·exact .inl rfl
 exact .inr rfl
def nA(fn:Func)(j k:List Ty):Bool:= !(fn.name == "runtime.NumGoroutine") && !fn.body.isNone&&j.all dN&&k.all dN&&Nat.ble j.length fn.ntmps
def Kt{f:FuncId}{fn:Func}{j k:List Ty}{g:(aP j).den->Option (aP k).den}(U:bM P V C)(Z:fG P C cs)(Y:mY P C.lU)(ad:C.nt=fn.ntmps)(ab:P.follows .mixedOrders=true)(M:P.funcs[f]?=some fn)(N:nA fn j k=true)(h:∀a,nB cs (sD C fn.results.toList (hZ fn) j k) j k a=g a):gZ P ⟨f,j,k,g⟩:=by
 simp only[nA,dk,ek,gj]at N;obtain⟨⟨⟨⟨af,F⟩,ag⟩,ah⟩,ai⟩:=N;have aa:Enters P f:=Enters.of M ⟨af,F⟩;have G:∀t∈j,isVal t:=λt ht=>cy (ag t ht);have O:∀t∈k,isVal t:=λt ht=>cy (ah t ht);have B:fn.body=some (hZ fn):=by
  unfold hZ;cases B:fn.body with
  |none=>rw[B]at F;cases F
  |some c=>rfl
 exact⟨aa,λa r ae=>WM U Z Y ad ab M B G O (hg ai) (by rw[h];exact ae),G,O⟩
def LM(fn:Func):Bool:= !(fn.name == "runtime.NumGoroutine") && !fn.body.isNone
def WV{P:Program}{fs:List (Nat×Func)}(h:fs.foldr (λp q=>P.funcs[p.1]?=some p.2/\q) True)(B:fs.all (λp=>LM p.2)=true):mY P fs:=by
 induction fs with
 |nil=>intro g fn h;cases h
 |cons c r G=>
  intro g fn j;simp only[List.all_cons,dk]at B;simp only[findF]at j;cases e:Nat.beq c.1 g with
  |false=>rw[e]at j;exact G h.2 B.2 g fn j
  |true=>
   rw[e]at j;simp only[cond_true,c4]at j;subst j;have:=eb e;subst this;have k:=B.1;simp only[LM,dk,gj]at k;refine⟨h.1,Enters.of h.1 k,?_⟩;unfold hZ;cases F:c.2.body with
   |none=>rw[F]at k;cases k.2
   |some c=>rfl
def qM:List ju->Nat->List lJ
 | [],_=>[]
 |c::r,k=>⟨c.f,c.t,c.args,k⟩::qM r (k+1)
def Kw{P:Program}{cs:List Callee}(h:cs.foldr (λc p=>gZ P c/\p) True):∀(j:Nat)(s:lI),(cs.map kn)[j]?=some s->∃c:Callee,cs[j]?=some c/\kn c=s/\gZ P c:=by
 induction cs with
 |nil=>intro j s k;simp at k
 |cons c r B=>
  intro j s k;cases j with
  |zero=>simp at k;exact⟨c,rfl,k,h.1⟩
  |succ j=>simpa using B h.2 j s (by simpa using k)
def Qt{P:Program}:∀{ts:List ju}{k:Nat},ts.foldr (λc p=>oz P c.f c.t c.args c.fn/\p) True->∀s∈qM ts k,∃fn:(aP (.list s.t::s.args)).den->Option (List s.t.den),k<=s.k/\((ts.map ju.kD)[s.k-k]?=some (ju.mk s.f s.t s.args fn).kD)/\oz P s.f s.t s.args fn
 | [],k,_,s,hs=>by simp[qM]at hs
 |c::r,k,h,s,hs=>by
  simp only[qM,fa]at hs;rcases hs with rfl|hs
  ·exact⟨c.fn,ec _,by simp,h.1⟩
  obtain⟨fn,F,j,B⟩:=Qt h.2 s hs;refine⟨fn,by omega,?_,B⟩;rw[show s.k-k=(s.k-(k+1))+1 by omega];simpa using j
structure mZ where
 f:FuncId
 args:List Ty
 sh:List NS
 fn:(aP args).den->Option (aP (cM sh)).den
def mZ.kD(c:mZ):Callee:=⟨c.f,c.args,cM c.sh,c.fn⟩
def r8:List mZ->Nat->List pQ
 | [],_=>[]
 |c::r,k=>⟨c.f,c.args,c.sh,k⟩::r8 r (k+1)
def NJ{P:Program}:∀{ts:List mZ}{k:Nat},ts.foldr (λc p=>qU P c.f c.args c.sh c.fn/\p) True->∀s∈r8 ts k,∃fn:(aP s.args).den->Option (aP (cM s.sh)).den,k<=s.k/\((ts.map mZ.kD)[s.k-k]?=some ⟨s.f,s.args,cM s.sh,fn⟩)/\qU P s.f s.args s.sh fn
 | [],k,_,s,hs=>by simp[r8]at hs
 |c::r,k,h,s,hs=>by
  simp only[r8,fa]at hs;rcases hs with rfl|hs
  ·exact⟨c.fn,ec _,by simp[mZ.kD],h.1⟩
  obtain⟨fn,F,j,B⟩:=NJ (k:=k+1) h.2 s hs;refine⟨fn,by omega,?_,B⟩;rw[show s.k-k=(s.k-(k+1))+1 by omega];simpa using j
def UN{P:Program}{C:Cx}{cs:List Callee}{ts:List mZ}(h:cs.foldr (λc p=>gZ P c/\p) True)(B:ts.foldr (λc p=>qU P c.f c.args c.sh c.fn/\p) True)(G:C.sigs=cs.map kn)(M:C.turns=[])(N:C.wX=r8 ts cs.length):fG P C (cs++ts.map mZ.kD):=by
 refine⟨λj s k=>?_,λs k=>?_,λs k=>?_⟩
 ·rw[G]at k;obtain⟨c,F,B,O⟩:=Kw h j s k;exact⟨c,by rw[e1 (db.1 F).1];exact F,B,O⟩
 ·rw[M]at k;cases k
 rw[N]at k;obtain⟨fn,U,Y,Z⟩:=NJ B s k;exact⟨fn,by rw[hI U];exact Y,Z⟩
theorem Kx{P:Program}{C:Cx}{cs:List Callee}{ts:List ju}(h:cs.foldr (λc p=>gZ P c/\p) True)(B:ts.foldr (λc p=>oz P c.f c.t c.args c.fn/\p) True)(G:C.sigs=cs.map kn)(M:C.turns=qM ts cs.length)(N:C.wX=[]):fG P C (cs++ts.map ju.kD):=by
 refine⟨λj s k=>?_,λs k=>?_,λs k=>by rw[N]at k;cases k⟩
 ·rw[G]at k;obtain⟨c,F,B,O⟩:=Kw h j s k;exact⟨c,by rw[e1 (db.1 F).1];exact F,B,O⟩
 rw[M]at k;obtain⟨fn,U,Y,Z⟩:=Qt B s k;exact⟨fn,by rw[hI U];exact Y,Z⟩
end
end Go.Sy
namespace Go.ak
open Go Go.RowKit cL Go.ChangeShapes Go.WideShapes
variable [bm]
open Classical in
noncomputable def allI(w:World):aD:=⟨λb o=>w.cell? ⟨b,o,none⟩,λb=>if h:∃j,dR w.heap[b]? j then some (Classical.choose h)else none,λ_=>False⟩
def Q3(w:World)(j:∀g d,bm.dI g=some d->Rd (allI w) (.pointer (some ⟨g,0,none⟩)) (.box d)):cZ w (allI w):=by
 refine⟨λ_ _ _ h=>h,λb B h=>?_,λb h=>h.elim,j⟩;unfold allI at h;simp only at h;split at h
 ·rename_i k;cases h;exact nb k
 cases h
def U8(I:aD){cs:List Value}{n:Nat}(h:cs.length=n):Cells I (cs.drop n) []:=by
 refine⟨by simp[h],by simp,λi v d _ j=>by simp at j⟩
def U7{I:aD}{cs:List Value}{o s:Nat}{ys zs:List D}(O:Cells I ((cs.drop o).take s) ys)(U:Cells I (cs.drop (o+s)) zs):Cells I (cs.drop o) (ys++zs):=by
 have e:cs.drop o=(cs.drop o).take s++cs.drop (o+s):=by rw[<-ti,mx]
 rw[e];obtain⟨k,B,F⟩:=O;obtain⟨G,M,N⟩:=U;refine⟨by simp only[dT,k,G],λd j=>(hD.1 j).elim (B d) (M d),λi v d hv j=>?_⟩;by_cases hi:i<ys.length
 ·rw[e1 (by omega)]at hv;rw[e1 hi]at j;exact F i v d hv j
 rw[hI (by omega),k]at hv;rw[hI (by omega)]at j;exact N _ v d hv j
def cells_one{I:aD}{v:Value}{d:D}(B:d.one=true)(h:Rd I v d):Cells I [v] [d]:=
 ⟨rfl,by simpa using B,λi x y j k=>by
  rcases i with _|i
  ·simp at j k;subst j;subst k;exact h
  simp at j⟩
def Q2(b o k:Nat):(⟨b,o,none⟩:Addr).add k=⟨b,o+k,none⟩:=by
 unfold Addr.add;split
 ·rename_i h;subst h;rfl
 rfl
section
variable {P:Program}{t e:TypeId}
def YX{W:World}{r:Reach}{b:Nat}{v:Value}(h:Value.okWide P W r b t v)(k:(match P.underlying t with|some (.struct _)|some (.array _ _)=>false|_=>true)=true):∀cs,v ≠ .agg cs:=by
 rintro cs rfl;cases j:P.underlying t with
 |none=>simp[Value.okWide,j,Cell.okWide,Cell.ok]at h
 |some d=>
  rw[j]at k;cases d<;>first| (simp[Value.okWide,j,Cell.okWide,Cell.ok]at h;done)| (simp at k;done)
end
def Qm{H:Type}{en:TypeId×Value->H}{P:Program}(hl:laidOutB P=true){W k:World}(B:Below W.heap.size W k) :
  ∀{ts:List TypeId}{vs:List Value}{ds:List (DataW H)}{ps:List MemPlace},(ts.all λt=>P.readableRec t&&decide (t<P.types.size))=true->DataW.TrodAll en P W 0 (λ_=>true) true ts vs ds ps->(∀x∈ps,x.block<W.heap.size)->DataW.TrodAll en P k 0 (λb=>decide (b<W.heap.size)) true ts vs ds ps
 | [],[],[],_,_,h,_=>h
 |t::ts,v::vs,d::ds,_,ht,⟨p,q,h1,G,e⟩,F=>by
  simp only[List.all_cons,dk,ea]at ht;exact⟨p,q,Below.trod hl ht.1.1 ht.1.2 h1 B (λx j=>F x (by rw[e];exact sk _ j)),Qm hl B ht.2 G (λx j=>F x (by rw[e];exact List.mem_append_right _ j)),e⟩
 | [],_::_,_,_,_,h,_=>h.elim
 | [],[],_::_,_,_,h,_=>h.elim
 |_::_,[],_,_,_,h,_=>h.elim
 |_::_,_::_,[],_,_,h,_=>h.elim
theorem abj{P:Program}{f:FuncId}{ds:List D}{r:D}(h:gA P f ds r){W:World}(F:∀g d,bm.dI g=some d->Rd (allI W) (.pointer (some ⟨g,0,none⟩)) (.box d)){vs:Array Value}(M:vs.size=ds.length)(G:∀(i:Nat) v d,vs[i]?=some v->ds[i]?=some d->Rd (allI W) v d) :
  Calls P f vs W λe w'=>∃v J,e=.returned v/\Below W.heap.size W w'/\Rd J v r:=
 (h W (allI W) vs (Q3 W F) M G).mono λ_ _ ⟨v,J,j,k,_,_,B⟩=>⟨v,J,j,k.below,B⟩
end Go.ak
namespace Go.Sy
open Go Go.ak Go.RowKit Go.ChangeShapes Go.WideShapes
variable [aI]
structure sR(bk:(H:Type)->DataW H->Nat)(jw:(H:Type)->List (DataW H)->Nat):Prop where
 str:∀H bs,bk H (.lit (.string bs))=bs.length+1
 sl:∀H a b,bk H (.slice a b)=jw H a+jw H b+1
 agg:∀H a,bk H (.agg a)=jw H a+1
 nil:∀H,jw H []=0
 cons:∀H d r,jw H (d::r)=bk H d+jw H r
 one:∀H d,1<=bk H d
def yH(g:(t:Ty)->t.den->Nat):(ts:List Ty)->(aP ts).den->Nat
 | [],_=>0
 | [t],x=>g t x
 |t::u::ts,x=>g t x.1+yH g (u::ts) x.2
def cj:Nat->(t:Ty)->t.den->Nat
 |0,_,_=>0
 |f+1,.list t,xs=>(List.map (λx=>cj f t x) xs).sum+1
 |f+1,.st i,x=>yH (λt x=>cj f t x) (aI.bW i) (aI.un i x)+1
 |_+1,.str,s=>ByteArray.size s+1
 |_+1,_,_=>1
def AI(g:(t:Ty)->t.den->Prop):(ts:List Ty)->(aP ts).den->Prop
 | [],_=>True
 | [t],x=>g t x
 |t::u::ts,x=>g t x.1/\AI g (u::ts) x.2
def lh:Nat->(t:Ty)->t.den->Prop
 |0,_,_=>True
 |f+1,.list t,xs=>∀x∈(show List t.den from xs),lh f t x
 |f+1,.st i,x=>AI (λt x=>lh f t x) (aI.bW i) (aI.un i x)
 |_+1,.int k,n=>(Lit.int k n).wf=true
 |_+1,_,_=>True
def sd(P:Program)(g:TypeId->Ty->Bool)(j:Nat):List Field->List Ty->Nat->Bool
 | [],[],off=>Nat.beq off j
 |fd::fs,u::us,off=>Nat.beq fd.offset off&&Nat.beq (P.cellsOf fd.type) u.size&&g fd.type u&&sd P g j fs us (off+u.size)
 |_,_,_=>false
def pg(P:Program):Nat->TypeId->Ty->Bool
 |0,_,_=>false
 |f+1,ty,t=>match t,P.underlying ty with
  |.int k,some (.int j)=>decide (k=j)
  |.bool,some .bool=>true
  |.str,some .string=>true
  |.list u,some (.slice e)=>Nat.beq (P.cellsOf e) u.size&&Nat.ble 1 u.size&&dN u&&pg P f e u
  |.st i,some (.struct fs)=>sd P (pg P f) (P.cellsOf ty) fs.toList (aI.bW i) 0
  |_,_=>false
def yO[bm](P:Program)(bk:(H:Type)->DataW H->Nat)(f:Nat)(ty:TypeId)(t:Ty):Prop:=
 ∀(H:Type)(en:TypeId×Value->H)(w:World)(base:Nat)(k:Nat->Bool)(held:Bool)(j:Nat)(cs:List Value)(x:DataW H×List MemPlace),
  DataW.trod en P w base k held j ty cs=some x->∃a:t.den,cj f t a<=bk H x.1/\lh f t a/\Cells (allI w) cs (t.enc a).cells
theorem P5{bk:(H:Type)->DataW H->Nat}{jw:(H:Type)->List (DataW H)->Nat}(j:sR bk jw){α H:Type}{g:α->Nat}:∀{l:List α}{ds:List (DataW H)},ds.length=l.length->(∀(i:Nat) y d,l[i]?=some y->ds[i]?=some d->g y<=bk H d)->(l.map g).sum<=jw H ds
 | [],ds,_,_=>j3 _
 |y::l,[],h,_=>by simp at h
 |y::l,d::ds,h,k=>by
  rw[e7,List.sum_cons,j.cons];have G:=k 0 y d rfl rfl;have M:=P5 j (l:=l) (ds:=ds) (g:=g) (by simpa using h) λi y d F B=>k (i+1) y d (by simpa using F) (by simpa using B);omega
variable [cz][dg][bm]
section
variable {P:Program}{bk:(H:Type)->DataW H->Nat}{jw:(H:Type)->List (DataW H)->Nat}
def NV(U:sR bk jw){f:Nat}{aa:Nat}(Y:∀ty t,pg P f ty t=true->yO P bk f ty t){H:Type}{en:TypeId×Value->H}{w:World}{base:Nat}{Z:Nat->Bool}{held:Bool}{n:Nat}{cs:List Value}(ag:cs.length=aa):∀(fs:List Field)(j:List Ty)(off:Nat)(xs:List (DataW H×List MemPlace)),sd P (pg P f) aa fs j off=true->xs.length=fs.length ->
  (∀(i:Nat) fd,fs[i]?=some fd->DataW.trod en P w base Z held n fd.type ((cs.drop fd.offset).take (P.cellsOf fd.type))=xs[i]?) ->
  ∃a:(aP j).den,yH (λt x=>cj f t x) j a<=jw H (xs.map (·.1))/\AI (λt x=>lh f t x) j a/\Cells (allI w) (cs.drop off) (cellsOf j a)
 | [],[],off,xs,h,hl,B=>by
  simp only[sd]at h;have:=eb h;exact⟨(),j3 _,trivial,U8 _ (by omega)⟩
 |fd::fs,[],off,xs,h,hl,B=>by simp[sd]at h
 | [],_::_,off,xs,h,hl,B=>by simp[sd]at h
 |fd::fs,u::j,off,[],h,hl,B=>by simp at hl
 |fd::fs,u::j,off,x::xs,h,hl,B=>by
  simp only[sd,dk]at h;obtain⟨⟨⟨M,N⟩,ae⟩,af⟩:=h;have M:=eb M;have N:=eb N;have h0:=B 0 fd rfl;rw[M,N]at h0;obtain⟨a,ah,O,ab⟩:=Y _ _ ae H en w base Z held n _ x h0;obtain⟨b,G,F,ad⟩:=NV U Y ag fs j (off+u.size) xs af (by simpa using hl) λi fd hi=>by
   have:=B (i+1) fd (by simpa using hi);simpa using this
  have k:=U7 ab ad;rw[e7,U.cons]
  match j,b,G,F,k with
  | [],b,G,F,k=>
   refine⟨a,?_,O,?_⟩
   ·show cj f u a<=_;omega
   have e:(u.enc a).cells++cellsOf [] b=(u.enc a).cells:=iu _;rw[e]at k;exact k
  |v::j,b,G,F,k=>
   refine⟨(a,b),?_,⟨O,F⟩,k⟩;show cj f u a+yH (λt x=>cj f t x) (v::j) b<=_;omega
def Zk(ad:sR bk jw){f:Nat}{ty e:TypeId}{u:Ty}(ht:P.underlying ty=some (.slice e))(aD:P.cellsOf e=u.size)(ak:1<=u.size)(av:isVal u)(aB:yO P bk f e u):yO P bk (f+1) ty (.list u):=by
 intro H en w base aI held aK cs x h;have af:∀y:u.den,(u.enc y).cells.length=u.size:=λy=>kI av y;rcases Go.Deep.open_slice ht h with ⟨rfl,rfl⟩| ⟨a,len,aw,m,n,D0,Pl,rfl,_,hl,ar,aA,aF,hi⟩
 ·exact⟨([]:List u.den),ad.one _ _,(λx Y=>by cases Y),cells_one rfl (.ko _ _ _ (j3 _))⟩
 have aL:len<=m:=by rw[aA];split<;>omega
 rcases s6 len with h0|h0
 ·subst h0;exact⟨([]:List u.den),ad.one _ _,(λx Y=>by cases Y),cells_one rfl (.ko _ _ _ ar)⟩
 have ao:∀i,i<len->∃(y:u.den)(M:List Value),(cj f u y<=bk H (D0 i)/\lh f u y)/\(∀j,j<u.size->w.cell? (a.add (i*u.size+j))=M[j]?)/\M.length=u.size/\Cells (allI w) M (u.enc y).cells:=λi ae=>by
  obtain⟨M,an,aE⟩:=hi i (by omega);obtain⟨y,G,aG,aj⟩:=aB H en w base aI held n M _ aE;rw[aD]at an;obtain⟨_,ai,aa⟩:=World.cells?_some an;exact⟨y,M,⟨G,aG⟩,λj O=>by rw[<-aa j O,Go.Deep.add_add],ai,aj⟩
 obtain⟨b,off,aJ⟩:=a;have aC:aJ=none:=by
  obtain⟨y,M,_,aa,ai,_⟩:=ao 0 h0;have N:=aa 0 ak;rw[c5 (by omega)]at N;simpa [Addr.add]using World.cell?_spot N
 subst aC;have ax:∀k,k<=len->∃l:List u.den,l.length=k/\(∀(i:Nat) y,l[i]?=some y->cj f u y<=bk H (D0 i)/\lh f u y)/\∀(i:Nat)(y:u.den),l[i]?=some y->∀j,j<u.size->∃v d,w.cell? ⟨b,off+(i*u.size+j),none⟩=some v/\(u.enc y).cells[j]?=some d/\Rd (allI w) v d:=by
  intro k;induction k with
  |zero=>exact λ_=>⟨[],rfl,by simp,by simp⟩
  |succ k aH=>
   intro U;obtain⟨l,N,ab,ah⟩:=aH (by omega);obtain⟨y,M,G,aa,ai,aj⟩:=ao k (by omega);have au:∀(i:Nat)(z:u.den),(l++[y])[i]?=some z->l[i]?=some z\/(i=k/\z=y):=λi z B=>by
    by_cases ae:i<l.length
    ·rw[e1 ae]at B;exact .inl B
    rw[hI (by omega)]at B;have az:i=k:=by
     have:=(db.1 B).1;simp at this;omega
    subst az;rw[N]at B;simp at B;exact .inr ⟨rfl,B.symm⟩
   refine⟨l++[y],by simp[N],λi z B=>?_,λi z B j O=>?_⟩
   ·rcases au i z B with B| ⟨rfl,rfl⟩
    ·exact ab i z B
    exact G
   rcases au i z B with B| ⟨rfl,rfl⟩
   ·exact ah i z B j O
   have hv:M[j]?=some (M[j]'(by omega)):=c5 (by omega);have F:(u.enc z).cells[j]?=some ((u.enc z).cells[j]'(by rw[af];exact O)):=c5 _;refine⟨_,_,?_,F,aj.2.2 j _ _ hv F⟩;have:=aa j O;rw[hv,Q2]at this;exact this
 obtain⟨l,N,ab,ah⟩:=ax len (ec _);refine⟨l,?_,λy G=>?_,cells_one rfl ?_⟩
 ·rw[aF];show(l.map λx=>cj f u x).sum+1<=bk H (.slice _ _);rw[ad.sl];have:=P5 ad (g:=λx=>cj f u x) (l:=l) (ds:=(List.range len).map D0) (by simp[N]) λi y d G F=>by
   have ae:i<len:=by rw[<-N];exact(db.1 G).1
   rw[e3,ia ae]at F;injection F with F;subst F;exact(ab i y G).1
  omega
 ·obtain⟨i,hi⟩:=uu G;exact(ab i y hi).2
 show Rd (allI w) _ (.slice u.size (List.map u.enc l));have ay:(flat (l.map u.enc)).length=len*u.size:=by
  rw[iC (l.map u.enc) (size:=u.size) λd F=>by obtain⟨y,_,rfl⟩:=gg.1 F;exact af y];simp[N]
 have aq:∀k,k<len*u.size->∃v d,w.cell? ⟨b,off+k,none⟩=some v/\(flat (l.map u.enc))[k]?=some d/\Rd (allI w) v d:=λk U=>by
  have hi:k/u.size<len:=(rv ak).2 U;have O:k%u.size<u.size:=q6 _ ak;have G:l[k/u.size]?=some (l[k/u.size]'(by omega)):=c5 (by omega);obtain⟨v,d,Z,ag,al⟩:=ah _ _ G _ O;refine⟨v,d,?_,?_,al⟩
  ·rw[o7,Ds]at Z;exact Z
  rw[show k=k/u.size*u.size+k%u.size by rw[o7];exact(Ds k u.size).symm];rw[flat_get (l.map u.enc) (λd F=>by obtain⟨y,_,rfl⟩:=gg.1 F;exact af y) _ _ (u.enc (l[k/u.size]'(by omega))) (by rw[e3,G];rfl) O];exact ag
 refine .slice b off len aw u.size _ (λk=>(w.cell? ⟨b,off+k,none⟩).getD undef) (by simp[N]) hl ar (λd F=>?_) (λk U=>?_) (λk x Y=>?_)
 ·obtain⟨y,_,rfl⟩:=gg.1 F;exact⟨af y,wb av y⟩
 ·obtain⟨v,d,Z,_,_⟩:=aq k U;show w.cell? ⟨b,off+k,none⟩=_;simp[Z]
 have U:k<len*u.size:=by rw[<-ay];exact(db.1 Y).1
 obtain⟨v,d,Z,ag,al⟩:=aq k U;rw[Y]at ag;cases ag;simpa [Z]using al
def Gn(B:sR bk jw):∀(f:Nat)(ty:TypeId)(t:Ty),pg P f ty t=true->yO P bk f ty t
 |0,_,_,h=>by cases h
 |f+1,ty,t,h=>by
  simp only[pg]at h;split at h
  ·rename_i k ad j;have:=fv h;subst this;intro H en w base G held F cs x h;obtain⟨n,rfl,_,U⟩:=DataW.trod_int j h;exact⟨n,B.one _ _,U,cells_one rfl (.int _ _)⟩
  ·rename_i j;intro H en w base G held F cs x h;obtain⟨n,rfl,_⟩:=DataW.trod_bool j h;exact⟨n,B.one _ _,trivial,cells_one rfl (.bool _)⟩
  ·rename_i j;intro H en w base G held F cs x h;obtain⟨s,rfl,rfl,ab⟩:=DataW.trod_string j h;refine⟨s,?_,trivial,cells_one rfl (.str _)⟩;show ByteArray.size s+1<=bk H (.lit (.string _));rw[B.str];exact Nat.le_of_eq rfl
  ·rename_i u e j;simp only[dk]at h;exact Zk B j (eb h.1.1.1) (hg h.1.1.2) (cy h.1.2) (Gn B f e u h.2)
  ·rename_i i fs j;intro H en w base G held F cs x Y;obtain⟨xs,n,_,rfl,hl,Z,O⟩:=DataW.trod_struct j Y;obtain⟨a,aa,N,M⟩:=NV B (λty t=>Gn B f ty t) hl fs.toList (aI.bW i) 0 xs h (by simpa using Z) λi fd hi=>O i fd (by simpa using hi);rw[q4]at M;refine⟨aI.eH i a,?_,?_,?_⟩
   ·show yH _ (aI.bW i) (aI.un i (aI.eH i a))+1<=bk H (.agg _);rw[aI.pI,B.agg];omega
   ·show AI _ (aI.bW i) (aI.un i (aI.eH i a));rw[aI.pI];exact N
   show Cells (allI w) cs (aI.cells i (aI.eH i a));rw[cz.cells,aI.pI];exact M
  cases h
variable {H:Type}{en:TypeId×Value->H}{W:World}{base:Nat}{sp:Nat->Bool}{held:Bool}{v:Value}{d:DataW H}{ps:List MemPlace}
theorem Dx(Z:sR bk jw){f:Nat}{ty:TypeId}{t:Ty}(j:pg P f ty t=true)(hv:dN t=true){r:Reach}{b:Nat}(G:Value.okWide P W r b ty v)(h:DataW.Trod en P W base sp held ty v d ps):∃a:t.den,cj f t a<=bk H d/\lh f t a/\Rd (allI W) v (t.enc a):=by
 obtain⟨U,ad⟩:=h;obtain⟨a,M,N,k⟩:=Gn Z f ty t j H en W base sp held U _ _ ad;refine⟨a,M,N,?_⟩;cases f with
 |zero=>cases j
 |succ f=>
  by_cases B:cd t=true
  ·obtain⟨i,rfl⟩:∃i,t=.st i:=by cases t<;>simp[cd]at B;exact⟨_,rfl⟩
   simp only[pg]at j;split at j<;>first|contradiction|skip
   rename_i ai fs ah af;obtain⟨cs,rfl,_⟩:=okWide_struct af G;show Rd (allI W) _ (.agg (aI.cells i a));have Y:cs.toList.length=(aI.cells i a).length:=k.1;exact .agg cs _ (by simpa using Y) k.2.1 λi v d hv ab=>k.2.2 i v d (by simpa [Value.cells]using hv) ab
  have B:cd t=false:=by simpa using B
  have F:=cy hv;obtain⟨O,ag⟩:=lN B F.1 F.2 a;rw[O]at k;have ae:∀cs,v ≠ .agg cs:=by
   refine YX G ?_;simp only[pg]at j;split at j<;>simp_all [cd]
  have aa:v.cells.toList=[v]:=by cases v<;>first|rfl|exact absurd rfl (ae _)
  rw[aa]at k;exact k.2.2 0 _ _ rfl rfl
end
end Go.Sy
