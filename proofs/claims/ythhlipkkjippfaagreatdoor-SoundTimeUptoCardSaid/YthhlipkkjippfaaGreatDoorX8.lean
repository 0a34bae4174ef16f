import Derived.Test.YthhlipkkjippfaaGreatDoorX7
set_option linter.all false
namespace Go.Proofs.YthhlipkkjippfaaGreatDoor
open Go Go.ag Go.Sy
attribute [local instance] bV cB
def e9(b:aM):Prop:=(1<=b.id/\b.id<=1000000)/\bI b.length/\(1<=bp b.length/\bp b.length<=40320)/\(-7<=b.key/\b.key<=7)
instance (b:aM):Decidable (e9 b):=inferInstanceAs (Decidable (_/\_/\_/\_))
def gv(l:List aM):Prop:=(1<=l.length/\l.length<=4000)/\(∀b∈l,e9 b)/\(l.map aM.id).Nodup
instance (l:List aM):Decidable (gv l):=inferInstanceAs (Decidable (_/\_/\_))
def WK(a b c d:Bool):ab a (some true) (ab b (some true) (ab c (some true) (some d)))=some (a||b||c||d):=by cases a<;>cases b<;>cases c<;>rfl
def WL(a b c d e:Bool):ab a (some true) (ab b (some true) (ab c (some true) (ab d (some true) (some e))))=some (a||b||c||d||e):=by cases a<;>cases b<;>cases c<;>cases d<;>rfl
def WM(a b c d e f:Bool):ab a (some true) (ab b (some true) (ab c (some true) (ab d (some true) (ab e (some true) (some f)))))=some (a||b||c||d||e||f):=by cases a<;>cases b<;>cases c<;>cases d<;>cases e<;>rfl
def XD(b:aM):(decide (b.id<1)||decide (1000000<b.id)||decide ((if bI b.length then bp b.length else -1)<1)||decide (40320<(if bI b.length then bp b.length else -1))||decide (b.key < -7)||decide (7<b.key)) = !decide (e9 b):=by
 unfold e9
 by_cases h:bI b.length
 ·simp only[h,hQ,abk]
  rw[hI]
  simp only[h6,ek,hC,hV]
  omega
 simp[h]
def L6(l:List aM):wk l=some (decide (gv l)):=by
 unfold wk
 by_cases Z:l.length<1
 ·have:¬gv l:=λh=>by have:=h.1.1;omega
  rw[ak (db (by omega)),af,ak rfl];simp[this]
 rw[aj (dk (by omega)),af]
 by_cases aa:4000<l.length
 ·have:¬gv l:=λh=>by have:=h.1.2;omega
  rw[ak (db (by omega))];simp[this]
 rw[aj (dk (by omega)),pw l.length (l8 (λb=>!decide (e9 b)) (λx y=>decide (x.id=y.id)) l) false (λk U=>by
  have N:l[k]?=some l[k]:=c4 U
  generalize l[k]=x at N
  rw[ak (by simpa using U)]
  simp only[aS N,af,wR,WM,XD]
  unfold l8
  rw[N]
  dsimp only
  by_cases B:e9 x
  ·rw[aj (by simp[B]),nX (l:=l.take k) (λy=>decide (y.id=x.id)) (.inr (.inr false)) (λj y O=>by
    obtain⟨Y,O⟩:=NP O
    rw[ak (by simpa using Y),aY (aS O)]
    by_cases M:y.id=x.id
    ·rw[ak (by simp[M])];simp[M]
    ·rw[aj (by simp[M]),aC (by omega)];simp[M]) (by
    rw[fa,pa (by omega),aj (by simp)])]
   by_cases F:((l.take k).any λy=>decide (y.id=x.id))=true
   ·rw[if_pos F,if_pos (by rw[F];simp)];rfl
   rw[if_neg F,if_neg (by simp[B]at F⊢;exact F),eT,aC (by omega)];rfl
  rw[ak (by simp[B]),if_pos (by simp[B])];rfl) (by rw[aj (by simp)])]
 have key:=F3 (λb=>!decide (e9 b)) (λx y=>decide (x.id=y.id)) l
 rw[FE aM.id]at key
 by_cases G:gv l
 ·rw[if_neg]
  ·simp[G,eT]
  rw[key];exact λh=>h ⟨λb B=>by simp[G.2.1 b B],G.2.2⟩
 rw[if_pos]
 ·simp[G,fy]
 rw[key];exact λh=>G ⟨by omega,λb B=>by simpa using h.1 b B,h.2⟩
def VW(q:Rat):wc q=some (decide (bI q)):=by
 unfold wc
 rw[rL,af]
 by_cases j:je q
 ·have B:(!(aA q.d 0))=true:=by have:=j.1;simp;omega
  rw[ak (by simp[j])]
  by_cases k:0<=q.n
  ·rw[ak (by simp[k]),cq B,af];unfold bI;simp[j,k]
  rw[aj (by simp[k]),af];unfold bI;simp[k]
 rw[aj (by simp[j]),af];unfold bI;simp[j]
def V0{a b:Rat}(j:je a)(k:je b):we (a,b)=some (decide (a.n*b.d<b.n*a.d)):=by
 unfold we
 dsimp only
 rw[wV j k,af]
 dsimp only
 congr 1
 rw[ka]
 unfold fI
 split
 ·simp[*]
 split<;>simp[*]
def ZO{q:Rat}(h:bI q):24*q.d<q.n*1↔40320<bp q:=by
 obtain⟨j,F,B⟩:=Gx h
 unfold bp
 generalize Int.tdiv 1680 q.d=k at *
 have e:40320=(24*q.d)*k:=by rw[Int.mul_assoc,j];rfl
 rw[e,Int.mul_one]
 constructor
 ·exact λh=>Int.mul_lt_mul_of_pos_right h B
 exact λh=>Int.lt_of_mul_lt_mul_right h (by omega)
def ZN{q:Rat}(h:bI q):q.n=0↔bp q<1:=by
 obtain⟨j,B,F⟩:=Gx h
 unfold bp
 generalize Int.tdiv 1680 q.d=k at *
 have G:=h.2.1
 constructor
 ·intro h;rw[h];omega
 intro M
 refine hB λN=>?_
 have:1*k<=q.n*k:=tv (by omega) (by omega)
 omega
def VQ(g:Bool)(b:aM):(decide (b.id<1)||decide (1000000<b.id)||g||decide (b.key < -7)||decide (7<b.key)) = !decide ((1<=b.id/\b.id<=1000000)/\g=false/\(-7<=b.key/\b.key<=7)):=by
 rw[hI]
 cases g
 ·simp only[h6,ek,hC,hV,abk]
  simp;omega
 simp
def VR(b:aM):(aa (wc b.length) λN=>ab (!N) (some true) (ab (aA b.length.n 0) (some true) (aa (we ((⟨24,1⟩:Rat),b.length)) λF=>some F)))=some (!decide (bI b.length/\(1<=bp b.length/\bp b.length<=40320))):=by
 rw[VW,af]
 by_cases h:bI b.length
 ·rw[aj (by simp[h])]
  have k:=ZN h
  have B:=ZO h
  by_cases j:b.length.n=0
  ·have:=k.1 j
   rw[ak (by simp[j])]
   rw[dk (λM=>by omega)];rfl
  rw[aj (by simp[j]),V0 (by decide) h.1,af]
  have G:¬bp b.length<1:=λh=>j (k.2 h)
  congr 1
  simp only[h,abk]
  rw[<-decide_not,ka]
  rw[B];omega
 rw[ak (by simp[h])];simp[h]
def D9{l:List aM}(U:l.length<=1048576):tN l=some (decide (gv l)):=by
 unfold tN
 rw[dm (σ:=List (Int×Bool)) (st:=λz k=>(k,z)) (l:=l) (λz x=>if !decide (e9 x)||an z x.id false then .inr (.inr false)else .inl (aH z x.id true)) (λ_=>.inl ()) (λ_ _=>True) (λk x z M _=>by
  have O:=bx M
  dsimp only
  rw[ak (by simpa using O),aY (aS M),WL,VQ,af]
  by_cases B:(1<=x.id/\x.id<=1000000)/\an z x.id false=false/\(-7<=x.key/\x.key<=7)
  ·rw[aj (by simp only[db B];rfl),VR,af]
   by_cases F:bI x.length/\(1<=bp x.length/\bp x.length<=40320)
   ·have j:e9 x:=⟨B.1,F.1,F.2,B.2.2⟩
    rw[aj (by simp only[db F];rfl)]
    rw[aC (by omega)]
    simp[j,B.2.1]
   have j:¬e9 x:=λh=>F ⟨h.2.1,h.2.2.1⟩
   rw[ak (by simp only[dk F];rfl)]
   simp[j]
  rw[ak (by simp only[dk B];rfl),if_pos]
  by_cases j:e9 x
  ·cases N:an z x.id false
   ·exact absurd ⟨j.1,N,j.2.2.2⟩ B
   simp
  simp[j]) (λ_ _ _ _ _ _ _=>trivial) (λz _=>by dsimp only;rw[aj (by simp)]) [] trivial,C7]
 by_cases G:(∀x∈l,(!decide (e9 x))=false)/\(l.map aM.id).Nodup/\∀x∈l,an ([]:List (Int×Bool)) x.id false=false
 ·have B:∀b∈l,e9 b:=λb j=>by simpa using G.1 b j
  rw[if_pos G,eT,lz]
  refine ea some (ka.2 ⟨?_,?_⟩)
  ·rintro⟨a,b⟩;exact⟨⟨by omega,by omega⟩,B,G.2.1⟩
  rintro⟨⟨a,b⟩,_⟩;omega
 rw[if_neg G,fy]
 congr 1;symm
 exact dk λh=>G ⟨λb j=>by simp[h.2.1 b j],h.2.2,λb _=>rfl⟩
def dP(bars:List aM):List (Int×Int):=(bars.foldl (λ(p:List (Int×Int)×Nat) b=>(aH p.1 b.id (p.2:Int),p.2+1)) ([],0)).1
def K3{bars:List aM}(N:bars.length<=1048576):wh bars=some (dP bars):=by
 unfold wh
 have:=dm (σ:=List (Int×Int)×Nat) (st:=λz k=>(k,z.1)) (step:=λj:(Int×(List (Int×Int)))=>ab (ah j.1 (bars.length:Int)) (aa (au bars j.1) λM=>ae (ai (j.1+1)) <|some (.inl ((j.1+1),(aH j.2 M.id j.1)))) (some (.inr j.2))) (l:=bars) (λz x=>.inl (aH z.1 x.id (z.2:Int),z.2+1)) (λz=>z.1) (λk z=>z.2=k) (λk x z B F=>by
  have G:=bx B
  dsimp only
  rw[ak (by simpa using G),aY (aS B),aC (by omega),F];rfl) (λk x z z' B F h=>by
  injection h with h;rw[<-h];simp[F]) (λz _=>by dsimp only;rw[aj (by simp)]) ([],0) rfl
 rw[this,eS (λ(z:List (Int×Int)×Nat)(x:aM)=>(aH z.1 x.id (z.2:Int),z.2+1)) _ _ (λ_ _ _=>rfl),af]
 rfl
def K6:∀(l:List aM)(z:List (Int×Int)×Nat)(id:Int),dq (l.foldl (λ(p:List (Int×Int)×Nat) b=>(aH p.1 b.id (p.2:Int),p.2+1)) z).1 id=(dq z.1 id||l.any λb=>decide (b.id=id))
 | [],z,id=>by simp
 |b::l,z,id=>by
  rw[List.foldl_cons,K6 l,yW]
  simp only[List.any_cons]
  rw[show decide (id=b.id)=decide (b.id=id)from ka.2 eq_comm]
  cases dq z.1 id<;>cases decide (b.id=id)<;>simp
def K5:∀(l:List aM)(z:List (Int×Int)×Nat)(id:Int),(l.map aM.id).Nodup->an (l.foldl (λ(p:List (Int×Int)×Nat) b=>(aH p.1 b.id (p.2:Int),p.2+1)) z).1 id 0=match l.findIdx? λb=>decide (b.id=id)with|some i=>((z.2+i:Nat):Int)|none=>an z.1 id 0
 | [],z,id,_=>by simp
 |b::l,z,id,j=>by
  simp only[fv,iu,hz]at j
  rw[List.foldl_cons,K5 l _ id j.2,p6]
  dsimp only
  by_cases h:b.id=id
  ·have:(l.findIdx? λb=>decide (b.id=id))=none:=by
    rw[List.findIdx?_eq_none_iff]
    intro x k
    simp only[hV]
    exact λe=>j.1 ⟨x,k,by rw[e,h]⟩
   rw[this]
   simp[h,mX]
  simp only[h,decide_false]
  cases B:l.findIdx? λb=>decide (b.id=id)with
  |none=>simp[mX,hW h]
  |some i=>
   simp only[Option.map_some,hX,ih]
   exact ea Int.ofNat (by omega:z.2+1+i=z.2+(i+1))
def Wd(l:List aM)(id:Int):dq (dP l) id=l.any λb=>decide (b.id=id):=by
 unfold dP;rw[K6];rfl
def K4{l:List aM}(k:(l.map aM.id).Nodup){id:Int}(h:(l.any λb=>decide (b.id=id))=true):an (dP l) id 0=ix l λb=>decide (b.id=id):=by
 unfold dP
 rw[K5 l _ id k]
 unfold ix
 cases j:l.findIdx? λb=>decide (b.id=id)with
 |none=>
  have:(l.findIdx? λb=>decide (b.id=id)).isSome=l.any _:=List.findIdx?_isSome
  rw[j,h]at this;cases this
 |some i=>simp
def qM{α:Type}(l:List α)(p:α->Bool):aQ (some (match l.findIdx? p with|some i=>(.inr (i:Int):Unit⊕Int)|none=>.inl ())) (λ_=>some (-1))=some (ix l p):=by
 unfold ix
 cases l.findIdx? p<;>rfl
def L7{bars:List aM}(F:bars.length<=1048576)(id:Int):wm (bars,id)=some (ix bars λb=>decide (b.id=id)):=by
 unfold wm
 dsimp only
 rw[mQ (l:=bars) (λb=>decide (b.id=id)) (λk x j=>by
  have B:=bx j
  rw[ak (by simpa using B),aY (aS j)]
  by_cases h:x.id=id
  ·rw[ak (by simp[h])];simp[h]
  rw[aj (by simp[h]),aC (by omega)];simp[h]) (by rw[aj (by simp)])]
 exact qM bars _
end Go.Proofs.YthhlipkkjippfaaGreatDoor
namespace Go.Proofs.YthhlipkkjippfaaGreatDoor
open Go Go.ag Go.Sy
attribute [local instance] bV cB
def Ye{p q r s:Nat}(B:Nat.Coprime p q)(F:Nat.Coprime r s)(G:0<q)(M:0<s)(h:p*s=r*q):p=r/\q=s:=by
 have j:q∣s:=F8 (Nat.Coprime.symm B) ⟨r,by rw[h,oo]⟩
 have k:s∣q:=F8 (Nat.Coprime.symm F) ⟨p,by rw[<-h,oo]⟩
 have e:q=s:=Nat.dvd_antisymm j k
 subst e
 exact⟨Nat.eq_of_mul_eq_mul_right G h,rfl⟩
def Yd{j D t:Nat}(F:0<D)(h:j*1680=t*D):j/Nat.gcd j D=t/Nat.gcd t 1680/\D/Nat.gcd j D=1680/Nat.gcd t 1680:=by
 have k:0<Nat.gcd j D:=tb _ F
 have B:0<Nat.gcd t 1680:=tb _ (by omega)
 have G:=sb (abl j D)
 have M:=sb (s3 j D)
 have N:=sb (abl t 1680)
 have O:=sb (s3 t 1680)
 refine Ye (va k) (va B) (Nat.div_pos (B1 F (s3 j D)) k) (Nat.div_pos (B1 (by omega) (s3 t 1680)) B) ?_
 refine Nat.eq_of_mul_eq_mul_right (abu k B) ?_
 calc j/Nat.gcd j D*(1680/Nat.gcd t 1680)*(Nat.gcd j D*Nat.gcd t 1680)=(j/Nat.gcd j D*Nat.gcd j D)*(1680/Nat.gcd t 1680*Nat.gcd t 1680):=by ac_rfl
  _=(t/Nat.gcd t 1680*Nat.gcd t 1680)*(D/Nat.gcd j D*Nat.gcd j D):=by rw[G,M,N,O];exact h
  _=t/Nat.gcd t 1680*(D/Nat.gcd j D)*(Nat.gcd j D*Nat.gcd t 1680):=by ac_rfl
def dx(t:Int):Rat:=⟨((t.toNat/Nat.gcd t.toNat 1680:Nat):Int),((1680/Nat.gcd t.toNat 1680:Nat):Int)⟩
def CF{q:Rat}(h:bI q):∃n d k:Nat,q.n=n/\q.d=d/\bp q=((n*k:Nat):Int)/\d*k=1680/\0<d/\0<k/\Nat.Coprime n d/\n<=1000000000:=by
 obtain⟨G,M,N⟩:=Gx h
 have O:=h.2.1
 obtain⟨n,B⟩:∃n:Nat,q.n=n:=⟨q.n.toNat,by omega⟩
 obtain⟨d,j⟩:∃n:Nat,q.d=n:=⟨q.d.toNat,by omega⟩
 obtain⟨k,F⟩:∃n:Nat,Int.tdiv 1680 q.d=n:=⟨(Int.tdiv 1680 q.d).toNat,by omega⟩
 refine⟨n,d,k,B,j,?_,?_,by omega,by omega,?_,?_⟩
 ·unfold bp;rw[B,F];exact(Int.natCast_mul n k).symm
 ·rw[F,j,<-Int.natCast_mul]at G;omega
 ·have:=h.1.2.2.2.2
  rw[B,j]at this
  simpa [Int.gcd]using this
 have:=h.1.2.2.2.1;omega
def uU{q:Rat}(h:bI q):q=dx (bp q):=by
 obtain⟨n,d,k,j,B,M,F,O,G,N,_⟩:=CF h
 have g:Nat.gcd (n*k) 1680=k:=by
  rw[<-F,oo n k,oo d k,Nat.gcd_mul_left,N.gcd_eq_one,Nat.mul_one]
 obtain⟨Y,U⟩:=q
 unfold dx
 rw[M,Int.toNat_natCast,g,Nat.mul_div_cancel _ G,<-F,Nat.mul_div_cancel _ G]
 dsimp only at j B
 rw[j,B]
theorem pU{t:Int}(N:0<=t)(O:t<=1000000000):bI (dx t)/\bp (dx t)=t:=by
 obtain⟨n,rfl⟩:∃n:Nat,t=n:=⟨t.toNat,by omega⟩
 have k:0<Nat.gcd n 1680:=tb _ (by omega)
 have F:=sb (abl n 1680)
 have j:=sb (s3 n 1680)
 have M:0<1680/Nat.gcd n 1680:=Nat.div_pos (B1 (by omega) (s3 n 1680)) k
 have U:1680/Nat.gcd n 1680<=1680:=tt _ _
 have Y:n/Nat.gcd n 1680<=n:=tt _ _
 have G:=va k
 have B:Int.tdiv 1680 ((1680/Nat.gcd n 1680:Nat):Int)=(Nat.gcd n 1680:Nat):=by
  have:Int.tdiv ((1680:Nat):Int) ((1680/Nat.gcd n 1680:Nat):Int)=((1680/(1680/Nat.gcd n 1680):Nat):Int):=rfl
  refine this.trans ?_
  congr 1
  exact Nat.div_eq_of_eq_mul_right M (by rw[j])
 have tm:Int.tmod 1680 ((1680/Nat.gcd n 1680:Nat):Int)=0:=by
  have:=F4 1680 ((1680/Nat.gcd n 1680:Nat):Int)
  rw[B,<-Int.natCast_mul,j]at this
  omega
 refine⟨⟨⟨?_,?_,?_,?_,?_⟩,?_,?_⟩,?_⟩
 ·show(1:Int)<=((1680/Nat.gcd n 1680:Nat):Int);omega
 ·show((1680/Nat.gcd n 1680:Nat):Int)<=1000000;omega
 ·exact Int.le_trans (by decide) (abe (n/Nat.gcd n 1680))
 ·show((n/Nat.gcd n 1680:Nat):Int)<=1000000000;omega
 ·show Int.gcd ((n/Nat.gcd n 1680:Nat):Int) ((1680/Nat.gcd n 1680:Nat):Int)=1
  exact G
 ·exact abe (n/Nat.gcd n 1680)
 ·exact tm
 show((n/Nat.gcd n 1680:Nat):Int)*Int.tdiv 1680 ((1680/Nat.gcd n 1680:Nat):Int)=(n:Int)
 rw[B,<-Int.natCast_mul,F]
def size_eq{n:Int}(h: -1000000000000000<=n/\n<=1000000000000000):ow n=some (n.natAbs:Int):=by
 unfold ow jH
 rw[aC (by omega)]
 congr 1
 omega
def Yf{j D:Nat}(M:1<=D)(N:D<=10000000)(O:j<=10000000000000):tV ⟨(j:Int),(D:Int)⟩=some ⟨((j/Nat.gcd j D:Nat):Int),((D/Nat.gcd j D:Nat):Int)⟩:=by
 unfold tV pI
 rw[size_eq (by dsimp only;omega),af,size_eq (by dsimp only;omega),af,aj (by simp),AN _ _ _ (eb _) (by omega) (by omega)]
 dsimp only
 have F:((Int.gcd (((j:Int).natAbs:Nat):Int) (((D:Int).natAbs:Nat):Int):Nat):Int)=((Nat.gcd j D:Nat):Int):=by simp[Int.gcd]
 rw[F]
 have U:0<Nat.gcd j D:=tb _ (by omega)
 have k:j/Nat.gcd j D<=j:=tt _ _
 have B:D/Nat.gcd j D<=D:=tt _ _
 have G:Int.tdiv (j:Int) ((Nat.gcd j D:Nat):Int)=((j/Nat.gcd j D:Nat):Int):=rfl
 have t2:Int.tdiv (D:Int) ((Nat.gcd j D:Nat):Int)=((D/Nat.gcd j D:Nat):Int):=rfl
 unfold tF
 dsimp only
 rw[G,t2]
 generalize j/Nat.gcd j D=x at k⊢
 generalize D/Nat.gcd j D=y at B⊢
 rw[sU (by omega),sU (by unfold gT;omega),sU (by unfold gT;omega)]
def wU{a b:Rat}(ad:bI a)(ae:bI b)(h:bp a+bp b<=1000000000):fg (a,b)=some (dx (bp a+bp b),0):=by
 have an:=rL a
 have ao:=rL b
 rw[db ad.1]at an
 rw[db ae.1]at ao
 obtain⟨n,d,k,av,Y,aw,Z,ax,aM,aN,ay⟩:=CF ad
 obtain⟨B,j,F,aA,aa,aB,ab,aD,aO,aP,aE⟩:=CF ae
 have ah:d<=1680:=B1 (by omega) ⟨k,Z.symm⟩
 have ai:j<=1680:=B1 (by omega) ⟨F,ab.symm⟩
 have aJ:n*j<=1000000000*1680:=Qp ay ai
 have aK:B*d<=1000000000*1680:=Qp aE ah
 have aL:d*j<=1680*1680:=Qp ah ai
 have ar:0<d*j:=abu ax aD
 have ak:a.n*b.d=((n*j:Nat):Int):=by rw[av,aa];exact(Int.natCast_mul _ _).symm
 have al:b.n*a.d=((B*d:Nat):Int):=by rw[aA,Y];exact(Int.natCast_mul _ _).symm
 have aG:a.d*b.d=((d*j:Nat):Int):=by rw[Y,aa];exact(Int.natCast_mul _ _).symm
 have aH:a.n*b.d+b.n*a.d=((n*j+B*d:Nat):Int):=by rw[ak,al];exact(Int.natCast_add _ _).symm
 have ht:bp a+bp b=((n*k+B*F:Nat):Int):=by rw[aw,aB];exact(Int.natCast_add _ _).symm
 have au:(n*j+B*d)*1680=(n*k+B*F)*(d*j):=by
  rw[qs,qs]
  congr 1
  ·calc n*j*1680=n*j*(d*k):=by rw[Z]
    _=n*k*(d*j):=by ac_rfl
  calc B*d*1680=B*d*(j*F):=by rw[ab]
   _=B*F*(d*j):=by ac_rfl
 have aq:=Yd ar au
 have ag:=pU (t:=bp a+bp b) (by rw[ht];omega) h
 have aF:Af ⟨((n*j+B*d:Nat):Int),((d*j:Nat):Int)⟩=some (dx (bp a+bp b),0):=by
  unfold Af
  rw[Yf (by omega) (by omega) (by omega),aq.1,aq.2,af]
  have az:dx (bp a+bp b)=⟨(((n*k+B*F)/Nat.gcd (n*k+B*F) 1680:Nat):Int),((1680/Nat.gcd (n*k+B*F) 1680:Nat):Int)⟩:=by
   unfold dx;rw[ht,Int.toNat_natCast]
  rw[az]at ag⊢
  obtain⟨⟨⟨G,M,N,O,_⟩,U,_⟩,_⟩:=ag
  dsimp only at G M N O U⊢
  generalize (n*k+B*F)/Nat.gcd (n*k+B*F) 1680=x at G M N O U⊢
  generalize 1680/Nat.gcd (n*k+B*F) 1680=y at G M N O U⊢
  rw[size_eq (by omega),af,aj (by simp;omega),af,aj (by simp;omega)]
 unfold fg E3 E2
 dsimp only
 rw[an,ao,af,af]
 refine(aI (x:=(dx (bp a+bp b),0)) ?_).trans rfl
 refine(aI (x:=false) rfl).trans ?_
 refine(aj rfl).trans ?_
 rw[aH,ak,al,aG,aC (by omega),aC (by omega),aC (by omega),aC (by omega),af,aF,af]
end Go.Proofs.YthhlipkkjippfaaGreatDoor
namespace Go.Proofs.YthhlipkkjippfaaGreatDoor
open Go Go.ag Go.Sy
attribute [local instance] bV cB
def kp{α:Type}(b:Int->α->Bool)(nx:α->Int):Int->List α->Bool
 |_,[]=>true
 |z,x::l=>!b z x&&kp b nx (nx x) l
theorem yR{α:Type}{step:Int×Int->Option ((Int×Int)⊕(Unit⊕Bool))}{l:List α}(b:Int->α->Bool)(nx:α->Int)(O:∀(k:Nat) x z,l[k]?=some x->step (z,k)=some (if b z x then .inr (.inr false)else .inl (nx x,((k+1:Nat):Int))))(M:∀z,step (z,l.length)=some (.inr (.inl ())))(F:Int) :
  ay step (F,0)=some (if kp b nx F l then .inl ()else .inr false):=by
 have key:∀(n k:Nat)(z:Int),k+n=l.length->ay step (z,(k:Int))=some (if kp b nx z (l.drop k)then .inl ()else .inr false):=by
  intro n
  induction n with
  |zero=>
   intro k z N
   have:k=l.length:=by omega
   subst this
   rw[D1]
   exact gC (M z)
  |succ n Y=>
   intro k z N
   have G:k<l.length:=by omega
   have U:l[k]?=some l[k]:=c4 G
   rw[h9 G]
   have B:=O k l[k] z U
   generalize l[k]=x at B⊢
   have e:kp b nx z (x::l.drop (k+1))=(!b z x&&kp b nx (nx x) (l.drop (k+1))):=rfl
   rw[e]
   by_cases j:b z x=true
   ·rw[if_pos j]at B
    rw[j]
    exact gC B
   rw[if_neg j]at B
   have j:b z x=false:=by simpa using j
   rw[kU B,Y (k+1) _ (by omega),j]
   rfl
 exact key l.length 0 F (by omega)
def nE(bars z:Int)(r:Repeat):Bool:=decide (r.from_<z)||decide (r.aO<=r.from_)||decide (bars<r.aO)||decide (r.times<1)||decide (9<r.times)
def nj(bars:Int)(l:List Repeat):Bool:=decide (l.length<=100)&&kp (nE bars) Repeat.aO 0 l
def zi(a b c d e:Bool):ab a (some true) (ab b (some true) (ab c (some true) (ab d (some true) (some e))))=some (a||b||c||d||e):=by cases a<;>cases b<;>cases c<;>cases d<;>rfl
def Lu(a b c d e f:Bool):ab a (some true) (ab b (some true) (ab c (some true) (ab d (some true) (ab e (some true) (some f)))))=some (a||b||c||d||e||f):=by cases a<;>cases b<;>cases c<;>cases d<;>cases e<;>rfl
def DR(n:Nat):leI (n:Int) 100=decide (n<=100):=by
 unfold leI
 rw[hI,ek,ek]
 omega
theorem Wp{o:Order}(F:o.form.aX.length<=1048576):Aj o=some (nj o.form.bars o.form.aX):=by
 unfold Aj nj
 rw[yR (l:=o.form.aX) (nE o.form.bars) Repeat.aO (λk x z j=>by
  have B:=bx j
  dsimp only
  rw[ak (by simpa using B),aY (aS j),zi,af]
  unfold nE
  rw[aC (by omega)]
  cases (decide (x.from_<z)||decide (x.aO<=x.from_)||decide (o.form.bars<x.aO)||decide (x.times<1)||decide (9<x.times))<;>rfl) (λz=>by dsimp only;rw[aj (by simp)]) 0]
 generalize kp (nE o.form.bars) Repeat.aO 0 o.form.aX=q
 cases q
 ·rw[if_neg (by decide),fy,Qx]
 rw[if_pos rfl,eT,q0,DR]
def XX{l:List Repeat}(F:l.length<=1048576)(bars:Int):Aa (l,bars)=some (nj bars l):=by
 unfold Aa nj
 dsimp only
 by_cases h:100<l.length
 ·rw[ak (by simp;omega),dk (by omega)];rfl
 rw[aj (by simp;omega),db (by omega),o0,yR (l:=l) (nE bars) Repeat.aO (λk x z j=>by
  have B:=bx j
  dsimp only
  rw[aY (aS j),aY (aS j),aY (aS j),aY (aS j),aY (aS j),aY (aS j),aY (aS j)]
  rw[ak (by simpa using B),zi,af]
  unfold nE
  rw[aC (by omega)]
  cases (decide (x.from_<z)||decide (x.aO<=x.from_)||decide (bars<x.aO)||decide (x.times<1)||decide (9<x.times))<;>rfl) (λz=>by dsimp only;rw[aj (by simp)]) 0]
 cases kp (nE bars) Repeat.aO 0 l<;>rfl
def s8(l:List Repeat)(a b:Int):Bool:=l.any λr=>decide (r.from_<=a)&&decide (b<=r.aO)
def SD{l:List Repeat}(F:l.length<=1048576)(e:Ending):Az (l,e)=some (s8 l e.from_ e.aO):=by
 unfold Az Fl
 dsimp only
 rw[lE (l:=l) (λr=>decide (r.from_<=e.from_)&&decide (e.aO<=r.aO)) (λk x j=>by
  have B:=bx j
  unfold E5
  dsimp only
  rw[ak (by simpa using B),aY (aS j),gR,af,af]
  cases (decide (x.from_<=e.from_)&&decide (e.aO<=x.aO))
  ·rw[gA,aC (by omega)];rfl
  rfl) (by rw[aj (by simp)])]
 rfl
def XU{l:List Repeat}(F:l.length<=1048576)(a b:Int):z7 (l,a,b)=some (s8 l a b):=by
 unfold z7
 dsimp only
 rw[nX (l:=l) (λr=>decide (r.from_<=a)&&decide (b<=r.aO)) true (λk x j=>by
  have B:=bx j
  simp only[aS j,af]
  rw[ak (by simpa using B),gR,af]
  cases (decide (x.from_<=a)&&decide (b<=x.aO))
  ·rw[gA,aC (by omega)];rfl
  rfl) (by rw[aj (by simp)])]
 unfold s8
 cases (l.any λr=>decide (r.from_<=a)&&decide (b<=r.aO))<;>rfl
def qt(l:List Repeat)(z:Int)(e:Ending):Bool:=decide (e.from_<z)||decide (e.aO<=e.from_) || !s8 l e.from_ e.aO||decide (e.pass<1)||decide (9<e.pass)
def o8(f:Form):Bool:=decide (f.bz.length<=100)&&kp (qt f.aX) Ending.aO 0 f.bz
theorem Wo{o:Order}(F:o.form.aX.length<=1048576)(G:o.form.bz.length<=1048576):Ai o=some (o8 o.form):=by
 unfold Ai o8
 rw[yR (l:=o.form.bz) (qt o.form.aX) Ending.aO (λk x z j=>by
  have B:=bx j
  dsimp only
  rw[ak (by simpa using B),aY (aS j),SD F,af,zi,af]
  unfold qt
  rw[aC (by omega)]
  cases (decide (x.from_<z)||decide (x.aO<=x.from_) || !s8 o.form.aX x.from_ x.aO||decide (x.pass<1)||decide (9<x.pass))<;>rfl) (λz=>by dsimp only;rw[aj (by simp)]) 0]
 generalize kp (qt o.form.aX) Ending.aO 0 o.form.bz=q
 cases q
 ·rw[if_neg (by decide),fy,Qx]
 rw[if_pos rfl,eT,q0,DR]
def XS{f:Form}(F:f.aX.length<=1048576)(G:f.bz.length<=1048576):z6 f=some (o8 f):=by
 unfold z6 o8
 by_cases h:100<f.bz.length
 ·rw[ak (by simp;omega),dk (by omega)];rfl
 rw[aj (by simp;omega),db (by omega),o0,yR (l:=f.bz) (qt f.aX) Ending.aO (λk x z j=>by
  have B:=bx j
  dsimp only
  rw[ak (by simpa using B),aY (aS j),XU F,af,zi,af]
  unfold qt
  rw[aC (by omega)]
  cases (decide (x.from_<z)||decide (x.aO<=x.from_) || !s8 f.aX x.from_ x.aO||decide (x.pass<1)||decide (9<x.pass))<;>rfl) (λz=>by dsimp only;rw[aj (by simp)]) 0]
 cases kp (qt f.aX) Ending.aO 0 f.bz<;>rfl
def ly(l:List Repeat)(b:Int):Bool:=l.any λr=>decide (r.from_<b)&&decide (b<r.aO)
def Wm{o:Order}(F:o.form.aX.length<=1048576)(b:Int):tW (o,b)=some (ly o.form.aX b):=by
 unfold tW Fc Fm
 dsimp only
 rw[lE (l:=o.form.aX) (λr=>decide (r.from_<b)&&decide (b<r.aO)) (λk x j=>by
  have B:=bx j
  unfold E7
  dsimp only
  rw[ak (by simpa using B),aY (aS j),gR,af,af]
  cases (decide (x.from_<b)&&decide (b<x.aO))
  ·rw[gA,aC (by omega)];rfl
  rfl) (by rw[aj (by simp)])]
 rfl
def X0{l:List Repeat}(F:l.length<=1048576)(b:Int):tU (l,b)=some (ly l b):=by
 unfold tU
 dsimp only
 rw[nX (l:=l) (λr=>decide (r.from_<b)&&decide (b<r.aO)) true (λk x j=>by
  have B:=bx j
  simp only[aS j,af]
  rw[ak (by simpa using B),gR,af]
  cases (decide (x.from_<b)&&decide (b<x.aO))
  ·rw[gA,aC (by omega)];rfl
  rfl) (by rw[aj (by simp)])]
 unfold ly
 cases (l.any λr=>decide (r.from_<b)&&decide (b<r.aO))<;>rfl
def H2(a b:Jump):Cb a b=decide (a=b):=by
 obtain⟨j,k,B⟩:=a
 obtain⟨F,G,M⟩:=b
 rw[hI,ek,Jump.mk.injEq]
 show cV [.int .i64 j,.int .i64 k,.int .i64 B] [.int .i64 F,.int .i64 G,.int .i64 M]=true↔_
 simp[cV,ga]
def mJ(f:Form):Bool:=decide (f.jump=⟨0,0,0⟩)||(!(decide (f.jump.at_<1)||decide (f.bars<f.jump.at_)||decide (f.jump.to<0)||decide (f.jump.at_<=f.jump.to)||decide (f.jump.cW<=f.jump.to)||decide (f.bars<f.jump.cW)) && !ly f.aX f.jump.at_ && !ly f.aX f.jump.to && !ly f.aX f.jump.cW)
theorem Wz{o:Order}(j:o.form.aX.length<=1048576):Al o=some (mJ o.form):=by
 unfold Al mJ
 simp only[H2,Lu,af,Wm j]
 cases decide (o.form.jump=⟨0,0,0⟩)<;>cases (decide (o.form.jump.at_<1)||decide (o.form.bars<o.form.jump.at_)||decide (o.form.jump.to<0)||decide (o.form.jump.at_<=o.form.jump.to)||decide (o.form.jump.cW<=o.form.jump.to)||decide (o.form.bars<o.form.jump.cW))<;>cases ly o.form.aX o.form.jump.at_<;>cases ly o.form.aX o.form.jump.to<;>cases ly o.form.aX o.form.jump.cW<;>rfl
def XV{f:Form}(j:f.aX.length<=1048576):z8 f=some (mJ f):=by
 unfold z8 mJ
 simp only[H2,Lu,af,X0 j]
 cases decide (f.jump=⟨0,0,0⟩)<;>cases (decide (f.jump.at_<1)||decide (f.bars<f.jump.at_)||decide (f.jump.to<0)||decide (f.jump.at_<=f.jump.to)||decide (f.jump.cW<=f.jump.to)||decide (f.bars<f.jump.cW))<;>cases ly f.aX f.jump.at_<;>cases ly f.aX f.jump.to<;>cases ly f.aX f.jump.cW<;>rfl
def iy(bars:Int)(c:Cut):Prop:=0<=c.from_/\c.from_<c.aO/\c.aO<=bars/\0<=c.pass/\c.pass<=20
instance (bars:Int) (c:Cut):Decidable (iy bars c):=inferInstanceAs (Decidable (_/\_/\_/\_/\_))
def Ho(a b c d e:Bool):ab a (ab b (ab c (ab d (some e) (some false)) (some false)) (some false)) (some false)=some (a&&b&&c&&d&&e):=by cases a<;>cases b<;>cases c<;>cases d<;>rfl
def Wy(o:Order)(c:Cut):Ak (o,c)=some (decide (iy o.form.bars c)):=by
 unfold Ak iy
 dsimp only
 rw[Ho,af]
 exact jL (by simp[n3])
def XR(f:Form)(c:Cut):wu (f,c)=some (decide (iy f.bars c)):=by
 unfold wu iy
 dsimp only
 rw[Ho,af]
 exact jL (by simp[n3])
def yh(a b:Cut):kL 10 a b=decide (a=b):=by
 obtain⟨j,k,B⟩:=a
 obtain⟨F,G,M⟩:=b
 rw[hI,ek,Cut.mk.injEq]
 show cV [.int .i64 j,.int .i64 k,.int .i64 B] [.int .i64 F,.int .i64 G,.int .i64 M]=true↔_
 simp[cV,ga]
def RA(a b:Cut):HY a b=decide (a=b):=yh a b
def rf(m:List (Cut×Bool))(n:Cut)(v:Bool):List (Cut×Bool):=kc 10 m n v
def mW(m:List (Cut×Bool))(n:Cut)(v:Bool):Bool:=lS 10 m n v
theorem V2(n:Cut)(v:Bool):rf [] n v=[(n,v)]:=rfl
def V1(p:Cut×Bool)(m:List (Cut×Bool))(n:Cut)(v:Bool):rf (p::m) n v=if n=p.1 then(p.1,v)::m else p::rf m n v:=by
 show(if kL 10 n p.1=true then _ else _)=_
 rw[yh]
 by_cases h:n=p.1
 ·rw[if_pos h];exact if_pos (db h)
 rw[if_neg h];exact if_neg (λe=>h (hD e))
def vO(p:Cut×Bool)(m:List (Cut×Bool))(k:Cut)(z:Bool):mW (p::m) k z=if k=p.1 then p.2 else mW m k z:=by
 show((List.find? (λq=>kL 10 k q.1) (p::m)).map (·.2)).getD z=_
 rw[List.find?_cons]
 by_cases h:k=p.1
 ·rw[if_pos h]
  have:kL 10 k p.1=true:=(yh _ _).trans (db h)
  simp only[this];rfl
 rw[if_neg h]
 have:kL 10 k p.1=false:=(yh _ _).trans (dk h)
 simp only[this];rfl
def Dx{n:Int}(h: -9223372036854775808<=n/\n<=9223372036854775807):ai n=true:=db h
def J8{α:Type}{p q:Prop}[Decidable p][Decidable q]{x y:α}(h:p↔q):(if p then x else y)=if q then x else y:=by
 by_cases j:p
 ·rw[if_pos j,if_pos (h.1 j)]
 rw[if_neg j,if_neg (λk=>j (h.2 k))]
def KO(n:Cut)(v:Bool)(k:Cut)(z:Bool):∀(m:List (Cut×Bool)),mW (rf m n v) k z=if k=n then v else mW m k z
 | []=>by rw[V2,vO]
 |p::m=>by
  have B:=KO n v k z m
  rw[V1]
  by_cases h:n=p.1
  ·rw[if_pos h,vO,vO,h]
   by_cases j:k=p.1
   ·simp[j]
   simp[j]
  rw[if_neg h,vO,vO,B]
  by_cases j:k=p.1
  ·rw[if_pos j,if_pos j,if_neg (λe=>h (e.symm.trans j))]
  rw[if_neg j,if_neg j]
def sF(f:Form):Bool:=decide (f.ba.length<=100)&&decide ((∀c∈f.ba,iy f.bars c)/\f.ba.Nodup)
def JD{ok:Cut->Prop}[∀c,Decidable (ok c)]:∀(l:List Cut)(m:List (Cut×Bool)),dN (λ(m:List (Cut×Bool)) x=>if(!decide (ok x)||mW m x false)=true then(.inr (.inr false):_⊕(Unit⊕Bool))else .inl (rf m x true)) (λ_=>.inl ()) l m =
  if(∀c∈l,ok c/\mW m c false=false)/\l.Nodup then .inl ()else .inr false
 | [],m=>by simp[dN]
 |c::l,m=>by
  simp only[dN]
  by_cases j:ok c
  ·cases B:mW m c false with
   |true=>simp[j,B]
   |false=>
    simp only[j,B,abb,qn,Bool.or_false,hX,ih]
    refine(JD l _).trans ?_
    refine J8 ?_
    simp only[fb,iu,KO]
    constructor
    ·rintro⟨k,F⟩
     refine⟨λx hx=>?_,λM=>?_,F⟩
     ·rcases hx with rfl|hx
      ·exact⟨j,B⟩
      have:=k x hx
      by_cases e:x=c
      ·rw[if_pos e]at this;exact absurd this.2 (by simp)
      rw[if_neg e]at this;exact this
     have:=k c M
     rw[if_pos rfl]at this;exact absurd this.2 (by simp)
    rintro⟨k,F,G⟩
    refine⟨λx hx=>?_,G⟩
    have e:x≠c:=λe=>F (e▸hx)
    rw[if_neg e];exact k x (.inr hx)
  simp[j]
theorem Wn{o:Order}(U:o.form.ba.length<=1048576):Ah o=some (sF o.form):=by
 unfold Ah sF
 rw[dm (σ:=List (Cut×Bool)) (st:=λz k=>(k,z)) (l:=o.form.ba) (λm x=>if(!decide (iy o.form.bars x)||mW m x false)=true then .inr (.inr false)else .inl (rf m x true)) (λ_=>.inl ()) (λ_ _=>True) (λj x z M _=>by
  have O:=bx M
  dsimp only
  rw[ak (by simpa using O),aY (aS M),Wy]
  show aa (aa (some (decide (iy o.form.bars x))) λB=>ab (!B) (some true) (some (mW z x false))) (λ(B:Bool)=>ab B (some (.inr (.inr false):(Int×List (Cut×Bool))⊕(Unit⊕Bool))) (ae (ai ((j:Int)+1)) <|some (.inl (((j:Int)+1),(rf z x true)))))=_
  have N:∀(a m:Bool)(q:Unit⊕Bool)(w:List (Cut×Bool))(i:Int)(hi:ai i=true),aa (aa (some a) λB=>ab (!B) (some true) (some m)) (λ(B:Bool)=>ab B (some (.inr q:(Int×List (Cut×Bool))⊕(Unit⊕Bool))) (ae (ai i) <|some (.inl (i,w))))=some (if(!a||m)=true then .inr q else .inl (i,w)):=by
   intro a m q w i hi
   cases a<;>cases m<;>first|rfl|exact cq hi
  refine(N _ _ _ _ ((j:Int)+1) (Dx (by omega))).trans ?_
  cases (!decide (iy o.form.bars x)||mW z x false)<;>rfl) (λ_ _ _ _ _ _ _=>trivial) (λz _=>by dsimp only;rw[aj (by simp)]) [] trivial,JD]
 by_cases h:(∀c∈o.form.ba,iy o.form.bars c)/\o.form.ba.Nodup
 ·rw[if_pos ⟨λc F=>⟨h.1 c F,rfl⟩,h.2⟩,eT,db h,q0,DR]
 rw[if_neg (λG=>h ⟨λc F=>(G.1 c F).1,G.2⟩),fy,dk h,Qx]
def XT{l:List Cut}(F:l.length<=1048576)(c:Cut):wv (l,c)=some (ix l λx=>decide (x=c)):=by
 unfold wv
 dsimp only
 rw[mQ (l:=l) (λx=>decide (x=c)) (λk x j=>by
  have B:=bx j
  rw[ak (by simpa using B),aY (aS j),RA]
  cases decide (x=c)
  ·rw[gA,aC (by omega)];rfl
  rfl) (by rw[aj (by simp)])]
 exact qM l _
end Go.Proofs.YthhlipkkjippfaaGreatDoor
namespace Go.Proofs.YthhlipkkjippfaaGreatDoor
open Go Go.ag Go.Sy
attribute [local instance] bV cB
def fits(b:aM)(n:aq):Prop:=bI n.start/\bI n.length/\0<bp n.length/\bp n.start+bp n.length<=bp b.length/\(1<=n.id/\n.id<=1000000)/\(1<=n.part/\n.part<=1000000)/\(0<=n.bc/\n.bc<=9)/\(0<=n.bF/\n.bF<=20)/\kY n.aR
instance (b:aM) (n:aq):Decidable (fits b n):=inferInstanceAs (Decidable (_/\_/\_/\_/\_/\_/\_/\_/\_))
def CY(n:aq):Option aM->Prop
 |some b=>fits b n
 |none=>False
instance (n:aq):(o:Option aM)->Decidable (CY n o)
 |some b=>inferInstanceAs (Decidable (fits b n))
 |none=>inferInstanceAs (Decidable False)
def fQ(bars:List aM)(n:aq):Prop:=CY n (bars.find? λb=>decide (b.id=n.az))
instance (bars:List aM) (n:aq):Decidable (fQ bars n):=inferInstanceAs (Decidable (CY n _))
def K9{bars:List aM}{n:aq}(h:(bars.find? λb=>decide (b.id=n.az))=none):¬fQ bars n:=by unfold fQ;rw[h];exact λh=>h
def La{bars:List aM}{n:aq}{b:aM}(h:(bars.find? λb=>decide (b.id=n.az))=some b):fQ bars n↔fits b n:=by unfold fQ;rw[h];exact LL
def gX(bars:List aM)(l:List aq):Prop:=gv bars/\l.length<=20000/\(∀n∈l,fQ bars n)/\(l.map aq.id).Nodup
instance (bars:List aM) (l:List aq):Decidable (gX bars l):=inferInstanceAs (Decidable (_/\_/\_/\_))
def V8{b:aM}(B:bI b.length)(n:aq):zH (b,n)=some (decide (fits b n)):=by
 unfold zH
 dsimp only
 rw[vU,af,vU,af,vU,af,if_pos B]
 by_cases j:bI n.start
 ·rw[if_pos j]
  by_cases k:bI n.length
  ·rw[if_pos k]
   dsimp only
   have F:=lr j
   have t2:=lr k
   rw[aC (by omega)]
   simp only[Wb,EA,Wc,af,gR]
   refine jL ?_
   unfold fits
   simp[j,k,n3]
  rw[if_neg k]
  dsimp only
  unfold fits
  rw[ak rfl,aj rfl,af];simp[k]
 rw[if_neg j]
 dsimp only
 unfold fits
 rw[aj rfl,af];simp[j]
def XG{bars:List aM}(ab:gv bars)(n:aq):zS (bars,n)=some (decide (fQ bars n)):=by
 have al:=ab.1.2
 unfold zS
 dsimp only
 rw[L7 (by omega),af,Xz,af]
 simp only[XI,af,sX]
 rcases qP bars λb=>decide (b.id=n.az)with ⟨G,M⟩| ⟨k,b,G,M,ad,ai⟩
 ·rw[M,ak (by simp),dk (K9 G)]
 have ae:=(ab.2.1 b (dn G)).2.1
 rw[ad,ka.2 (La M)]
 by_cases N:kY n.aR/\(1<=n.id/\n.id<=1000000)/\(1<=n.part/\n.part<=1000000)/\(0<=n.bc/\n.bc<=9)/\(0<=n.bF/\n.bF<=20)
 ·obtain⟨O,U,Y,Z,aa⟩:=N
  rw[aj (by simp[O,U,Y,Z,aa]),wR,wR,af,af]
  unfold fits
  by_cases j:bI n.start
  ·by_cases F:bI n.length
   ·have ag:=lr j
    have t2:=lr F
    rw[if_pos j,if_pos F,aC (by omega),aY (aS G),wR,if_pos ae,af]
    simp only[gR,af]
    refine jL ?_
    simp[j,F,O,U,Y,Z,aa,ag]
   rw[if_neg F]
   simp only[j,F,hQ]
   rw[ak (by simp;exact p8 j),aj (by simp),af]
   simp
  rw[if_neg j,aj (by simp),af]
  simp[j]
 rw[ak (by
  rw[show ah (k:Int) 0=false from dk (by omega),q9]
  refine hB λB=>N ?_
  simp only[om,nh,tr,ek]at B
  exact⟨B.1,B.2.1,B.2.2.1,B.2.2.2.1,B.2.2.2.2⟩)]
 congr 1;symm
 exact dk λh=>N ⟨h.2.2.2.2.2.2.2.2,h.2.2.2.2.1,h.2.2.2.2.2.1,h.2.2.2.2.2.2.1,h.2.2.2.2.2.2.2.1⟩
def KX{bars:List aM}(U:bars.length<=1048576)(l:List aq):wg (bars,l)=some (decide (gX bars l)):=by
 unfold wg
 dsimp only
 rw[D9 U,af]
 by_cases G:gv bars
 ·rw[aj (by simp[G]),af]
  by_cases F:20000<l.length
  ·have:¬gX bars l:=λh=>by have:=h.2.1;omega
   rw[ak (db (by omega))];simp[this]
  rw[aj (dk (by omega)),K3 U,af]
  rw[dm (σ:=List (Int×Bool)) (st:=λz k=>(k,z)) (l:=l) (λz x=>if !decide (fQ bars x)||an z x.id false then .inr (.inr false)else .inl (aH z x.id true)) (λ_=>.inl ()) (λ_ _=>True) (λk x z Y _=>by
   have ab:=bx Y
   dsimp only
   rw[ak (by simpa using ab),aY (aS Y),Wd]
   have M:=Jn bars λb=>decide (b.id=x.az)
   rcases qP bars λb=>decide (b.id=x.az)with ⟨F,N⟩| ⟨j,b,F,N,Z,ad⟩
   ·rw[F]at M
    rw[M,ak (by simp),af,ak rfl,dk (K9 F)]
    rfl
   rw[ka.2 (La N)]
   rw[N]at M
   have aa:=(G.2.1 b (dn F)).2.1
   rw[M,aj (by simp),K4 G.2.2 (by rw[M];rfl),Z,aY (aS F),V8 aa,af]
   rw[sX,af,Bool.or_comm]
   by_cases B:(!decide (fits b x)||an z x.id false)=true
   ·rw[ak B,if_pos B]
   rw[aj (by simpa using B),if_neg B]
   rw[aC (by omega)];rfl) (λ_ _ _ _ _ _ _=>trivial) (λz _=>by dsimp only;rw[aj (by simp)]) [] trivial,C7]
  by_cases B:(∀x∈l,(!decide (fQ bars x))=false)/\(l.map aq.id).Nodup/\∀x∈l,an ([]:List (Int×Bool)) x.id false=false
  ·rw[if_pos B]
   have:gX bars l:=⟨G,by omega,λn O=>by simpa using B.1 n O,B.2.1⟩
   simp[this,eT]
  rw[if_neg B]
  have:¬gX bars l:=λh=>B ⟨λn O=>by simp[h.2.2.1 n O],h.2.2.2,λn _=>rfl⟩
  simp[this,fy]
 have:¬gX bars l:=λh=>G h.1
 rw[ak (by simp[G]),af,ak rfl];simp[this]
def XH(bars:List aM)(l:List aq):zT (bars,l)=some (decide (gX bars l)):=by
 unfold zT
 dsimp only
 rw[L6,af]
 by_cases G:gv bars
 ·rw[aj (by simp[G]),af]
  by_cases aa:20000<l.length
  ·have:¬gX bars l:=λh=>by have:=h.2.1;omega
   rw[ak (db (by omega))];simp[this]
  rw[aj (dk (by omega)),pw l.length (l8 (λn=>!decide (fQ bars n)) (λx y=>decide (x.id=y.id)) l) false (λk Y=>by
   have O:l[k]?=some l[k]:=c4 Y
   generalize l[k]=x at O
   rw[ak (by simpa using Y),aY (aS O),XG G,af]
   unfold l8
   rw[O]
   dsimp only
   by_cases B:fQ bars x
   ·rw[aj (by simp[B]),nX (l:=l.take k) (λy=>decide (y.id=x.id)) (.inr (.inr false)) (λj y U=>by
     obtain⟨Z,U⟩:=NP U
     rw[ak (by simpa using Z),aY (aS U),aY (aS O)]
     by_cases N:y.id=x.id
     ·rw[ak (by simp[N])];simp[N]
     ·rw[aj (by simp[N]),aC (by omega)];simp[N]) (by
     rw[fa,pa (by omega),aj (by simp)])]
    by_cases F:((l.take k).any λy=>decide (y.id=x.id))=true
    ·rw[if_pos F,if_pos (by rw[F];simp)];rfl
    rw[if_neg F,if_neg (by simp[B]at F⊢;exact F),eT,aC (by omega)];rfl
   rw[ak (by simp[B]),if_pos (by simp[B])];rfl) (by rw[aj (by simp)])]
  have key:=F3 (λn=>!decide (fQ bars n)) (λx y=>decide (x.id=y.id)) l
  rw[FE aq.id]at key
  by_cases M:gX bars l
  ·rw[if_neg]
   ·simp[M,eT]
   rw[key];exact λh=>h ⟨λn B=>by simp[M.2.2.1 n B],M.2.2.2⟩
  rw[if_pos]
  ·simp[M,fy]
  rw[key];exact λh=>M ⟨G,by omega,λn B=>by simpa using h.1 n B,h.2⟩
 have:¬gX bars l:=λh=>G h.1
 rw[ak (by simp[G]),af,ak rfl];simp[this]
def pF{bars:List aM}{n:aq}(h:fQ bars n):∃(k:Nat)(b:aM),bars[k]?=some b/\b.id=n.az/\fits b n/\ix bars (λb=>decide (b.id=n.az))=(k:Int):=by
 unfold fQ at h
 rcases qP bars λb=>decide (b.id=n.az)with ⟨j,B⟩| ⟨k,b,j,B,F,G⟩
 ·rw[j]at h;exact h.elim
 rw[B]at h;exact⟨k,b,j,by simpa using G,h,F⟩
def y8{bars:List aM}(F:gv bars){n:aq}(h:fQ bars n):an (dP bars) n.az 0=ix bars (λb=>decide (b.id=n.az))/\0<=an (dP bars) n.az 0/\an (dP bars) n.az 0<=4000:=by
 obtain⟨k,b,j,G,M,B⟩:=pF h
 have e:an (dP bars) n.az 0=ix bars (λb=>decide (b.id=n.az)):=K4 F.2.2 (by rw[hU];exact⟨b,dn j,by simp[G]⟩)
 have N:=bx j
 have:=F.1.2
 exact⟨e,by rw[e,B];omega,by rw[e,B];omega⟩
def Wi{bars:List aM}(B:gv bars){n:aq}(h:fQ bars n):oh (dP bars) n:=by
 obtain⟨k,b,F,G,j,M⟩:=pF h
 obtain⟨e,N,O⟩:=y8 B h
 unfold fits kY at j
 unfold oh
 refine⟨by omega,by omega,j.1,by omega,j.2.2.2.2.2.2.2.2.1,by omega⟩
theorem L8{bars:List aM}(B:gv bars){n:aq}(h:fQ bars n):wo (bars,n)=some (nK (dP bars) n):=by
 obtain⟨k,b,F,G,j,M⟩:=pF h
 obtain⟨e,N,O⟩:=y8 B h
 have:=B.1.2
 unfold wo
 dsimp only
 rw[L7 (by omega),af,wR,if_pos j.1,af,ug j.2.2.2.2.2.2.2.2.1,af]
 unfold nK
 rw[e]
def zk(z:Int):Unit⊕Bool:=if z=0 then .inl ()else .inr (decide (z<0))
theorem Rz{x y:List Int}(ag:x.length=y.length)(al:x.length<=1000):ay (λj:Int=>ab (ah j (x.length:Int)) (aa (au x j) λM=>aa (au y j) λN=>ab (!(aA M N)) (aa (au x j) λO=>aa (au y j) λU=>some (.inr (.inr (ah O U)))) (ae (ai (j+1)) <|some (.inl (j+1)))) (some (.inr (.inl ())))) 0=some (zk (cQ (x.zipWith (· - ·) y))):=by
 have key:∀(n k:Nat),k+n=x.length->ay (λj:Int=>ab (ah j (x.length:Int)) (aa (au x j) λM=>aa (au y j) λN=>ab (!(aA M N)) (aa (au x j) λO=>aa (au y j) λU=>some (.inr (.inr (ah O U)))) (ae (ai (j+1)) <|some (.inl (j+1)))) (some (.inr (.inl ())))) (k:Int)=some (zk (cQ ((x.drop k).zipWith (· - ·) (y.drop k)))):=by
  intro n
  induction n with
  |zero=>
   intro k ad
   rw[lB (by omega)]
   refine gC ?_
   rw[aj (by simp;omega)];rfl
  |succ n af=>
   intro k ad
   have B:k<x.length:=by omega
   have Y:k<y.length:=by omega
   have F:x[k]?=some x[k]:=c4 B
   have G:y[k]?=some y[k]:=c4 Y
   rw[h9 B,h9 Y]
   simp only[List.zipWith_cons_cons,cQ]
   generalize x[k]=u at *
   generalize y[k]=v at *
   by_cases Z:u=v
   ·rw[kU (z':=((k+1:Nat):Int)) (by
     rw[ak (by simpa using B),aY (aS F),aY (aS G),aj (by simp[Z]),aC (by omega)];rfl),if_pos (by omega)]
    exact af (k+1) (by omega)
   refine gC ?_
   rw[ak (by simpa using B),aY (aS F),aY (aS G),ak (by simp[Z]),aY (aS F),aY (aS G),if_neg (by omega)]
   unfold zk
   rw[if_neg (by omega)]
   congr 3
   rw[ka];omega
 have:=key x.length 0 (by omega)
 simpa using this
def XF{bars:List aM}(j:gv bars){a b:aq}(k:fQ bars a)(B:fQ bars b):zR (bars,a,b)=some (decide (cr (nK (dP bars)) a b<0)):=by
 unfold zR
 dsimp only
 rw[L8 j k,L8 j B,af,af,Rz (x:=nK (dP bars) a) (y:=nK (dP bars) b) rfl (by rw[vR];omega)]
 unfold zk cr
 by_cases h:cQ ((nK (dP bars) a).zipWith (· - ·) (nK (dP bars) b))=0
 ·rw[if_pos h,h];rfl
 rw[if_neg h];rfl
theorem Ez{at_:List (Int×Int)}{l:List aq}(G:(l.map aq.id).Nodup):gr (cr (nK at_)) l:=by
 intro a B b F j k
 have h:=Cp (vR at_) j k
 unfold nK at h
 simp only[q6]at h
 exact nQ G B F h.2.2.2.2.2.1
end Go.Proofs.YthhlipkkjippfaaGreatDoor
namespace Go.Proofs.YthhlipkkjippfaaGreatDoor
open Go Go.ag Go.Sy
attribute [local instance] bV cB
noncomputable def oG(at_:List (Int×Int))(xs:List aq):List aq:=fX (cr (nK at_)) xs
def Cq(at_:List (Int×Int)):Go.Sort.SWO (Go.Proofs.ltOf (cr (nK at_))):=Bj (vR at_)
def Sh{at_:List (Int×Int)}{a b:aq}(h:cr (nK at_) a b<0):¬cr (nK at_) b a<0:=by
 have:=C4 (nK at_ a) (nK at_ b) rfl
 unfold cr at *
 rw[this];omega
def Sj(at_:List (Int×Int))(a b c:aq)(j:cr (nK at_) a b<0)(k:cr (nK at_) b c<0):cr (nK at_) a c<0:=
 C6 (nK at_ a) (nK at_ b) (nK at_ c) rfl rfl j k
def jX(at_:List (Int×Int))(z:List aq)(x:aq):List aq:=UQ (λy=>decide (cr (nK at_) x y<0)) z x
theorem No{at_:List (Int×Int)}{l m:List aq}(k:m.Pairwise λa b=>¬cr (nK at_) b a<0)(j:m.Perm l)(B:(l.map aq.id).Nodup):m=oG at_ l:=
 xb k (nq (Cq at_) l) (j.trans (jM _ l).symm) ((Ez B).perm j.symm)
def sS(at_:List (Int×Int))(l:List aq)(k:Nat):Bool:=match l[k]?,l[k+1]? with
 |some a,some b=>!decide (cr (nK at_) a b<0)
 |_,_=>false
theorem Ui{at_:List (Int×Int)}{l:List aq}(G:(l.map aq.id).Nodup):(List.range (l.length-1)).any (sS at_ l)=true↔¬oG at_ l=l:=by
 constructor
 ·intro h M
  obtain⟨k,N,B⟩:=hU.1 h
  have N:=hR.1 N
  have F:l[k]?=some l[k]:=c4 (by omega)
  have j:l[k+1]?=some l[k+1]:=c4 (by omega)
  unfold sS at B
  rw[F,j]at B
  simp only[hC,hV]at B
  have O:=nq (Cq at_) l
  rw[show fX (cr (nK at_)) l=l from M]at O
  have U:=(p0.1 O) k (k+1) (by omega) (by omega) (by omega)
  have Y:=Ez (at_:=at_) G _ (hT (h:=(by omega:k<l.length))) _ (hT (h:=(by omega:k+1<l.length))) B U
  have ab:l.Nodup:=List.Pairwise.of_map aq.id (λa b Z=>λe=>Z (by rw[e])) G
  have:=(p0.1 ab) k (k+1) (by omega) (by omega) (by omega)
  exact this Y
 intro M
 refine hB λad=>M ?_
 symm
 refine No ?_ (List.Perm.refl _) G
 have:l.Pairwise λa b=>cr (nK at_) a b<0:=Cs (Sj at_) λk a b F j=>by
  refine hB λaa=>ad (hU.2 ⟨k,hR.2 ?_,?_⟩)
  ·have:=bx j;omega
  unfold sS;rw[F,j];simp[aa]
 exact this.imp λh=>Sh h
def VB{ρ:Type}{step:Int->Option (Int⊕(Unit⊕ρ))}(n:Nat)(p:Nat->Bool)(r:ρ)(h:∀(k:Nat),k<n->step ((k:Int)+1)=some (if p k=true then .inr (.inr r)else .inl ((k:Int)+1+1)))(F:step ((n:Int)+1)=some (.inr (.inl ()))) :
  ay step 1=some (if(List.range n).any p=true then .inr r else .inl ()):=by
 have:=dm (σ:=Unit) (st:=λ_ k=>k+1) (step:=step) (l:=List.range n) (λ_ x=>if p x=true then .inr (.inr r)else .inl ()) (λ_=>.inl ()) (λ_ _=>True) (λk x z j _=>by
  have G:=bx j
  rw[kz (by simpa using G)]at j
  injection j with j;subst j
  rw[h k (by simpa using G)];split<;>rename_i B<;>simp[B]) (λ_ _ _ _ _ _ _=>trivial) (λz _=>by rw[zc];exact F) () trivial
 rw[show(0:Int)+1=1 from rfl]at this
 rw[this]
 congr 1
 clear this h F
 generalize List.range n=l
 induction l with
 |nil=>rfl
 |cons x l M=>
  simp only[dN,List.any_cons]
  by_cases B:p x=true
  ·simp[B]
  simp only[B,q9]
  simpa using M
def fV(i:Interval):Prop:=(-21<=i.steps/\i.steps<=21)/\(-36<=i.cg/\i.cg<=36)/\(-12<=7*i.cg-12*i.steps/\7*i.cg-12*i.steps<=12)
instance (i:Interval):Decidable (fV i):=inferInstanceAs (Decidable (_/\_/\_))
def ez(p:Part):Prop:=(1<=p.id/\p.id<=1000000)/\(0<=p.nm/\p.nm<=99)/\(0<=p.of/\p.of<=1000000)/\(-2<=p.aZ/\p.aZ<=2)/\(1<=p.ed/\p.ed<=40)/\fV p.shift/\bR p.low/\bR p.high/\p.of≠p.id/\(p.of=0->p.aZ=0)/\num p.low<=num p.high
instance (p:Part):Decidable (ez p):=inferInstanceAs (Decidable (_/\_/\_/\_/\_/\_/\_/\_/\_/\_/\_))
def dw(i:Interval):Prop:=(-70<=i.steps/\i.steps<=70)/\(-120<=i.cg/\i.cg<=120)
instance (i:Interval):Decidable (dw i):=inferInstanceAs (Decidable (_/\_))
def XC(n lo hi:Int):zP (n,lo,hi)=some (decide (lo<=n/\n<=hi)):=lz n lo hi
def XB(i:Interval):zO i=some (if dw i then(7*i.cg-12*i.steps,0)else(0,1)):=by
 unfold zO EZ
 simp only[XC,af,gR]
 by_cases h:dw i
 ·have j:=h
  unfold dw at j
  rw[if_pos h,aj (by simp;omega),aC (by omega),aC (by omega),aC (by omega)]
 have j:=h
 unfold dw at j
 rw[if_neg h,ak (by simp;omega)]
def DI(i:Interval):tJ i=some (if dw i then(7*i.cg-12*i.steps,0)else(0,1)):=by
 unfold tJ ER ou ru jH
 simp only[zM,af,gR]
 by_cases h:dw i
 ·have j:=h
  unfold dw at j
  rw[if_pos h,aj (by simp;omega),aC (by omega),aC (by omega),af]
  rw[af,aj (by simp),aC (by omega),aC (by omega),aC (by omega)]
 have j:=h
 unfold dw at j
 rw[if_neg h,ak (by simp;omega),af]
 dsimp only
 rw[af,ak (by simp)]
def Zh(i:Interval):rB i=some (decide (fV i)):=by
 unfold rB
 rw[DI,af]
 by_cases h:dw i
 ·rw[if_pos h]
  dsimp only
  simp only[xf,af,gR]
  congr 1
  unfold fV
  rw[hI]
  simp[n3]
 rw[if_neg h]
 dsimp only
 rw[aj (by simp),af]
 congr 1;symm
 exact dk λj=>h (by unfold fV at j;unfold dw;omega)
def XL(i:Interval):zW i=some (decide (fV i)):=by
 unfold zW
 rw[XB,af]
 by_cases h:dw i
 ·rw[if_pos h]
  dsimp only
  simp only[AV,af,gR]
  congr 1
  unfold fV
  rw[hI]
  simp[n3]
 rw[if_neg h]
 dsimp only
 rw[aj (by simp),af]
 congr 1;symm
 exact dk λj=>h (by unfold fV at j;unfold dw;omega)
def ub(p:Part):Prop:=(1<=p.id/\p.id<=1000000)/\(0<=p.nm/\p.nm<=99)/\(0<=p.of/\p.of<=1000000)/\(-2<=p.aZ/\p.aZ<=2)/\(1<=p.ed/\p.ed<=40)
instance (p:Part):Decidable (ub p):=inferInstanceAs (Decidable (_/\_/\_/\_/\_))
def pQ(p:Part):Prop:=p.of≠p.id/\(p.of=0->p.aZ=0)
instance (p:Part):Decidable (pQ p):=inferInstanceAs (Decidable (_/\_))
def AJ(p:Part):Prop:=bR p.low/\bR p.high/\num p.low<=num p.high
instance (p:Part):Decidable (AJ p):=inferInstanceAs (Decidable (_/\_/\_))
def lg(p:Part):ez p↔ub p/\pQ p/\fV p.shift/\AJ p:=by
 unfold ez ub pQ AJ
 constructor
 ·rintro⟨j,F,G,M,N,O,U,Y,Z,k,B⟩;exact⟨⟨j,F,G,M,N⟩,⟨Z,k⟩,O,U,Y,B⟩
 rintro⟨⟨j,F,G,M,N⟩,⟨Z,k⟩,O,U,Y,B⟩;exact⟨j,F,G,M,N,O,U,Y,Z,k,B⟩
def YR(p:Part):(aa (tY p.id) λj=>ab j (aa (iE (p.nm,(0,99))) λk=>ab k (aa (iE (p.of,(0,1000000))) λB=>ab B (aa (iE (p.aZ,((-2),2))) λF=>ab F (aa (iE (p.ed,(1,40))) λG=>some G) (some false)) (some false)) (some false)) (some false))=some (decide (ub p)):=by
 simp only[Na,xf,af,gR]
 refine jL ?_
 unfold ub
 simp only[dd,ek]
def YS(p:Part)(b:Bool):(ab (!b) (some true) (ab (aA p.of p.id) (some true) (ab (aA p.of 0) (ab (!(aA p.aZ 0)) (some true) (aa (rB p.shift) λF=>some (!F))) (aa (rB p.shift) λF=>some (!F)))))=some (!(b&&decide (pQ p)&&decide (fV p.shift))):=by
 rw[Zh]
 simp only[af]
 generalize decide (fV p.shift)=s
 cases b
 ·rfl
 by_cases j:p.of=p.id
 ·have:¬pQ p:=λh=>h.1 j
  rw[dk this,aj (c:= !true) rfl,ak (by simp[j])];rfl
 rw[aj (c:= !true) rfl,aj (dk j)]
 by_cases k:p.of=0
 ·by_cases B:p.aZ=0
  ·have:pQ p:=⟨j,λ_=>B⟩
   rw[db this,ak (db k),aj (by simp[B])];simp
  have:¬pQ p:=λh=>B (h.2 k)
  rw[dk this,ak (db k),ak (by simp[B])];simp
 have:pQ p:=⟨j,λh=>absurd h k⟩
 rw[db this,aj (dk k)];simp
def YT(p:Part):(aa (gY p.low) λB=>ab B (aa (gY p.high) λF=>ab F (aa (mZ p.low) λG=>aa (mZ p.high) λM=>some (leI G M)) (some false)) (some false))=some (decide (AJ p)):=by
 simp only[lW,af]
 by_cases j:bR p.low
 ·rw[ak (db j)]
  by_cases k:bR p.high
  ·rw[ak (db k),w9 j,w9 k,af,af]
   congr 1;rw[ka];exact⟨λh=>⟨j,k,h⟩,λh=>h.2.2⟩
  rw[aj (dk k)];congr 1;symm;exact dk λh=>k h.2.1
 rw[aj (dk j)];congr 1;symm;exact dk λh=>j h.1
def YU(p:Part):Ar p=some (decide (ez p)):=by
 unfold Ar
 rw[YR,af,YS,af,YT,af,UE,ka.2 (lg p)]
 refine jL ?_
 simp only[Bool.not_not,dd,ek,n3]
def XJ(p:Part):zU p=some (decide (ez p)):=by
 unfold zU
 simp only[AV,XL,L4,af,sX]
 by_cases N:ub p/\fV p.shift/\bR p.low/\bR p.high
 ·have Z:=N
  obtain⟨⟨O,ab,U,k,ad⟩,Y,B,F⟩:=N
  rw[aj (by simp only[O,ab,U,k,ad,db Y,db B,db F,and_self,abb];rfl)]
  rw[ug B,ug F]
  simp only[af]
  by_cases j:p.of=p.id
  ·rw[aj (by simp[j]),af]
   congr 1;symm;exact dk λh=>((lg p).1 h).2.1.1 j
  rw[ak (by simp[j])]
  by_cases G:p.of=0
  ·rw[aj (by simp[G])]
   by_cases M:p.aZ=0
   ·rw[ak (db M),af]
    congr 1;rw[ka]
    exact⟨λh=>(lg p).2 ⟨Z.1,⟨j,λ_=>M⟩,Y,B,F,h⟩,λh=>((lg p).1 h).2.2.2.2.2⟩
   rw[aj (dk M),af]
   congr 1;symm;exact dk λh=>M (((lg p).1 h).2.1.2 G)
  rw[ak (by simp[G]),af]
  congr 1;rw[ka]
  exact⟨λh=>(lg p).2 ⟨Z.1,⟨j,λh=>absurd h G⟩,Y,B,F,h⟩,λh=>((lg p).1 h).2.2.2.2.2⟩
 rw[ak (by
  refine hB λaa=>N ?_
  simp only[om,nh,tr]at aa
  obtain⟨ae,ag,ah,ai,al,an,ao,aq⟩:=aa
  exact⟨⟨hD ae,hD ag,hD ah,hD ai,hD al⟩,hD an,hD ao,hD aq⟩)]
 congr 1;symm;exact dk λh=>N (by
  obtain⟨O,_,U,k⟩:=(lg p).1 h
  exact⟨O,U,k.1,k.2.1⟩)
end Go.Proofs.YthhlipkkjippfaaGreatDoor
namespace Go.Proofs.YthhlipkkjippfaaGreatDoor
open Go Go.ag Go.Sy
attribute [local instance] bV cB
def nY(l:List Part)(p:Part):Bool:= !decide (p.of=0) && !(l.any λq=>decide (q.id=p.of)&&decide (q.of=0))
def kj(l:List Part):Prop:=(1<=l.length/\l.length<=60)/\(∀p∈l,ez p)/\(l.map Part.id).Nodup/\(l.any (nY l))=false
instance (l:List Part):Decidable (kj l):=inferInstanceAs (Decidable (_/\_/\_/\_))
def C8{α:Type}(id:α->Int):∀(l:List α)(z:List (Int×α)),(∀k∈ef z,k∉l.map id)->(l.map id).Nodup->l.foldl (λm x=>aH m (id x) x) z=z++iS id l
 | [],z,_,_=>by simp[iS]
 |x::l,z,h,B=>by
  simp only[fv,iu,fb,not_or]at h B
  have F:id x∉ef z:=λF=>(h _ F).1 rfl
  rw[List.foldl_cons,KT x F,C8 id l _ (λk j=>?_) B.2]
  ·simp[iS]
  simp only[ef,v7,h5,fv,abj,p5]at j
  rcases j with j|rfl
  ·exact(h k j).2
  exact B.1
def JG{α:Type}(id:α->Int):∀(l:List α)(z:List (Int×α)),(l.foldl (λm x=>aH m (id x) x) z).length<=z.length+l.length/\((l.foldl (λm x=>aH m (id x) x) z).length=z.length+l.length->(l.map id).Nodup/\∀k∈ef z,k∉l.map id)
 | [],z=>by simp
 |x::l,z=>by
  obtain⟨U,M⟩:=JG id l (aH z (id x) x)
  have G:=yZ (id x) x z
  rw[List.foldl_cons,List.length_cons]
  by_cases B:dq z (id x)=true
  ·rw[if_pos B]at G
   exact⟨by omega,λh=>by omega⟩
  rw[if_neg B]at G
  refine⟨by omega,λh=>?_⟩
  obtain⟨N,F⟩:=M (by omega)
  have O:id x∉ef z:=λj=>B ((vP _ _).2 j)
  simp only[fv,iu,fb,not_or]
  refine⟨⟨F (id x) ((yY _ _ _ _).2 (.inl rfl)),N⟩,λk j=>⟨λe=>O (e▸j),F k ((yY _ _ _ _).2 (.inr j))⟩⟩
def Ic{α:Type}(id:α->Int)(l:List α)(n:Int):dq (iS id l) n=l.any λx=>decide (id x=n):=by
 rw[hI,vP,hU]
 unfold iS ef
 simp only[k6,hz,Function.comp,ek]
def Ce{α:Type}(id:α->Int)(z:α):∀(l:List α)(n:Int),an (iS id l) n z=(l.find? λx=>decide (id x=n)).getD z
 | [],n=>rfl
 |x::l,n=>by
  have j:=Ce id z l n
  unfold iS at *
  rw[fv,qX,List.find?_cons]
  by_cases h:id x=n
  ·subst h;simp
  rw[if_neg h,j,dk h]
theorem mE{α:Type}{id:α->Int}{l:List α}(G:(l.map id).Nodup){x:α}(k:x∈l):(l.find? λy=>decide (id y=id x))=some x:=by
 cases j:l.find? λy=>decide (id y=id x)with
 |none=>
  have:=qd.1 j x k
  simp at this
 |some y=>
  have B:=hE j
  have F:=k7 j
  rw[nQ G B k (by simpa using F)]
def VE{l:List Part}(M:(l.map Part.id).Nodup)(p:Part):Ap (p,iS Part.id l)=some (nY l p):=by
 unfold Ap nY
 dsimp only
 rw[Ic,Ce]
 by_cases k:p.of=0
 ·rw[aj (by simp[k]),af];simp[k]
 rw[ak (by simp[k]),dk k]
 cases B:l.any λx=>decide (x.id=p.of)
 ·rw[ak (c:= !false) rfl,af]
  have:(l.any λq=>decide (q.id=p.of)&&decide (q.of=0))=false:=by
   rw[mb]at B⊢
   intro x O
   have:=B x O
   simp at this
   simp[this]
  rw[this];rfl
 rw[aj (c:= !true) rfl,af]
 obtain⟨q,F,j⟩:=hU.1 B
 have j:q.id=p.of:=by simpa using j
 have G:=mE M F
 rw[j]at G
 rw[G]
 congr 1
 have:(l.any λq=>decide (q.id=p.of)&&decide (q.of=0))=decide (q.of=0):=by
  rw[hI,hU]
  constructor
  ·rintro⟨r,N,h⟩
   simp only[dd,ek]at h
   rw[nQ M F N (by rw[j,h.1])];simpa using h.2
  intro h;exact⟨q,F,by simp[j];simpa using h⟩
 rw[this];rfl
def SA{l:List Part}(G:l.length<=1000000)(F:(l.map Part.id).Nodup):Ay (l,iS Part.id l)=some (l.any (nY l)):=by
 unfold Ay
 dsimp only
 have:AE (l,iS Part.id l)=some (ix l (nY l)):=by
  unfold AE
  dsimp only
  rw[mQ (l:=l) (nY l) (λk x j=>by
   have B:=bx j
   rw[ak (by simpa using B),aY (aS j),VE F,af]
   cases nY l x
   ·rw[aj rfl,aC (by omega)];simp
   rw[ak rfl];simp) (by rw[aj (by simp)])]
  exact qM l _
 rw[this,af]
 exact ea some (Dw _ _)
def vl{α σ ρ:Type}(ok:α->Bool)(g:σ->α->σ)(r:ρ):∀(l:List α)(z:σ),dN (λz x=>if ok x=true then .inl (g z x)else(.inr (.inr r):σ⊕(σ⊕ρ))) (λz=>.inl z) l z=if l.all ok=true then .inl (l.foldl g z)else .inr r
 | [],z=>rfl
 |x::l,z=>by
  have j:=vl ok g r l (g z x)
  simp only[dN]
  by_cases h:ok x=true
  ·rw[if_pos h]
   dsimp only
   rw[j];simp[h]
  rw[if_neg h];simp[h]
def Yy{l:List Part}:Ao l=some (decide (kj l)):=by
 unfold Ao
 rw[xf,af]
 by_cases G:1<=l.length/\l.length<=60
 ·rw[aj (by rw[db (by omega)];rfl)]
  rw[dm (σ:=List (Int×Part)) (st:=λz k=>(k,z)) (l:=l) (λz x=>if decide (ez x)=true then .inl (aH z x.id x)else .inr (.inr false)) (λz=>.inl z) (λ_ _=>True) (λk x z M _=>by
   have U:=bx M
   dsimp only
   rw[ak (by simpa using U),aY (aS M),YU,af]
   by_cases h:ez x
   ·rw[aj (by simp[h]),aC (by omega)];simp[h]
   rw[ak (by simp[h])];simp[h]) (λ_ _ _ _ _ _ _=>trivial) (λz _=>by dsimp only;rw[aj (by simp)]) [] trivial,vl]
  by_cases B:(l.all λx=>decide (ez x))=true
  ·rw[if_pos B,eT]
   have O:∀p∈l,ez p:=λp F=>by simpa using dT.1 B p F
   obtain⟨Y,N⟩:=JG Part.id l []
   by_cases j:(l.map Part.id).Nodup
   ·rw[C8 Part.id l [] (by simp) j,List.nil_append,ak (by simp[iS]),SA (by omega) j,af,af]
    congr 1
    rw[hI,decide_eq_true_iff]
    simp only[hC]
    exact⟨λh=>⟨G,O,j,h⟩,λh=>h.2.2.2⟩
   rw[aj (by
    refine dk λh=>j (N ?_).1
    simp;omega),af]
   congr 1;symm;exact dk λh=>j h.2.2.1
  rw[if_neg B,fy]
  congr 1;symm
  exact dk λh=>B (dT.2 λp F=>by simpa using h.2.1 p F)
 rw[ak (by rw[dk (by omega)];rfl)]
 congr 1;symm;exact dk λh=>G h.1
theorem Ma{l:List Part}(F:l.length<=1000000)(id:Int):tR (l,id)=some (ix l λp=>decide (p.id=id)):=by
 unfold tR
 dsimp only
 rw[mQ (l:=l) (λb=>decide (b.id=id)) (λk x j=>by
  have B:=bx j
  rw[ak (by simpa using B),aY (aS j)]
  by_cases h:x.id=id
  ·rw[ak (by simp[h])];simp[h]
  rw[aj (by simp[h]),aC (by omega)];simp[h]) (by rw[aj (by simp)])]
 exact qM l _
def Kf{α:Type}(p:α->Bool):∀(l:List α)(k:Nat)(x:α),l[k]?=some x->p x=true->(ix l p=(k:Int)↔((l.take k).any p)=false)
 | [],k,x,h,_=>by simp at h
 |y::l,0,x,h,j=>by
  simp at h;subst h
  simp[ix,p6,j]
 |y::l,k+1,x,h,j=>by
  have B:=Kf p l k x (by simpa using h) j
  rw[List.take_succ_cons,List.any_cons]
  unfold ix at B⊢
  rw[p6]
  cases F:p y
  ·simp only[q9,hX,ih]
   rw[<-B]
   cases l.findIdx? p with
   |none=>simp only[Option.map_none];constructor<;>intro h<;>omega
   |some i=>simp only[Option.map_some];constructor<;>intro h<;>omega
  simp;omega
def tw(l:List Part)(p:Part):Bool:= !decide (p.of=0)&&(match l.find? λq=>decide (q.id=p.of)with|some q=>!decide (q.of=0)|none=>true)
def KC{l:List Part}(F:(l.map Part.id).Nodup)(p:Part):tw l p=nY l p:=by
 unfold tw nY
 congr 1
 cases j:l.find? λq=>decide (q.id=p.of)with
 |none=>
  have:(l.any λq=>decide (q.id=p.of)&&decide (q.of=0))=false:=by
   rw[mb]
   intro x M
   have:=qd.1 j x M
   simp at this;simp[this]
  rw[this];rfl
 |some q=>
  have k:=hE j
  have B:q.id=p.of:=by simpa using k7 j
  have:(l.any λq=>decide (q.id=p.of)&&decide (q.of=0))=decide (q.of=0):=by
   rw[hI,hU]
   constructor
   ·rintro⟨r,G,h⟩
    simp only[dd,ek]at h
    rw[nQ F k G (by rw[B,h.1])];simpa using h.2
   intro h;exact⟨q,k,by simp[B];simpa using h⟩
  rw[this]
def Yz{α:Type}{q:α->Bool}{r:α->α->Bool}{l:List α}{k:Nat}{x:α}(h:l[k]?=some x):l8 q r l k=(q x||(l.take k).any λy=>r y x):=by unfold l8;rw[h]
def XK{l:List Part}:zV l=some (decide (kj l)):=by
 unfold zV
 by_cases ah:l.length<1
 ·have:¬kj l:=λh=>by have:=h.1.1;omega
  rw[ak (db (by omega)),af,ak rfl];simp[this]
 rw[aj (dk (by omega)),af]
 by_cases ai:60<l.length
 ·have:¬kj l:=λh=>by have:=h.1.2;omega
  rw[ak (db (by omega))];simp[this]
 rw[aj (dk (by omega)),pw l.length (l8 (λp=>!decide (ez p)||tw l p) (λx y=>decide (x.id=y.id)) l) false (λk ad=>by
  have O:l[k]?=some l[k]:=c4 ad
  generalize l[k]=x at O
  rw[ak (by simpa using ad),aY (aS O),XJ,af]
  simp only[aY (aS O),Ma (l:=l) (by omega),af]
  rw[Yz O]
  rw[sX,af]
  have ab:=Kf (λp:Part=>decide (p.id=x.id)) l k x O (by simp)
  by_cases B:ez x
  ·by_cases N:((l.take k).any λp=>decide (p.id=x.id))=false
   ·rw[aj (by rw[ab.2 N];simp[B]),N]
    have aa:tw l x=(!decide (x.of=0)&&(match l.find? λq=>decide (q.id=x.of)with|some q=>!decide (q.of=0)|none=>true)):=rfl
    by_cases M:x.of=0
    ·rw[ak (db M),eT,aC (by omega),aa];simp[M,B]
    rw[aj (dk M)]
    rcases qP l λq=>decide (q.id=x.of)with ⟨G,F⟩| ⟨j,q,G,F,Z,ag⟩
    ·rw[F,ak (by simp),fy,aa,G];simp[M]
    rw[Z,aj (dk (by omega)),aY (aS G),aa,F]
    by_cases Y:q.of=0
    ·rw[aj (by simp[Y]),eT,aC (by omega)];simp[Y,B]
    rw[ak (by simp[Y]),fy];simp[Y,M]
   have ae:¬(ix l λp:Part=>decide (p.id=x.id))=(k:Int):=λh=>N (ab.1 h)
   rw[ak (by simp[ae]),fy,if_pos]
   rw[Bool.not_eq_false]at N
   rw[N];simp
  rw[ak (by simp[B]),fy,if_pos (by simp[B])]) (by rw[aj (by simp)])]
 have key:=F3 (λp=>!decide (ez p)||tw l p) (λx y=>decide (x.id=y.id)) l
 rw[FE Part.id]at key
 have e:((∀p∈l,(!decide (ez p)||tw l p)=false)/\(l.map Part.id).Nodup)↔kj l:=by
  constructor
  ·rintro⟨G,F⟩
   refine⟨by omega,λp B=>?_,F,?_⟩
   ·have:=G p B;simp at this;exact this.1
   rw[mb];intro p B
   have:=G p B;rw[KC F]at this;simp at this;simp[this.2]
  rintro⟨_,G,F,Z⟩
  refine⟨λp B=>?_,F⟩
  rw[KC F]
  have:=mb.1 Z p B
  simp[G p B];simpa using this
 rw[e]at key
 by_cases U:kj l
 ·rw[if_neg (λh=>key.1 h U),eT];simp[U]
 rw[if_pos (key.2 U),fy];simp[U]
end Go.Proofs.YthhlipkkjippfaaGreatDoor
namespace Go.Proofs.YthhlipkkjippfaaGreatDoor
open Go Go.ag Go.Sy
attribute [local instance] bV cB
def fm(l:List Part)(n:aq):Option Part:=(l.filter λp=>decide (p.of=0)).find? λp=>decide (p.id=n.part)
def mD(l:List Part)(n:aq):Bool:=match fm l n with|some p=>!decide (num p.low<=num n.aR/\num n.aR<=num p.high)|none=>false
def oL(l:List Part)(ns:List aq):Int:=if(ns.any λn=>(fm l n).isNone)=true then 22 else if ns.any (mD l)=true then 20 else 0
def WU{l:List Part}{n:aq}{p:Part}(h:fm l n=some p):p∈l/\p.of=0/\p.id=n.part:=by
 unfold fm at h
 have j:=hE h
 have k:=k7 h
 rw[hN]at j
 exact⟨j.1,by simpa using j.2,by simpa using k⟩
def WS{l:List Part}(N:(l.map Part.id).Nodup)(n:aq):fm l n=match l.find? λp=>decide (p.id=n.part)with|some p=>if p.of=0 then some p else none|none=>none:=by
 cases k:l.find? λp=>decide (p.id=n.part)with
 |none=>
  unfold fm
  rw[qd]
  intro x B
  exact qd.1 k x (hN.1 B).1
 |some p=>
  have G:=hE k
  have M:p.id=n.part:=by simpa using k7 k
  dsimp only
  by_cases j:p.of=0
  ·rw[if_pos j]
   unfold fm
   have:=mE (id:=Part.id) (l:=l.filter λp=>decide (p.of=0)) (N.sublist (l2.map _)) (x:=p) (hN.2 ⟨G,by simp[j]⟩)
   rw[M]at this;exact this
  rw[if_neg j]
  unfold fm
  rw[qd]
  intro x B
  obtain⟨U,F⟩:=hN.1 B
  simp only[ek]at F⊢
  intro O
  have:=nQ N U G (by rw[O,M])
  rw[this]at F;exact j F
def Zn(l:List Part)(n:aq):Au (n,iS Part.id (l.filter λp=>decide (p.of=0)))=some (fm l n).isNone:=by
 unfold Au fm
 dsimp only
 rw[Ic,Jn]
 cases List.find? _ _<;>rfl
def TO{l:List Part}{n:aq}{p:Part}(h:fm l n=some p)(k:bR p.low)(B:bR p.high)(F:bR n.aR):Av (n,iS Part.id (l.filter λp=>decide (p.of=0)))=some (mD l n):=by
 unfold Av mD
 dsimp only
 rw[Ce]
 have j:=h
 unfold fm at j
 rw[j,h]
 dsimp only[Option.getD]
 rw[w9 F,w9 k,w9 B,af,af,af,xf,af]
def Zy{l:List Part}(ae:l.length<=1000000)(aa:(l.map Part.id).Nodup)(O:∀p∈l,bR p.low/\bR p.high){ns:List aq}(ag:ns.length<=1000000)(ab:∀n∈ns,bR n.aR):wy (l,ns)=some (oL l ns):=by
 unfold wy
 dsimp only
 rw[dm (σ:=List (Int×Part)) (st:=λz k=>(k,z)) (l:=l) (λz x=>.inl (if decide (x.of=0)=true then aH z x.id x else z)) (λz=>z) (λ_ _=>True) (λk x z j _=>by
  have B:=bx j
  dsimp only
  rw[ak (by simpa using B),aY (aS j)]
  by_cases h:x.of=0
  ·rw[ak (db h),af,aC (by omega)];simp[h]
  ·rw[aj (dk h),af,aC (by omega)];simp[h]) (λ_ _ _ _ _ _ _=>trivial) (λz _=>by dsimp only;rw[aj (by simp)]) [] trivial,
  eS (λ(z:List (Int×Part))(x:Part)=>if decide (x.of=0)=true then aH z x.id x else z) _ _ (λ_ _ _=>rfl),af,<-List.foldl_filter (p:=λx:Part=>decide (x.of=0)) (f:=λ(z:List (Int×Part))(x:Part)=>aH z x.id x),
  C8 Part.id _ [] (by simp) (aa.sublist (l2.map _)),List.nil_append]
 unfold oL
 have Y:Aw (ns,iS Part.id (l.filter λp=>decide (p.of=0)))=some (ns.any λn=>(fm l n).isNone):=by
  unfold Aw Fj
  exact lE (l:=ns) (λn=>(fm l n).isNone) (λk x j=>by
   have B:=bx j
   rw[ak (by simpa using B),aY (aS j),Zn,af]
   cases (fm l x).isNone
   ·rw[aj rfl,aC (by omega)];simp
   rw[ak rfl];simp) (by rw[aj (by simp)])
 rw[Y,af]
 by_cases F:(ns.any λn=>(fm l n).isNone)=true
 ·rw[ak F,if_pos F]
 rw[aj (by simpa using F),if_neg F]
 have Z:Ax (ns,iS Part.id (l.filter λp=>decide (p.of=0)))=some (ns.any (mD l)):=by
  unfold Ax Fk
  exact lE (l:=ns) (mD l) (λk x j=>by
   have B:=bx j
   have N:=dn j
   have ad:∃p,fm l x=some p:=by
    cases M:fm l x with
    |none=>exact absurd (hU.2 ⟨x,N,by simp[M]⟩) F
    |some p=>exact⟨p,rfl⟩
   obtain⟨p,M⟩:=ad
   obtain⟨U,_,_⟩:=WU M
   rw[ak (by simpa using B),aY (aS j),TO M (O p U).1 (O p U).2 (ab x N),af]
   cases mD l x
   ·rw[aj rfl,aC (by omega)];simp
   rw[ak rfl];simp) (by rw[aj (by simp)])
 rw[Z,af]
 by_cases G:ns.any (mD l)=true
 ·rw[ak G,if_pos G]
 rw[aj (by simpa using G),if_neg G]
def L9{l:List Part}(M:l.length<=1000000)(N:(l.map Part.id).Nodup)(n:aq):(fm l n=none/\tQ (l,n)=some (-1))\/∃(k:Nat)(p:Part),l[k]?=some p/\fm l n=some p/\tQ (l,n)=some (k:Int):=by
 unfold tQ
 dsimp only
 rw[Ma M,af,WS N]
 rcases qP l λp=>decide (p.id=n.part)with ⟨B,F⟩| ⟨k,p,B,F,G,O⟩
 ·left;rw[B,F,ak (by simp)];exact⟨rfl,rfl⟩
 rw[F,G,aj (dk (by omega)),aY (aS B)]
 dsimp only
 by_cases j:p.of=0
 ·right;rw[if_pos j,aj (by simp[j])];exact⟨k,p,B,rfl,rfl⟩
 left;rw[if_neg j,ak (by simp[j])];exact⟨rfl,rfl⟩
def XN{l:List Part}(Z:l.length<=1000000)(ab:(l.map Part.id).Nodup)(ae:∀p∈l,bR p.low/\bR p.high){ns:List aq}(ah:ns.length<=1000000)(ag:∀n∈ns,bR n.aR):wq (l,ns)=some (oL l ns):=by
 unfold wq oL
 dsimp only
 rw[nX (l:=ns) (λn=>(fm l n).isNone) 22 (λk x F=>by
  have Y:=bx F
  rw[ak (by simpa using Y),aY (aS F)]
  rcases L9 Z ab x with ⟨B,G⟩| ⟨j,p,B,G,U⟩
  ·rw[G,af,ak (by simp),B];simp
  rw[U,af,aj (dk (by omega)),G,aC (by omega)];simp) (by rw[aj (by simp)])]
 by_cases M:(ns.any λn=>(fm l n).isNone)=true
 ·rw[if_pos M,if_pos M,fy]
 rw[if_neg M,if_neg M,eT]
 rw[nX (l:=ns) (mD l) 20 (λk x F=>by
  have Y:=bx F
  have aa:=dn F
  rw[ak (by simpa using Y),aY (aS F)]
  rcases L9 Z ab x with ⟨B,G⟩| ⟨j,p,B,G,U⟩
  ·exact absurd (hU.2 ⟨x,aa,by simp[B]⟩) M
  have ad:=ae p (dn B)
  rw[U,af,aY (aS B),aY (aS F)]
  unfold E0 mD
  dsimp only
  rw[ug (ag x aa),ug ad.1,ug ad.2,af,af,af,AV,af,af,G]
  dsimp only
  by_cases N:num p.low<=num x.aR/\num x.aR<=num p.high
  ·rw[aj (by rw[db N];rfl),aC (by omega),if_neg (by rw[db N];simp)];rfl
  rw[ak (by rw[dk N];rfl),if_pos (by rw[dk N];rfl)]) (by rw[aj (by simp)])]
 by_cases O:ns.any (mD l)=true
 ·rw[if_pos O,if_pos O,fy]
 rw[if_neg O,if_neg O,eT]
def H4(a b:Rat):Cc a b=decide (a=b):=by
 obtain⟨j,k⟩:=a
 obtain⟨b0,B⟩:=b
 rw[hI,ek]
 show cV [.int .i64 j,.int .i64 k] [.int .i64 b0,.int .i64 B]=true↔_
 simp[cV,ga,Rat.mk.injEq,n3]
def RD(a b:Interval):H0 a b=decide (a=b):=by
 obtain⟨j,k⟩:=a
 obtain⟨b0,B⟩:=b
 rw[hI,ek]
 show cV [.int .i64 j,.int .i64 k] [.int .i64 b0,.int .i64 B]=true↔_
 simp[cV,ga,Interval.mk.injEq,n3]
def RE(a b:aq):H3 a b=decide (a=b):=by
 obtain⟨j,k,G,M,N,⟨O,U⟩,⟨Y,Z⟩,⟨aa,B,F⟩⟩:=a
 obtain⟨b0,ab,af,ag,ah,⟨ai,aj⟩,⟨ak,al⟩,⟨an,ad,ae⟩⟩:=b
 rw[hI,ek]
 show cV [.int .i64 j,.int .i64 k,.int .i64 G,.int .i64 M,.int .i64 N,.int .i64 O,.int .i64 U,.int .i64 Y,.int .i64 Z,.int .i64 aa,.int .i64 B,.int .i64 F] [.int .i64 b0,.int .i64 ab,.int .i64 af,.int .i64 ag,.int .i64 ah,.int .i64 ai,.int .i64 aj,.int .i64 ak,.int .i64 al,.int .i64 an,.int .i64 ad,.int .i64 ae]=true↔_
 simp[cV,ga,aq.mk.injEq,aP.mk.injEq,Rat.mk.injEq,n3]
def RG(a b:Written):sw a b=decide (a=b):=by
 obtain⟨j,k,B,⟨F,G⟩,⟨M,N⟩,⟨O,U,Y⟩⟩:=a
 obtain⟨b0,Z,aa,⟨ab,ad⟩,⟨ae,af⟩,⟨ag,ah,ai⟩⟩:=b
 rw[hI,ek]
 show cV [.int .i64 j,.int .i64 k,.int .i64 B,.int .i64 F,.int .i64 G,.int .i64 M,.int .i64 N,.int .i64 O,.int .i64 U,.int .i64 Y] [.int .i64 b0,.int .i64 Z,.int .i64 aa,.int .i64 ab,.int .i64 ad,.int .i64 ae,.int .i64 af,.int .i64 ag,.int .i64 ah,.int .i64 ai]=true↔_
 simp[cV,ga,aP.mk.injEq,Rat.mk.injEq,Written.mk.injEq,n3]
def Y1{a b:List aq}(j:a.length<=1048576):Fg (a,b)=some (decide (a=b)):=Yx RE j
end Go.Proofs.YthhlipkkjippfaaGreatDoor
namespace Go.Proofs.YthhlipkkjippfaaGreatDoor
open Go Go.ag Go.Sy
attribute [local instance] bV cB
theorem UG{β:Type}(a b:Option β):ab (!true) a b=b:=rfl
theorem UF{β:Type}(a b:Option β):ab (!false) a b=a:=rfl
def cN(s:Score):Prop:=(1<=s.version/\s.version<=1000000)/\gv s.bars/\kj s.parts/\gX s.bars s.notes/\oL s.parts s.notes=0/\oG (dP s.bars) s.notes=s.notes
noncomputable instance (s:Score):Decidable (cN s):=inferInstanceAs (Decidable (_/\_/\_/\_/\_/\_))
def LR{l:List Part}(h:kj l):∀p∈l,bR p.low/\bR p.high:=λp j=>⟨(h.2.1 p j).2.2.2.2.2.2.1,(h.2.1 p j).2.2.2.2.2.2.2.1⟩
def Lc{bars:List aM}{l:List aq}(h:∀n∈l,fQ bars n):∀n∈l,bR n.aR:=λn B=>by
 obtain⟨k,b,F,G,j,M⟩:=pF (h n B)
 exact j.2.2.2.2.2.2.2.2.1
def Zz{bars:List aM}{ps:List Part}{ns:List aq}(j:kj ps)(k:gX bars ns):wy (ps,ns)=some (oL ps ns):=
 Zy (by have:=j.1.2;omega) j.2.2.1 (LR j) (by have:=k.2.1;omega) (Lc k.2.2.1)
def XO{bars:List aM}{ps:List Part}{ns:List aq}(j:kj ps)(k:gX bars ns):wq (ps,ns)=some (oL ps ns):=
 XN (by have:=j.1.2;omega) j.2.2.1 (LR j) (by have:=k.2.1;omega) (Lc k.2.2.1)
theorem Y8{at_:List (Int×Int)}{l:List aq}(j:∀n∈l,oh at_ n)(k:gr (cr (nK at_)) l)(B:l.length<=1000000000):AI (l,at_)=some (oG at_ l):=by
 unfold AI rU
 rw[if_pos ⟨j,k,by dsimp only;omega⟩];rfl
def V9{β:Type}{e:Bool}{a b:Option β}(h:e=true->a=b):oi e a b=b:=by
 cases e
 ·rfl
 unfold oi;rw[h rfl];exact if_pos rfl
def Cv{α:Type}{l:List α}{k:Nat}(h:l.length*k<=140737488355328)(B:l.length<=9223372036854775807):oi (List.isEmpty l) (some ([]:List α)) (ae (decide ((List.append ([]:List α) l).length*k<=140737488355328/\(List.append ([]:List α) l).length<=9223372036854775807)) <|some (List.append ([]:List α) l))=some l:=by
 have j:(ae (decide ((List.append ([]:List α) l).length*k<=140737488355328/\(List.append ([]:List α) l).length<=9223372036854775807)) <|some (List.append ([]:List α) l))=some l:=cq (db ⟨h,B⟩)
 rw[V9 (λF=>?_),j]
 rw[j,List.isEmpty_iff.1 F]
def Wk{bars:List aM}{l:List aq}(h:gX bars l):zK (bars,l)=some (oG (dP bars) l):=by
 have:=h.1.1.2
 have:=h.2.1
 unfold zK
 dsimp only
 rw[K3 (by omega),af]
 have k:=Y8 (at_:=dP bars) (l:=l) (λn j=>Wi h.1 (h.2.2.1 n j)) (Ez h.2.2.2) (by omega)
 rw[Cv (by omega) (by omega),af,k,af]
def V5{bars:List aM}{ns:List aq}(k:bars.length<=1048576)(j:gX bars ns):zG (bars,ns)=some (oG (dP bars) ns,0):=by
 unfold zG
 dsimp only
 rw[KX k,af,aj (by simp[j]),Wk j,af]
def Zc{at_:List (Int×Int)}(l:List aq):(oG at_ l).length=l.length:=(jM _ l).length_eq
def A8{s:Score}(M:s.bars.length<=1048576):ox s=some (decide (cN s)):=by
 unfold ox
 rw[Na,af]
 by_cases B:1<=s.version/\s.version<=1000000
 ·rw[aj (by rw[db B];rfl)]
  rw[D9 M,af]
  by_cases F:gv s.bars
  ·rw[aj (by rw[db F];rfl),Yy,af]
   by_cases k:kj s.parts
   ·rw[aj (by rw[db k];rfl),KX M,af]
    by_cases j:gX s.bars s.notes
    ·rw[aj (by rw[db j];rfl),Zz k j,af,af]
     by_cases G:oL s.parts s.notes=0
     ·rw[aj (by simp[G]),V5 M j,af]
      dsimp only
      rw[ak (by simp),Y1 (by rw[Zc];have:=j.2.1;omega),af,af]
      congr 1
      rw[ka]
      exact⟨λh=>⟨B,F,k,j,G,h⟩,λh=>h.2.2.2.2.2⟩
     rw[ak (by simp[G])]
     congr 1;symm;exact dk λh=>G h.2.2.2.2.1
    rw[ak (by rw[dk j];rfl),af,ak rfl]
    congr 1;symm;exact dk λh=>j h.2.2.2.1
   rw[ak (by rw[dk k];rfl),af,ak rfl]
   congr 1;symm;exact dk λh=>k h.2.2.1
  rw[ak (by rw[dk F];rfl),af,ak rfl]
  congr 1;symm;exact dk λh=>F h.2.1
 rw[ak (by rw[dk B];rfl),af,ak rfl]
 congr 1;symm;exact dk λh=>B h.1
def XM(s:Score):zX s=some (decide (cN s)):=by
 unfold zX
 rw[L6,XK,af,af,AV,af]
 by_cases G:1<=s.version/\s.version<=1000000
 ·rw[aj (by rw[db G];rfl)]
  by_cases B:gv s.bars
  ·rw[aj (by rw[db B];rfl)]
   by_cases F:kj s.parts
   ·rw[db F,af,UG,XH,af]
    by_cases j:gX s.bars s.notes
    ·rw[aj (by rw[db j];rfl),XO F j,af]
     by_cases M:oL s.parts s.notes=0
     ·rw[aj (by simp[M])]
      have ad:=j.2.1
      rw[VB (s.notes.length-1) (sS (dP s.bars) s.notes) false (λk ab=>by
       have O:s.notes[k]?=some s.notes[k]:=c4 (by omega)
       have U:s.notes[k+1]?=some s.notes[k+1]:=c4 (by omega)
       have Z:=j.2.2.1 _ (hT (h:=(by omega:k<s.notes.length)))
       have aa:=j.2.2.1 _ (hT (h:=(by omega:k+1<s.notes.length)))
       generalize s.notes[k]=x at *
       generalize s.notes[k+1]=y at *
       have Y:sS (dP s.bars) s.notes k = !decide (cr (nK (dP s.bars)) x y<0):=by unfold sS;rw[O,U]
       rw[ak (db (by omega)),aC (by omega),show(k:Int)+1-1=(k:Int) by omega,aY (aS O),show(k:Int)+1=((k+1:Nat):Int)from rfl,aY (aS U),XF B Z aa,af,Y]
       by_cases h:cr (nK (dP s.bars)) x y<0
       ·rw[aj (by rw[db h];rfl),aC (by omega),if_neg (by rw[db h];simp)]
       ·rw[ak (by rw[dk h];rfl),if_pos (by rw[dk h];rfl)]) (by
       rw[aj (dk (by omega))])]
      have key:=Ui (at_:=dP s.bars) j.2.2.2
      by_cases N:oG (dP s.bars) s.notes=s.notes
      ·rw[if_neg (λh=>key.1 h N),eT]
       rw[db (p:=cN s) ⟨G,B,F,j,M,N⟩]
      rw[if_pos (key.2 N),fy]
      rw[dk (p:=cN s) λh=>N h.2.2.2.2.2]
     rw[ak (by simp[M])]
     congr 1;symm;exact dk λh=>M h.2.2.2.2.1
    rw[ak (by rw[dk j];rfl)]
    congr 1;symm;exact dk λh=>j h.2.2.2.1
   rw[dk F,af,UF]
   congr 1;symm;exact dk λh=>F h.2.2.1
  rw[ak (by rw[dk B];rfl),af,ak rfl]
  congr 1;symm;exact dk λh=>B h.2.1
 rw[ak (by rw[dk G];rfl),af,ak rfl]
 congr 1;symm;exact dk λh=>G h.1
end Go.Proofs.YthhlipkkjippfaaGreatDoor
namespace Go.Proofs.YthhlipkkjippfaaGreatDoor
open Go Go.ag Go.Sy
attribute [local instance] bV cB
def dO(k:Int):Prop:= -7<=k/\k<=7
instance (k:Int):Decidable (dO k):=inferInstanceAs (Decidable (_/\_))
def cM(i:Interval):Interval:=⟨-i.steps,-i.cg⟩
def ee(i:Interval):Int:=7*i.cg-12*i.steps
def eg(t:Int):Int:=if 7<t then(t+4)/12 else if t < -7 then -((4-t)/12)else 0
def Et(key:Int)(i:Interval):Int:=(key+ee i)-12*eg (key+ee i)
def rh(key:Int)(i:Interval):Interval:=⟨i.steps+eg (key+ee i),i.cg⟩
def vv(k:Int):rp k=some (decide (dO k)):=lz k (-7) 7
def Wv{t:Int}(h:7<t):eg t=eg (t-12)+1:=by
 unfold eg
 rw[if_pos h]
 split
 ·omega
 rw[if_neg (by omega)];omega
def Wu{t:Int}(h:t < -7):eg t=eg (t+12)-1:=by
 unfold eg
 rw[if_neg (by omega),if_pos h]
 split
 ·omega
 split<;>omega
def Ll{t:Int}(h:dO t):eg t=0:=by
 unfold eg dO at *
 rw[if_neg (by omega),if_neg (by omega)]
def Lk(t:Int):dO (t-12*eg t):=by
 unfold eg dO
 split
 ·omega
 split<;>omega
def KB:∀(n:Nat)(s t:Int),-7<=t->t<=12*n+7->s.natAbs+n<=1000000->n<=100000->ay (λj:(Int×Int)=>aa (rp j.2) λM=>ab (!M) (ae (ai (1*12)) <|ae (ai (j.2-(1*12))) <|ae (ai (j.1+1)) <|some (.inl ((j.1+1),(j.2-(1*12))))) (some (.inr (j.1,j.2)))) (s,t)=some (s+eg t,t-12*eg t)
 |n,s,t,h1,k,B,F=>by
  by_cases h:dO t
  ·rw[Ll h]
   refine gC ?_
   dsimp only
   rw[vv,af,aj (by simp[h])];simp
  have G:7<t:=by unfold dO at h;omega
  match n,k,B,F with
  |0,k,_,_=>exact absurd k (by omega)
  |n+1,k,B,F=>
   rw[kU (z':=(s+1,t-12)) (by
    dsimp only
    rw[vv,af,ak (by simp[h]),aC (by omega),aC (by omega),aC (by omega)];rfl),KB n (s+1) (t-12) (by omega) (by omega) (by omega) (by omega),Wv G]
   congr 2<;>omega
def Kz:∀(n:Nat)(s t:Int),t<=7 -> -(12*(n:Int)+7)<=t->s.natAbs+n<=1000000->n<=100000->ay (λj:(Int×Int)=>aa (rp j.2) λM=>ab (!M) (ae (ai ((-1)*12)) <|ae (ai (j.2-((-1)*12))) <|ae (ai (j.1+(-1))) <|some (.inl ((j.1+(-1)),(j.2-((-1)*12))))) (some (.inr (j.1,j.2)))) (s,t)=some (s+eg t,t-12*eg t)
 |n,s,t,h1,k,B,F=>by
  by_cases h:dO t
  ·rw[Ll h]
   refine gC ?_
   dsimp only
   rw[vv,af,aj (by simp[h])];simp
  have G:t < -7:=by unfold dO at h;omega
  match n,k,B,F with
  |0,k,_,_=>exact absurd k (by omega)
  |n+1,k,B,F=>
   rw[kU (z':=(s+(-1),t-((-1)*12))) (by
    dsimp only
    rw[vv,af,ak (by simp[h]),aC (by omega),aC (by omega),aC (by omega)]),Kz n (s+(-1)) (t-((-1)*12)) (by omega) (by omega) (by omega) (by omega),Wu G,show t-(-1)*12=t+12 by omega]
   congr 2<;>omega
def DM{key:Int}{i:Interval}(j:dO key)(hi:dw i):tL (key,i)=some (Et key i,rh key i,0):=by
 have B:=j
 have k:=hi
 unfold dO at B
 unfold dw at k
 unfold tL
 dsimp only
 rw[DI,if_pos hi,af]
 dsimp only
 rw[aj (by simp),vv,af,af,aj (by simp[j]),aC (by omega)]
 have e:7*i.cg-12*i.steps+key=key+ee i:=by unfold ee;omega
 rw[e]
 have F: -2000<=key+ee i/\key+ee i<=2000:=by unfold ee;omega
 by_cases h:0<key+ee i
 ·rw[ak (by simp[h]),KB 1000 i.steps (key+ee i) (by omega) (by omega) (by omega) (by omega)];rfl
 rw[aj (by simp;omega),Kz 1000 i.steps (key+ee i) (by omega) (by omega) (by omega) (by omega)];rfl
theorem zl{i:Interval}(h:dw i):ou i=some (cM i,0):=by
 have j:=h
 unfold dw at j
 unfold ou ru
 simp only[zM,af,gR]
 unfold jH
 rw[aj (by simp;omega),aC (by omega),aC (by omega)]
 unfold cM
 simp
def Xd(i:Interval):ru i=some (decide (dw i)):=by
 unfold ru
 simp only[zM,af,gR]
 refine jL ?_
 unfold dw
 simp
def rQ{i:Interval}(h:fV i):dw i/\dw (cM i):=by
 unfold fV at h
 unfold dw cM
 dsimp only
 omega
def KW{key:Int}{i:Interval}(k:dO key)(h:fV i):dw (rh key (cM i))/\dw (cM (rh key (cM i)))/\dO (Et key (cM i)):=by
 refine⟨?_,?_,Lk _⟩
 all_goals
  have j: -100<=eg (key+ee (cM i))/\eg (key+ee (cM i))<=100 -> -45<=eg (key+ee (cM i))/\eg (key+ee (cM i))<=45:=by
   intro _
   unfold fV at h
   unfold dO at k
   unfold eg ee cM
   dsimp only
   split
   ·omega
   split<;>omega
  have B: -100<=eg (key+ee (cM i))/\eg (key+ee (cM i))<=100:=by
   unfold fV at h
   unfold dO at k
   unfold eg ee cM
   dsimp only
   split
   ·omega
   split<;>omega
  have j:=j B
  unfold dw rh
  unfold fV at h
  dsimp only[cM]at *
  omega
def Zg(v:Int):(if Int.tmod v 7<0 then(Int.tdiv v 7-1,Int.tmod v 7+7)else(Int.tdiv v 7,Int.tmod v 7))=(v/7,v%7):=by
 rcases Int.lt_or_le v 0 with h|h
 ·obtain⟨w,rfl⟩:∃w:Int,v = -w:=⟨-v,by omega⟩
  rw[Int.neg_tmod,Int.neg_tdiv,o1 (by omega),ss (by omega)]
  split<;>(congr 1<;>omega)
 rw[o1 h,ss h,if_neg (by omega)]
theorem Xm{v:Int}(h: -5000<=v/\v<=5000):zL (v,7)=some (v/7,v%7):=by
 have B: -1000<=v.tdiv 7/\v.tdiv 7<=1000 /\ -7<v.tmod 7/\v.tmod 7<7:=by
  rcases Int.lt_or_le v 0 with h0|h0
  ·obtain⟨w,rfl⟩:∃w:Int,v = -w:=⟨-v,by omega⟩
   rw[Int.neg_tmod,Int.neg_tdiv,o1 (by omega),ss (by omega)]
   omega
  rw[o1 h0,ss h0];omega
 have k:=Zg v
 unfold zL
 dsimp only
 rw[cq (by decide),aC (by omega),cq (by decide),<-k]
 by_cases j:v.tmod 7<0
 ·rw[ak (by simp[j]),aC (by omega),aC (by omega),if_pos j]
 rw[aj (by simp;omega),if_neg j]
def pl(p:aP):Int:=7*p.aZ+p.step
def jq(j n:Int):aP:=⟨j%7,n-(12*(j/7)+gW (j%7)),j/7⟩
def eK(p:aP)(i:Interval):aP×Int:=if bR p/\dw i then(if bR (jq (pl p+i.steps) (num p+i.cg))then(jq (pl p+i.steps) (num p+i.cg),0)else(⟨0,0,0⟩,3))else(⟨0,0,0⟩,1)
theorem Xk{p:aP}(j:0<=p.step/\p.step<=6)(B: -1000<=p.alter/\p.alter<=1000)(F: -1000<=p.aZ/\p.aZ<=1000):pL p=some (num p):=by
 have G:=vS p.step
 have k:au [0,2,4,5,7,9,11] p.step=some (gW p.step):=by
  show au tA p.step=_
  unfold au gW
  rw[if_pos j.1]
  have:p.step.toNat<tA.length:=by show _<7;omega
  rw[c4 this];rfl
 unfold pL
 rw[aC (by omega),aY k,aC (by omega),aC (by omega)]
 rfl
def Hy{p:aP}(h:bR p):jq (pl p) (num p)=p:=by
 obtain⟨⟨B,F⟩,_⟩:=h
 unfold jq pl
 have j:(7*p.aZ+p.step)%7=p.step:=by omega
 have k:(7*p.aZ+p.step)/7=p.aZ:=by omega
 rw[j,k]
 unfold num
 cases p
 congr 1
 dsimp only
 omega
def Ly(p:aP)(i:Interval):wj (p,i)=some (eK p i):=by
 unfold wj eK
 dsimp only
 rw[lW,af]
 by_cases j:bR p
 ·rw[aj (by simp[j]),Xd,af]
  by_cases hi:dw i
  ·rw[af,aj (by simp[hi]),if_pos ⟨j,hi⟩,RD]
   by_cases B:i=⟨0,0⟩
   ·subst B
    rw[ak (by simp),show pl p+(⟨0,0⟩:Interval).steps=pl p by dsimp only;omega,show num p+(⟨0,0⟩:Interval).cg=num p by dsimp only;omega,Hy j,if_pos j]
   have U:=j
   have M:=hi
   unfold bR at U
   unfold dw at M
   have O:=rj j
   rw[aj (by simp[B])]
   unfold EX
   rw[aC (by omega),aC (by omega),af,aC (by omega)]
   have Y:=Xm (v:=7*p.aZ+p.step+i.steps) (by omega)
   rw[Y,af,LV j,af,aC (by omega)]
   dsimp only
   have N:0<=(7*p.aZ+p.step+i.steps)%7/\(7*p.aZ+p.step+i.steps)%7<=6:=by omega
   have G: -1000<=(7*p.aZ+p.step+i.steps)/7/\(7*p.aZ+p.step+i.steps)/7<=1000:=by omega
   have Z:=vS ((7*p.aZ+p.step+i.steps)%7)
   rw[Xk (p:=⟨(7*p.aZ+p.step+i.steps)%7,0,(7*p.aZ+p.step+i.steps)/7⟩) N (by dsimp only;omega) G,af]
   unfold num at O
   have e:num (⟨(7*p.aZ+p.step+i.steps)%7,0,(7*p.aZ+p.step+i.steps)/7⟩:aP)=12*((7*p.aZ+p.step+i.steps)/7)+gW ((7*p.aZ+p.step+i.steps)%7):=by unfold num;dsimp only;omega
   rw[e]
   have F:(⟨(7*p.aZ+p.step+i.steps)%7,num p+i.cg-(12*((7*p.aZ+p.step+i.steps)/7)+gW ((7*p.aZ+p.step+i.steps)%7)),(7*p.aZ+p.step+i.steps)/7⟩:aP)=jq (pl p+i.steps) (num p+i.cg):=rfl
   rw[aC (by unfold num;omega),F,lW,af]
   by_cases k:bR (jq (pl p+i.steps) (num p+i.cg))
   ·rw[aj (by simp[k]),if_pos k]
   rw[ak (by simp[k]),if_neg k]
  rw[af,ak (by simp[hi]),if_neg (λh=>hi h.2)]
 rw[ak (by simp[j]),af,ak rfl,if_neg (λh=>j h.1)]
end Go.Proofs.YthhlipkkjippfaaGreatDoor
namespace Go.Proofs.YthhlipkkjippfaaGreatDoor
open Go Go.ag Go.Sy
attribute [local instance] bV cB
def Ke{p:aP}(h:bR p):wb p=some (num p):=by
 unfold wb
 rw[pH,if_pos h,af]
def DE(n m:Int)(j:0<=m/\m<=1000):tG (n,m)=some (decide (-m<=n/\n<=m)):=by
 unfold tG jH
 dsimp only
 rw[aC (by omega),show 0-m = -m by omega]
 exact lz n (-m) m
theorem DF{p:Part}(h:ez p):tH p=some true:=by
 obtain⟨_,_,k,j⟩:=(lg p).1 h
 have B:=(rQ k).1
 unfold tH
 rw[DI,if_pos B,af]
 dsimp only
 simp only[DE _ 21 (by omega),DE _ 36 (by omega),DE _ 12 (by omega),af,gR]
 have F:=k
 unfold fV at F
 rw[ak (by simp;omega),lW,af,ak (by simp[j.1]),lW,af,ak (by simp[j.2.1]),Ke j.1,af,Ke j.2.1,af,af]
 exact ea some (db j.2.2)
def jC(p:Part)(key:Int):Interval:=rh key (cM p.shift)
def tj(p:Part)(key:Int):Int:=Et key (cM p.shift)
def pR{p:Part}(h:ez p):fV p.shift:=((lg p).1 h).2.2.1
def Uz{p:Part}(h:ez p){key:Int}(j:dO key):zw (p,key)=some (tj p key,0):=by
 unfold zw
 dsimp only
 rw[DF h,af,aj (c:= !true) rfl,zl (rQ (pR h)).1,af,DM j (rQ (pR h)).2,af]
 rfl
def UC{p:Part}(h:ez p){key:Int}(k:dO key)(x:aP):zA (p,key,x)=some (eK x (jC p key)):=by
 unfold zA
 dsimp only
 rw[DF h,af,aj (c:= !true) rfl,zl (rQ (pR h)).1,af,DM k (rQ (pR h)).2,af]
 dsimp only
 rw[aj (by simp),af,aj (by simp),af]
 dsimp only
 rw[aj (c:= !true) rfl,lW,af,af]
 dsimp only
 by_cases j:bR x
 ·rw[aj (by simp[j]),Ly,af];rfl
 rw[ak (by simp[j])];unfold eK;rw[if_neg (λh=>j h.1)]
def UB{p:Part}(h:ez p){key:Int}(k:dO key)(x:aP):zy (p,key,x)=some (eK x (cM (jC p key))):=by
 unfold zy
 dsimp only
 rw[DF h,af,aj (c:= !true) rfl,zl (rQ (pR h)).1,af,DM k (rQ (pR h)).2,af]
 dsimp only
 rw[aj (by simp),af,aj (by simp),af]
 dsimp only
 rw[aj (c:= !true) rfl,lW,af,af]
 dsimp only
 by_cases j:bR x
 ·rw[aj (by simp[j]),zl (i:=⟨(rh key (cM p.shift)).steps,(rh key (cM p.shift)).cg⟩) (KW k (pR h)).1,af]
  dsimp only
  rw[aj (by simp),Ly,af];rfl
 rw[ak (by simp[j])];unfold eK;rw[if_neg (λh=>j h.1)]
end Go.Proofs.YthhlipkkjippfaaGreatDoor
namespace Go.Proofs.YthhlipkkjippfaaGreatDoor
open Go Go.ag Go.Sy
attribute [local instance] bV cB
def tk(q:Rat):Int:=if bI q then bp q else -1
def ht(p:aP):Int:=if bR p then num p else 0
def wK(w:Written):List Int:=[tk w.start,w.bc,ht w.aR,w.id]
def Om(w:Written):wF w=some (ht w.aR):=by
 unfold wF ht
 rw[pH,af]
 split<;>rfl
def aaM(a b:Written):wE (a,b)=some (cQ [fI (tk a.start) (tk b.start),fI a.bc b.bc,fI (ht a.aR) (ht b.aR),fI a.id b.id]):=by
 unfold wE
 dsimp only
 rw[GW,af,GW,af,uP,af,uP,af,Om,af,Om,af,uP,af,uP,af,xV _ (by simp),af]
 rfl
def T9(a b c d x y z u:Int):cQ [fI a x,fI b y,fI c z,fI d u]<0↔cQ [a-x,b-y,c-z,d-u]<0:=by
 have h:∀m n:Int,(fI m n=0↔m-n=0)/\(fI m n<0↔m-n<0):=by
  intro m n
  unfold fI
  split
  ·omega
  split<;>omega
 simp only[cQ]
 have G:=h a x
 have M:=h b y
 have N:=h c z
 have O:=h d u
 by_cases j:a-x=0
 ·rw[if_pos (G.1.2 j),if_pos j]
  by_cases k:b-y=0
  ·rw[if_pos (M.1.2 k),if_pos k]
   by_cases B:c-z=0
   ·rw[if_pos (N.1.2 B),if_pos B]
    by_cases F:d-u=0
    ·rw[if_pos (O.1.2 F),if_pos F]
    rw[if_neg (λh=>F (O.1.1 h)),if_neg F];exact O.2
   rw[if_neg (λh=>B (N.1.1 h)),if_neg B];exact N.2
  rw[if_neg (λh=>k (M.1.1 h)),if_neg k];exact M.2
 rw[if_neg (λh=>j (G.1.1 h)),if_neg j];exact G.2
def aaN(a b:Written):∃z,wE (a,b)=some z/\(z<0↔cr wK a b<0):=⟨_,aaM a b,T9 _ _ _ _ _ _ _ _⟩
def UU{l:List Written}(O:l.length<=1000000000):AH (l,())=some (my (λa b=>!decide (cr wK b a<0)) l):=by
 unfold AH
 dsimp only
 rw[aC (by omega),VC (λa b=>!decide (cr wK b a<0)) (λk a b G j=>by
  have N:=bx j
  obtain⟨z,B,F⟩:=aaN b a
  rw[ak (by simp<;>omega),show(k:Int)+1=((k+1:Nat):Int)from rfl,aY (aS j),aC (by omega),show((k+1:Nat):Int)-1=(k:Int) by omega,aY (aS G),B,af]
  by_cases h:cr wK b a<0
  ·rw[ak (by simpa using F.2 h)];simp[h]
  rw[aj (by simpa using λM=>h (F.1 M)),aC (by omega)];simp[h]) (λz B=>by rw[aj (by simp<;>omega)])]
 cases my (λa b=>!decide (cr wK b a<0)) l<;>rfl
def ig(len:Rat)(w:Written):Prop:=(1<=w.id/\w.id<=1000000)/\(0<=w.bc/\w.bc<=9)/\(0<=w.bF/\w.bF<=20)/\bR w.aR/\bI w.start/\bI w.length/\0<bp w.length/\bp w.start+bp w.length<=bp len
instance (len:Rat) (w:Written):Decidable (ig len w):=inferInstanceAs (Decidable (_/\_/\_/\_/\_/\_/\_/\_))
def aaO(n lo hi:Int):wI (n,lo,hi)=some (decide (lo<=n/\n<=hi)):=lz n lo hi
def aaF{len:Rat}(B:bI len)(w:Written):wD (w,len)=some (decide (ig len w)):=by
 unfold wD
 dsimp only
 simp only[aaO,af,gR,GW,lW]
 by_cases j:bI w.start
 ·by_cases k:bI w.length
  ·have F:=lr j
   have t2:=lr k
   rw[if_pos j,if_pos k,if_pos B,aC (by omega)]
   simp only[gR]
   refine jL ?_
   unfold ig
   simp[j,k,n3,F]
  rw[if_pos j,if_neg k]
  rw[aj (c:=ah 0 (-1)) (by simp)]
  have:¬ig len w:=λh=>k h.2.2.2.2.2.1
  rw[dk this]
  simp only[vq]
  repeat' split
  all_goals rfl
 rw[if_neg j]
 have:¬ig len w:=λh=>j h.2.2.2.2.1
 rw[dk this,aj (c:=leI 0 (-1)) (by simp)]
 simp only[vq]
 repeat' split
 all_goals rfl
end Go.Proofs.YthhlipkkjippfaaGreatDoor
namespace Go.Proofs.YthhlipkkjippfaaGreatDoor
open Go Go.ag Go.Sy
attribute [local instance] bV cB
def aa1:Part:=⟨0,0,0,0,0,⟨0,0⟩,⟨0,0,0⟩,⟨0,0,0⟩⟩
def partOf(s:Score)(id:Int):Option Part:=s.parts.find? λp=>decide (p.id=id)
def GR{s:Score}(O:s.parts.length<=1000000)(id:Int):ua (s,id)=some (match partOf s id with|some p=>(⟨p⟩,true)|none=>(⟨aa1⟩,false)):=by
 unfold ua partOf
 dsimp only
 have e:AG (s.parts,id)=some (ix s.parts λp=>decide (p.id=id)):=by
  unfold AG
  dsimp only
  rw[mQ (l:=s.parts) (λp=>decide (p.id=id)) (λk x F=>by
   have M:=bx F
   rw[ak (by simpa using M),aY (aS F)]
   unfold Fu
   rw[af]
   by_cases h:x.id=id
   ·rw[ak (by simp[h])];simp[h]
   rw[aj (by simp[h]),aC (by omega)];simp[h]) (by rw[aj (by simp)])]
  exact qM _ _
 rw[e,af]
 rcases qP s.parts λp=>decide (p.id=id)with ⟨j,B⟩| ⟨k,p,j,B,G,N⟩
 ·rw[j,B,ak (by simp)];rfl
 rw[B,G,aj (by simp),aY (aS j)]
def Oj{p:Part}(k:ez p){b:aM}(j:dO b.key)(l:List Written):wG (⟨p⟩,b,l)=some ⟨b.id,tj p b.key,b.length,l⟩:=by
 unfold wG
 dsimp only
 rw[Uz k j,af]
def vo(p:Part)(b:aM)(m:aL):Prop:=m.az=b.id/\m.key=tj p b.key/\m.length=b.length
instance (p:Part) (b:aM) (m:aL):Decidable (vo p b m):=inferInstanceAs (Decidable (_/\_/\_))
def iA(p:Part)(x:aL×aM):Bool:=decide (vo p x.2 x.1)&&my (λa b=>!decide (cr wK b a<0)) x.1.notes&&x.1.notes.all λw=>decide (ig x.1.length w)
def cP(v:View):List Written:=v.bh.flatMap aL.notes
def oz(z:List (Int×Bool))(l:List Written):List (Int×Bool):=l.foldl (λm w=>aH m w.id true) z
theorem UP{m:aL}(M:bI m.length)(N:m.notes.length<=1000000)(z:List (Int×Bool)):ay (ρ:=(List (Int×Bool))⊕((Int×(Int×(List (Int×Bool))))⊕((Int×(List (Int×Bool)))⊕Bool))) (λj:(Int×(List (Int×Bool)))=>ab (ah j.1 (m.notes.length:Int)) (aa (au m.notes j.1) λF=>aa (wD (F,m.length)) λO=>ab (!O) (some (.inr (.inr (.inr (.inr false))))) (ae (ai (j.1+1)) <|some (.inl ((j.1+1),(aH j.2 F.id true))))) (some (.inr (.inl j.2)))) (0,z) =
  some (if(m.notes.all λw=>decide (ig m.length w))=true then .inl (oz z m.notes)else .inr (.inr (.inr false))):=by
 rw[dm (σ:=List (Int×Bool)) (st:=λz k=>(k,z)) (l:=m.notes) (λz x=>if decide (ig m.length x)=true then .inl (aH z x.id true)else .inr (.inr (.inr (.inr false)))) (λz=>.inl z) (λ_ _=>True) (λk x z B _=>by
  have G:=bx B
  dsimp only
  rw[ak (by simpa using G),aY (aS B),aaF M,af]
  by_cases h:ig m.length x
  ·rw[aj (by simp[h]),aC (by omega)];simp[h]
  rw[ak (by simp[h])];simp[h]) (λ_ _ _ _ _ _ _=>trivial) (λz _=>by dsimp only;rw[aj (by simp)]) z trivial,vl]
 rfl
def yy{α β:Type}{l:List α}{r:List β}{k:Nat}{x:α×β}(h:(l.zip r)[k]?=some x):l[k]?=some x.1/\r[k]?=some x.2:=v8.1 h
def JH{α β σ:Type}(g:σ->α->σ):∀(l:List α)(r:List β)(z:σ),l.length<=r.length->(l.zip r).foldl (λz x=>g z x.1) z=l.foldl g z
 | [],_,z,_=>rfl
 |x::l,[],z,h=>by simp at h
 |x::l,y::r,z,h=>by
  rw[List.zip_cons_cons,List.foldl_cons,List.foldl_cons]
  exact JH g l r _ (by simpa using h)
def Ub(j:List aL):∀(n:Int)(z:List (Int×Bool)),j.foldl (λ(z:Int×List (Int×Bool)) m=>(z.1+(m.notes.length:Int),oz z.2 m.notes)) (n,z)=(n+((j.flatMap aL.notes).length:Int),oz z (j.flatMap aL.notes)):=by
 induction j with
 |nil=>intro n z;simp[oz]
 |cons m j k=>
  intro n z
  rw[List.foldl_cons,k,h8,e4]
  unfold oz
  rw[zv]
  congr 1
  simp only[Int.natCast_add];omega
def gJ(s:Score)(v:View):Prop:=cN s/\v.bh.length=s.bars.length/\(∃p,partOf s v.part=some p/\((v.bh.zip s.bars).all (iA p))=true)/\(cP v).length<=20000/\((cP v).map Written.id).Nodup
def Kp:∀{l:List Nat}{n:Nat},n∈l->n<=l.sum
 | [],_,h=>by cases h
 |x::l,n,h=>by
  rw[List.sum_cons]
  rcases fb.1 h with rfl|h
  ·omega
  have:=Kp h;omega
def mO{v:View}{m:aL}(h:m∈v.bh):m.notes.length<=(cP v).length:=by
 unfold cP
 rw[Kn]
 exact Kp (hz.2 ⟨m,h,rfl⟩)
def AL{s:Score}(k:cN s){id:Int}{p:Part}(h:partOf s id=some p):ez p/\p∈s.parts/\p.id=id:=by
 unfold partOf at h
 have j:=hE h
 exact⟨k.2.2.1.2.1 p j,j,by simpa using k7 h⟩
def mw{s:Score}(j:cN s){b:aM}(h:b∈s.bars):e9 b:=j.2.1.2.1 b h
open Classical in
theorem Oh{s:Score}{v:View}(aq:s.bars.length<=1048576)(aD:(cP v).length<=1000000):wC (s,v)=some (decide (gJ s v)):=by
 unfold wC
 dsimp only
 rw[A8 aq,af]
 by_cases B:cN s
 ·rw[aj (by simp[B]),af]
  by_cases aa:v.bh.length=s.bars.length
  ·have aA:=B.2.1.1.2
   have aB:=B.2.2.1.1.2
   rw[aj (by simp[aa]),GR (by omega),af]
   cases O:partOf s v.part with
   |none=>
    dsimp only
    rw[ak (c:= !false) rfl,dk]
    rintro⟨_,_,⟨p,h,_⟩,_⟩
    rw[O]at h;cases h
   |some p=>
    have ay:=(AL B O).1
    dsimp only
    rw[aj (c:= !true) rfl]
    have av:(v.bh.zip s.bars).length=v.bh.length:=by rw[List.length_zip];omega
    rw[dm (σ:=Int×List (Int×Bool)) (st:=λz k=>(z.1,k,z.2)) (l:=v.bh.zip s.bars) (λz x=>if iA p x=true then .inl (z.1+(x.1.notes.length:Int),oz z.2 x.1.notes)else .inr (.inr false)) (λz=>.inl z) (λk z=>0<=z.1/\z.1<=1000000*(k:Int)) (λk x z ad ao=>by
     obtain⟨F,Z⟩:=yy ad
     have au:=bx F
     have aw:=dn F
     have an:=mw B (dn Z)
     have ax:=mO aw
     dsimp only
     rw[ak (by simpa using au),aY (aS F),aY (aS Z),Oj ay an.2.2.2,af,UU (by omega),af,H4,WK,af]
     by_cases ab:vo p x.2 x.1/\my (λa b=>!decide (cr wK b a<0)) x.1.notes=true
     ·obtain⟨⟨ae,ag,Y⟩,ah⟩:=ab
      rw[aj (by simp[ae,ag,Y,ah]),UP (by rw[Y];exact an.2.1) (by omega)]
      by_cases M:(x.1.notes.all λw=>decide (ig x.1.length w))=true
      ·have G:iA p x=true:=by unfold iA;rw[M,ah,db (p:=vo p x.2 x.1) ⟨ae,ag,Y⟩];rfl
       rw[if_pos M,if_pos G,eT,aC (by omega),aC (by omega)];rfl
      have G:¬iA p x=true:=by unfold iA;rw[om]at M;rw[M];simp
      rw[if_neg M,if_neg G,fy]
     ·have G:¬iA p x=true:=λh=>ab (by
       unfold iA at h
       simp only[dd,ek]at h
       exact h.1)
      rw[if_neg G,ak (by
       refine hB λj=>ab ?_
       simp only[om,nh,tr,ek]at j
       exact⟨⟨j.1.1.1,j.1.1.2,j.1.2⟩,j.2⟩)]) (λk x z z' ad ao j=>by
     obtain⟨F,Z⟩:=yy ad
     have ax:=mO (dn F)
     split at j
     ·injection j with j;subst j;dsimp only;omega
     cases j) (λz ao=>by dsimp only;rw[av,aj (by simp)]) (0,[]) ⟨by simp,by simp⟩,vl]
    by_cases N:(v.bh.zip s.bars).all (iA p)=true
    ·rw[if_pos N,eT,JH (λ(z:Int×List (Int×Bool))(m:aL)=>(z.1+(m.notes.length:Int),oz z.2 m.notes)) _ _ _ (by omega),Ub]
     dsimp only
     obtain⟨az,ai⟩:=JF Written.id (λ_=>true) (v.bh.flatMap aL.notes) []
     rw[show((0:Int)+((v.bh.flatMap aL.notes).length:Int))=((cP v).length:Int) by unfold cP;omega]
     by_cases al:(cP v).length<=20000
     ·rw[ak (db (by omega)),af]
      refine jL ?_
      rw[ek]
      have ar:((oz [] (cP v)).length:Int)=((cP v).length:Int)↔((cP v).map Written.id).Nodup:=by
       unfold oz cP
       rw[Int.natCast_inj]
       simp only[List.length_nil,ia]at ai
       rw[ai]
       exact⟨λh=>h.1,λh=>⟨h,λ_ _=>rfl⟩⟩
      refine(ar).trans ⟨λh=>⟨B,aa,⟨p,O,N⟩,al,h⟩,λh=>h.2.2.2.2⟩
     rw[aj (dk (by omega)),af,dk (λh=>al h.2.2.2.1)]
    rw[if_neg N,fy,dk]
    rintro⟨_,_,⟨q,U,h⟩,_⟩
    rw[O]at U
    injection U with U;subst U
    exact N h
  rw[ak (by simp;omega),dk (λh=>aa h.2.1)]
 rw[ak (by simp[B]),af,ak rfl,dk (λh=>B h.1)]
end Go.Proofs.YthhlipkkjippfaaGreatDoor
namespace Go.Proofs.YthhlipkkjippfaaGreatDoor
open Go Go.ag Go.Sy
attribute [local instance] bV cB
def gk(p:Part):Int:=if p.of=0 then p.id else p.of
def Lx(s:Score)(p:Part):Part:=(partOf s (gk p)).getD p
def YP{l:List Part}(F:l.length<=1000000)(id:Int):AF (l,(),id)=some (ix l λp=>decide (p.id=id)):=by
 unfold AF
 dsimp only
 rw[mQ (l:=l) (λp=>decide (p.id=id)) (λk x j=>by
  have B:=bx j
  rw[ak (by simpa using B),aY (aS j)]
  unfold E9
  dsimp only
  unfold Fa
  simp only[af]
  by_cases h:x.id=id
  ·rw[ak (by simp[h])];simp[h]
  rw[aj (by simp[h]),aC (by omega)];simp[h]) (by rw[aj (by simp)])]
 exact qM l _
def YQ{l:List Part}(j:l.length<=1000000)(id:Int):Aq (l,id,())=some (max (ix l λp=>decide (p.id=id)) 0,decide (0<=ix l λp=>decide (p.id=id))):=by
 unfold Aq
 dsimp only
 rw[YP j,af]
def others(s:Score)(p:Part):List aq:=s.notes.filter λn=>!decide (n.part=gk p)
def tB(x:aP)(n:Int):aP:=⟨x.step,x.alter,x.aZ-n⟩
def jA(p:Part)(b:aM)(w:Written):aP×Int:=eK w.aR (cM (jC p b.key))
def y7(s:Score)(p:Part)(b:aM)(w:Written):aq:=⟨w.id,gk p,b.id,w.bc,w.bF,w.start,w.length,tB (jA p b w).1 p.aZ⟩
def T3(s:Score)(p:Part)(x:aP):Prop:=kY x/\num (Lx s p).low<=num x/\num x<=num (Lx s p).high
instance (s:Score) (p:Part) (x:aP):Decidable (T3 s p x):=inferInstanceAs (Decidable (_/\_/\_))
end Go.Proofs.YthhlipkkjippfaaGreatDoor
namespace Go.Proofs.YthhlipkkjippfaaGreatDoor
open Go Go.ag Go.Sy
attribute [local instance] bV cB
def JE{α:Type}(id:α->Int)(k:Int):∀(l:List α)(z:List (Int×Bool)),an (l.foldl (λm x=>aH m (id x) true) z) k false=(an z k false||l.any λx=>decide (id x=k))
 | [],z=>by simp
 |x::l,z=>by
  rw[List.foldl_cons,JE id k l,mX,List.any_cons]
  by_cases h:k=id x
  ·rw[if_pos h];simp[h]
  rw[if_neg h,dk (hW h)];simp
end Go.Proofs.YthhlipkkjippfaaGreatDoor
namespace Go.Proofs.YthhlipkkjippfaaGreatDoor
open Go Go.ag Go.Sy
attribute [local instance] bV cB
def eu{α β ρ:Type}(E:α->Int)(j:α->β)(R:α->ρ)(fin:List β->ρ)(l:List α)(z:List β):ρ:=match l.find? λx=>decide (E x≠0)with
 |some x=>R x
 |none=>fin (z++l.map j)
def vk{α β ρ:Type}(E:α->Int)(j:α->β)(R:α->ρ)(fin:List β->ρ)(x:α)(l:List α)(z:List β):eu E j R fin (x::l) z=if E x=0 then eu E j R fin l (z++[j x])else R x:=by
 unfold eu
 rw[List.find?_cons]
 by_cases h:E x=0
 ·rw[if_pos h,dk (by simpa using h)]
  dsimp only
  cases l.find? λx=>decide (E x≠0)with
  |none=>simp
  |some y=>rfl
 rw[if_neg h,db h]
def Jz{α β ρ:Type}(E:α->Int)(j:α->β)(R:α->ρ)(fin:List β->ρ):∀(l:List α)(z:List β),dN (λ(z:List β) x=>if E x=0 then .inl (z++[j x])else .inr (R x)) fin l z=eu E j R fin l z
 | [],z=>by unfold eu;simp[dN]
 |x::l,z=>by
  have k:=Jz E j R fin l (z++[j x])
  rw[vk]
  simp only[dN]
  by_cases h:E x=0
  ·rw[if_pos h,if_pos h];exact k
  rw[if_neg h,if_neg h]
def Jp{α β ρ:Type}(E:α->Int)(j:α->β)(R:α->ρ)(fin:List β->ρ):∀(l m:List α)(z:List β),eu E j R fin (l++m) z=eu E j R (λz'=>eu E j R fin m z') l z
 | [],m,z=>by
  simp only[eu,List.nil_append,List.find?_nil,abj,nb]
 |x::l,m,z=>by
  rw[List.cons_append,vk,vk,Jp E j R fin l m]
def iG(s:Score)(v:View):List (aM×Written):=(v.bh.zip s.bars).flatMap λx=>x.1.notes.map λw=>(x.2,w)
def Ua{α σ ρ:Type}(f:σ->α->σ⊕ρ)(fin:σ->ρ)(x:α)(xs:List α)(z:σ):dN f fin (x::xs) z=Sum.elim (dN f fin xs) id (f z x):=by
 simp only[dN]
 cases f z x<;>rfl
theorem JA{ρ:Type}(E:aM×Written->Int)(j:aM×Written->aq)(R:aM×Written->ρ)(fin:List aq->ρ):∀(l:List (aL×aM))(z:List aq),dN (λ(z:List aq)(x:aL×aM)=>eu (ρ:=(List aq)⊕ρ) (λw=>E (x.2,w)) (λw=>j (x.2,w)) (λw=>.inr (R (x.2,w))) (λz=>.inl z) x.1.notes z) fin l z=eu E j R fin (l.flatMap λx=>x.1.notes.map λw=>(x.2,w)) z
 | [],z=>by unfold eu;simp[dN]
 |x::l,z=>by
  rw[h8,Jp,Ua]
  have key:∀(ws:List Written)(z:List aq),Sum.elim (dN (λ(z:List aq)(x:aL×aM)=>eu (ρ:=(List aq)⊕ρ) (λw=>E (x.2,w)) (λw=>j (x.2,w)) (λw=>.inr (R (x.2,w))) (λz=>.inl z) x.1.notes z) fin l) id (eu (ρ:=(List aq)⊕ρ) (λw=>E (x.2,w)) (λw=>j (x.2,w)) (λw=>.inr (R (x.2,w))) (λz=>.inl z) ws z)=eu E j R (λz'=>eu E j R fin (l.flatMap λx=>x.1.notes.map λw=>(x.2,w)) z') (ws.map λw=>(x.2,w)) z:=by
   intro ws
   induction ws with
   |nil=>
    intro z
    have M:∀{β:Type}(B:Written->Int)(F:Written->aq)(G:Written->β)(k:List aq->β)(z:List aq),eu B F G k [] z=k z:=λB F G k z=>by unfold eu;simp
    have N:∀{β:Type}(B:aM×Written->Int)(F:aM×Written->aq)(G:aM×Written->β)(k:List aq->β)(z:List aq),eu B F G k [] z=k z:=λB F G k z=>by unfold eu;simp
    rw[abj,M,N]
    exact JA E j R fin l z
   |cons w ws O=>
    intro z
    rw[fv,vk,vk]
    by_cases h:E (x.2,w)=0
    ·rw[if_pos h,if_pos h];exact O _
    rw[if_neg h,if_neg h];rfl
  exact key x.1.notes z
def pN(s:Score)(p:Part)(q:aM×Written):aq:=y7 s p q.1 q.2
theorem T1{α β:Type}{E:α->Int}{j:α->β}{ρ:Type}{R:α->ρ}{l:List α}{z z':List β}(h:eu (ρ:=(List β)⊕ρ) E j (λx=>.inr (R x)) (λz=>.inl z) l z = .inl z'):z'.length=z.length+l.length:=by
 unfold eu at h
 split at h
 ·cases h
 injection h with h;subst h;simp
def xG{α:Type}(l:List α)(x:α):(List.append l (x::([]:List α))).length=l.length+1:=by
 show(l++[x]).length=_
 simp
end Go.Proofs.YthhlipkkjippfaaGreatDoor
namespace Go.Proofs.YthhlipkkjippfaaGreatDoor
open Go Go.ag Go.Sy
attribute [local instance] bV cB
def mY(x:aP)(n:Int):aP:=⟨x.step,x.alter,x.aZ+n⟩
def nd(p:Part)(n:aq):aq:=⟨n.id,p.id,n.az,n.bc,n.bF,n.start,n.length,mY n.aR p.aZ⟩
def jJ(s:Score)(p:Part):List aq:=(s.notes.filter λn=>decide (n.part=gk p)).map (nd p)
def Xi{s:Score}(F:cN s){id:Int}{p:Part}(B:partOf s id=some p):An (s,id)=some (jJ s p,0):=by
 have ah:=F.2.1.1.2
 have av:=F.2.2.1.1.2
 have ao:=F.2.2.2.1.2.1
 obtain⟨ab,an,ai⟩:=AL F B
 have au:=ab.2.2.2.1
 unfold An
 dsimp only
 rw[A8 (by omega),af,aj (by simp[F]),YQ (by omega),af]
 dsimp only
 unfold partOf at B
 rcases qP s.parts λq=>decide (q.id=id)with ⟨O,U⟩| ⟨k,q,O,U,Y,ag⟩
 ·rw[O]at B;cases B
 rw[U]at B
 injection B with B;subst B
 rw[Y,aj (by simp),show max (k:Int) 0=(k:Int) by omega,aY (aS O)]
 have aa:As (s,q)=some (s,gk q,q):=by
  unfold As gk
  dsimp only
  by_cases M:q.of=0
  ·rw[ak (by simp[M]),af,if_pos M]
  rw[aj (by simp[M]),af,if_neg M]
 rw[aa,af]
 dsimp only
 rw[dm (σ:=List aq) (st:=λz k=>(k,z)) (l:=s.notes) (λz n=>.inl (if decide (n.part=gk q)=true then z++[nd q n]else z)) (λz=>z) (λk z=>z.length<=k) (λj n z N ad=>by
  have al:=bx N
  have Z:=F.2.2.2.1.2.2.1 n (dn N)
  obtain⟨_,_,_,_,G,_⟩:=pF Z
  have ar:=G.2.2.2.2.2.2.2.2.2.2
  dsimp only
  rw[ak (db (by omega)),aY (aS N)]
  by_cases h:n.part=gk q
  ·rw[aj (by simp[h]),aC (by omega),cq (db (by rw[xG];omega)),af,aC (by omega),if_pos (db h)];rfl
  ·rw[ak (by simp[h]),af,aC (by omega),if_neg (by simpa using h)];rfl) (λj n z z' N ad G=>by
  injection G with G;subst G
  split
  ·rw[e4];simp only[List.length_cons,List.length_nil];omega
  omega) (λz _=>by dsimp only;rw[aj (by simp)]) [] (by simp),eS (λ(z:List aq)(n:aq)=>if decide (n.part=gk q)=true then z++[nd q n]else z) _ _ (λ_ _ _=>rfl),af]
 have key:∀(l:List aq)(z:List aq),l.foldl (λz n=>if decide (n.part=gk q)=true then z++[nd q n]else z) z=z++(l.filter λn=>decide (n.part=gk q)).map (nd q):=by
  intro l
  induction l with
  |nil=>intro z;simp
  |cons n l ae=>
   intro z
   rw[List.foldl_cons,ae,kB]
   by_cases h:decide (n.part=gk q)=true
   ·rw[if_pos h,if_pos h];simp
   rw[if_neg h,if_neg h]
 rw[key]
 rfl
end Go.Proofs.YthhlipkkjippfaaGreatDoor
namespace Go.Proofs.YthhlipkkjippfaaGreatDoor
open Go Go.ag Go.Sy
attribute [local instance] bV cB
def qg(p:Part)(b:aM)(n:aq):Written:=⟨n.id,n.bc,n.bF,n.start,n.length,(eK n.aR (jC p b.key)).1⟩
def aaX{p:Part}(k:ez p){b:aM}(j:dO b.key)(n:aq):wH (⟨p⟩,b,n)=some (qg p b n):=by
 unfold wH
 dsimp only
 rw[UC k j,af]
 rfl
def JQ{p:Part}(N:ez p){b:aM}(M:dO b.key):∀(l:List aq)(out:List Written),out.length+l.length<=1000000->ay (λj:((List aq)×(List Written))=>aa (ab (ah 0 (j.1.length:Int)) (aa (au j.1 0) λB=>some (aA B.az b.id)) (some false)) λ(B:Bool)=>ab B (aa (au j.1 0) λU=>aa (wH (⟨p⟩,(b,U))) λF=>ae (decide ((List.append j.2 (F::([]:List Written))).length*80<=140737488355328/\(List.append j.2 (F::([]:List Written))).length<=9223372036854775807)) <|ae ((leI 0 1)&&(leI 1 (j.1.length:Int))) <|some (.inl ((List.drop (Int.toNat 1) j.1),(List.append j.2 (F::([]:List Written)))))) (some (.inr (j.1,j.2)))) (l,out)=some (l.dropWhile (λn=>decide (n.az=b.id)),out++(l.takeWhile λn=>decide (n.az=b.id)).map (qg p b))
 | [],out,_=>by
  refine(gC (r:=(([]:List aq),out)) ?_).trans ?_
  ·dsimp only
   rw[aj (by simp),af,aj rfl]
  simp
 |n::l,out,O=>by
  have G:au (n::l) (0:Int)=some n:=rfl
  simp only[List.length_cons]at O
  rw[KR,K1]
  by_cases h:n.az=b.id
  ·have k:decide (n.az=b.id)=true:=db h
   rw[kU (z':=(l,out++[qg p b n])) (by
    dsimp only
    rw[ak (db (by simp only[List.length_cons];omega)),G,af,af,ak (by simp[h]),af,aaX N M,af,cq (db (by rw[xG];omega)),cq (by
     rw[dd];exact⟨by decide,db (by simp only[List.length_cons];omega)⟩)]
    rfl),JQ N M l _ (by rw[e4];simp only[List.length_cons,List.length_nil];omega),if_pos k,if_pos k]
   simp
  have k:¬decide (n.az=b.id)=true:=by simpa using h
  rw[if_neg k,if_neg k]
  refine(gC (r:=(n::l,out)) ?_).trans ?_
  ·dsimp only
   rw[ak (db (by simp only[List.length_cons];omega)),G,af,af,aj (by simp[h])]
  simp
def getM(p:Part):List aM->List aq->List aL
 | [],_=>[]
 |b::bs,l=>⟨b.id,tj p b.key,b.length,(l.takeWhile λn=>decide (n.az=b.id)).map (qg p b)⟩::getM p bs (l.dropWhile λn=>decide (n.az=b.id))
def ct(s:Score)(p:Part):View:=⟨p.id,getM p s.bars (jJ s p)⟩
def yt(p:Part)(z:List aq×List aL)(b:aM):List aq×List aL:=(z.1.dropWhile (λn=>decide (n.az=b.id)),z.2++[⟨b.id,tj p b.key,b.length,(z.1.takeWhile λn=>decide (n.az=b.id)).map (qg p b)⟩])
def JM(p:Part):∀(j:List aM)(z:List aq×List aL),(j.foldl (yt p) z).2=z.2++getM p j z.1
 | [],z=>by simp[getM]
 |b::j,z=>by
  rw[List.foldl_cons,JM p j]
  show(z.2++[_])++getM p j _=z.2++(_::getM p j _)
  rw[j2]
  rfl
def S7{α:Type}(q:α->Bool)(l:List α):(l.dropWhile q).length<=l.length:=(List.dropWhile_sublist q).length_le
def get_eq{s:Score}(j:cN s){id:Int}{p:Part}(G:partOf s id=some p):rF (s,id)=some (ct s p,0):=by
 have Z:=j.2.1.1.2
 have ae:=j.2.2.1.1.2
 have O:=j.2.2.2.1.2.1
 obtain⟨N,ad,aa⟩:=AL j G
 have U:(jJ s p).length<=20000:=by unfold jJ;rw[hM];exact hF (j4 _ _) O
 unfold rF
 dsimp only
 rw[Xi j G,af,aj (by simp),GR (by omega),af,G]
 dsimp only
 rw[dm (σ:=List aq×List aL) (st:=λz k=>(k,z)) (l:=s.bars) (λz b=>.inl (yt p z b)) (λz=>z.2) (λk z=>z.1.length<=20000/\z.2.length<=k) (λk b z B Y=>by
  have ab:=bx B
  have M:=mw j (dn B)
  dsimp only
  rw[ak (db (by omega)),aY (aS B),JQ N M.2.2.2 z.1 [] (by simp only[List.length_nil];omega),af]
  dsimp only
  rw[Oj N M.2.2.2,af,cq (db (by rw[xG];omega)),aC (by omega)]
  rfl) (λk b z z' B Y F=>by
  injection F with F;subst F
  unfold yt
  dsimp only
  have:=S7 (λn=>decide (n.az=b.id)) z.1
  rw[e4]
  simp only[List.length_cons,List.length_nil]
  omega) (λz _=>by dsimp only;rw[aj (by simp)]) (jJ s p,[]) ⟨U,by simp⟩,eS (yt p) _ _ (λ_ _ _=>rfl),af,JM]
 rfl
end Go.Proofs.YthhlipkkjippfaaGreatDoor
namespace Go.Proofs.YthhlipkkjippfaaGreatDoor
open Go Go.ag Go.Sy
attribute [local instance] bV cB
def SJ(q:Rat):zu q=some (decide (bI q)):=by
 unfold zu
 rw[rL,af]
 by_cases j:je q
 ·have B:q.d≠0:=by have:=j.1;omega
  rw[ak (by simp[j]),cq (by simp[B])]
  by_cases k:0<=q.n
  ·rw[ak (by simp[k]),af]
   exact ea some (by rw[hI];simp[bI,j,k])
  rw[aj (by simp;omega),af,dk (λh=>k h.2.1)]
 rw[aj (by simp[j]),af,dk (λh=>j h.1)]
def iC(w:Written):Prop:=(0<=w.bc/\w.bc<=9)/\(0<=w.bF/\w.bF<=20)/\bI w.start/\bR w.aR
instance (w:Written):Decidable (iC w):=inferInstanceAs (Decidable (_/\_/\_/\_))
def OM(a b c d e f:Bool):ab a (ab b (ab c (ab d (aa (some e) λj=>ab j (aa (some f) λk=>some k) (some false)) (some false)) (some false)) (some false)) (some false)=some (a&&b&&c&&d&&e&&f):=by cases a<;>cases b<;>cases c<;>cases d<;>cases e<;>cases f<;>rfl
def SI(w:Written):zt w=some (decide (iC w)):=by
 unfold zt
 rw[SJ,lW,OM,af]
 exact jL (by simp[iC,n3])
def SC{l:List Written}(F:l.length<=1000000000):AD (l,())=some (l.any λw=>!decide (iC w)):=by
 unfold AD
 dsimp only
 rw[lE (l:=l) (λw=>!decide (iC w)) (λk x j=>by
  have B:=bx j
  unfold EN
  rw[ak (by simpa using B),aY (aS j),SI,af,af]
  cases decide (iC x)
  ·rfl
  show ab false _ _=_
  rw[gA,aC (by omega)];rfl) (by rw[aj (by simp)])]
def iK(v:View):Prop:=v.bh.length<=4000/\(cP v).length<=20000/\∀m∈v.bh,∀w∈m.notes,iC w
instance (v:View):Decidable (iK v):=inferInstanceAs (Decidable (_/\_/\_))
def JB{ρ:Type}(r:ρ):∀(l:List aL)(z:Int),dN (λ(z:Int)(m:aL)=>if(m.notes.any λw=>!decide (iC w))=true then(.inr (.inr r):Int⊕(Int⊕ρ))else .inl (z+(m.notes.length:Int))) (λz=>.inl z) l z=if(∀m∈l,∀w∈m.notes,iC w)then .inl (z+((l.flatMap aL.notes).length:Int))else .inr r
 | [],z=>by simp[dN]
 |m::l,z=>by
  simp only[dN]
  by_cases j:∀w∈m.notes,iC w
  ·have e:(m.notes.any λw=>!decide (iC w))=false:=by
    rw[mb];intro w k;simp[j w k]
   rw[e,if_neg (by decide)]
   dsimp only
   rw[JB r l]
   rw[h8,e4,Int.natCast_add,Int.add_assoc]
   refine J8 ?_
   simp only[fb,forall_eq_or_imp]
   exact⟨λh=>⟨j,h⟩,λh=>h.2⟩
  have e:(m.notes.any λw=>!decide (iC w))=true:=by
   rw[hU]
   refine hB λB=>j λw k=>?_
   refine hB λF=>B ⟨w,k,by simp[F]⟩
  rw[e,if_pos rfl,if_neg (λh=>j (h m (by simp)))]
def x9{v:View}(U:v.bh.length<=1000000)(Y:(cP v).length<=1000000):rn v=some (decide (iK v)):=by
 unfold rn
 rw[dm (σ:=Int) (st:=λz k=>(z,k)) (l:=v.bh) (λ(z:Int)(m:aL)=>if(m.notes.any λw=>!decide (iC w))=true then .inr (.inr false)else .inl (z+(m.notes.length:Int))) (λz=>.inl z) (λk z=>0<=z/\z<=k*1000000) (λk x z j O=>by
  have M:=bx j
  have N:=mO (dn j)
  dsimp only
  rw[ak (by simpa using M),aY (aS j),aC (by omega),SC (by omega),af]
  cases (x.notes.any λw=>!decide (iC w))
  ·rw[gA,aC (by omega)];rfl
  ·rfl) (λk x z z' j O B=>by
  have N:=mO (dn j)
  by_cases F:(x.notes.any λw=>!decide (iC w))=true
  ·rw[if_pos F]at B;cases B
  rw[if_neg F]at B;cases B;omega) (λz _=>by dsimp only;rw[aj (by simp)]) 0 (by omega),JB]
 by_cases h:∀m∈v.bh,∀w∈m.notes,iC w
 ·rw[if_pos h,eT]
  have e:(v.bh.flatMap aL.notes)=cP v:=rfl
  rw[e,abm,gR,af]
  refine ea some ?_
  unfold leI
  rw[hI,dd,ek,ek,ek]
  constructor
  ·rintro⟨a,b⟩;exact⟨by omega,by omega,h⟩
  rintro⟨a,b,_⟩;exact⟨by omega,by omega⟩
 rw[if_neg h,fy,dk (λG=>h G.2.2)]
def BD{s:Score}{v:View}(h:gJ s v):iK v:=by
 obtain⟨Y,ae,⟨p,af,O⟩,N,_⟩:=h
 have ab:=Y.2.1.1.2
 refine⟨by omega,N,λm U w Z=>?_⟩
 obtain⟨k,j⟩:=vc U
 have ad:=bx j
 have aa:(v.bh.zip s.bars)[k]?=some (m,s.bars[k]'(by omega)):=by
  rw[v8];exact⟨j,c4 (by omega)⟩
 have:=dT.1 O _ (dn aa)
 unfold iA at this
 simp only[dd,dT,ek]at this
 obtain⟨_,B,F,G,M,_⟩:=this.2 w Z
 exact⟨B,F,M,G⟩
theorem Kj{α:Type}(cC:α->Bool){step:Int×(Int×List α)->Option ((Int×(Int×List α))⊕(Int×List α))}(ae:∀(i j:Nat)(l:List α)(x:α),l[j]?=some x->i<j->l.length<=1000000000->step ((i:Int),((j:Int),l))=some (.inl (if cC x=true then(((i+1:Nat):Int),(((j+1:Nat):Int),l.set i x))else((i:Int),(((j+1:Nat):Int),l)))))(ab:∀(i:Nat)(l:List α),step ((i:Int),((l.length:Int),l))=some (.inr ((i:Int),l))) :
  ∀(n i j:Nat)(l:List α),j+n=l.length->i<j->l.length<=1000000000->∃l',ay step ((i:Int),((j:Int),l))=some (((i+((l.drop j).filter cC).length:Nat):Int),l')/\l'.length=l.length/\l'.take (i+((l.drop j).filter cC).length)=l.take i++(l.drop j).filter cC:=by
 intro n
 induction n with
 |zero=>
  intro i j l ad O N
  have:j=l.length:=by omega
  subst this
  refine⟨l,?_,rfl,?_⟩
  ·rw[D1];exact gC (ab i l)
  rw[D1];simp
 |succ n Z=>
  intro i j l ad O N
  have U:j<l.length:=by omega
  have Y:l[j]?=some l[j]:=c4 U
  rw[h9 U]
  generalize l[j]=x at Y
  have M:=ae i j l x Y O N
  cases k:cC x with
  |true=>
   rw[k,if_pos rfl]at M
   have aa:(l.set i x).drop (j+1)=l.drop (j+1):=by rw[List.drop_set_of_lt (by omega)]
   obtain⟨l',B,F,G⟩:=Z (i+1) (j+1) (l.set i x) (by rw[pb];omega) (by omega) (by rw[pb];omega)
   rw[aa]at B G
   rw[pb]at F
   have ht:(l.set i x).take (i+1)=l.take i++[x]:=by
    rw[T0,List.getElem?_set_self (by omega),List.take_set_of_le (eb _)];rfl
   refine⟨l',?_,F,?_⟩
   ·rw[kU M,B]
    simp[kB,k];omega
   rw[kB,if_pos k,List.length_cons,show i+(((l.drop (j+1)).filter cC).length+1)=i+1+((l.drop (j+1)).filter cC).length by omega,G,ht]
   simp
  |false=>
   rw[k,if_neg (by decide)]at M
   obtain⟨l',B,F,G⟩:=Z i (j+1) l (by omega) (by omega) N
   refine⟨l',?_,F,?_⟩
   ·rw[kU M,B]
    simp[kB,k]
   rw[kB,if_neg (by simp[k])];exact G
def CU{α:Type}(cC:α->Bool):∀(l:List α),match l.findIdx? (λx=>!cC x)with
  |some i=>i<l.length/\l.filter cC=l.take i++(l.drop (i+1)).filter cC
  |none=>l.filter cC=l
 | []=>rfl
 |x::l=>by
  have j:=CU cC l
  rw[p6]
  cases k:cC x with
  |true=>
   rw[if_neg (by simp)]
   cases B:l.findIdx? (λx=>!cC x)with
   |none=>
    rw[B]at j
    dsimp only at j
    show(x::l).filter cC=x::l
    rw[kB,if_pos k,j]
   |some i=>
    rw[B]at j
    dsimp only at j
    show i+1<(x::l).length/\(x::l).filter cC=(x::l).take (i+1)++((x::l).drop (i+1+1)).filter cC
    refine⟨by simp;omega,?_⟩
    rw[kB,if_pos k,j.2];rfl
  |false=>
   rw[if_pos (by simp)]
   show 0<(x::l).length/\(x::l).filter cC=(x::l).take 0++((x::l).drop (0+1)).filter cC
   refine⟨by simp,?_⟩
   rw[kB,if_neg (by simp[k])];rfl
def SV{l:List Written}(ag:l.length<=1000000)(o:Int):(aa (aQ (ay (λF:Int=>ab (ah F (l.length:Int)) (ae ((leI 0 F)&&(ah F (l.length:Int))) <|aa (au l F) λB=>ab (!(aA B.bF o)) (some (.inr (.inr F))) (ae (ai (F+1)) <|some (.inl (F+1)))) (some (.inr (.inl ())))) 0) λ(F:Unit)=>some (-1)) λ(F:Int)=>ab (aA F (-1)) (some l) (aa (ae (ai (F+1)) <|ay (λB:(Int×(Int×(List Written)))=>ab (ah B.2.1 (B.2.2.length:Int)) (aa (ae ((leI 0 B.2.1)&&(ah B.2.1 (B.2.2.length:Int))) <|aa (au B.2.2 B.2.1) λG=>ab (!(!(aA G.bF o))) (ae ((leI 0 B.1)&&(ah B.1 (B.2.2.length:Int))) <|aa (au B.2.2 B.1) λao=>ae (ai (B.1+1)) <|some ((B.1+1),(List.set B.2.2 (Int.toNat B.1) G))) (some (B.1,B.2.2))) λ(G:(Int×(List Written)))=>ae (ai (B.2.1+1)) <|some (.inl (G.1,((B.2.1+1),G.2)))) (some (.inr (B.1,B.2.2)))) (F,((F+1),l))) λ(B:(Int×(List Written)))=>ae ((leI 0 B.1)&&(leI B.1 (B.2.length:Int))) <|ae ((leI 0 B.1)&&(leI B.1 ((List.append (List.take (Int.toNat B.1) B.2) (List.replicate (Int.toNat ((B.2.length:Int)-B.1)) ((⟨0,0,0,(⟨0,0⟩:Rat),(⟨0,0⟩:Rat),(⟨0,0,0⟩:aP)⟩:Written):Written))).length:Int))) <|some (List.take (Int.toNat B.1) (List.append (List.take (Int.toNat B.1) B.2) (List.replicate (Int.toNat ((B.2.length:Int)-B.1)) ((⟨0,0,0,(⟨0,0⟩:Rat),(⟨0,0⟩:Rat),(⟨0,0,0⟩:aP)⟩:Written):Written))))))=some (l.filter λw=>decide (w.bF=o)):=by
 have af:=Kj (α:=Written) (λw=>decide (w.bF=o)) (step:=(λB:(Int×(Int×(List Written)))=>ab (ah B.2.1 (B.2.2.length:Int)) (aa (ae ((leI 0 B.2.1)&&(ah B.2.1 (B.2.2.length:Int))) <|aa (au B.2.2 B.2.1) λG=>ab (!(!(aA G.bF o))) (ae ((leI 0 B.1)&&(ah B.1 (B.2.2.length:Int))) <|aa (au B.2.2 B.1) λao=>ae (ai (B.1+1)) <|some ((B.1+1),(List.set B.2.2 (Int.toNat B.1) G))) (some (B.1,B.2.2))) λ(G:(Int×(List Written)))=>ae (ai (B.2.1+1)) <|some (.inl (G.1,((B.2.1+1),G.2)))) (some (.inr (B.1,B.2.2))))) (λi j l x N ar ag=>by
  have av:=bx N
  obtain⟨y,an⟩:∃y,l[i]?=some y:=⟨_,c4 (by omega)⟩
  dsimp only
  rw[ak (db (by omega)),cq (show(leI 0 (j:Int)&&ah (j:Int) (l.length:Int))=true by rw[dd];exact⟨db (by omega),db (by omega)⟩),aY (aS N)]
  show aa (ab (!(!(decide (x.bF=o)))) _ _) _=_
  cases decide (x.bF=o)
  ·rw[if_neg (by decide)]
   refine(aI (x:=((i:Int),l)) rfl).trans ?_
   exact aC (n:=(j:Int)+1) (by omega)
  rw[if_pos rfl]
  refine(aI (x:=((i:Int)+1,l.set i x)) ?_).trans ?_
  ·refine(ak rfl).trans ?_
   rw[cq (show(leI 0 (i:Int)&&ah (i:Int) (l.length:Int))=true by rw[dd];exact⟨db (by omega),db (by omega)⟩),aY (aS an),aC (by omega),Int.toNat_natCast]
  exact aC (n:=(j:Int)+1) (by omega)) (λi l=>by dsimp only;rw[aj (by simp)])
 rw[mQ (l:=l) (λw=>!(decide (w.bF=o))) (λk x N=>by
  have ad:=bx N
  rw[ak (by simpa using ad),cq (show(leI 0 (k:Int)&&ah (k:Int) (l.length:Int))=true by rw[dd];exact⟨db (by omega),db (by omega)⟩),aY (aS N)]
  show ab (!(decide (x.bF=o))) _ _=_
  cases decide (x.bF=o)
  ·rfl
  show ab false _ _=_
  rw[gA,aC (by omega)];rfl) (by rw[aj (by simp)])]
 have M:=CU (λw=>decide (w.bF=o)) l
 cases Y:l.findIdx? (λw=>!(decide (w.bF=o)))with
 |none=>
  rw[Y]at M
  dsimp only at M
  rw[M];rfl
 |some i=>
  rw[Y]at M
  dsimp only at M
  obtain⟨hi,M⟩:=M
  obtain⟨l',U,aq,O⟩:=af (l.length-(i+1)) i (i+1) l (by omega) (by omega) (by omega)
  rw[<-M]at O
  have al:i+((l.drop (i+1)).filter λw=>decide (w.bF=o)).length=(l.filter λw=>decide (w.bF=o)).length:=by
   rw[M,e4,fa,pa (by omega)]
  have aw:=j4 (λw=>decide (w.bF=o)) l
  rw[al]at U O
  refine(aI (x:=(i:Int)) rfl).trans ?_
  refine(aj (dk (by omega))).trans ?_
  refine(aI (x:=(((l.filter λw=>decide (w.bF=o)).length:Int),l')) ((aC (by omega)).trans U)).trans ?_
  generalize ax:(l.filter λw=>decide (w.bF=o))=r at *
  have Z:(List.append (List.take (Int.toNat (r.length:Int)) l') (List.replicate (Int.toNat ((l'.length:Int)-(r.length:Int))) ((⟨0,0,0,(⟨0,0⟩:Rat),(⟨0,0⟩:Rat),(⟨0,0,0⟩:aP)⟩:Written):Written)))=r++List.replicate (l'.length-r.length) (⟨0,0,0,⟨0,0⟩,⟨0,0⟩,⟨0,0,0⟩⟩:Written):=by
   rw[Int.toNat_natCast,O,show Int.toNat ((l'.length:Int)-(r.length:Int))=l'.length-r.length by omega];rfl
  dsimp only
  rw[Z]
  refine(cq (show(leI 0 (r.length:Int)&&leI (r.length:Int) (l'.length:Int))=true by rw[dd];exact⟨db (by omega),db (by omega)⟩)).trans ?_
  refine(cq (show(leI 0 (r.length:Int)&&leI (r.length:Int) ((r++List.replicate (l'.length-r.length) (⟨0,0,0,⟨0,0⟩,⟨0,0⟩,⟨0,0,0⟩⟩:Written)).length:Int))=true by rw[dd,e4];exact⟨db (by omega),db (by omega)⟩)).trans ?_
  rw[Int.toNat_natCast]
  simp
def SU{l:List Written}(al:l.length<=1000000)(o:Int):(aa (aQ (ay (λG:Int=>ab (ah G (l.length:Int)) (ae ((leI 0 G)&&(ah G (l.length:Int))) <|aa (au l G) λB=>aa (ab (aA B.bc 0) (some true) (some (aA B.bc o))) λ(F:Bool)=>ab (!F) (some (.inr (.inr G))) (ae (ai (G+1)) <|some (.inl (G+1)))) (some (.inr (.inl ())))) 0) λ(G:Unit)=>some (-1)) λ(G:Int)=>ab (aA G (-1)) (some l) (aa (ae (ai (G+1)) <|ay (λB:(Int×(Int×(List Written)))=>ab (ah B.2.1 (B.2.2.length:Int)) (aa (ae ((leI 0 B.2.1)&&(ah B.2.1 (B.2.2.length:Int))) <|aa (au B.2.2 B.2.1) λF=>aa (ab (aA F.bc 0) (some true) (some (aA F.bc o))) λ(aq:Bool)=>ab (!(!aq)) (ae ((leI 0 B.1)&&(ah B.1 (B.2.2.length:Int))) <|aa (au B.2.2 B.1) λar=>ae (ai (B.1+1)) <|some ((B.1+1),(List.set B.2.2 (Int.toNat B.1) F))) (some (B.1,B.2.2))) λ(F:(Int×(List Written)))=>ae (ai (B.2.1+1)) <|some (.inl (F.1,((B.2.1+1),F.2)))) (some (.inr (B.1,B.2.2)))) (G,((G+1),l))) λ(B:(Int×(List Written)))=>ae ((leI 0 B.1)&&(leI B.1 (B.2.length:Int))) <|ae ((leI 0 B.1)&&(leI B.1 ((List.append (List.take (Int.toNat B.1) B.2) (List.replicate (Int.toNat ((B.2.length:Int)-B.1)) ((⟨0,0,0,(⟨0,0⟩:Rat),(⟨0,0⟩:Rat),(⟨0,0,0⟩:aP)⟩:Written):Written))).length:Int))) <|some (List.take (Int.toNat B.1) (List.append (List.take (Int.toNat B.1) B.2) (List.replicate (Int.toNat ((B.2.length:Int)-B.1)) ((⟨0,0,0,(⟨0,0⟩:Rat),(⟨0,0⟩:Rat),(⟨0,0,0⟩:aP)⟩:Written):Written))))))=some (l.filter λw=>decide (w.bc=0)||decide (w.bc=o)):=by
 have ag:=Kj (α:=Written) (λw=>decide (w.bc=0)||decide (w.bc=o)) (step:=(λB:(Int×(Int×(List Written)))=>ab (ah B.2.1 (B.2.2.length:Int)) (aa (ae ((leI 0 B.2.1)&&(ah B.2.1 (B.2.2.length:Int))) <|aa (au B.2.2 B.2.1) λF=>aa (ab (aA F.bc 0) (some true) (some (aA F.bc o))) λ(aq:Bool)=>ab (!(!aq)) (ae ((leI 0 B.1)&&(ah B.1 (B.2.2.length:Int))) <|aa (au B.2.2 B.1) λar=>ae (ai (B.1+1)) <|some ((B.1+1),(List.set B.2.2 (Int.toNat B.1) F))) (some (B.1,B.2.2))) λ(F:(Int×(List Written)))=>ae (ai (B.2.1+1)) <|some (.inl (F.1,((B.2.1+1),F.2)))) (some (.inr (B.1,B.2.2))))) (λi j l x N aw al=>by
  have ax:=bx N
  obtain⟨y,ao⟩:∃y,l[i]?=some y:=⟨_,c4 (by omega)⟩
  dsimp only
  rw[ak (db (by omega)),cq (show(leI 0 (j:Int)&&ah (j:Int) (l.length:Int))=true by rw[dd];exact⟨db (by omega),db (by omega)⟩),aY (aS N),sX,af]
  show aa (ab (!(!(decide (x.bc=0)||decide (x.bc=o)))) _ _) _=_
  cases decide (x.bc=0)||decide (x.bc=o)
  ·rw[if_neg (by decide)]
   refine(aI (x:=((i:Int),l)) rfl).trans ?_
   exact aC (n:=(j:Int)+1) (by omega)
  rw[if_pos rfl]
  refine(aI (x:=((i:Int)+1,l.set i x)) ?_).trans ?_
  ·refine(ak rfl).trans ?_
   rw[cq (show(leI 0 (i:Int)&&ah (i:Int) (l.length:Int))=true by rw[dd];exact⟨db (by omega),db (by omega)⟩),aY (aS ao),aC (by omega),Int.toNat_natCast]
  exact aC (n:=(j:Int)+1) (by omega)) (λi l=>by dsimp only;rw[aj (by simp)])
 rw[mQ (l:=l) (λw=>!(decide (w.bc=0)||decide (w.bc=o))) (λk x N=>by
  have ad:=bx N
  rw[ak (by simpa using ad),cq (show(leI 0 (k:Int)&&ah (k:Int) (l.length:Int))=true by rw[dd];exact⟨db (by omega),db (by omega)⟩),aY (aS N),sX,af]
  show ab (!(decide (x.bc=0)||decide (x.bc=o))) _ _=_
  cases decide (x.bc=0)||decide (x.bc=o)
  ·rfl
  show ab false _ _=_
  rw[gA,aC (by omega)];rfl) (by rw[aj (by simp)])]
 have M:=CU (λw=>decide (w.bc=0)||decide (w.bc=o)) l
 cases Y:l.findIdx? (λw=>!(decide (w.bc=0)||decide (w.bc=o)))with
 |none=>
  rw[Y]at M
  dsimp only at M
  rw[M];rfl
 |some i=>
  rw[Y]at M
  dsimp only at M
  obtain⟨hi,M⟩:=M
  obtain⟨l',U,av,O⟩:=ag (l.length-(i+1)) i (i+1) l (by omega) (by omega) (by omega)
  rw[<-M]at O
  have an:i+((l.drop (i+1)).filter λw=>decide (w.bc=0)||decide (w.bc=o)).length=(l.filter λw=>decide (w.bc=0)||decide (w.bc=o)).length:=by
   rw[M,e4,fa,pa (by omega)]
  have az:=j4 (λw=>decide (w.bc=0)||decide (w.bc=o)) l
  rw[an]at U O
  refine(aI (x:=(i:Int)) rfl).trans ?_
  refine(aj (dk (by omega))).trans ?_
  refine(aI (x:=(((l.filter λw=>decide (w.bc=0)||decide (w.bc=o)).length:Int),l')) ((aC (by omega)).trans U)).trans ?_
  generalize aB:(l.filter λw=>decide (w.bc=0)||decide (w.bc=o))=r at *
  have Z:(List.append (List.take (Int.toNat (r.length:Int)) l') (List.replicate (Int.toNat ((l'.length:Int)-(r.length:Int))) ((⟨0,0,0,(⟨0,0⟩:Rat),(⟨0,0⟩:Rat),(⟨0,0,0⟩:aP)⟩:Written):Written)))=r++List.replicate (l'.length-r.length) (⟨0,0,0,⟨0,0⟩,⟨0,0⟩,⟨0,0,0⟩⟩:Written):=by
   rw[Int.toNat_natCast,O,show Int.toNat ((l'.length:Int)-(r.length:Int))=l'.length-r.length by omega];rfl
  dsimp only
  rw[Z]
  refine(cq (show(leI 0 (r.length:Int)&&leI (r.length:Int) (l'.length:Int))=true by rw[dd];exact⟨db (by omega),db (by omega)⟩)).trans ?_
  refine(cq (show(leI 0 (r.length:Int)&&leI (r.length:Int) ((r++List.replicate (l'.length-r.length) (⟨0,0,0,⟨0,0⟩,⟨0,0⟩,⟨0,0,0⟩⟩:Written)).length:Int))=true by rw[dd,e4];exact⟨db (by omega),db (by omega)⟩)).trans ?_
  rw[Int.toNat_natCast]
  simp
end Go.Proofs.YthhlipkkjippfaaGreatDoor
namespace Go.Proofs.YthhlipkkjippfaaGreatDoor
open Go Go.ag Go.Sy
attribute [local instance] bV cB
theorem VD{α σ:Type}(g:σ->α->σ){step:Int×σ->Option ((Int×σ)⊕σ)}{l:List α}(h:∀(k:Nat) x z,l[k]?=some x->step ((k:Int),z)=some (.inl ((k:Int)-1,g z x)))(F:∀z,step (-1,z)=some (.inr z)):∀(n:Nat)(z:σ),n<=l.length->ay step ((n:Int)-1,z)=some ((l.take n).foldr (λx z=>g z x) z):=by
 intro n
 induction n with
 |zero=>intro z _;exact gC (F z)
 |succ n G=>
  intro z M
  have j:l[n]?=some l[n]:=c4 (by omega)
  rw[T0,j]
  generalize l[n]=x at j
  have B:=h n x z j
  rw[show((n+1:Nat):Int)-1=(n:Int) by omega,kU B,G _ (by omega)]
  simp
theorem JI{p:Int->Bool}:∀(l:List Int),l.foldr (λn z=>if p n=true then n else z) 0=(l.find? p).getD 0
 | []=>rfl
 |x::l=>by
  rw[List.foldr_cons,JI l,List.find?_cons]
  cases p x<;>rfl
def foldl_map'{α β:Type}(g:α->β):∀(l:List α)(z:List β),l.foldl (λz x=>z++[g x]) z=z++l.map g
 | [],z=>by simp
 |x::l,z=>by rw[List.foldl_cons,foldl_map' g l];simp
def nf(c:List Int)(l:List Written):Int:=(c.find? λn=>l.any λw=>decide (w.bF=n)).getD 0
def Sz{l:List Written}(F:l.length<=1000000000)(n:Int):AB (l,n)=some (l.any λw=>decide (w.bF=n)):=by
 unfold AB
 dsimp only
 rw[lE (l:=l) (λw=>decide (w.bF=n)) (λk x j=>by
  have B:=bx j
  rw[ak (by simpa using B),aY (aS j)]
  show ab (decide (x.bF=n)) _ _=_
  cases decide (x.bF=n)
  ·rw[gA,aC (by omega)];rfl
  rfl) (by rw[aj (by simp)])]
def WN{m:aL}(G:m.notes.length<=1000000){c:List Int}(B:c.length<=1048576):zo (m,c)=some (nf c m.notes):=by
 unfold zo
 refine(aI (x:=nf c m.notes) ?_).trans rfl
 refine(aI (x:=c) rfl).trans ?_
 refine(aC (by omega)).trans ?_
 refine(VD (λz n=>if(m.notes.any λw=>decide (w.bF=n))=true then n else z) (l:=c) (λk x z j=>?_) (λz=>rfl) c.length 0 (eb _)).trans ?_
 ·have F:=bx j
  dsimp only
  rw[ak (db (by omega)),aY (aS j),Sz (by omega),af]
  cases (m.notes.any λw=>decide (w.bF=x))
  ·refine(aI (x:=z) rfl).trans ?_
   exact aC (n:=(k:Int)-1) (by omega)
  refine(aI (x:=x) rfl).trans ?_
  exact aC (n:=(k:Int)-1) (by omega)
 rw[List.take_length,JI (p:=λn=>m.notes.any λw=>decide (w.bF=n))];rfl
def DK(c:List Int)(m:aL):aL:=⟨m.az,m.key,m.length,m.notes.filter λw=>decide (w.bF=nf c m.notes)⟩
def lV(v:View)(c:List Int):View:=⟨v.part,v.bh.map (DK c)⟩
def Vc{m:aL}(j:m.notes.length<=1000000){c:List Int}(B:c.length<=1048576):wa (m,c)=some (DK c m):=by
 unfold wa
 refine(aI (WN j B)).trans ?_
 refine(aI (Cv (k:=80) (by omega) (by omega))).trans ?_
 exact aI (SV j (nf c m.notes))
def DJ(n:Int)(m:aL):aL:=⟨m.az,m.key,m.length,m.notes.filter λw=>decide (w.bc=0)||decide (w.bc=n)⟩
def nJ(v:View)(n:Int):View:=⟨v.part,v.bh.map (DJ n)⟩
def Vb{m:aL}(j:m.notes.length<=1000000)(n:Int):vZ (m,n)=some (DJ n m):=by
 unfold vZ
 refine(aI (x:=n) rfl).trans ?_
 refine(aI (Cv (k:=80) (by omega) (by omega))).trans ?_
 exact aI (SU j n)
theorem IM{g:aL->Option aL}{f:aL->aL}{l:List aL}(U:l.length<=1000000)(h:∀m∈l,g m=some (f m)):ay (λj:(Int×(List aL))=>ab (ah j.1 (l.length:Int)) (aa (au l j.1) λN=>aa (g N) λF=>ae (decide ((List.append j.2 (F::([]:List aL))).length*56<=140737488355328/\(List.append j.2 (F::([]:List aL))).length<=9223372036854775807)) <|ae (ai (j.1+1)) <|some (.inl ((j.1+1),(List.append j.2 (F::([]:List aL)))))) (some (.inr j.2))) (0,([]:List aL))=some (l.map f):=by
 refine(dm (st:=λ(z:List aL) k=>(k,z)) (l:=l) (λz x=>.inl (z++[f x])) (λz=>z) (λk z=>z.length<=k) (λk x z B G=>?_) (λk x z z' _ G M=>by cases M;simp;omega) (λz _=>by dsimp only;rw[aj (by simp)]) [] (by simp)).trans (ea some ((eS (λz x=>z++[f x]) l [] (λ_ _ _=>rfl)).trans ((foldl_map' f l []).trans (List.nil_append _))))
 have O:=bx B
 dsimp only
 have e:(List.append z (f x::([]:List aL))).length=z.length+1:=e4
 rw[ak (db (by omega)),aY (aS B),h x (dn B),af,cq (db (by rw[e];omega)),aC (by omega)]
 rfl
def qq(l:List Int)(k:Nat):Bool:=(l[k]?).any λx=>decide (x<1)||(decide (20<x)||(decide (0<k)&&(l[k-1]?).any λy=>decide (x<=y)))
def o4(l:List Int):Bool:= !(List.range l.length).any (qq l)
def zeroV:View:=⟨0,[]⟩
def LW{l:List Int}{k:Nat}{x:Int}(F:k<l.length)(G:l.length<=1048576):ab (ah 0 (k:Int)) (ae (ai ((k:Int)-1)) <|aa (au l ((k:Int)-1)) λB=>some (leI x B)) (some false)=some (decide (0<k)&&(l[k-1]?).any λy=>decide (x<=y)):=by
 cases k with
 |zero=>rfl
 |succ k=>
  have j:l[k]?=some l[k]:=c4 (by omega)
  generalize l[k]=y at j
  rw[ak (db (by omega)),aC (by omega),show((k+1:Nat):Int)-1=(k:Int) by omega,aY (aS j)]
  simp[j,leI]
theorem CE{v:View}(F:v.bh.length<=1000000)(G:(cP v).length<=1000000){c:List Int}(M:c.length<=1048576):lY (v,c)=some (if o4 c=true/\iK v then(lV v c,0)else(zeroV,1)):=by
 unfold lY
 dsimp only
 rw[pw c.length (qq c) (zeroV,1) (λk N=>by
  have B:c[k]?=some c[k]:=c4 N
  unfold qq
  rw[B]
  generalize c[k]=x at B
  rw[Option.any_some,ak (db (by omega)),aY (aS B),LW N M]
  have e:∀(a b d:Bool),ab a (some true) (ab b (some true) (some d))=some (a||(b||d)):=λa b d=>by cases a<;>cases b<;>rfl
  rw[e,af]
  show ab (decide (x<1)||(decide (20<x)||_)) _ _=_
  cases (decide (x<1)||(decide (20<x)||(decide (0<k)&&(c[k-1]?).any λy=>decide (x<=y))))
  ·rw[gA,aC (by omega)];rfl
  rfl) (by rw[aj (by simp)])]
 unfold o4
 cases (List.range c.length).any (qq c)with
 |true=>rw[if_pos rfl,fy,if_neg (by simp)]
 |false=>
  rw[if_neg (by decide),eT,x9 F G,af]
  by_cases j:iK v
  ·rw[aj (by simp[j]),if_pos ⟨rfl,j⟩]
   refine(aI (x:=lV v c) ?_).trans rfl
   unfold EP EM
   dsimp only
   refine(aI (x:=v.bh.map (DK c)) ?_).trans rfl
   refine(aI (IM (g:=λm=>wa (m,c)) F (λm O=>Vc (hF (mO O) G) M))).trans rfl
  rw[ak (by simp[j]),if_neg (λh=>j h.2)];rfl
def X2(n lo hi:Int):E1 (n,lo,hi)=some (decide (lo<=n/\n<=hi)):=lz n lo hi
def X1{c:List Int}(G:c.length<=1048576):Ac c=some (o4 c):=by
 unfold Ac o4
 rw[pw c.length (qq c) false (λk B=>by
  have j:c[k]?=some c[k]:=c4 B
  unfold qq
  rw[j]
  generalize c[k]=x at j
  rw[Option.any_some,ak (db (by omega)),aY (aS j),aY (aS j),X2,af,LW B G]
  have e:∀(a d:Bool),ab a (some true) (some d)=some (a||d):=λa d=>by cases a<;>rfl
  rw[e,af]
  have F:(!decide (1<=x/\x<=20)||(decide (0<k)&&(c[k-1]?).any λy=>decide (x<=y)))=(decide (x<1)||(decide (20<x)||(decide (0<k)&&(c[k-1]?).any λy=>decide (x<=y)))):=by
   rw[<-Bool.or_assoc]
   congr 1
   rw[hI]
   simp
  rw[F]
  cases (decide (x<1)||(decide (20<x)||(decide (0<k)&&(c[k-1]?).any λy=>decide (x<=y))))
  ·rw[gA,aC (by omega)];rfl
  rfl) (by rw[aj (by simp)])]
 cases (List.range c.length).any (qq c)<;>rfl
def S3{v:View}(j:v.bh.length<=1000000)(k:(cP v).length<=1000000)(n:Int):vX (v,n)=some (if iK v/\0<=n/\n<=9 then(nJ v n,0)else(zeroV,1)):=by
 unfold vX
 dsimp only
 rw[x9 j k,af]
 have e:∀(a b d:Bool),ab a (some true) (ab b (some true) (some d))=some (a||(b||d)):=λa b d=>by cases a<;>cases b<;>rfl
 rw[e,af]
 by_cases h:iK v/\0<=n/\n<=9
 ·rw[if_pos h,aj (by simp[h.1,ah];omega)]
  refine(aI (x:=nJ v n) ?_).trans rfl
  unfold EO EL
  dsimp only
  refine(aI (x:=v.bh.map (DJ n)) ?_).trans rfl
  refine(aI (IM (g:=λm=>vZ (m,n)) j (λm F=>Vb (hF (mO F) k) n))).trans rfl
 rw[if_neg h,ak (by
  refine hB λB=>h ?_
  simp only[om,nh,tr,ek,ah,hV]at B
  exact⟨B.1,by omega,by omega⟩)]
 rfl
end Go.Proofs.YthhlipkkjippfaaGreatDoor
namespace Go.Proofs.YthhlipkkjippfaaGreatDoor
open Go Go.ag Go.Sy
attribute [local instance] bV cB
def km(z:List (Int×Bool))(w:Written):List (Int×Bool):=aH z w.bc true
def ky(v:View):List (Int×Bool):=(cP v).foldl km []
noncomputable def fZ(v:View):List Int:=ji ((fe (ky v) 0).map (·.1))
def FB(a:Int):∀(l:List Written)(z:List (Int×Bool)),a∈ef (l.foldl km z)↔a∈ef z\/∃w∈l,w.bc=a
 | [],z=>by simp
 |w::l,z=>by
  rw[List.foldl_cons,FB a l]
  unfold km
  rw[yY]
  simp only[fb,exists_eq_or_imp]
  constructor
  ·rintro((h|h)|h)
   ·exact .inr (.inl h.symm)
   ·exact .inl h
   exact .inr (.inr h)
  rintro(h|h|h)
  ·exact .inl (.inr h)
  ·exact .inl (.inl h.symm)
  exact .inr h
def Eh{a:Int}:∀{z:List (Int×Bool)},(ef z).Nodup->(a∈(fe z 0).map (·.1)↔a≠0/\a∈ef z)
 | [],_=>by simp[fe]
 |p::z,h=>by
  simp only[ef,fv,iu]at h
  have e:fe (p::z) 0=if p.1=0 then z else p::fe z 0:=rfl
  rw[e]
  by_cases k:p.1=0
  ·rw[if_pos k]
   simp only[ef,fv,fb]
   constructor
   ·intro B
    exact⟨λe=>h.1 (by rw[k,<-e];exact B),.inr B⟩
   rintro⟨j,h2|h2⟩
   ·exact absurd (h2.trans k) j
   exact h2
  rw[if_neg k,fv,fb,Eh h.2]
  simp only[ef,fv,fb]
  constructor
  ·rintro(j| ⟨j,h2⟩)
   ·exact⟨by rw[j];exact k,.inl j⟩
   exact⟨j,.inr h2⟩
  rintro⟨j,h2|h2⟩
  ·exact .inl h2
  exact .inr ⟨j,h2⟩
def Ei:∀(z:List (Int×Bool)),(fe z 0).length<=z.length
 | []=>eb _
 |p::z=>by
  have:=Ei z
  have e:fe (p::z) 0=if p.1=0 then z else p::fe z 0:=rfl
  rw[e]
  split
  ·simp
  simp only[List.length_cons];omega
def LZ:∀(l:List Written){z:List (Int×Bool)},(ef z).Nodup->(ef (l.foldl km z)).Nodup
 | [],z,h=>h
 |w::l,z,h=>LZ l (Er _ _ h)
def Ol(v:View):(ef (ky v)).Nodup:=LZ (cP v) (by simp)
def GV(v:View)(a:Int):a∈fZ v↔a≠0/\∃w∈cP v,w.bc=a:=by
 unfold fZ ji
 rw[(vt _ _).mem_iff,Eh (Ol v)]
 unfold ky
 rw[FB]
 simp
def FC:∀(l:List Written)(z:List (Int×Bool)),(l.foldl km z).length<=z.length+l.length
 | [],z=>by simp
 |w::l,z=>by
  have:=FC l (km z w)
  have h:(km z w).length<=z.length+1:=by
   unfold km;rw[yZ];split<;>omega
  rw[List.foldl_cons,List.length_cons];omega
def aaJ{v:View}(N:v.bh.length<=1000000)(O:(cP v).length<=1000000):zp v=some (if iK v then(fZ v,0)else([],1)):=by
 unfold zp
 rw[x9 N O,af]
 by_cases B:iK v
 ·rw[if_pos B,aj (by simp[B])]
  refine(aI (x:=ky v) ?_).trans ?_
  ·refine(dm (st:=λ(z:List (Int×Bool)) k=>(k,z)) (l:=v.bh) (λz m=>.inl (m.notes.foldl km z)) (λz=>z) (λ_ _=>True) (λk m z G _=>?_) (λ_ _ _ _ _ _ _=>trivial) (λz _=>by dsimp only;rw[aj (by simp)]) [] trivial).trans (ea some ((eS (λz m=>m.notes.foldl km z) v.bh [] (λ_ _ _=>rfl)).trans ?_))
   ·have ag:=bx G
    have ah:=mO (dn G)
    dsimp only
    rw[ak (db (by omega)),aY (aS G)]
    refine(aI (x:=m.notes.foldl km z) ?_).trans (by rw[aC (by omega)];rfl)
    refine(dm (st:=λ(z:List (Int×Bool)) k=>(k,z)) (l:=m.notes) (λz w=>.inl (km z w)) (λz=>z) (λ_ _=>True) (λj w z F _=>?_) (λ_ _ _ _ _ _ _=>trivial) (λz _=>by dsimp only;rw[aj (by simp)]) z trivial).trans (ea some (eS km m.notes z (λ_ _ _=>rfl)))
    have ae:=bx F
    dsimp only
    rw[ak (db (by omega)),aY (aS F),aC (by omega)]
    rfl
   exact List.foldl_flatMap.symm
  refine(aI (x:=fe (ky v) 0) rfl).trans ?_
  refine(aI (x:=fZ v) ?_).trans rfl
  unfold wA
  refine cq ?_
  rw[dd,dT]
  constructor
  ·intro p Y
   have:p.1∈(fe (ky v) 0).map (·.1):=hz.2 ⟨p,Y,rfl⟩
   rw[Eh (Ol v)]at this
   unfold ky at this
   rw[FB]at this
   obtain⟨_,h⟩:=this
   rcases h with h| ⟨w,F,h⟩
   ·exact absurd h (by simp)
   obtain⟨m,U,Z⟩:=j1.1 F
   obtain⟨⟨aa,ab⟩,_⟩:=B.2.2 m U w Z
   exact Dx (by omega)
  refine db ?_
  have e:(fe (ky v) 0).length<=(ky v).length:=Ei _
  have M:=FC (cP v) []
  have ad:(ky v).length<=(cP v).length:=by simpa [ky]using M
  omega
 rw[if_neg B,ak (by simp[B])]
def iq(l:List Int)(D:Nat):List Int:=(List.range D).map λi=>(l[i*l.length/D]?).getD 0
theorem foldl_set{a:Nat->Int}:∀(n:Nat)(z:List Int)(i:Nat),((List.range n).foldl (λz k=>z.set k (a k)) z)[i]?=if i<n/\i<z.length then some (a i)else z[i]?
 |0,z,i=>by simp
 |n+1,z,i=>by
  have F:∀n,((List.range n).foldl (λz k=>z.set k (a k)) z).length=z.length:=by
   intro n
   induction n with
   |zero=>simp
   |succ n G=>rw[J3,zv];simp[G]
  rw[J3,zv]
  show(((List.range n).foldl (λz k=>z.set k (a k)) z).set n (a n))[i]?=_
  rw[e5,foldl_set n z i,F]
  by_cases B:n=i
  ·subst B
   rw[if_pos rfl]
   by_cases j:n<z.length
   ·rw[if_pos j,if_pos ⟨by omega,j⟩]
   rw[if_neg j,if_neg (λh=>j h.2),hS (by omega)]
  rw[if_neg B]
  by_cases j:i<n/\i<z.length
  ·rw[if_pos j,if_pos ⟨by omega,j.2⟩]
  rw[if_neg j,if_neg (by omega)]
def OT{l:List Int}{D:Nat}(aw:1<=D/\D<=40)(ag:l.length<=1000000):ay (λj:(Int×(List Int))=>ab (ah j.1 ((List.replicate (Int.toNat (D:Int)) (0:Int)).length:Int)) (aa (ab (ah 0 (l.length:Int)) (ae (ai (j.1*(l.length:Int))) <|ae (!(aA (D:Int) 0)) <|ae (ai (Int.tdiv (j.1*(l.length:Int)) (D:Int))) <|aa (au l (Int.tdiv (j.1*(l.length:Int)) (D:Int))) λO=>ae ((leI 0 j.1)&&(ah j.1 (j.2.length:Int))) <|aa (au j.2 j.1) λaB=>some (List.set j.2 (Int.toNat j.1) O)) (some j.2)) λ(O:(List Int))=>ae (ai (j.1+1)) <|some (.inl ((j.1+1),O))) (some (.inr j.2))) (0,(List.replicate (Int.toNat (D:Int)) (0:Int)))=some (iq l D):=by
 have M:(List.replicate (Int.toNat (D:Int)) (0:Int)).length=D:=by rw[sk];omega
 refine(dm (st:=λ(z:List Int) k=>(k,z)) (l:=List.range D) (λz k=>.inl (z.set k ((l[k*l.length/D]?).getD 0))) (λz=>z) (λ_ z=>z.length=D/\(l=[]->∀i,i<D->z[i]?=some 0)) (λk x z B G=>?_) (λk x z z' B G af=>?_) (λz _=>by
  dsimp only
  rw[aj (by rw[M];simp)]) (List.replicate (Int.toNat (D:Int)) 0) ⟨M,λ_ i hi=>by rw[List.getElem?_replicate];simp[hi]⟩).trans (ea some ((eS (λ(z:List Int)(k:Nat)=>z.set k ((l[k*l.length/D]?).getD 0)) (List.range D) _ (λ_ _ _=>rfl)).trans ?_))
 ·have F:=bx B
  rw[zc]at F
  rw[kz F]at B
  cases B
  obtain⟨az,av⟩:=G
  dsimp only
  rw[ak (db (by rw[M];omega))]
  obtain⟨y,ar⟩:∃y,z[k]?=some y:=⟨_,c4 (by omega)⟩
  by_cases N:0<l.length
  ·have ax:k*l.length<=40*1000000:=Qp (by omega) ag
   have Z:((k:Int)*(l.length:Int))=((k*l.length:Nat):Int):=(Int.natCast_mul _ _).symm
   have ad:Int.tdiv ((k*l.length:Nat):Int) (D:Int)=((k*l.length/D:Nat):Int):=rfl
   have an:k*l.length/D<l.length:=by
    rw[rb (by omega),oo l.length D]
    exact Nat.mul_lt_mul_of_pos_right F N
   obtain⟨u,U⟩:∃u,l[k*l.length/D]?=some u:=⟨_,c4 an⟩
   have ao:((k*l.length/D:Nat):Int)<=1000000:=by
    have:k*l.length/D<=1000000:=by omega
    exact Int.ofNat_le.2 this
   have aq:(0:Int)<=((k*l.length/D:Nat):Int):=abe _
   refine(aI (x:=z.set k u) ?_).trans ?_
   ·refine(ak (db (by omega))).trans ?_
    rw[Z,ad,aC (by omega),cq (by simp;omega),aC (by generalize ((k*l.length/D:Nat):Int)=q at ao aq;omega),aY (aS U),cq (show(leI 0 (k:Int)&&ah (k:Int) (z.length:Int))=true by rw[dd];exact⟨db (by omega),db (by omega)⟩),aY (aS ar),Int.toNat_natCast]
   rw[aC (by omega),U];rfl
  have al:l=[]:=kb (by omega)
  refine(aI (x:=z) (aj (dk (by omega)))).trans ?_
  rw[aC (by omega)]
  have:z.set k ((l[k*l.length/D]?).getD 0)=z:=by
   subst al
   refine ie λi=>?_
   rw[e5]
   by_cases e:k=i
   ·subst e;rw[if_pos rfl,if_pos (by omega),av rfl k (by omega)];rfl
   rw[if_neg e]
  rw[this];rfl
 ·cases af
  have F:=bx B
  rw[zc]at F
  rw[kz F]at B
  cases B
  refine⟨by rw[pb];exact G.1,λN i hi=>?_⟩
  rw[e5]
  by_cases e:k=i
  ·subst e;subst N;rw[if_pos rfl,if_pos (by rw[G.1];omega)];rfl
  rw[if_neg e];exact G.2 N i hi
 refine ie λi=>?_
 rw[foldl_set (a:=λk=>(l[k*l.length/D]?).getD 0),M]
 unfold iq
 rw[e0]
 by_cases h:i<D
 ·rw[if_pos ⟨h,h⟩,kz h];rfl
 rw[if_neg (λY=>h Y.1),hS (by rw[M];omega),hS (by simpa using h)];rfl
theorem OU{v:View}(k:v.bh.length<=1000000)(B:(cP v).length<=1000000)(M:iK v){D:Nat}(F:1<=D/\D<=40)(G:(fZ v).length<=1000000):zn (v,(D:Int))=some (if D<(fZ v).length then([],6)else(iq (fZ v) D,0)):=by
 unfold zn
 dsimp only
 rw[aaJ k B,if_pos M,af]
 refine(aI (x:=false) ?_).trans ((aj rfl).trans ?_)
 ·refine(aj rfl).trans ((aj (dk (by omega))).trans (ea some (dk (by omega))))
 by_cases j:D<(fZ v).length
 ·rw[if_pos j]
  exact ak (db (by dsimp only;omega))
 rw[if_neg j]
 refine(aj (dk (by dsimp only;omega))).trans ?_
 refine(cq (db (by omega))).trans ((cq (db (by rw[sk];omega))).trans ?_)
 exact aI (OT F G)
def OR{l:List Int}{D:Nat}(Z:1<=D)(ab:l.length<=D){a:Int}(N:a∈l):a∈iq l D:=by
 obtain⟨j,F⟩:=vc N
 have aa:=bx F
 have B:0<l.length:=by omega
 refine hz.2 ⟨(j*D+l.length-1)/l.length,?_,?_⟩
 ·rw[hR,rb B]
  have:(j+1)*D<=l.length*D:=k0 _ (by omega)
  rw[qs,oo l.length D]at this
  omega
 have e:(j*D+l.length-1)/l.length*l.length/D=j:=by
  have k:=vx (j*D+l.length-1) l.length
  have O:=rv (j*D+l.length-1) B
  rw[oo]at k
  generalize (j*D+l.length-1)/l.length*l.length=m at k⊢
  have G:j*D<=m:=by omega
  have M:m<(j+1)*D:=by rw[qs];omega
  have U:j<=m/D:=(Nat.le_div_iff_mul_le (by omega)).2 G
  have Y:m/D<j+1:=(rb (by omega)).2 M
  omega
 rw[e,F];rfl
def OS{l:List Int}{D:Nat}{a:Int}(h:a∈iq l D):a=0\/a∈l:=by
 obtain⟨i,_,rfl⟩:=hz.1 h
 cases j:l[i*l.length/D]? with
 |none=>exact .inl rfl
 |some x=>exact .inr (dn j)
end Go.Proofs.YthhlipkkjippfaaGreatDoor
namespace Go.Proofs.YthhlipkkjippfaaGreatDoor
open Go Go.ag Go.Sy
attribute [local instance] bV cB
def sE(p:Part)(q:aM×Written):Int:=(jA p q.1 q.2).2
def sN(p:Part)(q:aM×Written):aq:=⟨q.2.id,p.id,q.1.id,q.2.bc,q.2.bF,q.2.start,q.2.length,(jA p q.1 q.2).1⟩
open Classical in
noncomputable def xc(s:Score)(v:View):List aq×Int:=
 if gJ s v then(match partOf s v.part with
  |some p=>eu (sE p) (sN p) (λ_=>(([]:List aq),(3:Int))) (λl=>(l,0)) (iG s v) []
  |none=>([],1))else([],1)
theorem Nv{s:Score}{v:View}(ah:s.bars.length<=1048576)(ax:(cP v).length<=1000000):rG (s,v)=some (xc s v):=by
 unfold rG xc
 dsimp only
 rw[Oh ah ax,af]
 by_cases F:gJ s v
 ·obtain⟨G,ao,⟨p,Z,ad⟩,ae,ag⟩:=F
  have F:gJ s v:=⟨G,ao,⟨p,Z,ad⟩,ae,ag⟩
  obtain⟨av,aG,aD⟩:=AL G Z
  have aH:=G.2.2.1.1.2
  rw[aj (by simp[F]),GR (by omega),af,if_pos F,Z]
  dsimp only
  rw[dm (σ:=List aq) (st:=λz k=>(k,z)) (l:=v.bh.zip s.bars) (λz x=>eu (ρ:=(List aq)⊕((List aq)⊕(List aq×Int))) (λw=>sE p (x.2,w)) (λw=>sN p (x.2,w)) (λw=>.inr (.inr ([],3))) (λz=>.inl z) x.1.notes z) (λz=>.inl z) (λk z=>z.length<=20000+1000000*k) (λk x z O ay=>by
   obtain⟨M,ab⟩:=yy O
   have aF:=bx M
   have ar:=dn M
   have al:=mw G (dn ab)
   have au:=mO ar
   have aB:=G.2.1.1.2
   have Y:=dT.1 ad x (dn O)
   unfold iA at Y
   simp only[dd,ek,dT]at Y
   have ai:x.1.az=x.2.id:=Y.1.1.1
   dsimp only
   rw[ak (db (by omega)),aY (aS M)]
   rw[dm (σ:=List aq) (st:=λz k=>(k,z)) (l:=x.1.notes) (λz w=>if sE p (x.2,w)=0 then .inl (z++[sN p (x.2,w)])else .inr (.inr (.inr (.inr ([],3))))) (λz=>.inl z) (λj U=>U.length<=z.length+j) (λj w U aa aA=>by
    have aE:=bx aa
    dsimp only
    rw[ak (db (by omega)),aY (aS aa),aY (aS ab),UB av al.2.2.2,af]
    have an:eK w.aR (cM (jC p x.2.key))=jA p x.2 w:=rfl
    have aw:sE p (x.2,w)=(jA p x.2 w).2:=rfl
    rw[an,aw]
    by_cases N:(jA p x.2 w).2=0
    ·rw[aj (by simp[N]),cq (db (by rw[xG];omega)),aC (by omega),if_pos N,ai];rfl
    ·rw[ak (by simp[N]),if_neg N]) (λj w U aI aa aA B=>by
    split at B
    ·injection B with B;subst B;rw[e4];simp only[List.length_cons,List.length_nil];omega
    cases B) (λU _=>by dsimp only;rw[aj (by simp)]) z (by omega)]
   rw[Jz (λw=>sE p (x.2,w)) (λw=>sN p (x.2,w))]
   unfold eu
   cases (x.1.notes.find? λw=>decide (sE p (x.2,w)≠0))with
   |some w=>rfl
   |none=>dsimp only;rw[eT,aC (by omega)];rfl) (λk x z z' O ay B=>by
   obtain⟨M,ab⟩:=yy O
   have au:=mO (dn M)
   have:=T1 B
   omega) (λz _=>by
   dsimp only
   rw[aj (dk (by rw[List.length_zip];omega))]) [] (by simp),JA (sE p) (sN p) (λq=>Sum.inr ([],3))]
  rw[show((v.bh.zip s.bars).flatMap λx=>x.1.notes.map λw=>(x.2,w))=iG s v from rfl]
  unfold eu
  cases (iG s v).find? λq=>decide (sE p q≠0)with
  |some q=>rfl
  |none=>rfl
 rw[ak (by simp[F]),if_neg F]
end Go.Proofs.YthhlipkkjippfaaGreatDoor
namespace Go.Proofs.YthhlipkkjippfaaGreatDoor
open Go Go.ag Go.Sy
attribute [local instance] bV cB
def Xf(a n:Int):pl (jq a n)=a:=by unfold pl jq;dsimp only;omega
def Lh(a n:Int):num (jq a n)=n:=by unfold num jq;dsimp only;omega
def Uc{i:Interval}:dw (cM i)↔dw i:=by unfold dw cM;dsimp only;omega
def OE{x:aP}{i:Interval}(h:(eK x i).2=0):eK (eK x i).1 (cM i)=(x,0):=by
 unfold eK at h
 by_cases j:bR x/\dw i
 ·rw[if_pos j]at h
  by_cases k:bR (jq (pl x+i.steps) (num x+i.cg))
  ·have e:eK x i=(jq (pl x+i.steps) (num x+i.cg),0):=by unfold eK;rw[if_pos j,if_pos k]
   rw[e]
   unfold eK
   dsimp only
   rw[Xf,Lh,show pl x+i.steps+(cM i).steps=pl x by unfold cM;dsimp only;omega,show num x+i.cg+(cM i).cg=num x by unfold cM;dsimp only;omega,Hy j.1,if_pos ⟨k,Uc.2 j.2⟩,if_pos j.1]
  rw[if_neg k]at h;cases h
 rw[if_neg j]at h;cases h
theorem Hf{x:aP}{i:Interval}(h:(eK x i).2=0):bR x/\dw i/\bR (eK x i).1:=by
 unfold eK at h⊢
 by_cases j:bR x/\dw i
 ·rw[if_pos j]at h⊢
  by_cases k:bR (jq (pl x+i.steps) (num x+i.cg))
  ·rw[if_pos k];exact⟨j.1,j.2,k⟩
  rw[if_neg k]at h;cases h
 rw[if_neg j]at h;cases h
end Go.Proofs.YthhlipkkjippfaaGreatDoor
namespace Go.Proofs.YthhlipkkjippfaaGreatDoor
open Go Go.ag Go.Sy
attribute [local instance] bV cB
theorem Iu{α:Type}{q:α->Bool}:∀{l:List α},(l.Pairwise λn m=>q m=true->q n=true)->l.takeWhile q=l.filter q/\l.dropWhile q=l.filter λx=>!q x
 | [],_=>⟨rfl,rfl⟩
 |x::l,h=>by
  rw[abd]at h
  obtain⟨G,M⟩:=Iu h.2
  by_cases j:q x=true
  ·rw[K1,KR,kB,kB,if_pos j,if_pos j,if_pos j,if_neg (by simp[j]),G,M]
   exact⟨rfl,rfl⟩
  have B:∀y∈l,q y=false:=λy k=>by
   cases F:q y
   ·rfl
   exact absurd (h.1 y k F) j
  rw[K1,KR,kB,kB,if_neg j,if_neg j,if_neg j,if_pos (by simpa using j)]
  refine⟨(k3.2 λy k=>by simp[B y k]).symm,?_⟩
  congr 1
  exact(q8.2 λy k=>by simp[B y k]).symm
end Go.Proofs.YthhlipkkjippfaaGreatDoor
namespace Go.Proofs.YthhlipkkjippfaaGreatDoor
open Go Go.ag Go.Sy
attribute [local instance] bV cB
def lG(j:List aM)(id:Int):Nat:=j.findIdx λb=>decide (b.id=id)
def oa(p:Part)(l:List aq)(b:aM):aL:=⟨b.id,tj p b.key,b.length,(l.filter λn=>decide (n.az=b.id)).map (qg p b)⟩
def JO(p:Part):∀(j:List aM)(l:List aq),(j.map aM.id).Nodup->(l.Pairwise λn m=>lG j n.az<=lG j m.az)->getM p j l=j.map (oa p l)
 | [],l,_,_=>rfl
 |b::j,l,G,U=>by
  simp only[fv,iu,hz]at G
  have k:∀id,lG (b::j) id=if b.id=id then 0 else lG j id+1:=by
   intro id
   unfold lG
   rw[List.findIdx_cons]
   by_cases h:b.id=id<;>simp[h]
  obtain⟨Y,Z⟩:=Iu (q:=λn:aq=>decide (n.az=b.id)) (l:=l) (U.imp λ{n m} h F=>by
   have F:m.az=b.id:=by simpa using F
   rw[k,k,if_pos F.symm]at h
   by_cases O:b.id=n.az
   ·simp[O]
   rw[if_neg O]at h;omega)
  show _::getM p j _=_
  rw[fv,Y,Z,JO p j _ G.2 (by
   refine tc ?_ (U.sublist l2)
   intro n m ad ab h
   have M:=(hN.1 ad).2
   have N:=(hN.1 ab).2
   simp only[hC,hV]at M N
   rw[k,k,if_neg (hW M),if_neg (hW N)]at h
   omega)]
  congr 1
  refine hP λB aa=>?_
  have ae:B.id≠b.id:=λe=>G.1 ⟨B,aa,e⟩
  unfold oa
  rw[List.filter_filter]
  congr 2
  refine abh λn _=>?_
  by_cases h:n.az=B.id
  ·simp[h,ae]
  simp[h]
end Go.Proofs.YthhlipkkjippfaaGreatDoor
namespace Go.Proofs.YthhlipkkjippfaaGreatDoor
open Go Go.ag Go.Sy
attribute [local instance] bV cB
def H7{bars:List aM}{id:Int}{k:Nat}(h:(ix bars λb=>decide (b.id=id))=(k:Int)):lG bars id=k:=by
 unfold ix at h
 cases j:bars.findIdx? λb=>decide (b.id=id)with
 |none=>rw[j]at h;dsimp only at h;omega
 |some i=>
  rw[j]at h
  dsimp only at h
  have:=(List.findIdx?_eq_some_iff_findIdx_eq.1 j).2
  unfold lG
  omega
def Wj{s:Score}(B:cN s):s.notes.Pairwise λn m=>lG s.bars n.az<=lG s.bars m.az:=by
 have M:=nq (Bj (vR (dP s.bars))) s.notes
 rw[show fX (cr (nK (dP s.bars))) s.notes=s.notes from B.2.2.2.2.2]at M
 refine tc ?_ M
 intro n m Y U h
 have O:=B.2.2.2.1.2.2.1 n Y
 have N:=B.2.2.2.1.2.2.1 m U
 obtain⟨k,b,_,_,_,F⟩:=pF O
 obtain⟨j,ab,_,_,_,G⟩:=pF N
 have Z:=(y8 B.2.1 O).1
 have aa:=(y8 B.2.1 N).1
 rw[H7 F,H7 G]
 unfold cr nK at h
 simp only[List.zipWith_cons_cons,cQ]at h
 rw[Z,aa,F,G]at h
 split at h
 ·omega
 omega
def Xj{s:Score}(j:cN s)(p:Part):(jJ s p).Pairwise λn m=>lG s.bars n.az<=lG s.bars m.az:=by
 unfold jJ
 rw[q4]
 exact(Wj j).sublist l2
def sT{s:Score}(j:cN s)(p:Part):ct s p=⟨p.id,s.bars.map (oa p (jJ s p))⟩:=by
 unfold ct
 rw[JO p s.bars _ j.2.1.2.2 (Xj j p)]
end Go.Proofs.YthhlipkkjippfaaGreatDoor
namespace Go.Proofs.YthhlipkkjippfaaGreatDoor
open Go Go.ag Go.Sy
attribute [local instance] bV cB
def wQ(s:Score)(p:Part)(v:View):List aq:=others s p++(iG s v).map (pN s p)
def Sd(at_:List (Int×Int))(l:List aq):Prop:=l.Pairwise λa b=>¬cr (nK at_) b a<0
variable {at_:List (Int×Int)}{l m:List aq}
theorem YC(l:List aq):Sd at_ (oG at_ l):=nq (Cq at_) l
def MY(h:Sd at_ l)(q:aq->Bool):Sd at_ (l.filter q):=List.Pairwise.sublist l2 h
def YB{s:Score}(j:cN s):Sd (dP s.bars) s.notes:=by
 have:=YC (at_:=dP s.bars) s.notes
 rw[j.2.2.2.2.2]at this;exact this
variable {s:Score}{BC:Int}{p:Part}{v:View}
def aa9{s:Score}{v:View}{p:Part}(F:gJ s v)(B:partOf s v.part=some p):∀x∈v.bh.zip s.bars,vo p x.2 x.1/\my (λa b=>!decide (cr wK b a<0)) x.1.notes=true/\∀w∈x.1.notes,ig x.1.length w:=by
 obtain⟨_,_,⟨M,j,k⟩,_⟩:=F
 rw[B]at j;injection j with j;subst j
 intro x G
 have:=dT.1 k x G
 unfold iA at this
 simp only[dd,ek,dT]at this
 exact⟨this.1.1,this.1.2,this.2⟩
def OD{x:aP}{i:Interval}(h:(eK x i).2=0):(eK x i).1=jq (pl x+i.steps) (num x+i.cg):=by
 unfold eK at h⊢
 split at h
 ·rename_i j
  rw[if_pos j]
  split at h
  ·rename_i k;rw[if_pos k]
  cases h
 cases h
def Wl(x:aP)(n:Int):num (tB x n)=num x-12*n:=by unfold num tB;dsimp only;omega
theorem Li{s:Score}{p:Part}{b:aM}{w:Written}(h:(jA p b w).2=0):num (pN s p (b,w)).aR=num w.aR+((cM (jC p b.key)).cg-12*p.aZ):=by
 show num (tB (jA p b w).1 p.aZ)=_
 rw[Wl]
 unfold jA at h⊢
 rw[OD h,Lh];omega
theorem Si{at_:List (Int×Int)}{s:Score}{p:Part}{b:aM}{len:Rat}{w u:Written}(k:ig len w)(j:ig len u)(O:(jA p b w).2=0)(U:(jA p b u).2=0):cr (nK at_) (pN s p (b,w)) (pN s p (b,u))=cr wK w u:=by
 have B:tk w.start=bp w.start:=if_pos k.2.2.2.2.1
 have F:tk u.start=bp u.start:=if_pos j.2.2.2.2.1
 have G:ht w.aR=num w.aR:=if_pos k.2.2.2.1
 have M:ht u.aR=num u.aR:=if_pos j.2.2.2.1
 have n1:=Li (s:=s) O
 have Y:=Li (s:=s) U
 unfold cr nK wK
 rw[n1,Y,B,F,G,M]
 simp only[List.zipWith_cons_cons,List.zipWith_nil_left,cQ,pN,y7,Int.sub_self,hQ]
 have N:num w.aR+((cM (jC p b.key)).cg-12*p.aZ)-(num u.aR+((cM (jC p b.key)).cg-12*p.aZ))=num w.aR-num u.aR:=by omega
 rw[N]
def sM{α β:Type}(key:α->Int)(f:α->List β):∀{l:List α}{x:α},(l.map key).Nodup->x∈l->(l.flatMap λy=>if key y=key x then f y else [])=f x
 | [],x,_,h=>by cases h
 |y::l,x,j,h=>by
  rw[fv,iu]at j
  rw[h8]
  rcases fb.1 h with rfl|h
  ·rw[if_pos rfl]
   have:(l.flatMap λy=>if key y=key x then f y else [])=[]:=List.flatMap_eq_nil_iff.2 λy k=>if_neg λ(e:key y=key x)=>j.1 (e▸hz.2 ⟨y,k,rfl⟩)
   rw[this,nb]
  rw[if_neg λ(e:key y=key x)=>j.1 (e▸hz.2 ⟨x,h,rfl⟩),List.nil_append]
  exact sM key f j.2 h
def Ww(x:aP)(n:Int):tB (mY x n) n=x:=by unfold mY tB;cases x;dsimp only;congr 1;omega
def LK{s:Score}{v:View}(j:v.bh.length=s.bars.length):(iG s v).map (·.2)=cP v:=by
 unfold iG cP
 rw[abn]
 have e:(λx:aL×aM=>(x.1.notes.map λw=>(x.2,w)).map (·.2))=λx=>x.1.notes:=by
  funext x;rw[k6];exact List.map_id _
 rw[e]
 have:v.bh=(v.bh.zip s.bars).map (·.1):=(List.map_fst_zip (by omega)).symm
 conv=>rhs;rw[this,ta]
theorem LI{s:Score}{v:View}(j:v.bh.length=s.bars.length):(iG s v).length=(cP v).length:=by rw[<-LK j,hM]
def KY{n:Int}(h:0<=n/\n<=6): -1<=7*gW n-12*n/\7*gW n-12*n<=5:=by
 have:n=0\/n=1\/n=2\/n=3\/n=4\/n=5\/n=6:=by omega
 rcases this with rfl|rfl|rfl|rfl|rfl|rfl|rfl<;>decide
theorem Wt{t:Int}(h: -19<=t/\t<=19): -1<=eg t/\eg t<=1:=by
 unfold eg
 split
 ·omega
 split<;>omega
def aak{p:Part}(F:ez p){key:Int}(k:dO key){x:aP}(ad:kY x):(eK (mY x p.aZ) (jC p key)).2=0:=by
 have j:=pR F
 have an: -2<=p.aZ/\p.aZ<=2:=F.2.2.2.1
 obtain⟨Y,ah,ai⟩:=ad
 obtain⟨B,af,ag⟩:=Y
 have Z:dw (jC p key):=(KW k j).1
 have ab:bR (mY x p.aZ):=⟨B,⟨by show -4<=x.alter;omega,by show x.alter<=4;omega⟩,⟨by show -8<=x.aZ+p.aZ;omega,by show x.aZ+p.aZ<=20;omega⟩⟩
 unfold eK
 rw[if_pos ⟨ab,Z⟩,if_pos]
 have al:ee (cM p.shift) = -(ee p.shift):=by unfold ee cM;dsimp only;omega
 have ak: -12<=ee p.shift/\ee p.shift<=12:=j.2.2
 have ao:=Wt (t:=key+ee (cM p.shift)) (by unfold dO at k;omega)
 have aa:=Lk (key+ee (cM p.shift))
 unfold dO at aa k
 have au:=j.1;have av:=j.2.1
 have M:(jC p key).steps = -p.shift.steps+eg (key+ee (cM p.shift)):=rfl
 have N:(jC p key).cg = -p.shift.cg:=rfl
 have O:pl (mY x p.aZ)=7*(x.aZ+p.aZ)+x.step:=rfl
 have U:num (mY x p.aZ)=12*(x.aZ+p.aZ)+gW x.step+x.alter:=rfl
 have ae:ee (cM p.shift)=7*(-p.shift.cg)-12*(-p.shift.steps):=rfl
 rw[M,N,O,U]
 generalize aj:7*(x.aZ+p.aZ)+x.step+(-p.shift.steps+eg (key+ee (cM p.shift)))=P
 have G:0<=P%7/\P%7<=6:=by omega
 have aq:=KY G
 have ar:=KY B
 refine⟨G,?_,?_⟩
 ·show -4<=_-(12*(P/7)+gW (P%7))/\_-(12*(P/7)+gW (P%7))<=4
  omega
 show -8<=P/7/\P/7<=20
 omega
def BH{α β:Type}(f:α->β):∀l:List α,(l.map f).zip l=l.map λb=>(f b,b)
 | []=>rfl
 |x::l=>by rw[fv,List.zip_cons_cons,BH f l,fv]
variable {s:Score}{p:Part}
def kg(s:Score)(p:Part):List aq:=s.notes.filter λn=>decide (n.part=gk p)
def gK(p:Part)(b:aM)(n:aq):Written:=qg p b (nd p n)
def Lw(M:cN s){n:aq}(G:n∈kg s p):∃b∈s.bars,b.id=n.az/\fits b n:=by
 obtain⟨k,b,j,B,F,_⟩:=pF (M.2.2.2.1.2.2.1 n (hN.1 G).1)
 exact⟨b,dn j,B,F⟩
def EG(j:cN s){n:aq}(O:n∈kg s p){b:aM}(M:b∈s.bars)(N:n.az=b.id):fits b n:=by
 obtain⟨k,B,F,G⟩:=Lw j O
 have:k=b:=nQ j.2.1.2.2 B M (F.trans N)
 rw[<-this];exact G
def sY(B:ez p){b:aM}(k:dO b.key){n:aq}(F:kY n.aR):jA p b (gK p b n)=(mY n.aR p.aZ,0)/\bR (gK p b n).aR:=by
 have h:=aak B k F
 have j:=OE h
 exact⟨j,(Hf h).2.2⟩
def EH(B:ez p){b:aM}(k:dO b.key){n:aq}(G:kY n.aR)(j:n.az=b.id)(F:n.part=gk p):pN s p (b,gK p b n)=n:=by
 show y7 s p b (gK p b n)=n
 unfold y7
 rw[(sY B k G).1]
 dsimp only
 rw[Ww,<-j,<-F]
 rfl
def GX(Z:ez p){b:aM}(Y:dO b.key){n:aq}(U:fits b n):ig b.length (gK p b n):=by
 obtain⟨j,k,B,F,G,aa,M,N,O⟩:=U
 exact⟨G,M,N,(sY Z Y O).2,j,k,B,F⟩
def WY(j:cN s):iG s (ct s p)=s.bars.flatMap λb=>((kg s p).filter λn=>decide (n.az=b.id)).map λn=>(b,gK p b n):=by
 rw[sT j p]
 unfold iG
 dsimp only
 rw[BH,ta]
 congr 1
 funext b
 unfold oa jJ
 dsimp only
 rw[J4,k6,k6]
 rfl
def Ry(B:cN s):(s.bars.flatMap λb=>(kg s p).filter λn=>decide (n.az=b.id)).Perm (kg s p):=by
 have F:(kg s p).Nodup:=by
  have:((kg s p).map aq.id).Nodup:=B.2.2.2.1.2.2.2.sublist (l2.map _)
  exact zx (λh e=>h (ea aq.id e)) (q4.1 this)
 refine(vf ?_ F).2 λn=>?_
 ·show List.Pairwise _ _
  rw[List.pairwise_flatMap]
  refine⟨λb _=>F.sublist l2,?_⟩
  refine zx (λ{b N} h n M m G e=>?_) (q4.1 B.2.1.2.2)
  subst e
  have j:=(hN.1 M).2
  have k:=(hN.1 G).2
  simp only[ek]at j k
  exact h (j.symm.trans k)
 rw[j1]
 constructor
 ·rintro⟨b,_,h⟩;exact(hN.1 h).1
 intro h
 obtain⟨b,j,k,_⟩:=Lw B h
 exact⟨b,j,hN.2 ⟨h,by simp[k]⟩⟩
def Xs(j:cN s)(N:p∈s.parts):(wQ s p (ct s p)).Perm s.notes:=by
 have O:=j.2.2.1.2.1 p N
 have e:(iG s (ct s p)).map (pN s p)=s.bars.flatMap λb=>(kg s p).filter λn=>decide (n.az=b.id):=by
  rw[WY j,abn]
  unfold List.flatMap
  congr 1
  refine hP λb B=>?_
  rw[k6]
  refine(hP λn M=>?_).trans (List.map_id _)
  obtain⟨k,G⟩:=hN.1 M
  have F:n.az=b.id:=by simpa using G
  exact EH O (mw j B).2.2.2 (EG j k B F).2.2.2.2.2.2.2.2 F (by simpa using (hN.1 k).2)
 unfold wQ
 rw[e]
 refine((Ry j).append_left _).trans ?_
 refine List.perm_append_comm.trans ?_
 exact List.filter_append_perm (λn=>decide (n.part=gk p)) s.notes
def pj(j:cN s)(aa:p∈s.parts):gJ s (ct s p):=by
 have G:=j.2.2.1.2.1 p aa
 have ao:partOf s p.id=some p:=mE j.2.2.1.2.2.1 aa
 have af:=Xs j aa
 have Z:(ct s p).bh.length=s.bars.length:=by rw[sT j p];simp
 have Y:∀b∈s.bars,∀n,n∈(kg s p).filter (λn=>decide (n.az=b.id))->dO b.key/\fits b n/\n.az=b.id/\n.part=gk p:=λb M n N=>by
  obtain⟨B,U⟩:=hN.1 N
  have ae:n.az=b.id:=by simpa using U
  exact⟨(mw j M).2.2.2,EG j B M ae,ae,by simpa using (hN.1 B).2⟩
 refine⟨j,Z,⟨p,by rw[sT j p];exact ao,?_⟩,?_,?_⟩
 ·rw[sT j p]
  dsimp only
  rw[BH,List.all_map,dT]
  intro b M
  show iA p (oa p (jJ s p) b,b)=true
  have an:(oa p (jJ s p) b).notes=((kg s p).filter λn=>decide (n.az=b.id)).map (gK p b):=by
   unfold oa jJ
   dsimp only
   rw[J4,k6]
   rfl
  unfold iA
  rw[an]
  simp only[dd,ek,dT]
  refine⟨⟨⟨rfl,rfl,rfl⟩,Cr.2 λk a c aj ak=>?_⟩,λw av=>?_⟩
  ·have ar:(((kg s p).filter λn=>decide (n.az=b.id)).map (gK p b)).Pairwise λa b=>¬cr wK b a<0:=by
    rw[q4]
    have au:=MY (MY (YB j) λn=>decide (n.part=gk p)) λn=>decide (n.az=b.id)
    refine tc (λ{n m} N al h=>?_) au
    obtain⟨F,O,ab,ad⟩:=Y b M n N
    obtain⟨ay,ai,aw,ax⟩:=Y b M m al
    have ag:=O.2.2.2.2.2.2.2.2
    have ah:=ai.2.2.2.2.2.2.2.2
    have:=Si (at_:=dP s.bars) (s:=s) (GX G F ai) (GX G F O) (by rw[(sY G F ah).1]) (by rw[(sY G F ag).1])
    rw[EH G F ah aw ax,EH G F ag ab ad]at this
    rw[<-this];exact h
   have:=L2 ar k a c aj ak
   rw[hC,hV]
   exact this
  obtain⟨n,N,rfl⟩:=hz.1 av
  obtain⟨F,O,ab,ad⟩:=Y b M n N
  exact GX G F O
 ·rw[<-LI Z,<-hM (f:=pN s p)]
  have B:=af.length_eq
  unfold wQ at B
  rw[e4]at B
  have:=j.2.2.2.1.2.1
  omega
 rw[<-LK Z]
 have B:((wQ s p (ct s p)).map aq.id).Nodup:=(af.map aq.id).nodup_iff.2 j.2.2.2.1.2.2.2
 unfold wQ at B
 rw[v7,sx]at B
 have U:=B.2.1
 rw[k6]at U⊢
 exact U
end Go.Proofs.YthhlipkkjippfaaGreatDoor
namespace Go.Proofs.YthhlipkkjippfaaGreatDoor
open Go Go.ag Go.Sy
attribute [local instance] bV cB
def fJ(q:aL->Written->Bool)(m:aL):aL:=⟨m.az,m.key,m.length,m.notes.filter (q m)⟩
def di(q:aL->Written->Bool)(v:View):View:=⟨v.part,v.bh.map (fJ q)⟩
theorem EE(v:View)(c:List Int):lV v c=di (λm w=>decide (w.bF=nf c m.notes)) v:=rfl
def Sl{a b c:Written}(j:¬cr wK b a<0)(k:¬cr wK c b<0):¬cr wK c a<0:=
 C5 (wK c) (wK b) (wK a) rfl rfl k j
theorem Il{l:List Written}(h:my (λa b=>!decide (cr wK b a<0)) l=true):l.Pairwise λa b=>¬cr wK b a<0:=
 Cs (R:=λa b=>¬cr wK b a<0) (λa b c j B=>Sl j B) λk a b F G=>by
  have:=Cr.1 h k a b F G
  rw[hC,hV]at this
  exact this
def Hk(q:aL->Written->Bool)(v:View):(cP (di q v)).Sublist (cP v):=by
 unfold cP di
 dsimp only
 induction v.bh with
 |nil=>exact .refl _
 |cons m l j=>
  rw[fv,h8,h8]
  exact List.Sublist.append l2 j
def r8{s:Score}{v:View}(ad:gJ s v)(q:aL->Written->Bool):gJ s (di q v):=by
 obtain⟨ab,Y,⟨p,Z,j⟩,N,O⟩:=ad
 refine⟨ab,by simp[di,Y],⟨p,Z,?_⟩,?_,?_⟩
 ·rw[dT]at j⊢
  intro x B
  unfold di at B
  dsimp only at B
  rw[List.zip_map_left,hz]at B
  obtain⟨y,af,rfl⟩:=B
  have h:=j y af
  unfold iA at h⊢
  simp only[dd,ek,dT]at h⊢
  obtain⟨⟨⟨F,G,M⟩,b⟩,c⟩:=h
  refine⟨⟨⟨F,G,M⟩,?_⟩,λw ae=>c w (hN.1 ae).1⟩
  have aa:=(Il b).sublist (l2 (p:=q y.1))
  refine Cr.2 λk a c j U=>?_
  have:=L2 aa k a c j U
  rw[hC,hV]
  exact this
 ·exact hF (Hk q v).length_le N
 exact O.sublist ((Hk q v).map _)
def WX{s:Score}{v:View}(q:aL->Written->Bool):iG s (di q v)=(v.bh.zip s.bars).flatMap λx=>(x.1.notes.filter (q x.1)).map λw=>(x.2,w):=by
 unfold iG di
 dsimp only
 rw[List.zip_map_left,ta]
 rfl
def T2{α β ρ:Type}{E:α->Int}{j:α->β}{R:α->ρ}{fin:List β->ρ}{l:List α}(h:∀x∈l,E x=0)(z:List β):eu E j R fin l z=fin (z++l.map j):=by
 unfold eu
 have:(l.find? λx=>decide (E x≠0))=none:=by
  rw[qd]
  intro x k
  simp[h x k]
 rw[this]
def Zf{s:Score}{v:View}{p:Part}(B:gJ s v)(k:partOf s v.part=some p)(j:∀q∈iG s v,sE p q=0):xc s v=((iG s v).map (sN p),0):=by
 unfold xc
 rw[if_pos B,k]
 dsimp only
 rw[T2 j,List.nil_append]
variable {s:Score}{p:Part}
def oV(s:Score)(p:Part)(b:aM):List aq:=(kg s p).filter λn=>decide (n.az=b.id)
def zj(c:List Int)(l:List aq):Int:=(c.find? λn=>l.any λx=>decide (x.bF=n)).getD 0
def fW(s:Score)(p:Part)(c:List Int)(b:aM):List aq:=((oV s p b).filter λn=>decide (n.bF=zj c (oV s p b))).map (nd p)
def VS(b:aM):(oa p (jJ s p) b).notes=(oV s p b).map (gK p b):=by
 unfold oa jJ oV
 dsimp only
 rw[J4,k6]
 rfl
def Xh(c:List Int)(b:aM)(l:List aq):nf c (l.map (gK p b))=zj c l:=by
 unfold nf zj
 congr 2
 funext n
 rw[List.any_map]
 rfl
def Ca(F:cN s){b:aM}(k:b∈s.bars){n:aq}(M:n∈oV s p b):dO b.key/\fits b n/\n.az=b.id/\n.part=gk p:=by
 obtain⟨j,G⟩:=hN.1 M
 have B:n.az=b.id:=by simpa using G
 exact⟨(mw F k).2.2.2,EG F j k B,B,by simpa using (hN.1 j).2⟩
def MT(F:ez p){b:aM}{n:aq}(h:dO b.key/\fits b n/\n.az=b.id/\n.part=gk p):sE p (b,gK p b n)=0/\sN p (b,gK p b n)=nd p n:=by
 obtain⟨j,k,B,G⟩:=h
 have hi:=(sY F j k.2.2.2.2.2.2.2.2).1
 unfold sE sN
 dsimp only
 rw[hi]
 refine⟨rfl,?_⟩
 unfold nd gK qg nd
 dsimp only
 rw[B]
def Fv(j:cN s)(c:List Int):iG s (lV (ct s p) c)=s.bars.flatMap λb=>((oV s p b).filter λn=>decide (n.bF=zj c (oV s p b))).map λn=>(b,gK p b n):=by
 rw[EE,WX,sT j p]
 dsimp only
 rw[BH,ta]
 congr 1
 funext b
 dsimp only
 rw[VS,Xh,J4,k6]
 rfl
def Gg(j:cN s)(G:p∈s.parts)(c:List Int):xc s (lV (ct s p) c)=(s.bars.flatMap (fW s p c),0):=by
 have M:=j.2.2.1.2.1 p G
 have O:partOf s p.id=some p:=mE j.2.2.1.2.2.1 G
 have U:gJ s (lV (ct s p) c):=r8 (pj j G) _
 have N:partOf s (lV (ct s p) c).part=some p:=by
  rw[sT j p];exact O
 rw[Zf U N (λq k=>by
  rw[Fv j,j1]at k
  obtain⟨b,B,k⟩:=k
  obtain⟨n,F,rfl⟩:=hz.1 k
  exact(MT M (Ca j B (hN.1 F).1)).1),Fv j,abn]
 congr 1
 unfold List.flatMap
 congr 1
 refine hP λb B=>?_
 unfold fW
 rw[k6]
 refine hP λn F=>?_
 exact(MT M (Ca j B (hN.1 F).1)).2
end Go.Proofs.YthhlipkkjippfaaGreatDoor
namespace Go.Proofs.YthhlipkkjippfaaGreatDoor
open Go Go.ag Go.Sy
attribute [local instance] bV cB
def eR{σ β ρ:Type}(f:σ->β->σ⊕ρ):List β->σ->σ⊕ρ
 | [],z=>.inl z
 |x::l,z=>match f z x with
  |.inl y=>eR f l y
  |.inr w=>.inr w
def Jy{σ β ρ:Type}(f:σ->β->σ⊕ρ):∀(a b:List β)(z:σ),eR f (a++b) z=Sum.elim (eR f b) .inr (eR f a z)
 | [],b,z=>rfl
 |x::a,b,z=>by
  simp only[List.cons_append,eR]
  cases f z x with
  |inl y=>exact Jy f a b y
  |inr w=>rfl
def kO{σ β ρ:Type}(g:σ->β->σ):∀(l:List β)(z:σ),eR (λz x=>(.inl (g z x):σ⊕ρ)) l z = .inl (l.foldl g z)
 | [],z=>rfl
 |x::l,z=>kO g l (g z x)
def yp{σ β ρ:Type}{f:σ->β->σ⊕ρ}{I:Nat->σ->Prop}(F:∀k z x y,I k z->f z x = .inl y->I (k+1) y):∀(l:List β)(k:Nat)(z y:σ),I k z->eR f l z = .inl y->I (k+l.length) y
 | [],k,z,y,B,h=>by cases h;exact B
 |x::l,k,z,y,B,h=>by
  simp only[eR]at h
  cases j:f z x with
  |inl w=>
   rw[j]at h
   have G:=yp F l (k+1) w y (F k z x w B j) h
   rw[List.length_cons,show k+(l.length+1)=k+1+l.length by omega];exact G
  |inr w=>rw[j]at h;exact nomatch h
def jl{β:Type}(e:Int)(seg:Int->List β)(nx:Int->Int):Nat->Int->List β
 |0,_=>[]
 |n+1,b=>if b<e then seg b++jl e seg nx n (nx b)else []
theorem kT{σ ρ O ω β:Type}{step:O->Option (O⊕ω)}(st:σ->Int->O)(e:Int)(seg:Int->List β)(nx:Int->Int)(f:σ->β->σ⊕ρ)(fin:σ->ω)(Y:ρ->ω)(I:Nat->σ->Prop)(U:Nat)(ae:∀k z x y,I k z->f z x = .inl y->I (k+1) y)(P:Int->Prop)(af:∀b,P b->b<e->b<nx b/\P (nx b))(ag:∀k z b,P b->b<e->I k z->k+(seg b).length<=U->step (st z b)=some (Sum.elim (λy=>.inl (st y (nx b))) (λw=>.inr (Y w)) (eR f (seg b) z)))(Z:∀z b,P b->¬b<e->step (st z b)=some (.inr (fin z))) :
  ∀(n k:Nat)(N:σ)(b:Int),P b->e<=b+n->I k N->k+(jl e seg nx n b).length<=U->ay step (st N b)=some (Sum.elim fin Y (eR f (jl e seg nx n b) N)):=by
 intro n
 induction n with
 |zero=>
  intro k z b j ad M F
  exact gC (Z z b j (by omega))
 |succ n ah=>
  intro k z b j ad M F
  unfold jl at F⊢
  by_cases h:b<e
  ·rw[if_pos h]at F⊢
   rw[e4]at F
   have B:=ag k z b j h M (by omega)
   rw[Jy]
   cases G:eR f (seg b) z with
   |inl y=>
    rw[G]at B
    have aa:=yp ae _ _ _ _ M G
    have ab:=af b j h
    rw[kU B]
    exact ah _ y (nx b) ab.2 (by omega) aa (by omega)
   |inr w=>
    rw[G]at B
    exact gC B
  rw[if_neg h]
  exact gC (Z z b j h)
theorem DH{β:Type}{e:Int}{seg:Int->List β}{nx:Int->Int}(K E:Int)(j:0<=K){P:Int->Prop}(N:∀b,P b->b<e->P (nx b)/\nx b<=E/\((seg b).length:Int)<=K*(nx b-b)) :
  ∀(n:Nat)(b:Int),P b->b<=E->((jl e seg nx n b).length:Int)<=K*(E-b):=by
 intro n
 induction n with
 |zero=>
  intro b _ M
  have:=Int.mul_nonneg j (show(0:Int)<=E-b by omega)
  simpa [jl]using this
 |succ n O=>
  intro b G M
  unfold jl
  by_cases h:b<e
  ·rw[if_pos h]
   obtain⟨k,B,U⟩:=N b G h
   have Y:=O (nx b) k B
   rw[e4]
   have F:K*(E-b)=K*(nx b-b)+K*(E-nx b):=by rw[<-Int.mul_add];congr 1;omega
   rw[F]
   push_cast
   omega
  rw[if_neg h]
  have:=Int.mul_nonneg j (show(0:Int)<=E-b by omega)
  simpa using this
theorem DG{β:Type}{e:Int}{seg:Int->List β}{nx:Int->Int}{P:Int->Prop}{Q:β->Prop}(F:∀b,P b->b<e->P (nx b)/\∀x∈seg b,Q x) :
  ∀(n:Nat)(b:Int),P b->∀x∈jl e seg nx n b,Q x:=by
 intro n
 induction n with
 |zero=>intro b _ x hx;exact absurd hx (by simp[jl])
 |succ n G=>
  intro b B x hx
  unfold jl at hx
  by_cases h:b<e
  ·rw[if_pos h,h5]at hx
   obtain⟨j,k⟩:=F b B h
   rcases hx with hx|hx
   ·exact k x hx
   exact G _ j x hx
  rw[if_neg h]at hx;exact absurd hx (by simp)
def ux(l:List Repeat)(b:Int):Int:=ix l λr=>decide (r.from_=b)
def iW(l:List Ending)(b p:Int):Bool:=l.any λx=>decide (x.from_<=b)&&(decide (b<x.aO) && !decide (x.pass=p))
def fS(l:List Ending)(a b p:Int):List Int:=jl b (λi=>if iW l i p then []else [i]) (λi=>i+1) (b-a).toNat a
def jf(l:List Ending)(r:Repeat)(p:Int):List Int:=jl (r.times+1) (λq=>fS l r.from_ r.aO q) (λq=>q+1) (r.times+1-p).toNat p
def l9(f:Form)(q:Repeat->Int)(b:Int):List Int:=match f.aX.find? λr=>decide (r.from_=b)with
 |none=>[b]
 |some r=>jf f.bz r (q r)
def iZ(f:Form)(b:Int):Int:=match f.aX.find? λr=>decide (r.from_=b)with
 |none=>b+1
 |some r=>r.aO
def dK(f:Form)(q:Repeat->Int)(a e:Int):List Int:=jl e (l9 f q) (iZ f) (e-a).toNat a
def gL(f:Form):List Int:=if f.jump.at_=0 then dK f (λ_=>1) 0 f.bars else dK f (λ_=>1) 0 f.jump.at_++dK f Repeat.times f.jump.to f.jump.cW
def Xc(l:List Ending)(a b p:Int)(h:a<=b):((fS l a b p).length:Int)<=b-a:=by
 have:=DH (e:=b) (seg:=λi=>if iW l i p then []else [i]) (nx:=λi=>i+1) 1 b (by omega) (P:=λ_=>True) (λi _ hi=>⟨trivial,by omega,by
  by_cases h:iW l i p=true
  ·rw[if_pos h];simp;omega
  rw[if_neg h];simp;omega⟩) (b-a).toNat a trivial h
 unfold fS
 omega
def Yk(l:List Ending)(r:Repeat)(p:Int)(h:r.from_<=r.aO)(j:1<=p)(k:p<=r.times)(B:r.times<=9):((jf l r p).length:Int)<=9*(r.aO-r.from_):=by
 have:=DH (e:=r.times+1) (seg:=λq=>fS l r.from_ r.aO q) (nx:=λq=>q+1) (r.aO-r.from_) (r.times+1) (by omega) (P:=λ_=>True) (λi _ hi=>⟨trivial,by omega,by
  have:=Xc l r.from_ r.aO i h
  have e:(r.aO-r.from_)*(i+1-i)=r.aO-r.from_:=by
   rw[show i+1-i=1 by omega,Int.mul_one]
  rw[e];exact this⟩) (r.times+1-p).toNat p trivial (by omega)
 have F:(r.aO-r.from_)*(r.times+1-p)<=(r.aO-r.from_)*9:=Int.mul_le_mul_of_nonneg_left (by omega) (by omega)
 unfold jf
 omega
def pk(bars:Int)(r:Repeat):Prop:=r.from_<r.aO/\r.aO<=bars/\1<=r.times/\r.times<=9/\0<=r.from_
def MH(bars:Int):∀(l:List Repeat)(z:Int),0<=z->kp (nE bars) Repeat.aO z l=true->∀r∈l,pk bars r
 | [],_,_,_,r,hr=>absurd hr (by simp)
 |x::l,z,N,h,r,hr=>by
  simp only[kp,dd,hC,nE,nh,hV]at h
  obtain⟨⟨⟨⟨⟨k,B⟩,F⟩,G⟩,M⟩,j⟩:=h
  rcases fb.1 hr with rfl|hr
  ·exact⟨by omega,by omega,by omega,by omega,by omega⟩
  exact MH bars l x.aO (by omega) j r hr
theorem LM{f:Form}(M:∀r∈f.aX,pk f.bars r){q:Repeat->Int}(j:∀r∈f.aX,1<=q r/\q r<=r.times)(a e:Int)(G:a<=f.bars)(aa:e<=f.bars):((dK f q a e).length:Int)<=9*(f.bars-a):=by
 refine DH 9 f.bars (by omega) (P:=λ_=>True) (λb _ Z=>⟨trivial,?_⟩) _ a trivial G
 unfold l9 iZ
 cases h:f.aX.find? λr=>decide (r.from_=b)with
 |none=>exact⟨by dsimp only;omega,by simp;omega⟩
 |some r=>
  have N:=M r (hE h)
  have F:r.from_=b:=hD (k7 (p:=λr:Repeat=>decide (r.from_=b)) h)
  obtain⟨O,k,U,B,Y⟩:=N
  refine⟨k,?_⟩
  rw[<-F]
  exact Yk _ _ _ (by omega) (j r (hE h)).1 (j r (hE h)).2 B
def kN(f:Form):Prop:=(1<=f.bars/\f.bars<=4000)/\(∀r∈f.aX,pk f.bars r)/\(f.aX.length<=1048576/\f.bz.length<=1048576)/\(f.jump.at_<=f.bars/\0<=f.jump.to/\f.jump.to<=f.bars/\f.jump.cW<=f.bars)/\(f.jump.at_=0->f.jump.cW<=f.jump.to)
def G2{f:Form}(h:kN f):(gL f).length<=72000:=by
 obtain⟨⟨O,U⟩,j,_,⟨G,Z,M,N⟩,_⟩:=h
 have B:=λe(F:e<=f.bars)=>LM j (q:=λ_=>1) (λr k=>⟨by simp,(j r k).2.2.1⟩) 0 e (by omega) F
 have Y:=LM j (q:=Repeat.times) (λr k=>⟨(j r k).2.2.1,by simp⟩) f.jump.to f.jump.cW M N
 unfold gL
 by_cases e:f.jump.at_=0
 ·rw[if_pos e]
  have:=B f.bars (by simp)
  omega
 rw[if_neg e,e4]
 have:=B f.jump.at_ G
 omega
def Xb(l:List Ending)(a b p:Int):∀x∈fS l a b p,a<=x/\x<b:=by
 refine DG (P:=λi=>a<=i) (λi hi k=>⟨by omega,λx j=>?_⟩) _ a (by simp)
 by_cases h:iW l i p=true
 ·rw[if_pos h]at j;exact absurd j (by simp)
 rw[if_neg h,p5]at j;omega
def Yj(l:List Ending)(r:Repeat)(p:Int):∀x∈jf l r p,r.from_<=x/\x<r.aO:=
 DG (P:=λ_=>True) (λi _ _=>⟨trivial,Xb l _ _ i⟩) _ p trivial
def Fw{f:Form}(B:∀r∈f.aX,pk f.bars r)(q:Repeat->Int)(a e:Int)(k:0<=a)(Z:e<=f.bars):∀x∈dK f q a e,0<=x/\x<f.bars:=by
 refine DG (P:=λb=>0<=b) (λb U Y=>?_) _ a k
 unfold l9 iZ
 cases h:f.aX.find? λr=>decide (r.from_=b)with
 |none=>exact⟨by dsimp only;omega,λx j=>by rw[p5]at j;omega⟩
 |some r=>
  obtain⟨F,G,M,N,O⟩:=B r (hE h)
  exact⟨by dsimp only;omega,λx j=>by have:=Yj _ _ _ x j;omega⟩
def aaQ{f:Form}(h:kN f):∀x∈gL f,0<=x/\x<f.bars:=by
 obtain⟨⟨G,M⟩,j,_,⟨k,B,N,F⟩,_⟩:=h
 intro x hx
 unfold gL at hx
 by_cases e:f.jump.at_=0
 ·rw[if_pos e]at hx
  exact Fw j _ _ _ (by simp) (by simp) x hx
 rw[if_neg e,h5]at hx
 rcases hx with hx|hx
 ·exact Fw j _ _ _ (by simp) k x hx
 exact Fw j _ _ _ B F x hx
def lx(f:Form):Int:=if f.jump.at_=0 then f.bars else f.jump.at_
def G1{f:Form}(h:kN f):gL f=dK f (λ_=>1) 0 (lx f)++dK f Repeat.times f.jump.to f.jump.cW:=by
 unfold gL lx
 by_cases e:f.jump.at_=0
 ·have k:=h.2.2.2.2 e
  have j:dK f Repeat.times f.jump.to f.jump.cW=[]:=by
   unfold dK
   rw[show(f.jump.cW-f.jump.to).toNat=0 by omega];rfl
  rw[if_pos e,if_pos e,j,nb]
 rw[if_neg e,if_neg e]
end Go.Proofs.YthhlipkkjippfaaGreatDoor
