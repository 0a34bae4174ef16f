import Derived.Test.YthhlipkkjippfaaGreatDoorX7
set_option linter.all false
namespace Go.Proofs.YthhlipkkjippfaaGreatDoor
open Go Go.ag Go.Sy
attribute [local instance] ch cF
def eR(b:aT):Prop:=(1<=b.id/\b.id<=1000000)/\bQ b.length/\(1<=bg b.length/\bg b.length<=40320)/\(-7<=b.key/\b.key<=7)
instance (b:aT):Decidable (eR b):=inferInstanceAs (Decidable (_/\_/\_/\_))
def ir(l:List aT):Prop:=(1<=l.length/\l.length<=4000)/\(∀b∈l,eR b)/\(l.map aT.id).Nodup
instance (l:List aT):Decidable (ir l):=inferInstanceAs (Decidable (_/\_/\_))
def Xb(a b c d:Bool):ab a (some true) (ab b (some true) (ab c (some true) (some d)))=some (a||b||c||d):=by cases a<;>cases b<;>cases c<;>rfl
def Xc(a b c d e:Bool):ab a (some true) (ab b (some true) (ab c (some true) (ab d (some true) (some e))))=some (a||b||c||d||e):=by cases a<;>cases b<;>cases c<;>cases d<;>rfl
def Xd(a b c d e f:Bool):ab a (some true) (ab b (some true) (ab c (some true) (ab d (some true) (ab e (some true) (some f)))))=some (a||b||c||d||e||f):=by cases a<;>cases b<;>cases c<;>cases d<;>cases e<;>rfl
def XT(b:aT):(decide (b.id<1)||decide (1000000<b.id)||decide ((if bQ b.length then bg b.length else -1)<1)||decide (40320<(if bQ b.length then bg b.length else -1))||decide (b.key < -7)||decide (7<b.key)) = !decide (eR b):=by
 unfold eR
 by_cases h:bQ b.length
 ·simp only[h,hK,abt]
  rw[hC]
  simp only[hR,ea,gL,hL]
  omega
 simp[h]
def Mr(l:List aT):wW l=some (decide (ir l)):=by
 unfold wW
 by_cases Z:l.length<1
 ·have:¬ir l:=λh=>by have:=h.1.1;omega
  rw[an (da (by omega)),af,an rfl];simp[this]
 rw[aj (dd (by omega)),af]
 by_cases aa:4000<l.length
 ·have:¬ir l:=λh=>by have:=h.1.2;omega
  rw[an (da (by omega))];simp[this]
 rw[aj (dd (by omega)),pV l.length (mH (λb=>!decide (eR b)) (λx y=>decide (x.id=y.id)) l) false (λk U=>by
  have N:l[k]?=some l[k]:=c3 U
  generalize l[k]=x at N
  rw[an (by simpa using U)]
  simp only[aW N,af,xu,Xd,XT]
  unfold mH
  rw[N]
  dsimp only
  by_cases B:eR x
  ·rw[aj (by simp[B]),nv (l:=l.take k) (λy=>decide (y.id=x.id)) (.inr (.inr false)) (λj y O=>by
    obtain⟨Y,O⟩:=Ob O
    rw[an (by simpa using Y),bh (aW O)]
    by_cases M:y.id=x.id
    ·rw[an (by simp[M])];simp[M]
    ·rw[aj (by simp[M]),aE (by omega)];simp[M]) (by
    rw[e8,o1 (by omega),aj (by simp)])]
   by_cases F:((l.take k).any λy=>decide (y.id=x.id))=true
   ·rw[if_pos F,if_pos (by rw[F];simp)];rfl
   rw[if_neg F,if_neg (by simp[B]at F⊢;exact F),fk,aE (by omega)];rfl
  rw[an (by simp[B]),if_pos (by simp[B])];rfl) (by rw[aj (by simp)])]
 have key:=Gu (λb=>!decide (eR b)) (λx y=>decide (x.id=y.id)) l
 rw[F6 aT.id]at key
 by_cases G:ir l
 ·rw[if_neg]
  ·simp[G,fk]
  rw[key];exact λh=>h ⟨λb B=>by simp[G.2.1 b B],G.2.2⟩
 rw[if_pos]
 ·simp[G,fQ]
 rw[key];exact λh=>G ⟨by omega,λb B=>by simpa using h.1 b B,h.2⟩
def Wm(q:Rat):wQ q=some (decide (bQ q)):=by
 unfold wQ
 rw[si,af]
 by_cases j:jD q
 ·have B:(!(aF q.d 0))=true:=by have:=j.1;simp;omega
  rw[an (by simp[j])]
  by_cases k:0<=q.n
  ·rw[an (by simp[k]),cr B,af];unfold bQ;simp[j,k]
  rw[aj (by simp[k]),af];unfold bQ;simp[k]
 rw[aj (by simp[j]),af];unfold bQ;simp[j]
def Wq{a b:Rat}(j:jD a)(k:jD b):wR (a,b)=some (decide (a.n*b.d<b.n*a.d)):=by
 unfold wR
 dsimp only
 rw[Br j k,af]
 dsimp only
 congr 1
 rw[j0]
 unfold ga
 split
 ·simp[*]
 split<;>simp[*]
def Z9{q:Rat}(h:bQ q):24*q.d<q.n*1↔40320<bg q:=by
 obtain⟨j,F,B⟩:=GS h
 unfold bg
 generalize Int.tdiv 1680 q.d=k at *
 have e:40320=(24*q.d)*k:=by rw[Int.mul_assoc,j];rfl
 rw[e,Int.mul_one]
 constructor
 ·exact λh=>Int.mul_lt_mul_of_pos_right h B
 exact λh=>Int.lt_of_mul_lt_mul_right h (by omega)
def Z8{q:Rat}(h:bQ q):q.n=0↔bg q<1:=by
 obtain⟨j,B,F⟩:=GS h
 unfold bg
 generalize Int.tdiv 1680 q.d=k at *
 have G:=h.2.1
 constructor
 ·intro h;rw[h];omega
 intro M
 refine hf λN=>?_
 have:1*k<=q.n*k:=tc (by omega) (by omega)
 omega
def Wg(g:Bool)(b:aT):(decide (b.id<1)||decide (1000000<b.id)||g||decide (b.key < -7)||decide (7<b.key)) = !decide ((1<=b.id/\b.id<=1000000)/\g=false/\(-7<=b.key/\b.key<=7)):=by
 rw[hC]
 cases g
 ·simp only[hR,ea,gL,hL,abt]
  simp;omega
 simp
def Wh(b:aT):(aa (wQ b.length) λN=>ab (!N) (some true) (ab (aF b.length.n 0) (some true) (aa (wR ((⟨24,1⟩:Rat),b.length)) λF=>some F)))=some (!decide (bQ b.length/\(1<=bg b.length/\bg b.length<=40320))):=by
 rw[Wm,af]
 by_cases h:bQ b.length
 ·rw[aj (by simp[h])]
  have k:=Z8 h
  have B:=Z9 h
  by_cases j:b.length.n=0
  ·have:=k.1 j
   rw[an (by simp[j])]
   rw[dd (λM=>by omega)];rfl
  rw[aj (by simp[j]),Wq (by decide) h.1,af]
  have G:¬bg b.length<1:=λh=>j (k.2 h)
  congr 1
  simp only[h,abt]
  rw[<-decide_not,j0]
  rw[B];omega
 rw[an (by simp[h])];simp[h]
def K3{l:List aT}(U:l.length<=1048576):wP l=some (decide (ir l)):=by
 unfold wP
 rw[dU (σ:=List (Int×Bool)) (st:=λz k=>(k,z)) (l:=l) (λz x=>if !decide (eR x)||aq z x.id false then .inr (.inr false)else .inl (aM z x.id true)) (λ_=>.inl ()) (λ_ _=>True) (λk x z M _=>by
  have O:=bG M
  dsimp only
  rw[an (by simpa using O),bh (aW M),Xc,Wg,af]
  by_cases B:(1<=x.id/\x.id<=1000000)/\aq z x.id false=false/\(-7<=x.key/\x.key<=7)
  ·rw[aj (by simp only[da B];rfl),Wh,af]
   by_cases F:bQ x.length/\(1<=bg x.length/\bg x.length<=40320)
   ·have j:eR x:=⟨B.1,F.1,F.2,B.2.2⟩
    rw[aj (by simp only[da F];rfl)]
    rw[aE (by omega)]
    simp[j,B.2.1]
   have j:¬eR x:=λh=>F ⟨h.2.1,h.2.2.1⟩
   rw[an (by simp only[dd F];rfl)]
   simp[j]
  rw[an (by simp only[dd B];rfl),if_pos]
  by_cases j:eR x
  ·cases N:aq z x.id false
   ·exact absurd ⟨j.1,N,j.2.2.2⟩ B
   simp
  simp[j]) (λ_ _ _ _ _ _ _=>trivial) (λz _=>by dsimp only;rw[aj (by simp)]) [] trivial,Dx]
 by_cases G:(∀x∈l,(!decide (eR x))=false)/\(l.map aT.id).Nodup/\∀x∈l,aq ([]:List (Int×Bool)) x.id false=false
 ·have B:∀b∈l,eR b:=λb j=>by simpa using G.1 b j
  rw[if_pos G,fk,l7]
  refine dn some (j0.2 ⟨?_,?_⟩)
  ·rintro⟨a,b⟩;exact⟨⟨by omega,by omega⟩,B,G.2.1⟩
  rintro⟨⟨a,b⟩,_⟩;omega
 rw[if_neg G,fQ]
 congr 1;symm
 exact dd λh=>G ⟨λb j=>by simp[h.2.1 b j],h.2.2,λb _=>rfl⟩
def ef(bars:List aT):List (Int×Int):=(bars.foldl (λ(p:List (Int×Int)×Nat) b=>(aM p.1 b.id (p.2:Int),p.2+1)) ([],0)).1
def Lt{bars:List aT}(N:bars.length<=1048576):wT bars=some (ef bars):=by
 unfold wT
 have:=dU (σ:=List (Int×Int)×Nat) (st:=λz k=>(k,z.1)) (step:=λj:(Int×(List (Int×Int)))=>ab (ah j.1 (bars.length:Int)) (aa (au bars j.1) λM=>ae (ai (j.1+1)) <|some (.inl ((j.1+1),(aM j.2 M.id j.1)))) (some (.inr j.2))) (l:=bars) (λz x=>.inl (aM z.1 x.id (z.2:Int),z.2+1)) (λz=>z.1) (λk z=>z.2=k) (λk x z B F=>by
  have G:=bG B
  dsimp only
  rw[an (by simpa using G),bh (aW B),aE (by omega),F];rfl) (λk x z z' B F h=>by
  injection h with h;rw[<-h];simp[F]) (λz _=>by dsimp only;rw[aj (by simp)]) ([],0) rfl
 rw[this,fG (λ(z:List (Int×Int)×Nat)(x:aT)=>(aM z.1 x.id (z.2:Int),z.2+1)) _ _ (λ_ _ _=>rfl),af]
 rfl
def Lx:∀(l:List aT)(z:List (Int×Int)×Nat)(id:Int),dG (l.foldl (λ(p:List (Int×Int)×Nat) b=>(aM p.1 b.id (p.2:Int),p.2+1)) z).1 id=(dG z.1 id||l.any λb=>decide (b.id=id))
 | [],z,id=>by simp
 |b::l,z,id=>by
  rw[List.foldl_cons,Lx l,zu]
  simp only[List.any_cons]
  rw[show decide (id=b.id)=decide (b.id=id)from j0.2 eq_comm]
  cases dG z.1 id<;>cases decide (b.id=id)<;>simp
def Lw:∀(l:List aT)(z:List (Int×Int)×Nat)(id:Int),(l.map aT.id).Nodup->aq (l.foldl (λ(p:List (Int×Int)×Nat) b=>(aM p.1 b.id (p.2:Int),p.2+1)) z).1 id 0=match l.findIdx? λb=>decide (b.id=id)with|some i=>((z.2+i:Nat):Int)|none=>aq z.1 id 0
 | [],z,id,_=>by simp
 |b::l,z,id,j=>by
  simp only[fa,h9,gj]at j
  rw[List.foldl_cons,Lw l _ id j.2,p4]
  dsimp only
  by_cases h:b.id=id
  ·have:(l.findIdx? λb=>decide (b.id=id))=none:=by
    rw[List.findIdx?_eq_none_iff]
    intro x k
    simp only[hL]
    exact λe=>j.1 ⟨x,k,by rw[e,h]⟩
   rw[this]
   simp[h,mw]
  simp only[h,decide_false]
  cases B:l.findIdx? λb=>decide (b.id=id)with
  |none=>simp[mw,hS h]
  |some i=>
   simp only[Option.map_some,hQ,h8]
   exact dn Int.ofNat (by omega:z.2+1+i=z.2+(i+1))
def WD(l:List aT)(id:Int):dG (ef l) id=l.any λb=>decide (b.id=id):=by unfold ef;rw[Lx];rfl
def Lu{l:List aT}(k:(l.map aT.id).Nodup){id:Int}(h:(l.any λb=>decide (b.id=id))=true):aq (ef l) id 0=ix l λb=>decide (b.id=id):=by
 unfold ef
 rw[Lw l _ id k]
 unfold ix
 cases j:l.findIdx? λb=>decide (b.id=id)with
 |none=>
  have:(l.findIdx? λb=>decide (b.id=id)).isSome=l.any _:=List.findIdx?_isSome
  rw[j,h]at this;cases this
 |some i=>simp
def rn{α:Type}(l:List α)(p:α->Bool):aZ (some (match l.findIdx? p with|some i=>(.inr (i:Int):Unit⊕Int)|none=>.inl ())) (λ_=>some (-1))=some (ix l p):=by
 unfold ix
 cases l.findIdx? p<;>rfl
def Ms{bars:List aT}(F:bars.length<=1048576)(id:Int):wX (bars,id)=some (ix bars λb=>decide (b.id=id)):=by
 unfold wX
 dsimp only
 rw[nw (l:=bars) (λb=>decide (b.id=id)) (λk x j=>by
  have B:=bG j
  rw[an (by simpa using B),bh (aW j)]
  by_cases h:x.id=id
  ·rw[an (by simp[h])];simp[h]
  rw[aj (by simp[h]),aE (by omega)];simp[h]) (by rw[aj (by simp)])]
 exact rn bars _
end Go.Proofs.YthhlipkkjippfaaGreatDoor
namespace Go.Proofs.YthhlipkkjippfaaGreatDoor
open Go Go.ag Go.Sy
attribute [local instance] ch cF
def kX{α:Type}(b:Int->α->Bool)(nx:α->Int):Int->List α->Bool
 |_,[]=>true
 |z,x::l=>!b z x&&kX b nx (nx x) l
theorem zo{α:Type}{step:Int×Int->Option ((Int×Int)⊕(Unit⊕Bool))}{l:List α}(b:Int->α->Bool)(nx:α->Int)(O:∀(k:Nat) x z,l[k]?=some x->step (z,k)=some (if b z x then .inr (.inr false)else .inl (nx x,((k+1:Nat):Int))))(M:∀z,step (z,l.length)=some (.inr (.inl ())))(F:Int) :
  aB step (F,0)=some (if kX b nx F l then .inl ()else .inr false):=by
 have key:∀(n k:Nat)(z:Int),k+n=l.length->aB step (z,(k:Int))=some (if kX b nx z (l.drop k)then .inl ()else .inr false):=by
  intro n
  induction n with
  |zero=>
   intro k z N
   have:k=l.length:=by omega
   subst this
   rw[zz]
   exact iE (M z)
  |succ n Y=>
   intro k z N
   have G:k<l.length:=by omega
   have U:l[k]?=some l[k]:=c3 G
   rw[hT G]
   have B:=O k l[k] z U
   generalize l[k]=x at B⊢
   have e:kX b nx z (x::l.drop (k+1))=(!b z x&&kX b nx (nx x) (l.drop (k+1))):=rfl
   rw[e]
   by_cases j:b z x=true
   ·rw[if_pos j]at B
    rw[j]
    exact iE B
   rw[if_neg j]at B
   have j:b z x=false:=by simpa using j
   rw[mr B,Y (k+1) _ (by omega),j]
   rfl
 exact key l.length 0 F (by omega)
def od(bars z:Int)(r:bL):Bool:=decide (r.from_<z)||decide (r.aQ<=r.from_)||decide (bars<r.aQ)||decide (r.times<1)||decide (9<r.times)
def nO(bars:Int)(l:List bL):Bool:=decide (l.length<=100)&&kX (od bars) bL.aQ 0 l
def zQ(a b c d e:Bool):ab a (some true) (ab b (some true) (ab c (some true) (ab d (some true) (some e))))=some (a||b||c||d||e):=by cases a<;>cases b<;>cases c<;>cases d<;>rfl
def LZ(a b c d e f:Bool):ab a (some true) (ab b (some true) (ab c (some true) (ab d (some true) (ab e (some true) (some f)))))=some (a||b||c||d||e||f):=by cases a<;>cases b<;>cases c<;>cases d<;>cases e<;>rfl
def Ef(n:Nat):leI (n:Int) 100=decide (n<=100):=by
 unfold leI
 rw[hC,ea,ea]
 omega
theorem WR{o:dp}(F:o.form.aY.length<=1048576):AL o=some (nO o.form.bars o.form.aY):=by
 unfold AL nO
 rw[zo (l:=o.form.aY) (od o.form.bars) bL.aQ (λk x z j=>by
  have B:=bG j
  dsimp only
  rw[an (by simpa using B),bh (aW j),zQ,af]
  unfold od
  rw[aE (by omega)]
  cases (decide (x.from_<z)||decide (x.aQ<=x.from_)||decide (o.form.bars<x.aQ)||decide (x.times<1)||decide (9<x.times))<;>rfl) (λz=>by dsimp only;rw[aj (by simp)]) 0]
 generalize kX (od o.form.bars) bL.aQ 0 o.form.aY=q
 cases q
 ·rw[if_neg (by decide),fQ,Kn]
 rw[if_pos rfl,fk,qn,Ef]
def Yd{l:List bL}(F:l.length<=1048576)(bars:Int):AB (l,bars)=some (nO bars l):=by
 unfold AB nO
 dsimp only
 by_cases h:100<l.length
 ·rw[an (by simp;omega),dd (by omega)];rfl
 rw[aj (by simp;omega),da (by omega),n2,zo (l:=l) (od bars) bL.aQ (λk x z j=>by
  have B:=bG j
  dsimp only
  rw[bh (aW j),bh (aW j),bh (aW j),bh (aW j),bh (aW j),bh (aW j),bh (aW j)]
  rw[an (by simpa using B),zQ,af]
  unfold od
  rw[aE (by omega)]
  cases (decide (x.from_<z)||decide (x.aQ<=x.from_)||decide (bars<x.aQ)||decide (x.times<1)||decide (9<x.times))<;>rfl) (λz=>by dsimp only;rw[aj (by simp)]) 0]
 cases kX (od bars) bL.aQ 0 l<;>rfl
def tN(l:List bL)(a b:Int):Bool:=l.any λr=>decide (r.from_<=a)&&decide (b<=r.aQ)
def S2{l:List bL}(F:l.length<=1048576)(e:Ending):A4 (l,e)=some (tN l e.from_ e.aQ):=by
 unfold A4 FG
 dsimp only
 rw[ma (l:=l) (λr=>decide (r.from_<=e.from_)&&decide (e.aQ<=r.aQ)) (λk x j=>by
  have B:=bG j
  unfold Fq
  dsimp only
  rw[an (by simpa using B),bh (aW j),iB,af,af]
  cases (decide (x.from_<=e.from_)&&decide (e.aQ<=x.aQ))
  ·rw[gV,aE (by omega)];rfl
  rfl) (by rw[aj (by simp)])]
 rfl
def Ya{l:List bL}(F:l.length<=1048576)(a b:Int):Az (l,a,b)=some (tN l a b):=by
 unfold Az
 dsimp only
 rw[nv (l:=l) (λr=>decide (r.from_<=a)&&decide (b<=r.aQ)) true (λk x j=>by
  have B:=bG j
  simp only[aW j,af]
  rw[an (by simpa using B),iB,af]
  cases (decide (x.from_<=a)&&decide (b<=x.aQ))
  ·rw[gV,aE (by omega)];rfl
  rfl) (by rw[aj (by simp)])]
 unfold tN
 cases (l.any λr=>decide (r.from_<=a)&&decide (b<=r.aQ))<;>rfl
def qL(l:List bL)(z:Int)(e:Ending):Bool:=decide (e.from_<z)||decide (e.aQ<=e.from_) || !tN l e.from_ e.aQ||decide (e.pass<1)||decide (9<e.pass)
def pH(f:Form):Bool:=decide (f.bE.length<=100)&&kX (qL f.aY) Ending.aQ 0 f.bE
theorem WQ{o:dp}(F:o.form.aY.length<=1048576)(G:o.form.bE.length<=1048576):AJ o=some (pH o.form):=by
 unfold AJ pH
 rw[zo (l:=o.form.bE) (qL o.form.aY) Ending.aQ (λk x z j=>by
  have B:=bG j
  dsimp only
  rw[an (by simpa using B),bh (aW j),S2 F,af,zQ,af]
  unfold qL
  rw[aE (by omega)]
  cases (decide (x.from_<z)||decide (x.aQ<=x.from_) || !tN o.form.aY x.from_ x.aQ||decide (x.pass<1)||decide (9<x.pass))<;>rfl) (λz=>by dsimp only;rw[aj (by simp)]) 0]
 generalize kX (qL o.form.aY) Ending.aQ 0 o.form.bE=q
 cases q
 ·rw[if_neg (by decide),fQ,Kn]
 rw[if_pos rfl,fk,qn,Ef]
def X8{f:Form}(F:f.aY.length<=1048576)(G:f.bE.length<=1048576):Ay f=some (pH f):=by
 unfold Ay pH
 by_cases h:100<f.bE.length
 ·rw[an (by simp;omega),dd (by omega)];rfl
 rw[aj (by simp;omega),da (by omega),n2,zo (l:=f.bE) (qL f.aY) Ending.aQ (λk x z j=>by
  have B:=bG j
  dsimp only
  rw[an (by simpa using B),bh (aW j),Ya F,af,zQ,af]
  unfold qL
  rw[aE (by omega)]
  cases (decide (x.from_<z)||decide (x.aQ<=x.from_) || !tN f.aY x.from_ x.aQ||decide (x.pass<1)||decide (9<x.pass))<;>rfl) (λz=>by dsimp only;rw[aj (by simp)]) 0]
 cases kX (qL f.aY) Ending.aQ 0 f.bE<;>rfl
def jh(l:List bL)(b:Int):Bool:=l.any λr=>decide (r.from_<b)&&decide (b<r.aQ)
def WN{o:dp}(F:o.form.aY.length<=1048576)(b:Int):uA (o,b)=some (jh o.form.aY b):=by
 unfold uA Fy FH
 dsimp only
 rw[ma (l:=o.form.aY) (λr=>decide (r.from_<b)&&decide (b<r.aQ)) (λk x j=>by
  have B:=bG j
  unfold Ft
  dsimp only
  rw[an (by simpa using B),bh (aW j),iB,af,af]
  cases (decide (x.from_<b)&&decide (b<x.aQ))
  ·rw[gV,aE (by omega)];rfl
  rfl) (by rw[aj (by simp)])]
 rfl
def Yf{l:List bL}(F:l.length<=1048576)(b:Int):ux (l,b)=some (jh l b):=by
 unfold ux
 dsimp only
 rw[nv (l:=l) (λr=>decide (r.from_<b)&&decide (b<r.aQ)) true (λk x j=>by
  have B:=bG j
  simp only[aW j,af]
  rw[an (by simpa using B),iB,af]
  cases (decide (x.from_<b)&&decide (b<x.aQ))
  ·rw[gV,aE (by omega)];rfl
  rfl) (by rw[aj (by simp)])]
 unfold jh
 cases (l.any λr=>decide (r.from_<b)&&decide (b<r.aQ))<;>rfl
def It(a b:im):Cz a b=decide (a=b):=by
 obtain⟨j,k,B⟩:=a
 obtain⟨F,G,M⟩:=b
 rw[hC,ea,im.mk.injEq]
 show di [.int .i64 j,.int .i64 k,.int .i64 B] [.int .i64 F,.int .i64 G,.int .i64 M]=true↔_
 simp[di,gz]
def nm(f:Form):Bool:=decide (f.jump=⟨0,0,0⟩)||(!(decide (f.jump.at_<1)||decide (f.bars<f.jump.at_)||decide (f.jump.to<0)||decide (f.jump.at_<=f.jump.to)||decide (f.jump.dj<=f.jump.to)||decide (f.bars<f.jump.dj)) && !jh f.aY f.jump.at_ && !jh f.aY f.jump.to && !jh f.aY f.jump.dj)
theorem W1{o:dp}(j:o.form.aY.length<=1048576):AN o=some (nm o.form):=by
 unfold AN nm
 simp only[It,LZ,af,WN j]
 cases decide (o.form.jump=⟨0,0,0⟩)<;>cases (decide (o.form.jump.at_<1)||decide (o.form.bars<o.form.jump.at_)||decide (o.form.jump.to<0)||decide (o.form.jump.at_<=o.form.jump.to)||decide (o.form.jump.dj<=o.form.jump.to)||decide (o.form.bars<o.form.jump.dj))<;>cases jh o.form.aY o.form.jump.at_<;>cases jh o.form.aY o.form.jump.to<;>cases jh o.form.aY o.form.jump.dj<;>rfl
def Yb{f:Form}(j:f.aY.length<=1048576):AA f=some (nm f):=by
 unfold AA nm
 simp only[It,LZ,af,Yf j]
 cases decide (f.jump=⟨0,0,0⟩)<;>cases (decide (f.jump.at_<1)||decide (f.bars<f.jump.at_)||decide (f.jump.to<0)||decide (f.jump.at_<=f.jump.to)||decide (f.jump.dj<=f.jump.to)||decide (f.bars<f.jump.dj))<;>cases jh f.aY f.jump.at_<;>cases jh f.aY f.jump.to<;>cases jh f.aY f.jump.dj<;>rfl
def iy(bars:Int)(c:bK):Prop:=0<=c.from_/\c.from_<c.aQ/\c.aQ<=bars/\0<=c.pass/\c.pass<=20
instance (bars:Int) (c:bK):Decidable (iy bars c):=inferInstanceAs (Decidable (_/\_/\_/\_/\_))
def HG(a b c d e:Bool):ab a (ab b (ab c (ab d (some e) (some false)) (some false)) (some false)) (some false)=some (a&&b&&c&&d&&e):=by cases a<;>cases b<;>cases c<;>cases d<;>rfl
def W0(o:dp)(c:bK):AM (o,c)=some (decide (iy o.form.bars c)):=by
 unfold AM iy
 dsimp only
 rw[HG,af]
 exact kg (by simp[mo])
def X7(f:Form)(c:bK):w5 (f,c)=some (decide (iy f.bars c)):=by
 unfold w5 iy
 dsimp only
 rw[HG,af]
 exact kg (by simp[mo])
def yL(a b:bK):lE 10 a b=decide (a=b):=by
 obtain⟨j,k,B⟩:=a
 obtain⟨F,G,M⟩:=b
 rw[hC,ea,bK.mk.injEq]
 show di [.int .i64 j,.int .i64 k,.int .i64 B] [.int .i64 F,.int .i64 G,.int .i64 M]=true↔_
 simp[di,gz]
def R1(a b:bK):Iq a b=decide (a=b):=yL a b
def rK(m:List (bK×Bool))(n:bK)(v:Bool):List (bK×Bool):=kL 10 m n v
def nD(m:List (bK×Bool))(n:bK)(v:Bool):Bool:=my 10 m n v
theorem Ws(n:bK)(v:Bool):rK [] n v=[(n,v)]:=rfl
def Wr(p:bK×Bool)(m:List (bK×Bool))(n:bK)(v:Bool):rK (p::m) n v=if n=p.1 then(p.1,v)::m else p::rK m n v:=by
 show(if lE 10 n p.1=true then _ else _)=_
 rw[yL]
 by_cases h:n=p.1
 ·rw[if_pos h];exact if_pos (da h)
 rw[if_neg h];exact if_neg (λe=>h (hA e))
def wz(p:bK×Bool)(m:List (bK×Bool))(k:bK)(z:Bool):nD (p::m) k z=if k=p.1 then p.2 else nD m k z:=by
 show((List.find? (λq=>lE 10 k q.1) (p::m)).map (·.2)).getD z=_
 rw[List.find?_cons]
 by_cases h:k=p.1
 ·rw[if_pos h]
  have:lE 10 k p.1=true:=(yL _ _).trans (da h)
  simp only[this];rfl
 rw[if_neg h]
 have:lE 10 k p.1=false:=(yL _ _).trans (dd h)
 simp only[this];rfl
def DU{n:Int}(h: -9223372036854775808<=n/\n<=9223372036854775807):ai n=true:=da h
def Ku{α:Type}{p q:Prop}[Decidable p][Decidable q]{x y:α}(h:p↔q):(if p then x else y)=if q then x else y:=by
 by_cases j:p
 ·rw[if_pos j,if_pos (h.1 j)]
 rw[if_neg j,if_neg (λk=>j (h.2 k))]
def Lg(n:bK)(v:Bool)(k:bK)(z:Bool):∀(m:List (bK×Bool)),nD (rK m n v) k z=if k=n then v else nD m k z
 | []=>by rw[Ws,wz]
 |p::m=>by
  have B:=Lg n v k z m
  rw[Wr]
  by_cases h:n=p.1
  ·rw[if_pos h,wz,wz,h]
   by_cases j:k=p.1
   ·simp[j]
   simp[j]
  rw[if_neg h,wz,wz,B]
  by_cases j:k=p.1
  ·rw[if_pos j,if_pos j,if_neg (λe=>h (e.symm.trans j))]
  rw[if_neg j,if_neg j]
def lz(f:Form):Bool:=decide (f.bj.length<=100)&&decide ((∀c∈f.bj,iy f.bars c)/\f.bj.Nodup)
def JY{ok:bK->Prop}[∀c,Decidable (ok c)]:∀(l:List bK)(m:List (bK×Bool)),ed (λ(m:List (bK×Bool)) x=>if(!decide (ok x)||nD m x false)=true then(.inr (.inr false):_⊕(Unit⊕Bool))else .inl (rK m x true)) (λ_=>.inl ()) l m =
  if(∀c∈l,ok c/\nD m c false=false)/\l.Nodup then .inl ()else .inr false
 | [],m=>by simp[ed]
 |c::l,m=>by
  simp only[ed]
  by_cases j:ok c
  ·cases B:nD m c false with
   |true=>simp[j,B]
   |false=>
    simp only[j,B,K2,p6,zc,hQ,h8]
    refine(JY l _).trans ?_
    refine Ku ?_
    simp only[fb,h9,Lg]
    constructor
    ·rintro⟨k,F⟩
     refine⟨λx hx=>?_,λM=>?_,F⟩
     ·rcases hx with rfl|hx
      ·exact⟨j,B⟩
      have:=k x hx
      by_cases e:x=c
      ·rw[if_pos e]at this;exact absurd this.2 (by simp)
      rw[if_neg e]at this;exact this
     have:=k c M
     rw[if_pos rfl]at this;exact absurd this.2 (by simp)
    rintro⟨k,F,G⟩
    refine⟨λx hx=>?_,G⟩
    have e:x≠c:=λe=>F (e▸hx)
    rw[if_neg e];exact k x (.inr hx)
  simp[j]
theorem WO{o:dp}(U:o.form.bj.length<=1048576):AI o=some (lz o.form):=by
 unfold AI lz
 rw[dU (σ:=List (bK×Bool)) (st:=λz k=>(k,z)) (l:=o.form.bj) (λm x=>if(!decide (iy o.form.bars x)||nD m x false)=true then .inr (.inr false)else .inl (rK m x true)) (λ_=>.inl ()) (λ_ _=>True) (λj x z M _=>by
  have O:=bG M
  dsimp only
  rw[an (by simpa using O),bh (aW M),W0]
  show aa (aa (some (decide (iy o.form.bars x))) λB=>ab (!B) (some true) (some (nD z x false))) (λ(B:Bool)=>ab B (some (.inr (.inr false):(Int×List (bK×Bool))⊕(Unit⊕Bool))) (ae (ai ((j:Int)+1)) <|some (.inl (((j:Int)+1),(rK z x true)))))=_
  have N:∀(a m:Bool)(q:Unit⊕Bool)(w:List (bK×Bool))(i:Int)(hi:ai i=true),aa (aa (some a) λB=>ab (!B) (some true) (some m)) (λ(B:Bool)=>ab B (some (.inr q:(Int×List (bK×Bool))⊕(Unit⊕Bool))) (ae (ai i) <|some (.inl (i,w))))=some (if(!a||m)=true then .inr q else .inl (i,w)):=by
   intro a m q w i hi
   cases a<;>cases m<;>first|rfl|exact cr hi
  refine(N _ _ _ _ ((j:Int)+1) (DU (by omega))).trans ?_
  cases (!decide (iy o.form.bars x)||nD z x false)<;>rfl) (λ_ _ _ _ _ _ _=>trivial) (λz _=>by dsimp only;rw[aj (by simp)]) [] trivial,JY]
 by_cases h:(∀c∈o.form.bj,iy o.form.bars c)/\o.form.bj.Nodup
 ·rw[if_pos ⟨λc F=>⟨h.1 c F,rfl⟩,h.2⟩,fk,da h,qn,Ef]
 rw[if_neg (λG=>h ⟨λc F=>(G.1 c F).1,G.2⟩),fQ,dd h,Kn]
def X9{l:List bK}(F:l.length<=1048576)(c:bK):w6 (l,c)=some (ix l λx=>decide (x=c)):=by
 unfold w6
 dsimp only
 rw[nw (l:=l) (λx=>decide (x=c)) (λk x j=>by
  have B:=bG j
  rw[an (by simpa using B),bh (aW j),R1]
  cases decide (x=c)
  ·rw[gV,aE (by omega)];rfl
  rfl) (by rw[aj (by simp)])]
 exact rn l _
end Go.Proofs.YthhlipkkjippfaaGreatDoor
namespace Go.Proofs.YthhlipkkjippfaaGreatDoor
open Go Go.ag Go.Sy
attribute [local instance] ch cF
def fj{σ β ρ:Type}(f:σ->β->σ⊕ρ):List β->σ->σ⊕ρ
 | [],z=>.inl z
 |x::l,z=>match f z x with
  |.inl y=>fj f l y
  |.inr w=>.inr w
def JT{σ β ρ:Type}(f:σ->β->σ⊕ρ):∀(a b:List β)(z:σ),fj f (a++b) z=Sum.elim (fj f b) .inr (fj f a z)
 | [],b,z=>rfl
 |x::a,b,z=>by
  simp only[List.cons_append,fj]
  cases f z x with
  |inl y=>exact JT f a b y
  |inr w=>rfl
def lH{σ β ρ:Type}(g:σ->β->σ):∀(l:List β)(z:σ),fj (λz x=>(.inl (g z x):σ⊕ρ)) l z=.inl (l.foldl g z)
 | [],z=>rfl
 |x::l,z=>lH g l (g z x)
def yT{σ β ρ:Type}{f:σ->β->σ⊕ρ}{I:Nat->σ->Prop}(F:∀k z x y,I k z->f z x=.inl y->I (k+1) y):∀(l:List β)(k:Nat)(z y:σ),I k z->fj f l z=.inl y->I (k+l.length) y
 | [],k,z,y,B,h=>by cases h;exact B
 |x::l,k,z,y,B,h=>by
  simp only[fj]at h
  cases j:f z x with
  |inl w=>
   rw[j]at h
   have G:=yT F l (k+1) w y (F k z x w B j) h
   rw[List.length_cons,show k+(l.length+1)=k+1+l.length by omega];exact G
  |inr w=>rw[j]at h;exact nomatch h
def jl{β:Type}(e:Int)(seg:Int->List β)(nx:Int->Int):Nat->Int->List β
 |0,_=>[]
 |n+1,b=>if b<e then seg b++jl e seg nx n (nx b)else []
theorem lM{σ ρ O ω β:Type}{step:O->Option (O⊕ω)}(st:σ->Int->O)(e:Int)(seg:Int->List β)(nx:Int->Int)(f:σ->β->σ⊕ρ)(fin:σ->ω)(Y:ρ->ω)(I:Nat->σ->Prop)(U:Nat)(ae:∀k z x y,I k z->f z x=.inl y->I (k+1) y)(P:Int->Prop)(af:∀b,P b->b<e->b<nx b/\P (nx b))(ag:∀k z b,P b->b<e->I k z->k+(seg b).length<=U->step (st z b)=some (Sum.elim (λy=>.inl (st y (nx b))) (λw=>.inr (Y w)) (fj f (seg b) z)))(Z:∀z b,P b->¬b<e->step (st z b)=some (.inr (fin z))) :
  ∀(n k:Nat)(N:σ)(b:Int),P b->e<=b+n->I k N->k+(jl e seg nx n b).length<=U->aB step (st N b)=some (Sum.elim fin Y (fj f (jl e seg nx n b) N)):=by
 intro n
 induction n with
 |zero=>
  intro k z b j ad M F
  exact iE (Z z b j (by omega))
 |succ n ah=>
  intro k z b j ad M F
  unfold jl at F⊢
  by_cases h:b<e
  ·rw[if_pos h]at F⊢
   rw[e3]at F
   have B:=ag k z b j h M (by omega)
   rw[JT]
   cases G:fj f (seg b) z with
   |inl y=>
    rw[G]at B
    have aa:=yT ae _ _ _ _ M G
    have ab:=af b j h
    rw[mr B]
    exact ah _ y (nx b) ab.2 (by omega) aa (by omega)
   |inr w=>
    rw[G]at B
    exact iE B
  rw[if_neg h]
  exact iE (Z z b j h)
theorem D5{β:Type}{e:Int}{seg:Int->List β}{nx:Int->Int}(K E:Int)(j:0<=K){P:Int->Prop}(N:∀b,P b->b<e->P (nx b)/\nx b<=E/\((seg b).length:Int)<=K*(nx b-b)) :
  ∀(n:Nat)(b:Int),P b->b<=E->((jl e seg nx n b).length:Int)<=K*(E-b):=by
 intro n
 induction n with
 |zero=>
  intro b _ M
  have:=Int.mul_nonneg j (show(0:Int)<=E-b by omega)
  simpa [jl]using this
 |succ n O=>
  intro b G M
  unfold jl
  by_cases h:b<e
  ·rw[if_pos h]
   obtain⟨k,B,U⟩:=N b G h
   have Y:=O (nx b) k B
   rw[e3]
   have F:K*(E-b)=K*(nx b-b)+K*(E-nx b):=by rw[<-Int.mul_add];congr 1;omega
   rw[F]
   push_cast
   omega
  rw[if_neg h]
  have:=Int.mul_nonneg j (show(0:Int)<=E-b by omega)
  simpa using this
theorem D4{β:Type}{e:Int}{seg:Int->List β}{nx:Int->Int}{P:Int->Prop}{Q:β->Prop}(F:∀b,P b->b<e->P (nx b)/\∀x∈seg b,Q x) :
  ∀(n:Nat)(b:Int),P b->∀x∈jl e seg nx n b,Q x:=by
 intro n
 induction n with
 |zero=>intro b _ x hx;exact absurd hx (by simp[jl])
 |succ n G=>
  intro b B x hx
  unfold jl at hx
  by_cases h:b<e
  ·rw[if_pos h,hP]at hx
   obtain⟨j,k⟩:=F b B h
   rcases hx with hx|hx
   ·exact k x hx
   exact G _ j x hx
  rw[if_neg h]at hx;exact absurd hx (by simp)
def uW(l:List bL)(b:Int):Int:=ix l λr=>decide (r.from_=b)
def jy(l:List Ending)(b p:Int):Bool:=l.any λx=>decide (x.from_<=b)&&(decide (b<x.aQ) && !decide (x.pass=p))
def gq(l:List Ending)(a b p:Int):List Int:=jl b (λi=>if jy l i p then []else [i]) (λi=>i+1) (b-a).toNat a
def jE(l:List Ending)(r:bL)(p:Int):List Int:=jl (r.times+1) (λq=>gq l r.from_ r.aQ q) (λq=>q+1) (r.times+1-p).toNat p
def kZ(f:Form)(q:bL->Int)(b:Int):List Int:=match f.aY.find? λr=>decide (r.from_=b)with
 |none=>[b]
 |some r=>jE f.bE r (q r)
def iH(f:Form)(b:Int):Int:=match f.aY.find? λr=>decide (r.from_=b)with
 |none=>b+1
 |some r=>r.aQ
def dL(f:Form)(q:bL->Int)(a e:Int):List Int:=jl e (kZ f q) (iH f) (e-a).toNat a
def fx(f:Form):List Int:=if f.jump.at_=0 then dL f (λ_=>1) 0 f.bars else dL f (λ_=>1) 0 f.jump.at_++dL f bL.times f.jump.to f.jump.dj
def Xq(l:List Ending)(a b p:Int)(h:a<=b):((gq l a b p).length:Int)<=b-a:=by
 have:=D5 (e:=b) (seg:=λi=>if jy l i p then []else [i]) (nx:=λi=>i+1) 1 b (by omega) (P:=λ_=>True) (λi _ hi=>⟨trivial,by omega,by
  by_cases h:jy l i p=true
  ·rw[if_pos h];simp;omega
  rw[if_neg h];simp;omega⟩) (b-a).toNat a trivial h
 unfold gq
 omega
def Yz(l:List Ending)(r:bL)(p:Int)(h:r.from_<=r.aQ)(j:1<=p)(k:p<=r.times)(B:r.times<=9):((jE l r p).length:Int)<=9*(r.aQ-r.from_):=by
 have:=D5 (e:=r.times+1) (seg:=λq=>gq l r.from_ r.aQ q) (nx:=λq=>q+1) (r.aQ-r.from_) (r.times+1) (by omega) (P:=λ_=>True) (λi _ hi=>⟨trivial,by omega,by
  have:=Xq l r.from_ r.aQ i h
  have e:(r.aQ-r.from_)*(i+1-i)=r.aQ-r.from_:=by rw[show i+1-i=1 by omega,Int.mul_one]
  rw[e];exact this⟩) (r.times+1-p).toNat p trivial (by omega)
 have F:(r.aQ-r.from_)*(r.times+1-p)<=(r.aQ-r.from_)*9:=Int.mul_le_mul_of_nonneg_left (by omega) (by omega)
 unfold jE
 omega
def oz(bars:Int)(r:bL):Prop:=r.from_<r.aQ/\r.aQ<=bars/\1<=r.times/\r.times<=9/\0<=r.from_
def M9(bars:Int):∀(l:List bL)(z:Int),0<=z->kX (od bars) bL.aQ z l=true->∀r∈l,oz bars r
 | [],_,_,_,r,hr=>absurd hr (by simp)
 |x::l,z,N,h,r,hr=>by
  simp only[kX,db,gL,od,k4,hL]at h
  obtain⟨⟨⟨⟨⟨k,B⟩,F⟩,G⟩,M⟩,j⟩:=h
  rcases fb.1 hr with rfl|hr
  ·exact⟨by omega,by omega,by omega,by omega,by omega⟩
  exact M9 bars l x.aQ (by omega) j r hr
theorem FQ{f:Form}(M:∀r∈f.aY,oz f.bars r){q:bL->Int}(j:∀r∈f.aY,1<=q r/\q r<=r.times)(a e:Int)(G:a<=f.bars)(aa:e<=f.bars):((dL f q a e).length:Int)<=9*(f.bars-a):=by
 refine D5 9 f.bars (by omega) (P:=λ_=>True) (λb _ Z=>⟨trivial,?_⟩) _ a trivial G
 unfold kZ iH
 cases h:f.aY.find? λr=>decide (r.from_=b)with
 |none=>exact⟨by dsimp only;omega,by simp;omega⟩
 |some r=>
  have N:=M r (gW h)
  have F:r.from_=b:=hA (j5 (p:=λr:bL=>decide (r.from_=b)) h)
  obtain⟨O,k,U,B,Y⟩:=N
  refine⟨k,?_⟩
  rw[<-F]
  exact Yz _ _ _ (by omega) (j r (gW h)).1 (j r (gW h)).2 B
def jw(f:Form):Prop:=(1<=f.bars/\f.bars<=4000)/\(∀r∈f.aY,oz f.bars r)/\(f.aY.length<=1048576/\f.bE.length<=1048576)/\(f.jump.at_<=f.bars/\0<=f.jump.to/\f.jump.to<=f.bars/\f.jump.dj<=f.bars)/\(f.jump.at_=0->f.jump.dj<=f.jump.to)
def B7{f:Form}(h:jw f):(fx f).length<=72000:=by
 obtain⟨⟨O,U⟩,j,_,⟨G,Z,M,N⟩,_⟩:=h
 have B:=λe(F:e<=f.bars)=>FQ j (q:=λ_=>1) (λr k=>⟨by simp,(j r k).2.2.1⟩) 0 e (by omega) F
 have Y:=FQ j (q:=bL.times) (λr k=>⟨(j r k).2.2.1,by simp⟩) f.jump.to f.jump.dj M N
 unfold fx
 by_cases e:f.jump.at_=0
 ·rw[if_pos e]
  have:=B f.bars (by simp)
  omega
 rw[if_neg e,e3]
 have:=B f.jump.at_ G
 omega
def Xp(l:List Ending)(a b p:Int):∀x∈gq l a b p,a<=x/\x<b:=by
 refine D4 (P:=λi=>a<=i) (λi hi k=>⟨by omega,λx j=>?_⟩) _ a (by simp)
 by_cases h:jy l i p=true
 ·rw[if_pos h]at j;exact absurd j (by simp)
 rw[if_neg h,mv]at j;omega
def Gb(l:List Ending)(r:bL)(p:Int):∀x∈jE l r p,r.from_<=x/\x<r.aQ:=D4 (P:=λ_=>True) (λi _ _=>⟨trivial,Xp l _ _ i⟩) _ p trivial
def FP{f:Form}(B:∀r∈f.aY,oz f.bars r)(q:bL->Int)(a e:Int)(k:0<=a)(Z:e<=f.bars):∀x∈dL f q a e,0<=x/\x<f.bars:=by
 refine D4 (P:=λb=>0<=b) (λb U Y=>?_) _ a k
 unfold kZ iH
 cases h:f.aY.find? λr=>decide (r.from_=b)with
 |none=>exact⟨by dsimp only;omega,λx j=>by rw[mv]at j;omega⟩
 |some r=>
  obtain⟨F,G,M,N,O⟩:=B r (gW h)
  exact⟨by dsimp only;omega,λx j=>by have:=Gb _ _ _ x j;omega⟩
def OQ{f:Form}(h:jw f):∀x∈fx f,0<=x/\x<f.bars:=by
 obtain⟨⟨G,M⟩,j,_,⟨k,B,N,F⟩,_⟩:=h
 intro x hx
 unfold fx at hx
 by_cases e:f.jump.at_=0
 ·rw[if_pos e]at hx
  exact FP j _ _ _ (by simp) (by simp) x hx
 rw[if_neg e,hP]at hx
 rcases hx with hx|hx
 ·exact FP j _ _ _ (by simp) k x hx
 exact FP j _ _ _ B F x hx
def l5(f:Form):Int:=if f.jump.at_=0 then f.bars else f.jump.at_
def Hi{f:Form}(h:jw f):fx f=dL f (λ_=>1) 0 (l5 f)++dL f bL.times f.jump.to f.jump.dj:=by
 unfold fx l5
 by_cases e:f.jump.at_=0
 ·have k:=h.2.2.2.2 e
  have j:dL f bL.times f.jump.to f.jump.dj=[]:=by
   unfold dL
   rw[show(f.jump.dj-f.jump.to).toNat=0 by omega];rfl
  rw[if_pos e,if_pos e,j,mb]
 rw[if_neg e,if_neg e]
end Go.Proofs.YthhlipkkjippfaaGreatDoor
namespace Go.Proofs.YthhlipkkjippfaaGreatDoor
open Go Go.ag Go.Sy
attribute [local instance] ch cF
def zh{α:Type}{l:List α}{p:α->Bool}(h:l.find? p=none):ix l p = -1:=by
 have:l.findIdx? p=none:=by
  rw[List.findIdx?_eq_none_iff]
  intro x j
  simpa using p5.1 h x j
 unfold ix;rw[this]
def wg{α:Type}{p:α->Bool}:∀{l:List α}{x:α},l.find? p=some x->∃k:Nat,ix l p=k/\l[k]?=some x/\p x=true
 | [],x,h=>by exact nomatch h
 |a::l,x,h=>by
  rw[List.find?_cons]at h
  cases B:p a with
  |true=>
   rw[B]at h
   cases h
   refine⟨0,?_,rfl,B⟩
   unfold ix
   rw[p4,B];rfl
  |false=>
   rw[B]at h
   obtain⟨k,j,G,M⟩:=wg h
   refine⟨k+1,?_,G,M⟩
   unfold ix at j⊢
   rw[p4,B]
   cases F:l.findIdx? p with
   |none=>rw[F]at j;simp at j
   |some i=>rw[F]at j;simp at j⊢;omega
def BK{l:List bL}(M:l.length<=1048576)(b:Int):aZ (aB (λj:Int=>ab (ah j (l.length:Int)) (aa (au l j) λG=>ab (aF G.from_ b) (some (.inr (.inr j))) (ae (ai (j+1)) <|some (.inl (j+1)))) (some (.inr (.inl ())))) 0) (λ(j:Unit)=>some (-1))=some (uW l b):=by
 rw[nw (l:=l) (λr=>decide (r.from_=b)) (λk x B=>by
  have F:=bG B
  rw[an (by simpa using F),bh (aW B)]
  show ab (decide (x.from_=b)) _ _=_
  cases decide (x.from_=b)
  ·rw[gV,aE (by omega)];rfl
  rfl) (by rw[aj (by simp)])]
 exact rn l _
def Ye{f:Form}(j:f.aY.length<=1048576)(b:Int):uw (f,b)=some (uW f.aY b):=BK j b
def HF(a b c:Bool):ab a (ab b (some c) (some false)) (some false)=some (a&&(b&&c)):=by cases a<;>cases b<;>rfl
def Yc{f:Form}(F:f.bE.length<=1048576)(b p:Int):oT (f,(b,p))=some (!jy f.bE b p):=by
 unfold oT
 dsimp only
 rw[nv (l:=f.bE) (λx=>decide (x.from_<=b)&&(decide (b<x.aQ) && !decide (x.pass=p))) false (λk x j=>by
  have B:=bG j
  rw[an (by simpa using B),bh (aW j),HF,af]
  show ab (decide (x.from_<=b)&&(decide (b<x.aQ) && !decide (x.pass=p))) _ _=_
  cases (decide (x.from_<=b)&&(decide (b<x.aQ) && !decide (x.pass=p)))
  ·rw[gV,aE (by omega)];rfl
  rfl) (by rw[aj (by simp)])]
 unfold jy
 cases (f.bE.any λx=>decide (x.from_<=b)&&(decide (b<x.aQ) && !decide (x.pass=p)))<;>rfl
def EY{o:dp}(F:o.form.bE.length<=1048576)(b p:Int):iW (o,(b,p))=some (jy o.form.bE b p):=by
 unfold iW Fx FD
 dsimp only
 rw[ma (l:=o.form.bE) (λx=>decide (x.from_<=b)&&(decide (b<x.aQ) && !decide (x.pass=p))) (λk x j=>by
  have B:=bG j
  unfold Fs
  dsimp only
  rw[an (by simpa using B),bh (aW j),HF,af,af]
  show ab (decide (x.from_<=b)&&(decide (b<x.aQ) && !decide (x.pass=p))) _ _=_
  cases (decide (x.from_<=b)&&(decide (b<x.aQ) && !decide (x.pass=p)))
  ·rw[gV,aE (by omega)];rfl
  rfl) (by rw[aj (by simp)])]
 rfl
def Kl{β:Type}{o:Option β}{z:List Int}{x:Int}(h:z.length<=100000):ae (decide ((List.append z (x::([]:List Int))).length*8<=140737488355328/\(List.append z (x::([]:List Int))).length<=9223372036854775807)) o=o:=by
 have e:(List.append z (x::([]:List Int))).length=z.length+1:=e3
 exact cr (da (by rw[e];omega))
def tA{ρ:Type}:∀(l z:List Int),fj (λz x=>(.inl (z++[x]):List Int⊕ρ)) l z=.inl (z++l)
 | [],z=>by rw[mb];rfl
 |x::l,z=>by
  refine(tA l (z++[x])).trans ?_
  rw[hU];rfl
def aa4{f:Form}(Y:f.bE.length<=1048576){a u p:Int}{B:List Int}(U:0<=a)(ad:u<=1048576)(O:B.length+(gq f.bE a u p).length<=100000) :
  aB (λj:(Int×(List Int))=>ab (ah j.1 u) (aa (aa (oT (f,(j.1,p))) λF=>ab F (ae (decide ((List.append j.2 (j.1::([]:List Int))).length*8<=140737488355328/\(List.append j.2 (j.1::([]:List Int))).length<=9223372036854775807)) <|some (List.append j.2 (j.1::([]:List Int)))) (some j.2)) λ(F:(List Int))=>ae (ai (j.1+1)) <|some (.inl ((j.1+1),F))) (some (.inr j.2))) (a,B)=some (B++gq f.bE a u p):=by
 refine(lM (ρ:=Empty) (λ(z:List Int) b=>(b,z)) u (λi=>if jy f.bE i p then []else [i]) (λi=>i+1) (λz x=>.inl (z++[x])) id Empty.elim (λk z=>z.length<=k) 100000 (λk z x y G h=>by cases h;simpa using G) (λb=>0<=b) (λb M _=>⟨by omega,by omega⟩) (λk z b M Z G N=>?_) (λz b M h=>by dsimp only;rw[aj (dd h)];rfl) (u-a).toNat B.length B a U (by omega) (eb _) O).trans (by rw[tA];rfl)
 dsimp only
 rw[an (da Z),Yc Y,af]
 by_cases h:jy f.bE b p=true
 ·rw[h,if_pos rfl]
  exact aE (by omega)
 rw[nh]at h
 rw[h,if_neg (by decide)]
 rw[h,if_neg (by decide)]at N
 refine(aO (x:=z++[b]) (Kl (by simp at N;omega))).trans ?_
 exact aE (by omega)
def aa5{f:Form}(Y:f.bE.length<=1048576){r:bL}{p:Int}{F:List Int}(ad:oz f.bars r)(G:f.bars<=4000)(Z:1<=p)(U:F.length+(jE f.bE r p).length<=100000) :
  aB (λB:(Int×(List Int))=>ab (leI B.1 r.times) (aa (aB (λj:(Int×(List Int))=>ab (ah j.1 r.aQ) (aa (aa (oT (f,(j.1,B.1))) λM=>ab M (ae (decide ((List.append j.2 (j.1::([]:List Int))).length*8<=140737488355328/\(List.append j.2 (j.1::([]:List Int))).length<=9223372036854775807)) <|some (List.append j.2 (j.1::([]:List Int)))) (some j.2)) λ(M:(List Int))=>ae (ai (j.1+1)) <|some (.inl ((j.1+1),M))) (some (.inr j.2))) (r.from_,B.2)) λ(j:(List Int))=>ae (ai (B.1+1)) <|some (.inl ((B.1+1),j))) (some (.inr B.2))) (p,F)=some (F++jE f.bE r p):=by
 obtain⟨af,ag,ak,al,O⟩:=ad
 refine(lM (ρ:=Empty) (λ(z:List Int) b=>(b,z)) (r.times+1) (λq=>gq f.bE r.from_ r.aQ q) (λi=>i+1) (λz x=>.inl (z++[x])) id Empty.elim (λk z=>z.length<=k) 100000 (λk z x y N h=>by cases h;simpa using N) (λb=>1<=b) (λb G _=>⟨by omega,by omega⟩) (λk z b G aq N ao=>?_) (λz b G h=>by dsimp only;rw[aj (dd (by omega))];rfl) (r.times+1-p).toNat F.length F p Z (by omega) (eb _) U).trans (by rw[tA];rfl)
 dsimp only
 rw[an (da (by omega)),tA]
 refine(aO (aa4 Y O (by omega) (by omega))).trans ?_
 exact aE (by omega)
def Hj{f:Form}(h:jw f)(q:bL->Int)(aw:∀r∈f.aY,1<=q r/\q r<=r.times){a e:Int}{G:List Int}(aq:0<=a)(aI:e<=f.bars)(ao:G.length+(dL f q a e).length<=100000) :
  aB (λB:(Int×(List Int))=>ab (ah B.1 e) (aa (uw (f,B.1)) λaf=>ab (ah af 0) (ae (decide ((List.append B.2 (B.1::([]:List Int))).length*8<=140737488355328/\(List.append B.2 (B.1::([]:List Int))).length<=9223372036854775807)) <|ae (ai (B.1+1)) <|some (.inl ((B.1+1),(List.append B.2 (B.1::([]:List Int)))))) (aa (au f.aY af) λN=>aa (aB (λF:(Int×(List Int))=>ab (leI F.1 N.times) (aa (aB (λj:(Int×(List Int))=>ab (ah j.1 N.aQ) (aa (aa (oT (f,(j.1,F.1))) λU=>ab U (ae (decide ((List.append j.2 (j.1::([]:List Int))).length*8<=140737488355328/\(List.append j.2 (j.1::([]:List Int))).length<=9223372036854775807)) <|some (List.append j.2 (j.1::([]:List Int)))) (some j.2)) λ(U:(List Int))=>ae (ai (j.1+1)) <|some (.inl ((j.1+1),U))) (some (.inr j.2))) (N.from_,F.2)) λ(j:(List Int))=>ae (ai (F.1+1)) <|some (.inl ((F.1+1),j))) (some (.inr F.2))) (q N,B.2)) λ(F:(List Int))=>some (.inl (N.aQ,F)))) (some (.inr B.2))) (a,G)=some (G++dL f q a e):=by
 obtain⟨⟨ay,ag⟩,Z,⟨ax,ar⟩,_⟩:=h
 refine(lM (ρ:=Empty) (λ(z:List Int) b=>(b,z)) e (kZ f q) (iH f) (λz x=>.inl (z++[x])) id Empty.elim (λk z=>z.length<=k) 100000 (λk z x y O h=>by cases h;simpa using O) (λb=>0<=b) (λb Y _=>?_) (λk z b Y av O M=>?_) (λz b Y h=>by dsimp only;rw[aj (dd h)];rfl) (e-a).toNat G.length G a aq (by omega) (eb _) ao).trans (by rw[tA];rfl)
 ·unfold iH
  cases h:f.aY.find? λr=>decide (r.from_=b)with
  |none=>exact⟨by dsimp only;omega,by dsimp only;omega⟩
  |some r=>
   obtain⟨aA,aC,aD,aF,aG⟩:=Z r (gW h)
   have aH:r.from_=b:=hA (j5 (p:=λr:bL=>decide (r.from_=b)) h)
   exact⟨by dsimp only;omega,by dsimp only;omega⟩
 dsimp only
 rw[an (da av),tA]
 refine(aO (Ye ax b)).trans ?_
 unfold uW
 unfold kZ at M⊢
 unfold iH
 cases h:f.aY.find? λr=>decide (r.from_=b)with
 |none=>
  rw[h]at M
  rw[zh h]
  refine(an (by decide)).trans ?_
  refine(Kl (by simp at M;omega)).trans ?_
  exact aE (by omega)
 |some r=>
  rw[h]at M
  have ad:=gW h
  obtain⟨aJ,ak,al,az⟩:=wg h
  rw[ak]
  refine(aj (dd (by omega))).trans ?_
  refine(aO (aW al)).trans ?_
  exact aO (aa5 ar (Z r ad) ag (aw r ad).1 (hJ (Nat.add_le_add_right O _) M))
def Mx{f:Form}(h:jw f):w7 f=some (fx f):=by
 obtain⟨⟨U,Y⟩,B,_,⟨G,M,Z,N⟩,_⟩:=id h
 have j:=B7 h
 have F:∀r∈f.aY,1<=(λ_=>1:bL->Int) r/\(λ_=>1:bL->Int) r<=r.times:=λr k=>⟨by simp,(B r k).2.2.1⟩
 have O:∀r∈f.aY,1<=r.times/\r.times<=r.times:=λr k=>⟨(B r k).2.2.1,by simp⟩
 unfold fx at j⊢
 unfold w7
 by_cases e:f.jump.at_=0
 ·rw[if_pos e]at j⊢
  refine(an (da e)).trans ?_
  exact aO (Hj h (λ_=>1) F (by simp) (by simp) (by simp;omega))
 rw[if_neg e]at j⊢
 rw[e3]at j
 refine(aj (dd e)).trans ?_
 refine(aO (Hj h (λ_=>1) F (by simp) G (by simp;omega))).trans ?_
 refine(aO (Hj h bL.times O M N (by simp;omega))).trans ?_
 have e:(List.append ([]++dL f (λ_=>1) 0 f.jump.at_) ([]++dL f bL.times f.jump.to f.jump.dj)).length=(dL f (λ_=>1) 0 f.jump.at_).length+(dL f bL.times f.jump.to f.jump.dj).length:=e3
 exact cr (da (by rw[e];omega))
end Go.Proofs.YthhlipkkjippfaaGreatDoor
namespace Go.Proofs.YthhlipkkjippfaaGreatDoor
open Go Go.ag Go.Sy
attribute [local instance] ch cF
abbrev MI:=List (Int×Int)
def gS(z:Int×MI)(x:Int):(Int×MI)⊕Unit:=if 20000<z.1+1 then .inr ()else .inl (z.1+1,aM z.2 x (aq z.2 x 0+1))
def IS(k:Nat)(z:Int×MI):Prop:=z.1=k/\∀x,0<=aq z.2 x 0/\aq z.2 x 0<=k
def x4(k:Nat)(z:Int×MI)(x:Int)(y:Int×MI)(j:IS k z)(h:gS z x=.inl y):IS (k+1) y:=by
 unfold gS at h
 by_cases e:20000<z.1+1
 ·rw[if_pos e]at h;exact nomatch h
 rw[if_neg e]at h
 cases h
 refine⟨by have:=j.1;dsimp only;omega,λw=>?_⟩
 dsimp only
 rw[mw]
 have B:=j.2 x
 have F:=j.2 w
 by_cases e:w=x
 ·rw[if_pos e];omega
 rw[if_neg e];omega
def Y4{ω:Type}{o:dp}(ak:o.form.bE.length<=1048576){a u p:Int}{z:Int×MI}{k:Nat}(ag:0<=a)(ar:u<=1048576)(F:IS k z)(ad:k+(gq o.form.bE a u p).length<=100000)(M:ω) :
  (aB (λj:(Int×(Int×(List (Int×Int))))=>ab (ah j.1 u) (aZ (aa (iW (o,(j.1,p))) λO=>ab (!O) (ae (ai ((aq j.2.2 j.1 0)+1)) <|ae (ai (j.2.1+1)) <|ab (ah 20000 (j.2.1+1)) (some (.inr (.inr (.inr M)))) (some (.inl ((j.2.1+1),(aM j.2.2 j.1 ((aq j.2.2 j.1 0)+1)))))) (some (.inl (j.2.1,j.2.2)))) λ(O:(Int×(List (Int×Int))))=>ae (ai (j.1+1)) <|some (.inl ((j.1+1),(O.1,O.2)))) (some (.inr (.inl (j.2.1,j.2.2))))) (a,(z.1,z.2)):Option ((Int×MI)⊕ω))=some (Sum.elim Sum.inl (λ_=>Sum.inr M) (fj gS (gq o.form.bE a u p) z)):=by
 refine lM (λ(z:Int×MI) b=>(b,(z.1,z.2))) u (λi=>if jy o.form.bE i p then []else [i]) (λi=>i+1) gS Sum.inl (λ_=>.inr M) IS 100000 x4 (λb=>0<=b) (λb Y _=>⟨by omega,by omega⟩) (λk z b Y al F N=>?_) (λz b Y h=>by dsimp only;rw[aj (dd h)]) (u-a).toNat k z a ag (by omega) F ad
 dsimp only
 rw[an (da al),EY ak,af]
 by_cases h:jy o.form.bE b p=true
 ·rw[h,if_pos rfl]
  exact aE (by omega)
 rw[nh]at h
 rw[h,if_neg (by decide)]
 rw[h,if_neg (by decide)]at N
 have N:k+1<=100000:=N
 obtain⟨B,U⟩:=z
 have ao:B=k:=F.1
 have Z:=F.2 b
 dsimp only at Z
 simp only[fj]
 have e:gS (B,U) b=if 20000<B+1 then .inr ()else .inl (B+1,aM U b (aq U b 0+1)):=rfl
 rw[e]
 refine(dn (λq=>aZ q _) (an rfl)).trans ?_
 rw[aE (by omega),aE (by omega)]
 by_cases G:20000<B+1
 ·rw[if_pos G]
  exact dn (λq=>aZ q _) (an (da G))
 rw[if_neg G]
 refine(dn (λq=>aZ q _) (aj (dd G))).trans ?_
 exact aE (n:=b+1) (by omega)
def Y5{ω:Type}{o:dp}(Z:o.form.bE.length<=1048576){r:bL}{p:Int}{z:Int×MI}{k:Nat}(af:oz o.form.bars r)(M:o.form.bars<=4000)(ad:1<=p)(G:IS k z)(U:k+(jE o.form.bE r p).length<=100000)(F:ω) :
  (aB (λB:(Int×(Int×(List (Int×Int))))=>ab (leI B.1 r.times) (aZ (aB (λj:(Int×(Int×(List (Int×Int))))=>ab (ah j.1 r.aQ) (aZ (aa (iW (o,(j.1,B.1))) λN=>ab (!N) (ae (ai ((aq j.2.2 j.1 0)+1)) <|ae (ai (j.2.1+1)) <|ab (ah 20000 (j.2.1+1)) (some (.inr (.inr (.inr (.inr (.inr F)))))) (some (.inl ((j.2.1+1),(aM j.2.2 j.1 ((aq j.2.2 j.1 0)+1)))))) (some (.inl (j.2.1,j.2.2)))) λ(N:(Int×(List (Int×Int))))=>ae (ai (j.1+1)) <|some (.inl ((j.1+1),(N.1,N.2)))) (some (.inr (.inl (j.2.1,j.2.2))))) (r.from_,(B.2.1,B.2.2))) λ(j:(Int×(List (Int×Int))))=>ae (ai (B.1+1)) <|some (.inl ((B.1+1),(j.1,j.2)))) (some (.inr (.inl (B.2.1,B.2.2))))) (p,(z.1,z.2)):Option ((Int×MI)⊕ω))=some (Sum.elim Sum.inl (λ_=>Sum.inr F) (fj gS (jE o.form.bE r p) z)):=by
 obtain⟨ag,ak,al,ao,O⟩:=af
 refine lM (λ(z:Int×MI) b=>(b,(z.1,z.2))) (r.times+1) (λq=>gq o.form.bE r.from_ r.aQ q) (λi=>i+1) gS Sum.inl (λ_=>.inr F) IS 100000 x4 (λb=>1<=b) (λb M _=>⟨by omega,by omega⟩) (λk z b M ar G Y=>?_) (λz b M h=>by dsimp only;rw[aj (dd (by omega))]) (r.times+1-p).toNat k z p ad (by omega) G U
 dsimp only
 rw[an (da (by omega))]
 refine(gC (Y4 Z O (by omega) G Y _)).trans ?_
 cases fj gS (gq o.form.bE r.from_ r.aQ b) z with
 |inl y=>exact aE (by omega)
 |inr w=>rfl
def Ny{ω:Type}{o:dp}(h:jw o.form)(q:bL->Int)(aN:∀r∈o.form.aY,1<=q r/\q r<=r.times){a e:Int}{z:Int×MI}{k:Nat}(aI:0<=a)(aV:e<=o.form.bars)(Y:IS k z)(aH:k+(dL o.form q a e).length<=100000)(U:ω)(F:(Int×MI)->ω) :
  (aB (λB:(Int×((List (Int×Int))×Int))=>ab (ah B.2.2 e) (aZ (aa (aZ (aB (λG:Int=>ab (ah G (o.form.aY.length:Int)) (aa (au o.form.aY G) λN=>ab (aF N.from_ B.2.2) (some (.inr (.inr G))) (ae (ai (G+1)) <|some (.inl (G+1)))) (some (.inr (.inl ())))) 0) λ(G:Unit)=>some (-1)) λ(G:Int)=>ab (ah G 0) (ae (ai ((aq B.2.1 B.2.2 0)+1)) <|ae (ai (B.1+1)) <|ab (ah 20000 (B.1+1)) (some (.inr (.inr U))) (some (.inl ((B.1+1),((aM B.2.1 B.2.2 ((aq B.2.1 B.2.2 0)+1)),B.2.2))))) (aa (au o.form.aY G) λN=>aa (some (q N)) λ(aR:Int)=>aZ (aB (λM:(Int×(Int×(List (Int×Int))))=>ab (leI M.1 N.times) (aZ (aB (λj:(Int×(Int×(List (Int×Int))))=>ab (ah j.1 N.aQ) (aZ (aa (iW (o,(j.1,M.1))) λal=>ab (!al) (ae (ai ((aq j.2.2 j.1 0)+1)) <|ae (ai (j.2.1+1)) <|ab (ah 20000 (j.2.1+1)) (some (.inr (.inr (.inr (.inr (.inr (.inr (.inr U)))))))) (some (.inl ((j.2.1+1),(aM j.2.2 j.1 ((aq j.2.2 j.1 0)+1)))))) (some (.inl (j.2.1,j.2.2)))) λ(al:(Int×(List (Int×Int))))=>ae (ai (j.1+1)) <|some (.inl ((j.1+1),(al.1,al.2)))) (some (.inr (.inl (j.2.1,j.2.2))))) (N.from_,(M.2.1,M.2.2))) λ(j:(Int×(List (Int×Int))))=>ae (ai (M.1+1)) <|some (.inl ((M.1+1),(j.1,j.2)))) (some (.inr (.inl (M.2.1,M.2.2))))) (aR,(B.1,B.2.1))) λ(M:(Int×(List (Int×Int))))=>ae (ai (N.aQ-1)) <|some (.inl (M.1,(M.2,(N.aQ-1)))))) λ(G:(Int×((List (Int×Int))×Int)))=>ae (ai (G.2.2+1)) <|some (.inl (G.1,(G.2.1,(G.2.2+1))))) (some (.inr (F (B.1,B.2.1))))) (z.1,(z.2,a)):Option ω)=some (Sum.elim F (λ_=>U) (fj gS (dL o.form q a e) z)):=by
 obtain⟨⟨aS,aw⟩,ag,⟨aP,aJ⟩,_⟩:=h
 refine lM (λ(z:Int×MI) b=>(z.1,(z.2,b))) e (kZ o.form q) (iH o.form) gS F (λ_=>U) IS 100000 x4 (λb=>0<=b) (λb av _=>?_) (λk z b av aK Y O=>?_) (λz b av h=>by dsimp only;rw[aj (dd h)]) (e-a).toNat k z a aI (by omega) Y aH
 ·unfold iH
  cases h:o.form.aY.find? λr=>decide (r.from_=b)with
  |none=>exact⟨by dsimp only;omega,by dsimp only;omega⟩
  |some r=>
   obtain⟨az,aA,aC,aD,aG⟩:=ag r (gW h)
   have ar:r.from_=b:=hA (j5 (p:=λr:bL=>decide (r.from_=b)) h)
   exact⟨by dsimp only;omega,by dsimp only;omega⟩
 dsimp only
 rw[an (da aK),BK aP b,af]
 unfold uW
 unfold kZ at O⊢
 unfold iH
 cases h:o.form.aY.find? λr=>decide (r.from_=b)with
 |none=>
  rw[h]at O
  rw[zh h]
  have O:k+1<=100000:=O
  obtain⟨Z,ao⟩:=z
  have aU:Z=k:=Y.1
  have ar:=Y.2 b
  dsimp only at ar
  simp only[fj]
  have e:gS (Z,ao) b=if 20000<Z+1 then .inr ()else .inl (Z+1,aM ao b (aq ao b 0+1)):=rfl
  rw[e]
  refine(dn (λq=>aZ q _) (an (by decide))).trans ?_
  rw[aE (by omega),aE (by omega)]
  by_cases ad:20000<Z+1
  ·rw[if_pos ad]
   exact dn (λq=>aZ q _) (an (da ad))
  rw[if_neg ad]
  refine(dn (λq=>aZ q _) (aj (dd ad))).trans ?_
  exact aE (n:=b+1) (by omega)
 |some r=>
  rw[h]at O
  have ak:=gW h
  obtain⟨aX,ax,ay,aT⟩:=wg h
  rw[ax]
  refine(dn (λq=>aZ q _) ((aj (dd (by omega))).trans ((aO (aW ay)).trans (af _ _)))).trans ?_
  have aL:=Y5 aJ (ag r ak) aw (aN r ak).1 Y O (ω:=(Int×MI×Int)⊕((Int×MI×Int)⊕ω)) (.inr (.inr U))
  refine(dn (λq=>aZ q _) (gC aL)).trans ?_
  obtain⟨az,aA,aC,aD,aG⟩:=ag r ak
  cases fj gS (jE o.form.bE r (q r)) z with
  |inl y=>
   refine(dn (λq=>aZ q _) (aE (by omega))).trans ?_
   refine(aE (n:=r.aQ-1+1) (by omega)).trans ?_
   rw[Qe];rfl
  |inr w=>rfl
def DH:∀(l:List Int)(z:Int×MI),z.1<=20000->(match fj gS l z with |.inl y=>y.1=z.1+l.length/\y.1<=20000 |.inr _=>20000<z.1+l.length)
 | [],z,h=>⟨by simp,h⟩
 |x::l,z,h=>by
  have e:gS z x=if 20000<z.1+1 then .inr ()else .inl (z.1+1,aM z.2 x (aq z.2 x 0+1)):=rfl
  simp only[fj,e]
  by_cases k:20000<z.1+1
  ·rw[if_pos k]
   simp only[List.length_cons];omega
  rw[if_neg k]
  have:=DH l (z.1+1,aM z.2 x (aq z.2 x 0+1)) (by dsimp only;omega)
  dsimp only at this⊢
  cases j:fj gS l (z.1+1,aM z.2 x (aq z.2 x 0+1))with
  |inl y=>rw[j]at this;simp only[List.length_cons];dsimp only at this;omega
  |inr w=>rw[j]at this;simp only[List.length_cons];dsimp only at this;omega
def OI{f:Form}(h:jw f):l5 f<=f.bars:=by
 unfold l5
 by_cases e:f.jump.at_=0
 ·rw[if_pos e];omega
 rw[if_neg e];exact h.2.2.2.1.1
def B4(f:Form):ab (aF f.jump.at_ 0) (some f.bars) (some f.jump.at_)=some (l5 f):=by
 unfold l5
 by_cases e:f.jump.at_=0
 ·rw[if_pos e];exact an (da e)
 rw[if_neg e];exact aj (dd e)
theorem W2{o:dp}(h:jw o.form):AP o=some (decide ((fx o.form).length<=20000)):=by
 obtain⟨⟨ae,af⟩,U,_,⟨ag,Z,ah,aa⟩,_⟩:=id h
 have O:=B7 h
 rw[Hi h]at O⊢
 have ab:∀r∈o.form.aY,1<=(λ_=>1:bL->Int) r/\(λ_=>1:bL->Int) r<=r.times:=λr M=>⟨by simp,(U r M).2.2.1⟩
 have ad:∀r∈o.form.aY,1<=r.times/\r.times<=r.times:=λr M=>⟨(U r M).2.2.1,by simp⟩
 have I0:IS 0 ((0,[]):Int×MI):=⟨rfl,λx=>by dsimp only;rw[oK];omega⟩
 rw[e3]at O⊢
 have k:=Ny h (λ_=>1) ab (za 0) (OI h) I0 (by omega) (ω:=(Int×MI)⊕(Unit⊕Bool)) (.inr (.inr false)) Sum.inl
 have j:=DH (dL o.form (λ_=>1) 0 (l5 o.form)) (0,[]) (by simp)
 unfold AP
 cases G:fj gS (dL o.form (λ_=>1) 0 (l5 o.form)) (0,[])with
 |inr w=>
  rw[G]at k j
  dsimp only at j
  refine(gC (x:=.inr false) ((aO (B4 o.form)).trans (gC k))).trans ?_
  exact dn some (dd (by omega)).symm
 |inl y=>
  rw[G]at k j
  dsimp only at j
  have Y:IS (dL o.form (λ_=>1) 0 (l5 o.form)).length y:=by
   have:=yT x4 _ _ _ _ I0 G
   rwa [hV]at this
  have F:=Ny h bL.times ad Z aa Y (by omega) (ω:=Unit⊕Bool) (.inr false) (λ_=>.inl ())
  have B:=DH (dL o.form bL.times o.form.jump.to o.form.jump.dj) y j.2
  cases N:fj gS (dL o.form bL.times o.form.jump.to o.form.jump.dj) y with
  |inr w=>
   rw[N]at F B
   dsimp only at B
   refine(gC (x:=.inr false) ?_).trans (?_:_=_)
   ·refine(aO (B4 o.form)).trans ?_
    refine(gC k).trans ?_
    exact F
   exact dn some (dd (by omega)).symm
  |inl w=>
   rw[N]at F B
   dsimp only at B
   refine(gC (x:=.inl ()) ?_).trans (?_:_=_)
   ·refine(aO (B4 o.form)).trans ?_
    refine(gC k).trans ?_
    exact F
   exact dn some (da (by omega)).symm
def jX(l:List bK)(v:aA):Bool:=l.any λc=>decide (c.from_<=v.av)&&(decide (v.av<c.aQ)&&(decide (c.pass=0)||decide (c.pass=v.pass)))
def Pb(a b c d:Bool):ab a (ab b (ab c (some true) (some d)) (some false)) (some false)=some (a&&(b&&(c||d))):=by cases a<;>cases b<;>cases c<;>rfl
def VQ{l:List bK}(F:l.length<=1048576)(v:aA):iZ (l,v)=some (jX l v):=by
 unfold iZ FC
 dsimp only
 rw[ma (l:=l) (λc=>decide (c.from_<=v.av)&&(decide (v.av<c.aQ)&&(decide (c.pass=0)||decide (c.pass=v.pass)))) (λk x j=>by
  have B:=bG j
  unfold Fp
  dsimp only
  rw[an (by simpa using B),bh (aW j),Pb,af,af]
  show ab (decide (x.from_<=v.av)&&(decide (v.av<x.aQ)&&(decide (x.pass=0)||decide (x.pass=v.pass)))) _ _=_
  cases (decide (x.from_<=v.av)&&(decide (v.av<x.aQ)&&(decide (x.pass=0)||decide (x.pass=v.pass))))
  ·rw[gV,aE (by omega)];rfl
  rfl) (by rw[aj (by simp)])]
 rfl
abbrev MV:=MI×List aA
def gU(l:List bK)(z:MV)(x:Int):MV:=(aM z.1 x (aq z.1 x 0+1),if jX l ⟨x,aq z.1 x 0+1⟩then z.2 else z.2++[⟨x,aq z.1 x 0+1⟩])
def IU(k:Nat)(z:MV):Prop:=z.2.length<=k/\∀x,0<=aq z.1 x 0/\aq z.1 x 0<=k
def pr(l:List bK)(k:Nat)(z:MV)(x:Int)(y:MV)(j:IU k z)(h:(Sum.inl (gU l z x):MV⊕Empty)=.inl y):IU (k+1) y:=by
 cases h
 refine⟨?_,λw=>?_⟩
 ·have:=j.1
  unfold gU
  dsimp only
  cases jX l ⟨x,aq z.1 x 0+1⟩
  ·simp;omega
  simp;omega
 unfold gU
 dsimp only
 rw[mw]
 have B:=j.2 x
 have F:=j.2 w
 by_cases e:w=x
 ·rw[if_pos e];omega
 rw[if_neg e];omega
def zk{N:Type}{l:List bK}(M:l.length<=1048576){m:MI}{j:List aA}{x:Int}{k:Nat}(B:IU k (m,j))(U:k<=100000)(c:List aA->Option N) :
  (ae (ai ((aq m x 0)+1)) <|aa (aa (iZ (l,(⟨x,(aq (aM m x ((aq m x 0)+1)) x 0)⟩:aA))) λF=>ab (!F) (ae (decide ((List.append j ((⟨x,(aq (aM m x ((aq m x 0)+1)) x 0)⟩:aA)::([]:List aA))).length*16<=140737488355328/\(List.append j ((⟨x,(aq (aM m x ((aq m x 0)+1)) x 0)⟩:aA)::([]:List aA))).length<=9223372036854775807)) <|some (List.append j ((⟨x,(aq (aM m x ((aq m x 0)+1)) x 0)⟩:aA)::([]:List aA)))) (some j)) λ(F:List aA)=>c F)=c (gU l (m,j) x).2:=by
 have G:=B.2 x
 have O:j.length<=k:=B.1
 dsimp only at G
 rw[aE (by omega),VQ M,af,mw,if_pos rfl]
 unfold gU
 dsimp only
 cases jX l ⟨x,aq m x 0+1⟩
 ·refine(aO (x:=j++[⟨x,aq m x 0+1⟩]) ?_).trans rfl
  have e:(List.append j ((⟨x,aq m x 0+1⟩:aA)::([]:List aA))).length=j.length+1:=e3
  exact cr (da (by rw[e];omega))
 rfl
def aas{o:dp}(Z:o.form.bE.length<=1048576)(Y:o.form.bj.length<=1048576){a u p:Int}{z:MV}{k:Nat}(U:0<=a)(ag:u<=1048576)(B:IU k z)(O:k+(gq o.form.bE a u p).length<=100000) :
  aB (λj:(Int×((List (Int×Int))×(List aA)))=>ab (ah j.1 u) (aa (aa (iW (o,(j.1,p))) λG=>ab (!G) (ae (ai ((aq j.2.1 j.1 0)+1)) <|aa (aa (iZ (o.form.bj,(⟨j.1,(aq (aM j.2.1 j.1 ((aq j.2.1 j.1 0)+1)) j.1 0)⟩:aA))) λN=>ab (!N) (ae (decide ((List.append j.2.2 ((⟨j.1,(aq (aM j.2.1 j.1 ((aq j.2.1 j.1 0)+1)) j.1 0)⟩:aA)::([]:List aA))).length*16<=140737488355328/\(List.append j.2.2 ((⟨j.1,(aq (aM j.2.1 j.1 ((aq j.2.1 j.1 0)+1)) j.1 0)⟩:aA)::([]:List aA))).length<=9223372036854775807)) <|some (List.append j.2.2 ((⟨j.1,(aq (aM j.2.1 j.1 ((aq j.2.1 j.1 0)+1)) j.1 0)⟩:aA)::([]:List aA)))) (some j.2.2)) λ(N:(List aA))=>some ((aM j.2.1 j.1 ((aq j.2.1 j.1 0)+1)),N)) (some (j.2.1,j.2.2))) λ(G:((List (Int×Int))×(List aA)))=>ae (ai (j.1+1)) <|some (.inl ((j.1+1),(G.1,G.2)))) (some (.inr (j.2.1,j.2.2)))) (a,(z.1,z.2))=some ((List.foldl (gU o.form.bj) z (gq o.form.bE a u p)).1,(List.foldl (gU o.form.bj) z (gq o.form.bE a u p)).2):=by
 refine(lM (ρ:=Empty) (λ(z:MV) b=>(b,(z.1,z.2))) u (λi=>if jy o.form.bE i p then []else [i]) (λi=>i+1) (λz x=>.inl (gU o.form.bj z x)) (λz=>(z.1,z.2)) Empty.elim IU 100000 (pr o.form.bj) (λb=>0<=b) (λb M _=>⟨by omega,by omega⟩) (λk z b M ad B F=>?_) (λz b M h=>by dsimp only;rw[aj (dd h)]) (u-a).toNat k z a U (by omega) B O).trans (by rw[lH];rfl)
 dsimp only
 rw[an (da ad),EY Z,af]
 by_cases h:jy o.form.bE b p=true
 ·rw[h,if_pos rfl]
  exact aE (by omega)
 rw[nh]at h
 rw[h,if_neg (by decide)]
 rw[h,if_neg (by decide)]at F
 have F:k+1<=100000:=F
 refine(dn (λq=>aa q _) ((an rfl).trans (zk Y B (by omega) _))).trans ?_
 exact aE (n:=b+1) (by omega)
theorem aau{o:dp}(ad:o.form.bE.length<=1048576)(Y:o.form.bj.length<=1048576){r:bL}{p:Int}{z:MV}{k:Nat}(ag:oz o.form.bars r)(G:o.form.bars<=4000)(af:1<=p)(F:IU k z)(U:k+(jE o.form.bE r p).length<=100000) :
  aB (λB:(Int×((List (Int×Int))×(List aA)))=>ab (leI B.1 r.times) (aa (aB (λj:(Int×((List (Int×Int))×(List aA)))=>ab (ah j.1 r.aQ) (aa (aa (iW (o,(j.1,B.1))) λM=>ab (!M) (ae (ai ((aq j.2.1 j.1 0)+1)) <|aa (aa (iZ (o.form.bj,(⟨j.1,(aq (aM j.2.1 j.1 ((aq j.2.1 j.1 0)+1)) j.1 0)⟩:aA))) λN=>ab (!N) (ae (decide ((List.append j.2.2 ((⟨j.1,(aq (aM j.2.1 j.1 ((aq j.2.1 j.1 0)+1)) j.1 0)⟩:aA)::([]:List aA))).length*16<=140737488355328/\(List.append j.2.2 ((⟨j.1,(aq (aM j.2.1 j.1 ((aq j.2.1 j.1 0)+1)) j.1 0)⟩:aA)::([]:List aA))).length<=9223372036854775807)) <|some (List.append j.2.2 ((⟨j.1,(aq (aM j.2.1 j.1 ((aq j.2.1 j.1 0)+1)) j.1 0)⟩:aA)::([]:List aA)))) (some j.2.2)) λ(N:(List aA))=>some ((aM j.2.1 j.1 ((aq j.2.1 j.1 0)+1)),N)) (some (j.2.1,j.2.2))) λ(M:((List (Int×Int))×(List aA)))=>ae (ai (j.1+1)) <|some (.inl ((j.1+1),(M.1,M.2)))) (some (.inr (j.2.1,j.2.2)))) (r.from_,(B.2.1,B.2.2))) λ(j:((List (Int×Int))×(List aA)))=>ae (ai (B.1+1)) <|some (.inl ((B.1+1),(j.1,j.2)))) (some (.inr (B.2.1,B.2.2)))) (p,(z.1,z.2))=some ((List.foldl (gU o.form.bj) z (jE o.form.bE r p)).1,(List.foldl (gU o.form.bj) z (jE o.form.bE r p)).2):=by
 obtain⟨ak,al,ao,ar,O⟩:=ag
 refine(lM (ρ:=Empty) (λ(z:MV) b=>(b,(z.1,z.2))) (r.times+1) (λq=>gq o.form.bE r.from_ r.aQ q) (λi=>i+1) (λz x=>.inl (gU o.form.bj z x)) (λz=>(z.1,z.2)) Empty.elim IU 100000 (pr o.form.bj) (λb=>1<=b) (λb G _=>⟨by omega,by omega⟩) (λk z b G au F Z=>?_) (λz b G h=>by dsimp only;rw[aj (dd (by omega))]) (r.times+1-p).toNat k z p af (by omega) F U).trans (by rw[lH];rfl)
 dsimp only
 rw[an (da (by omega)),lH]
 refine(aO (aas ad Y O (by omega) F Z)).trans ?_
 exact aE (n:=b+1) (by omega)
theorem aat{o:dp}(h:jw o.form)(ag:o.form.bj.length<=1048576)(q:bL->Int)(aI:∀r∈o.form.aY,1<=q r/\q r<=r.times){a e:Int}{z:MV}{k:Nat}(aD:0<=a)(aR:e<=o.form.bars)(O:IU k z)(aC:k+(dL o.form q a e).length<=100000) :
  aB (λB:((List (Int×Int))×(Int×(List aA)))=>ab (ah B.2.1 e) (aa (aa (aZ (aB (λF:Int=>ab (ah F (o.form.aY.length:Int)) (aa (au o.form.aY F) λG=>ab (aF G.from_ B.2.1) (some (.inr (.inr F))) (ae (ai (F+1)) <|some (.inl (F+1)))) (some (.inr (.inl ())))) 0) λ(F:Unit)=>some (-1)) λ(F:Int)=>ab (ah F 0) (ae (ai ((aq B.1 B.2.1 0)+1)) <|aa (aa (iZ (o.form.bj,(⟨B.2.1,(aq (aM B.1 B.2.1 ((aq B.1 B.2.1 0)+1)) B.2.1 0)⟩:aA))) λG=>ab (!G) (ae (decide ((List.append B.2.2 ((⟨B.2.1,(aq (aM B.1 B.2.1 ((aq B.1 B.2.1 0)+1)) B.2.1 0)⟩:aA)::([]:List aA))).length*16<=140737488355328/\(List.append B.2.2 ((⟨B.2.1,(aq (aM B.1 B.2.1 ((aq B.1 B.2.1 0)+1)) B.2.1 0)⟩:aA)::([]:List aA))).length<=9223372036854775807)) <|some (List.append B.2.2 ((⟨B.2.1,(aq (aM B.1 B.2.1 ((aq B.1 B.2.1 0)+1)) B.2.1 0)⟩:aA)::([]:List aA)))) (some B.2.2)) λ(G:(List aA))=>some ((aM B.1 B.2.1 ((aq B.1 B.2.1 0)+1)),(B.2.1,G))) (aa (au o.form.aY F) λG=>aa (some (q G)) λ(aK:Int)=>aa (aB (λM:(Int×((List (Int×Int))×(List aA)))=>ab (leI M.1 G.times) (aa (aB (λj:(Int×((List (Int×Int))×(List aA)))=>ab (ah j.1 G.aQ) (aa (aa (iW (o,(j.1,M.1))) λZ=>ab (!Z) (ae (ai ((aq j.2.1 j.1 0)+1)) <|aa (aa (iZ (o.form.bj,(⟨j.1,(aq (aM j.2.1 j.1 ((aq j.2.1 j.1 0)+1)) j.1 0)⟩:aA))) λak=>ab (!ak) (ae (decide ((List.append j.2.2 ((⟨j.1,(aq (aM j.2.1 j.1 ((aq j.2.1 j.1 0)+1)) j.1 0)⟩:aA)::([]:List aA))).length*16<=140737488355328/\(List.append j.2.2 ((⟨j.1,(aq (aM j.2.1 j.1 ((aq j.2.1 j.1 0)+1)) j.1 0)⟩:aA)::([]:List aA))).length<=9223372036854775807)) <|some (List.append j.2.2 ((⟨j.1,(aq (aM j.2.1 j.1 ((aq j.2.1 j.1 0)+1)) j.1 0)⟩:aA)::([]:List aA)))) (some j.2.2)) λ(ak:(List aA))=>some ((aM j.2.1 j.1 ((aq j.2.1 j.1 0)+1)),ak)) (some (j.2.1,j.2.2))) λ(Z:((List (Int×Int))×(List aA)))=>ae (ai (j.1+1)) <|some (.inl ((j.1+1),(Z.1,Z.2)))) (some (.inr (j.2.1,j.2.2)))) (G.from_,(M.2.1,M.2.2))) λ(j:((List (Int×Int))×(List aA)))=>ae (ai (M.1+1)) <|some (.inl ((M.1+1),(j.1,j.2)))) (some (.inr (M.2.1,M.2.2)))) (aK,(B.1,B.2.2))) λ(M:((List (Int×Int))×(List aA)))=>ae (ai (G.aQ-1)) <|some (M.1,((G.aQ-1),M.2)))) λ(F:((List (Int×Int))×(Int×(List aA))))=>ae (ai (F.2.1+1)) <|some (.inl (F.1,((F.2.1+1),F.2.2)))) (some (.inr (B.2.2,B.1)))) (z.1,(a,z.2))=some ((List.foldl (gU o.form.bj) z (dL o.form q a e)).2,(List.foldl (gU o.form.bj) z (dL o.form q a e)).1):=by
 obtain⟨⟨aL,al⟩,U,⟨aJ,aG⟩,_⟩:=h
 refine(lM (ρ:=Empty) (λ(z:MV) b=>(z.1,(b,z.2))) e (kZ o.form q) (iH o.form) (λz x=>.inl (gU o.form.bj z x)) (λz=>(z.2,z.1)) Empty.elim IU 100000 (pr o.form.bj) (λb=>0<=b) (λb ad _=>?_) (λk z b ad aH O N=>?_) (λz b ad h=>by dsimp only;rw[aj (dd h)]) (e-a).toNat k z a aD (by omega) O aC).trans (by rw[lH];rfl)
 ·unfold iH
  cases h:o.form.aY.find? λr=>decide (r.from_=b)with
  |none=>exact⟨by dsimp only;omega,by dsimp only;omega⟩
  |some r=>
   obtain⟨av,aw,ax,ay,az⟩:=U r (gW h)
   have aP:r.from_=b:=hA (j5 (p:=λr:bL=>decide (r.from_=b)) h)
   exact⟨by dsimp only;omega,by dsimp only;omega⟩
 dsimp only
 rw[an (da aH),BK aJ b,af,lH]
 unfold uW
 unfold kZ at N⊢
 unfold iH
 cases h:o.form.aY.find? λr=>decide (r.from_=b)with
 |none=>
  rw[h]at N
  rw[zh h]
  have N:k+1<=100000:=N
  refine(dn (λq=>aa q _) ((an (by decide)).trans (zk ag O (by omega) _))).trans ?_
  exact aE (n:=b+1) (by omega)
 |some r=>
  rw[h]at N
  have Y:=gW h
  obtain⟨aS,ao,ar,aN⟩:=wg h
  rw[ao]
  obtain⟨av,aw,ax,ay,az⟩:=U r Y
  refine(dn (λq=>aa q _) ((aj (dd (by omega))).trans ((aO (aW ar)).trans ((af _ _).trans ((aO (aau aG ag (U r Y) al (aI r Y).1 O N)).trans (aE (n:=r.aQ-1) (by omega))))))).trans ?_
  refine(aE (n:=r.aQ-1+1) (by omega)).trans ?_
  rw[Qe];rfl
def aav{o:dp}(Z:o.form.bE.length<=1048576)(Y:o.form.bj.length<=1048576){a u p:Int}{z:MV}{k:Nat}(U:0<=a)(ag:u<=1048576)(B:IU k z)(O:k+(gq o.form.bE a u p).length<=100000) :
  aB (λj:(Int×((List aA)×(List (Int×Int))))=>ab (ah j.1 u) (aa (aa (iW (o,(j.1,p))) λG=>ab (!G) (ae (ai ((aq j.2.2 j.1 0)+1)) <|aa (aa (iZ (o.form.bj,(⟨j.1,(aq (aM j.2.2 j.1 ((aq j.2.2 j.1 0)+1)) j.1 0)⟩:aA))) λN=>ab (!N) (ae (decide ((List.append j.2.1 ((⟨j.1,(aq (aM j.2.2 j.1 ((aq j.2.2 j.1 0)+1)) j.1 0)⟩:aA)::([]:List aA))).length*16<=140737488355328/\(List.append j.2.1 ((⟨j.1,(aq (aM j.2.2 j.1 ((aq j.2.2 j.1 0)+1)) j.1 0)⟩:aA)::([]:List aA))).length<=9223372036854775807)) <|some (List.append j.2.1 ((⟨j.1,(aq (aM j.2.2 j.1 ((aq j.2.2 j.1 0)+1)) j.1 0)⟩:aA)::([]:List aA)))) (some j.2.1)) λ(N:(List aA))=>some ((aM j.2.2 j.1 ((aq j.2.2 j.1 0)+1)),N)) (some (j.2.2,j.2.1))) λ(G:((List (Int×Int))×(List aA)))=>ae (ai (j.1+1)) <|some (.inl ((j.1+1),(G.2,G.1)))) (some (.inr (j.2.1,j.2.2)))) (a,(z.2,z.1))=some ((List.foldl (gU o.form.bj) z (gq o.form.bE a u p)).2,(List.foldl (gU o.form.bj) z (gq o.form.bE a u p)).1):=by
 refine(lM (ρ:=Empty) (λ(z:MV) b=>(b,(z.2,z.1))) u (λi=>if jy o.form.bE i p then []else [i]) (λi=>i+1) (λz x=>.inl (gU o.form.bj z x)) (λz=>(z.2,z.1)) Empty.elim IU 100000 (pr o.form.bj) (λb=>0<=b) (λb M _=>⟨by omega,by omega⟩) (λk z b M ad B F=>?_) (λz b M h=>by dsimp only;rw[aj (dd h)]) (u-a).toNat k z a U (by omega) B O).trans (by rw[lH];rfl)
 dsimp only
 rw[an (da ad),EY Z,af]
 by_cases h:jy o.form.bE b p=true
 ·rw[h,if_pos rfl]
  exact aE (by omega)
 rw[nh]at h
 rw[h,if_neg (by decide)]
 rw[h,if_neg (by decide)]at F
 have F:k+1<=100000:=F
 refine(dn (λq=>aa q _) ((an rfl).trans (zk Y B (by omega) _))).trans ?_
 exact aE (n:=b+1) (by omega)
theorem aax{o:dp}(ad:o.form.bE.length<=1048576)(Y:o.form.bj.length<=1048576){r:bL}{p:Int}{z:MV}{k:Nat}(ag:oz o.form.bars r)(G:o.form.bars<=4000)(af:1<=p)(F:IU k z)(U:k+(jE o.form.bE r p).length<=100000) :
  aB (λB:(Int×((List aA)×(List (Int×Int))))=>ab (leI B.1 r.times) (aa (aB (λj:(Int×((List aA)×(List (Int×Int))))=>ab (ah j.1 r.aQ) (aa (aa (iW (o,(j.1,B.1))) λM=>ab (!M) (ae (ai ((aq j.2.2 j.1 0)+1)) <|aa (aa (iZ (o.form.bj,(⟨j.1,(aq (aM j.2.2 j.1 ((aq j.2.2 j.1 0)+1)) j.1 0)⟩:aA))) λN=>ab (!N) (ae (decide ((List.append j.2.1 ((⟨j.1,(aq (aM j.2.2 j.1 ((aq j.2.2 j.1 0)+1)) j.1 0)⟩:aA)::([]:List aA))).length*16<=140737488355328/\(List.append j.2.1 ((⟨j.1,(aq (aM j.2.2 j.1 ((aq j.2.2 j.1 0)+1)) j.1 0)⟩:aA)::([]:List aA))).length<=9223372036854775807)) <|some (List.append j.2.1 ((⟨j.1,(aq (aM j.2.2 j.1 ((aq j.2.2 j.1 0)+1)) j.1 0)⟩:aA)::([]:List aA)))) (some j.2.1)) λ(N:(List aA))=>some ((aM j.2.2 j.1 ((aq j.2.2 j.1 0)+1)),N)) (some (j.2.2,j.2.1))) λ(M:((List (Int×Int))×(List aA)))=>ae (ai (j.1+1)) <|some (.inl ((j.1+1),(M.2,M.1)))) (some (.inr (j.2.1,j.2.2)))) (r.from_,(B.2.1,B.2.2))) λ(j:((List aA)×(List (Int×Int))))=>ae (ai (B.1+1)) <|some (.inl ((B.1+1),(j.1,j.2)))) (some (.inr (B.2.1,B.2.2)))) (p,(z.2,z.1))=some ((List.foldl (gU o.form.bj) z (jE o.form.bE r p)).2,(List.foldl (gU o.form.bj) z (jE o.form.bE r p)).1):=by
 obtain⟨ak,al,ao,ar,O⟩:=ag
 refine(lM (ρ:=Empty) (λ(z:MV) b=>(b,(z.2,z.1))) (r.times+1) (λq=>gq o.form.bE r.from_ r.aQ q) (λi=>i+1) (λz x=>.inl (gU o.form.bj z x)) (λz=>(z.2,z.1)) Empty.elim IU 100000 (pr o.form.bj) (λb=>1<=b) (λb G _=>⟨by omega,by omega⟩) (λk z b G au F Z=>?_) (λz b G h=>by dsimp only;rw[aj (dd (by omega))]) (r.times+1-p).toNat k z p af (by omega) F U).trans (by rw[lH];rfl)
 dsimp only
 rw[an (da (by omega)),lH]
 refine(aO (aav ad Y O (by omega) F Z)).trans ?_
 exact aE (n:=b+1) (by omega)
theorem aaw{o:dp}(h:jw o.form)(ag:o.form.bj.length<=1048576)(q:bL->Int)(aI:∀r∈o.form.aY,1<=q r/\q r<=r.times){a e:Int}{z:MV}{k:Nat}(aD:0<=a)(aR:e<=o.form.bars)(O:IU k z)(aC:k+(dL o.form q a e).length<=100000) :
  aB (λB:((List aA)×((List (Int×Int))×Int))=>ab (ah B.2.2 e) (aa (aa (aZ (aB (λF:Int=>ab (ah F (o.form.aY.length:Int)) (aa (au o.form.aY F) λM=>ab (aF M.from_ B.2.2) (some (.inr (.inr F))) (ae (ai (F+1)) <|some (.inl (F+1)))) (some (.inr (.inl ())))) 0) λ(F:Unit)=>some (-1)) λ(F:Int)=>ab (ah F 0) (ae (ai ((aq B.2.1 B.2.2 0)+1)) <|aa (aa (iZ (o.form.bj,(⟨B.2.2,(aq (aM B.2.1 B.2.2 ((aq B.2.1 B.2.2 0)+1)) B.2.2 0)⟩:aA))) λM=>ab (!M) (ae (decide ((List.append B.1 ((⟨B.2.2,(aq (aM B.2.1 B.2.2 ((aq B.2.1 B.2.2 0)+1)) B.2.2 0)⟩:aA)::([]:List aA))).length*16<=140737488355328/\(List.append B.1 ((⟨B.2.2,(aq (aM B.2.1 B.2.2 ((aq B.2.1 B.2.2 0)+1)) B.2.2 0)⟩:aA)::([]:List aA))).length<=9223372036854775807)) <|some (List.append B.1 ((⟨B.2.2,(aq (aM B.2.1 B.2.2 ((aq B.2.1 B.2.2 0)+1)) B.2.2 0)⟩:aA)::([]:List aA)))) (some B.1)) λ(M:(List aA))=>some ((aM B.2.1 B.2.2 ((aq B.2.1 B.2.2 0)+1)),(B.2.2,M))) (aa (au o.form.aY F) λM=>aa (some (q M)) λ(aK:Int)=>aa (aB (λG:(Int×((List aA)×(List (Int×Int))))=>ab (leI G.1 M.times) (aa (aB (λj:(Int×((List aA)×(List (Int×Int))))=>ab (ah j.1 M.aQ) (aa (aa (iW (o,(j.1,G.1))) λZ=>ab (!Z) (ae (ai ((aq j.2.2 j.1 0)+1)) <|aa (aa (iZ (o.form.bj,(⟨j.1,(aq (aM j.2.2 j.1 ((aq j.2.2 j.1 0)+1)) j.1 0)⟩:aA))) λak=>ab (!ak) (ae (decide ((List.append j.2.1 ((⟨j.1,(aq (aM j.2.2 j.1 ((aq j.2.2 j.1 0)+1)) j.1 0)⟩:aA)::([]:List aA))).length*16<=140737488355328/\(List.append j.2.1 ((⟨j.1,(aq (aM j.2.2 j.1 ((aq j.2.2 j.1 0)+1)) j.1 0)⟩:aA)::([]:List aA))).length<=9223372036854775807)) <|some (List.append j.2.1 ((⟨j.1,(aq (aM j.2.2 j.1 ((aq j.2.2 j.1 0)+1)) j.1 0)⟩:aA)::([]:List aA)))) (some j.2.1)) λ(ak:(List aA))=>some ((aM j.2.2 j.1 ((aq j.2.2 j.1 0)+1)),ak)) (some (j.2.2,j.2.1))) λ(Z:((List (Int×Int))×(List aA)))=>ae (ai (j.1+1)) <|some (.inl ((j.1+1),(Z.2,Z.1)))) (some (.inr (j.2.1,j.2.2)))) (M.from_,(G.2.1,G.2.2))) λ(j:((List aA)×(List (Int×Int))))=>ae (ai (G.1+1)) <|some (.inl ((G.1+1),(j.1,j.2)))) (some (.inr (G.2.1,G.2.2)))) (aK,(B.1,B.2.1))) λ(G:((List aA)×(List (Int×Int))))=>ae (ai (M.aQ-1)) <|some (G.2,((M.aQ-1),G.1)))) λ(F:((List (Int×Int))×(Int×(List aA))))=>ae (ai (F.2.1+1)) <|some (.inl (F.2.2,(F.1,(F.2.1+1))))) (some (.inr B.1))) (z.2,(z.1,a))=some (List.foldl (gU o.form.bj) z (dL o.form q a e)).2:=by
 obtain⟨⟨aL,al⟩,U,⟨aJ,aG⟩,_⟩:=h
 refine(lM (ρ:=Empty) (λ(z:MV) b=>(z.2,(z.1,b))) e (kZ o.form q) (iH o.form) (λz x=>.inl (gU o.form.bj z x)) (λz=>z.2) Empty.elim IU 100000 (pr o.form.bj) (λb=>0<=b) (λb ad _=>?_) (λk z b ad aH O N=>?_) (λz b ad h=>by dsimp only;rw[aj (dd h)]) (e-a).toNat k z a aD (by omega) O aC).trans (by rw[lH];rfl)
 ·unfold iH
  cases h:o.form.aY.find? λr=>decide (r.from_=b)with
  |none=>exact⟨by dsimp only;omega,by dsimp only;omega⟩
  |some r=>
   obtain⟨av,aw,ax,ay,az⟩:=U r (gW h)
   have aP:r.from_=b:=hA (j5 (p:=λr:bL=>decide (r.from_=b)) h)
   exact⟨by dsimp only;omega,by dsimp only;omega⟩
 dsimp only
 rw[an (da aH),BK aJ b,af,lH]
 unfold uW
 unfold kZ at N⊢
 unfold iH
 cases h:o.form.aY.find? λr=>decide (r.from_=b)with
 |none=>
  rw[h]at N
  rw[zh h]
  have N:k+1<=100000:=N
  refine(dn (λq=>aa q _) ((an (by decide)).trans (zk ag O (by omega) _))).trans ?_
  exact aE (n:=b+1) (by omega)
 |some r=>
  rw[h]at N
  have Y:=gW h
  obtain⟨aS,ao,ar,aN⟩:=wg h
  rw[ao]
  obtain⟨av,aw,ax,ay,az⟩:=U r Y
  refine(dn (λq=>aa q _) ((aj (dd (by omega))).trans ((aO (aW ar)).trans ((af _ _).trans ((aO (aax aG ag (U r Y) al (aI r Y).1 O N)).trans (aE (n:=r.aQ-1) (by omega))))))).trans ?_
  refine(aE (n:=r.aQ-1+1) (by omega)).trans ?_
  rw[Qe];rfl
end Go.Proofs.YthhlipkkjippfaaGreatDoor
namespace Go.Proofs.YthhlipkkjippfaaGreatDoor
open Go Go.ag Go.Sy
attribute [local instance] ch cF
def jF(f:Form):Bool:=decide (1<=f.bars)&&(decide (f.bars<=4000)&&(nO f.bars f.aY&&(pH f&&(nm f&&(lz f&&decide ((fx f).length<=20000))))))
def mJ(f:Form):Prop:=f.aY.length<=1048576/\f.bE.length<=1048576/\f.bj.length<=1048576
def Dk{f:Form}(B:mJ f)(F:1<=f.bars)(G:f.bars<=4000)(k:nO f.bars f.aY=true)(hj:nm f=true):jw f:=by
 simp only[nO,db]at k
 have M:=M9 f.bars f.aY 0 (by omega) k.2
 have j:(f.jump.at_<=f.bars/\0<=f.jump.to/\f.jump.to<=f.bars/\f.jump.dj<=f.bars)/\(f.jump.at_=0->f.jump.dj<=f.jump.to):=by
  simp only[nm,hR,db,gL,k4,ea,hL]at hj
  rcases hj with hj|hj
  ·rw[hj];dsimp only;omega
  omega
 exact⟨⟨F,G⟩,M,⟨B.1,B.2.1⟩,j.1,j.2⟩
def vT{f:Form}(j:mJ f)(h:jF f=true):jw f:=by
 simp only[jF,db,ea]at h
 exact Dk j h.1 h.2.1 h.2.2.1 h.2.2.2.2.1
def YB{f:Form}(F:mJ f):AH f=some (jF f):=by
 obtain⟨B,M,G⟩:=id F
 unfold AH jF
 refine(aO (x:=decide (1<=f.bars)&&(decide (f.bars<=4000)&&(nO f.bars f.aY&&(pH f&&(nm f&&(lz f&&decide ((fx f).length<=20000))))))) ?_).trans rfl
 by_cases j:1<=f.bars
 ·by_cases k:f.bars<=4000
  ·refine(an (da j)).trans ((an (da k)).trans ?_)
   rw[da j,da k,n2,n2]
   refine(aO (WR (o:=⟨f⟩) B)).trans ?_
   dsimp only
   cases N:nO f.bars f.aY
   ·rfl
   refine(an rfl).trans ((aO (WQ (o:=⟨f⟩) B M)).trans ?_)
   dsimp only
   cases U:pH f
   ·rfl
   refine(an rfl).trans ((aO (W1 (o:=⟨f⟩) B)).trans ?_)
   dsimp only
   cases O:nm f
   ·rfl
   refine(an rfl).trans ((aO (WO (o:=⟨f⟩) G)).trans ?_)
   dsimp only
   cases Y:lz f
   ·rfl
   refine(an rfl).trans ((aO (W2 (o:=⟨f⟩) (Dk F j k N O))).trans ?_)
   rfl
  refine(an (da j)).trans ((aj (dd k)).trans ?_)
  rw[dd k,vx,Kn]
 refine(aj (dd j)).trans ?_
 rw[dd j,vx]
def cH(f:Form):List aA:=((fx f).foldl (gU f.bj) ([],[])).2
def YA{f:Form}(k:mJ f):uz f=some (if jF f then(cH f,0)else([],1)):=by
 unfold uz
 refine(aO (YB k)).trans ?_
 cases h:jF f
 ·rfl
 refine(aj rfl).trans ?_
 have j:=vT k h
 have M:=B7 j
 obtain⟨⟨ab,ad⟩,G,_,⟨ae,N,af,O⟩,_⟩:=id j
 have Z:∀r∈f.aY,1<=(λ_=>1:bL->Int) r/\(λ_=>1:bL->Int) r<=r.times:=λr B=>⟨by simp,(G r B).2.2.1⟩
 have aa:∀r∈f.aY,1<=r.times/\r.times<=r.times:=λr B=>⟨(G r B).2.2.1,by simp⟩
 have e:cH f=((dL f bL.times f.jump.to f.jump.dj).foldl (gU f.bj) ((dL f (λ_=>1) 0 (l5 f)).foldl (gU f.bj) ([],[]))).2:=by unfold cH;rw[Hi j,td]
 rw[Hi j,e3]at M
 rw[if_pos rfl,e]
 have I0:IU 0 (([],[]):MV):=⟨by simp,λx=>by dsimp only;rw[oK];omega⟩
 have U:=aat (o:=⟨f⟩) j k.2.2 (λ_=>1) Z (za 0) (OI j) I0 (by dsimp only;omega)
 have F:=yT (pr f.bj) (dL f (λ_=>1) 0 (l5 f)) 0 _ _ I0 (lH (gU f.bj) _ _)
 rw[hV]at F
 have Y:=aaw (o:=⟨f⟩) j k.2.2 bL.times aa N O F (by dsimp only;omega)
 refine(aO (x:=((dL f bL.times f.jump.to f.jump.dj).foldl (gU f.bj) ((dL f (λ_=>1) 0 (l5 f)).foldl (gU f.bj) ([],[]))).2) ?_).trans rfl
 refine(aO (B4 f)).trans ?_
 refine(aO U).trans ?_
 exact Y
def Yn{α:Type}[DecidableEq α](ok:α->Bool)(l:List α):∀(n:Nat),n<=l.length->((List.range n).any (λk=>(l[k]?).any λc=>!ok c||(l.take k).any (λx=>decide (x=c)))=true↔¬((∀c∈l.take n,ok c=true)/\(l.take n).Nodup)):=by
 intro n
 induction n with
 |zero=>intro _;simp
 |succ n Z=>
  intro aa
  have F:l[n]?=some l[n]:=c3 (by omega)
  rw[I1,List.any_append,hR,Z (by omega),List.take_succ,F]
  generalize l[n]=c at F
  simp only[hR,gL,List.any_cons,List.any_nil,zc,F,Option.any_some,Option.toList_some,hP,mv,sb,h5,ea]
  constructor
  ·rintro(h|h| ⟨x,j,G⟩) ⟨B,M,_,N⟩
   ·exact h ⟨λc Y=>B c (.inl Y),M⟩
   ·have:=B c (.inr rfl);rw[h]at this;exact nomatch this
   exact N x j c (by simp) G
  intro h
  by_cases j:(∀c∈l.take n,ok c=true)/\(l.take n).Nodup
  ·right
   by_cases G:ok c=true
   ·right
    by_cases B:c∈l.take n
    ·exact⟨c,B,rfl⟩
    exact absurd ⟨λx F=>F.elim (j.1 x) (λe=>e▸G),j.2,by simp,λa O b U e=>by exact B (U▸e▸O)⟩ h
   left;simpa using G
  exact .inl j
def X5{f:Form}(O:mJ f):Ax f=some (jF f):=by
 obtain⟨M,ag,aw⟩:=id O
 unfold Ax jF
 by_cases F:1<=f.bars
 ·rw[da F,n2]
  by_cases G:f.bars<=4000
  ·rw[da G,n2]
   have U:∀(a b c:Bool)(l:Int),(ab (ah f.bars 1) (some true) (ab (ah 4000 f.bars) (some true) (aa (some a) λay=>ab (!ay) (some true) (aa (some b) λaz=>ab (!az) (some true) (aa (some c) λj=>ab (!j) (some true) (some (ah 100 l)))))))=some (!(a&&(b&&(c && !ah 100 l)))):=by
    intro a b c l
    refine(aj (dd (by omega))).trans ((aj (dd (by omega))).trans ?_)
    cases a<;>cases b<;>cases c<;>cases ah 100 l<;>rfl
   rw[Yd M,X8 M ag,Yb M]
   refine(aO (U _ _ _ _)).trans ?_
   cases ao:nO f.bars f.aY
   ·rfl
   cases ax:pH f
   ·rfl
   cases aq:nm f
   ·rfl
   have ak:=Dk O F G ao aq
   unfold lz
   by_cases N:f.bj.length<=100
   ·rw[da N,n2]
    refine(aj (show(!(true&&(true&&(true && !ah 100 (f.bj.length:Int)))))=false by
     have:ah 100 (f.bj.length:Int)=false:=dd (by omega)
     rw[this];rfl)).trans ?_
    rw[pV f.bj.length (λk=>(f.bj[k]?).any λc=>!decide (iy f.bars c)||(f.bj.take k).any (λx=>decide (x=c))) false (λk al=>by
     have B:f.bj[k]?=some f.bj[k]:=c3 al
     generalize f.bj[k]=c at B
     rw[B,Option.any_some]
     have Y:∀(a m:Bool)(q:Unit⊕Bool)(i:Int)(hi:ai i=true),aa (aa (some a) λj=>ab (!j) (some true) (some m)) (λ(j:Bool)=>ab j (some (.inr q:Int⊕(Unit⊕Bool))) (ae (ai i) <|some (.inl i)))=some (if(!a||m)=true then .inr q else .inl i):=by
      intro a m q i hi
      cases a<;>cases m<;>first|rfl|exact cr hi
     have Z:aa (au f.bj (k:Int)) (λj=>aa (w5 (f,j)) λaA=>ab (!aA) (some true) (ae ((leI 0 (k:Int))&&(leI (k:Int) (f.bj.length:Int))) <|aa (au f.bj (k:Int)) λar=>aa (w6 ((List.take (Int.toNat (k:Int)) f.bj),ar)) λav=>some (leI 0 av)))=aa (some (decide (iy f.bars c))) λj=>ab (!j) (some true) (some ((f.bj.take k).any (λx=>decide (x=c)))):=by
      refine(aO (aW B)).trans ?_
      rw[X7,af,af]
      congr 1
      refine(cr (show(leI 0 (k:Int)&&leI (k:Int) (f.bj.length:Int))=true by rw[db];exact⟨da (by omega),da (by omega)⟩)).trans ?_
      refine(aO (aW B)).trans ?_
      rw[Int.toNat_natCast]
      refine(aO (X9 (by rw[e8];omega) c)).trans ?_
      exact dn some (DT _ _)
     refine(an (da (by omega))).trans ?_
     refine(dn (λq=>aa q _) Z).trans ?_
     exact Y _ _ _ _ (DU (by omega))) (by rw[aj (dd (by omega))])]
    have ad:(List.range f.bj.length).any (λk=>(f.bj[k]?).any λc=>!decide (iy f.bars c)||(f.bj.take k).any (λx=>decide (x=c))) = !decide ((∀c∈f.bj,iy f.bars c)/\f.bj.Nodup):=by
     have:=Yn (λc=>decide (iy f.bars c)) f.bj f.bj.length (eb _)
     rw[List.take_length]at this
     rw[hC,this,gL,hL]
     simp only[ea]
    rw[ad]
    cases decide ((∀c∈f.bj,iy f.bars c)/\f.bj.Nodup)
    ·rfl
    refine(aO (Mx ak)).trans ?_
    refine dn some ?_
    rw[hC]
    simp[leI]
    omega
   rw[dd N]
   refine(an (show(!(true&&(true&&(true && !ah 100 (f.bj.length:Int)))))=true by
    have:ah 100 (f.bj.length:Int)=true:=da (by omega)
    rw[this];rfl)).trans ?_
   rfl
  rw[dd G,vx]
  refine(aO (x:=true) ((aj (dd (by omega))).trans (an (da (by omega))))).trans rfl
 rw[dd F,vx]
 refine(aO (x:=true) (an (da (by omega)))).trans rfl
end Go.Proofs.YthhlipkkjippfaaGreatDoor
namespace Go.Proofs.YthhlipkkjippfaaGreatDoor
open Go Go.ag Go.Sy
attribute [local instance] ch cF
def l6(f:Form):List aA:=((fx f).foldl (gU []) ([],[])).2
def JX(cs:List bK):∀(l:List Int)(z w:MV),z.1=w.1->z.2=w.2.filter (λv=>!jX cs v)->(l.foldl (gU cs) z).1=(l.foldl (gU []) w).1/\(l.foldl (gU cs) z).2=(l.foldl (gU []) w).2.filter (λv=>!jX cs v)
 | [],z,w,h1,j=>⟨h1,j⟩
 |x::l,z,w,h1,j=>by
  refine JX cs l (gU cs z x) (gU [] w x) ?_ ?_
  ·unfold gU;rw[h1]
  unfold gU
  dsimp only
  rw[h1]
  have e:(if jX [] ⟨x,aq w.1 x 0+1⟩=true then w.2 else w.2++[⟨x,aq w.1 x 0+1⟩])=w.2++[⟨x,aq w.1 x 0+1⟩]:=rfl
  rw[e,Qp]
  cases k:jX cs ⟨x,aq w.1 x 0+1⟩
  ·rw[if_neg (λh=>nomatch h),j];simp[k]
  rw[if_pos rfl,j];simp[k]
def B0(f:Form):cH f=(l6 f).filter (λv=>!jX f.bj v):=(JX f.bj (fx f) ([],[]) ([],[]) rfl rfl).2
def km(n:Nat)(m:MI):List Int:=(List.range n).map λ(i:Nat)=>aq m (i:Int) 0
def yg(n:Nat)(m:MI):(km n m).length=n:=by simp[km]
def yf{n i:Nat}(h:i<n)(m:MI):(km n m)[i]?=some (aq m (i:Int) 0):=by
 unfold km
 rw[et,ie h];rfl
def Pj{n i:Nat}(h:i<n)(m:MI)(v:Int):(km n m).set i v=km n (aM m (i:Int) v):=by
 refine hW λj=>?_
 rw[e4,yg]
 by_cases k:j<n
 ·rw[yf k,yf k,mw]
  by_cases e:i=j
  ·rw[if_pos e,if_pos h,if_pos (by rw[e])]
  rw[if_neg e,if_neg (by omega)]
 have B:(km n m)[j]?=none:=hF (by rw[yg];omega)
 have F:(km n (aM m (i:Int) v))[j]?=none:=hF (by rw[yg];omega)
 rw[B,F,if_neg (by omega)]
def Ph(n:Nat):List.replicate n (0:Int)=km n []:=by
 unfold km
 refine hW λj=>?_
 rw[et,List.getElem?_replicate]
 by_cases h:j<n
 ·rw[if_pos h,ie h];rfl
 rw[if_neg h,hF (by simpa using h)];rfl
def X6{f:Form}(h:jw f):w4 f=some (l6 f):=by
 have af:=B7 h
 have U:=OQ h
 obtain⟨⟨ab,ad⟩,_⟩:=id h
 unfold w4 l6
 refine(aO (Mx h)).trans ?_
 refine(cr (da (by omega))).trans ?_
 refine(cr (da (by rw[r3];omega))).trans ?_
 rw[Ph]
 refine(aO (x:=((fx f).foldl (gU []) ([],[])).2) ?_).trans rfl
 refine(dU (σ:=MV) (st:=λz k=>(k,(km (Int.toNat f.bars) z.1,z.2))) (l:=fx f) (λz x=>.inl (gU [] z x)) (λz=>z.2) IU (λk x z j B=>?_) (λk x z z' _ B Y=>pr [] k z x z' B (by cases Y;rfl)) (λz _=>by dsimp only;rw[aj (dd (by omega))]) ([],[]) ⟨by simp,λx=>by dsimp only;rw[oK];omega⟩).trans (dn some (fG (gU []) (fx f) ([],[]) (λ_ _ _=>rfl)))
 have ag:=bG j
 obtain⟨Z,aa⟩:=U x (dk j)
 obtain⟨m,F⟩:=z
 have O:=B.2 x
 have ae:F.length<=k:=B.1
 dsimp only at O⊢
 obtain⟨i,rfl⟩:∃i:Nat,x=(i:Int):=⟨x.toNat,by omega⟩
 have hi:i<Int.toNat f.bars:=by omega
 have M:=aW (yf hi m)
 have N:∀m,(km (Int.toNat f.bars) m).length=Int.toNat f.bars:=yg _
 have G:∀m,(leI 0 (i:Int)&&ah (i:Int) ((km (Int.toNat f.bars) m).length:Int))=true:=λm=>by rw[N,db];exact⟨da (by omega),da (by omega)⟩
 refine(an (da (by omega))).trans ?_
 refine(aO (aW j)).trans ?_
 refine(cr (G m)).trans ((aO M).trans ?_)
 refine(aE (by omega)).trans ?_
 refine(cr (G m)).trans ((aO M).trans ?_)
 refine(aO (aW j)).trans ((aO (aW j)).trans ?_)
 rw[Int.toNat_natCast,Pj hi]
 refine(cr (G _)).trans ((aO (aW (yf hi _))).trans ?_)
 rw[mw,if_pos rfl]
 have e:(List.append F ((⟨(i:Int),aq m (i:Int) 0+1⟩:aA)::([]:List aA))).length=F.length+1:=e3
 refine(cr (da (by rw[e];omega))).trans ?_
 refine(aE (by omega)).trans ?_
 rfl
def aaI(f:Form):(l6 f).length<=(fx f).length:=by
 have:∀(l:List Int)(z:MV),(l.foldl (gU []) z).2.length<=z.2.length+l.length:=by
  intro l
  induction l with
  |nil=>intro z;simp
  |cons x l j=>
   intro z
   have:=j (gU [] z x)
   have e:(gU [] z x).2.length=z.2.length+1:=by
    unfold gU;dsimp only
    have e:jX [] ⟨x,aq z.1 x 0+1⟩=false:=rfl
    rw[e];simp
   rw[List.foldl_cons,List.length_cons];omega
 have:=this (fx f) ([],[])
 simpa [l6]using this
end Go.Proofs.YthhlipkkjippfaaGreatDoor
namespace Go.Proofs.YthhlipkkjippfaaGreatDoor
open Go Go.ag Go.Sy
attribute [local instance] ch cF
theorem Vt{e c:Int}{seg:Int->List Int}{nx:Int->Int}(O:∀b,b<e->(b<c->nx b<=c/\∀x∈seg b,x<c)/\(c<=b->c<=nx b/\∀x∈seg b,c<=x)) :
  ∀(n:Nat)(b:Int),∃l m,jl e seg nx n b=l++m/\(∀x∈l,x<c)/\(∀x∈m,c<=x)/\(c<=b->l=[]):=by
 intro n
 induction n with
 |zero=>exact λb=>⟨[],[],rfl,by simp,by simp,λ_=>rfl⟩
 |succ n U=>
  intro b
  unfold jl
  by_cases h:b<e
  ·rw[if_pos h]
   obtain⟨F,G⟩:=O b h
   obtain⟨l,m,Y,Z,k,aa⟩:=U (nx b)
   rw[Y]
   by_cases N:b<c
   ·obtain⟨_,j⟩:=F N
    refine⟨seg b++l,m,(hU _ _ _).symm,λx hx=>?_,k,λM=>absurd M (by omega)⟩
    rcases hP.1 hx with hx|hx
    ·exact j x hx
    exact Z x hx
   obtain⟨B,j⟩:=G (by omega)
   rw[aa B]
   refine⟨[],seg b++m,rfl,by simp,λx hx=>?_,λ_=>rfl⟩
   rcases hP.1 hx with hx|hx
   ·exact j x hx
   exact k x hx
  rw[if_neg h];exact⟨[],[],rfl,by simp,by simp,λ_=>rfl⟩
theorem Xo{f:Form}(O:∀r∈f.aY,oz f.bars r){c:Int}(N:jh f.aY c=false)(q:bL->Int)(a e:Int):∃l m,dL f q a e=l++m/\(∀x∈l,x<c)/\∀x∈m,c<=x:=by
 obtain⟨l,m,F,G,M,_⟩:=Vt (e:=e) (c:=c) (seg:=kZ f q) (nx:=iH f) (λb k=>by
  unfold kZ iH
  cases h:f.aY.find? λr=>decide (r.from_=b)with
  |none=>exact⟨λk=>⟨by dsimp only;omega,λx j=>by rw[mv]at j;omega⟩,λk=>⟨by dsimp only;omega,λx j=>by rw[mv]at j;omega⟩⟩
  |some r=>
   have B:=gW h
   obtain⟨Y,Z,aa,ab,ad⟩:=O r B
   have ae:r.from_=b:=hA (j5 (p:=λr:bL=>decide (r.from_=b)) h)
   have U:=k7.1 N r B
   simp only[db,ea]at U
   exact⟨λk=>⟨by dsimp only;omega,λx j=>by have:=Gb _ _ _ x j;omega⟩,λk=>⟨by dsimp only;omega,λx j=>by have:=Gb _ _ _ x j;omega⟩⟩) (e-a).toNat a
 exact⟨l,m,F,G,M⟩
def aaJ(f:Form):(l6 f).map aA.av=fx f:=by
 have key:∀(l:List Int)(z:MV),((l.foldl (gU []) z).2).map aA.av=z.2.map aA.av++l:=by
  intro l
  induction l with
  |nil=>intro z;simp
  |cons x l j=>
   intro z
   have e:(gU [] z x).2=z.2++[⟨x,aq z.1 x 0+1⟩]:=rfl
   rw[List.foldl_cons,j,e,q7,hU];rfl
 exact(key (fx f) ([],[])).trans (List.nil_append _)
def dh(f:Form)(cs:List bK):Form:=⟨f.bars,f.aY,f.bE,⟨0,0,0⟩,cs⟩
theorem Me(f:Form)(cs:List bK):fx (dh f cs)=dL (dh f []) (λ_=>1) 0 f.bars:=rfl
theorem FW(f:Form)(cs:List bK):l6 (dh f cs)=l6 (dh f []):=rfl
def Xv{f:Form}(h:mJ f){cs:List bK}(j:cs.length<=10):mJ (dh f cs):=⟨h.1,h.2.1,by show cs.length<=1048576;omega⟩
def Xu{f:Form}(U:mJ f)(h:jF f=true)(ab:f.bars<=12){cs:List bK}(N:lz (dh f cs)=true):jF (dh f cs)=true:=by
 have j:=vT U h
 have k:=FQ (f:=dh f []) j.2.1 (q:=λ_=>1) (λr O=>⟨za _,(j.2.1 r O).2.2.1⟩) 0 f.bars (by have:=j.1.1;show 0<=f.bars;omega) (za _)
 have k:((dL (dh f []) (λ_=>1) 0 f.bars).length:Int)<=9*(f.bars-0):=k
 simp only[jF,db,ea]at h⊢
 obtain⟨B,F,G,M,Y,Z,aa⟩:=h
 refine⟨B,F,G,M,?_,N,?_⟩
 ·show(decide ((⟨0,0,0⟩:im)=⟨0,0,0⟩)||_)=true
  rw[da rfl,Bool.true_or]
 rw[Me];omega
def S4(f:Form):lz (dh f [])=true:=by
 unfold lz dh
 simp
def IX{f:Form}{c:bK}(h:iy f.bars c):lz (dh f [c])=true:=by
 unfold lz dh
 simpa using h
def aaK{f:Form}(N:jw f){c:Int}(M:jh f.aY c=false):∃l m,l6 (dh f [])=l++m/\(∀v∈l,v.av<c)/\∀v∈m,c<=v.av:=by
 obtain⟨a,b,B,F,G⟩:=Xo (f:=dh f []) N.2.1 M (λ_=>1) 0 f.bars
 have k:=aaJ (dh f [])
 rw[Me,B]at k
 obtain⟨l,m,O,U,Y⟩:=List.map_eq_append_iff.1 k
 exact⟨l,m,O,λv j=>F _ (by rw[<-U];exact List.mem_map_of_mem j),λv j=>G _ (by rw[<-Y];exact List.mem_map_of_mem j)⟩
def OF(f:Form):cH (dh f [])=l6 (dh f []):=by
 rw[B0,o0]
 exact λ_ _=>rfl
def aay{f:Form}{l m:List aA}(h:l6 (dh f [])=l++m){c:bK}(M:c.pass=0)(N:∀v∈l,¬(c.from_<=v.av/\v.av<c.aQ))(O:∀v∈m,c.from_<=v.av/\v.av<c.aQ):cH (dh f [c])=l:=by
 rw[B0,FW,h,Qp]
 have B:l.filter (λv=>!jX (dh f [c]).bj v)=l:=o0.2 λv k=>by
  have:=N v k
  show(!((decide (c.from_<=v.av)&&(decide (v.av<c.aQ)&&(decide (c.pass=0)||decide (c.pass=v.pass))))||false))=true
  simp only[zc,gL,Bool.and_eq_false_iff,hL]
  by_cases g:c.from_<=v.av
  ·exact .inr (.inl λj=>this ⟨g,j⟩)
  exact .inl g
 have F:m.filter (λv=>!jX (dh f [c]).bj v)=[]:=iv.2 λv k=>by
  obtain⟨G,j⟩:=O v k
  show ¬(!((decide (c.from_<=v.av)&&(decide (v.av<c.aQ)&&(decide (c.pass=0)||decide (c.pass=v.pass))))||false))=true
  simp[G,j,M]
 rw[B,F,mb]
def aaz{f:Form}{l m:List aA}(h:l6 (dh f [])=l++m){c:bK}(M:c.pass=0)(N:∀v∈l,c.from_<=v.av/\v.av<c.aQ)(O:∀v∈m,¬(c.from_<=v.av/\v.av<c.aQ)):cH (dh f [c])=m:=by
 rw[B0,FW,h,Qp]
 have B:m.filter (λv=>!jX (dh f [c]).bj v)=m:=o0.2 λv k=>by
  have:=O v k
  show(!((decide (c.from_<=v.av)&&(decide (v.av<c.aQ)&&(decide (c.pass=0)||decide (c.pass=v.pass))))||false))=true
  simp only[zc,gL,Bool.and_eq_false_iff,hL]
  by_cases g:c.from_<=v.av
  ·exact .inr (.inl λj=>this ⟨g,j⟩)
  exact .inl g
 have F:l.filter (λv=>!jX (dh f [c]).bj v)=[]:=iv.2 λv k=>by
  obtain⟨G,j⟩:=N v k
  show ¬(!((decide (c.from_<=v.av)&&(decide (v.av<c.aQ)&&(decide (c.pass=0)||decide (c.pass=v.pass))))||false))=true
  simp[G,j,M]
 rw[B,F,List.nil_append]
end Go.Proofs.YthhlipkkjippfaaGreatDoor
namespace Go.Proofs.YthhlipkkjippfaaGreatDoor
open Go Go.ag Go.Sy
attribute [local instance] ch cF
def Yu{p q r s:Nat}(B:Nat.Coprime p q)(F:Nat.Coprime r s)(G:0<q)(M:0<s)(h:p*s=r*q):p=r/\q=s:=by
 have j:q∣s:=Ds (Nat.Coprime.symm B) ⟨r,by rw[h,nn]⟩
 have k:s∣q:=Ds (Nat.Coprime.symm F) ⟨p,by rw[<-h,nn]⟩
 have e:q=s:=Nat.dvd_antisymm j k
 subst e
 exact⟨Nat.eq_of_mul_eq_mul_right G h,rfl⟩
def Yt{j D t:Nat}(F:0<D)(h:j*1680=t*D):j/Nat.gcd j D=t/Nat.gcd t 1680/\D/Nat.gcd j D=1680/Nat.gcd t 1680:=by
 have k:0<Nat.gcd j D:=s3 _ F
 have B:0<Nat.gcd t 1680:=s3 _ (by omega)
 have G:=r1 (abu j D)
 have M:=r1 (sh j D)
 have N:=r1 (abu t 1680)
 have O:=r1 (sh t 1680)
 refine Yu (tx k) (tx B) (Nat.div_pos (zv F (sh j D)) k) (Nat.div_pos (zv (by omega) (sh t 1680)) B) ?_
 refine Nat.eq_of_mul_eq_mul_right (abC k B) ?_
 calc j/Nat.gcd j D*(1680/Nat.gcd t 1680)*(Nat.gcd j D*Nat.gcd t 1680)=(j/Nat.gcd j D*Nat.gcd j D)*(1680/Nat.gcd t 1680*Nat.gcd t 1680):=by ac_rfl
  _=(t/Nat.gcd t 1680*Nat.gcd t 1680)*(D/Nat.gcd j D*Nat.gcd j D):=by rw[G,M,N,O];exact h
  _=t/Nat.gcd t 1680*(D/Nat.gcd j D)*(Nat.gcd j D*Nat.gcd t 1680):=by ac_rfl
def cR(t:Int):Rat:=⟨((t.toNat/Nat.gcd t.toNat 1680:Nat):Int),((1680/Nat.gcd t.toNat 1680:Nat):Int)⟩
def C1{q:Rat}(h:bQ q):∃n d k:Nat,q.n=n/\q.d=d/\bg q=((n*k:Nat):Int)/\d*k=1680/\0<d/\0<k/\Nat.Coprime n d/\n<=1000000000:=by
 obtain⟨G,M,N⟩:=GS h
 have O:=h.2.1
 obtain⟨n,B⟩:∃n:Nat,q.n=n:=⟨q.n.toNat,by omega⟩
 obtain⟨d,j⟩:∃n:Nat,q.d=n:=⟨q.d.toNat,by omega⟩
 obtain⟨k,F⟩:∃n:Nat,Int.tdiv 1680 q.d=n:=⟨(Int.tdiv 1680 q.d).toNat,by omega⟩
 refine⟨n,d,k,B,j,?_,?_,by omega,by omega,?_,?_⟩
 ·unfold bg;rw[B,F];exact(Int.natCast_mul n k).symm
 ·rw[F,j,<-Int.natCast_mul]at G;omega
 ·have:=h.1.2.2.2.2
  rw[B,j]at this
  simpa [Int.gcd]using this
 have:=h.1.2.2.2.1;omega
def yH{q:Rat}(h:bQ q):q=cR (bg q):=by
 obtain⟨n,d,k,j,B,M,F,O,G,N,_⟩:=C1 h
 have g:Nat.gcd (n*k) 1680=k:=by rw[<-F,nn n k,nn d k,Nat.gcd_mul_left,N.gcd_eq_one,Nat.mul_one]
 obtain⟨Y,U⟩:=q
 unfold cR
 rw[M,Int.toNat_natCast,g,Nat.mul_div_cancel _ G,<-F,Nat.mul_div_cancel _ G]
 dsimp only at j B
 rw[j,B]
theorem qt{t:Int}(N:0<=t)(O:t<=1000000000):bQ (cR t)/\bg (cR t)=t:=by
 obtain⟨n,rfl⟩:∃n:Nat,t=n:=⟨t.toNat,by omega⟩
 have k:0<Nat.gcd n 1680:=s3 _ (by omega)
 have F:=r1 (abu n 1680)
 have j:=r1 (sh n 1680)
 have M:0<1680/Nat.gcd n 1680:=Nat.div_pos (zv (by omega) (sh n 1680)) k
 have U:1680/Nat.gcd n 1680<=1680:=tb _ _
 have Y:n/Nat.gcd n 1680<=n:=tb _ _
 have G:=tx k
 have B:Int.tdiv 1680 ((1680/Nat.gcd n 1680:Nat):Int)=(Nat.gcd n 1680:Nat):=by
  have:Int.tdiv ((1680:Nat):Int) ((1680/Nat.gcd n 1680:Nat):Int)=((1680/(1680/Nat.gcd n 1680):Nat):Int):=rfl
  refine this.trans ?_
  congr 1
  exact Nat.div_eq_of_eq_mul_right M (by rw[j])
 have tm:Int.tmod 1680 ((1680/Nat.gcd n 1680:Nat):Int)=0:=by
  have:=B1 1680 ((1680/Nat.gcd n 1680:Nat):Int)
  rw[B,<-Int.natCast_mul,j]at this
  omega
 refine⟨⟨⟨?_,?_,?_,?_,?_⟩,?_,?_⟩,?_⟩
 ·show(1:Int)<=((1680/Nat.gcd n 1680:Nat):Int);omega
 ·show((1680/Nat.gcd n 1680:Nat):Int)<=1000000;omega
 ·exact Int.le_trans (by decide) (Qx (n/Nat.gcd n 1680))
 ·show((n/Nat.gcd n 1680:Nat):Int)<=1000000000;omega
 ·show Int.gcd ((n/Nat.gcd n 1680:Nat):Int) ((1680/Nat.gcd n 1680:Nat):Int)=1
  exact G
 ·exact Qx (n/Nat.gcd n 1680)
 ·exact tm
 show((n/Nat.gcd n 1680:Nat):Int)*Int.tdiv 1680 ((1680/Nat.gcd n 1680:Nat):Int)=(n:Int)
 rw[B,<-Int.natCast_mul,F]
def size_eq{n:Int}(h: -1000000000000000<=n/\n<=1000000000000000):oV n=some (n.natAbs:Int):=by
 unfold oV j8
 rw[aE (by omega)]
 congr 1
 omega
def Yv{j D:Nat}(M:1<=D)(N:D<=10000000)(O:j<=10000000000000):uy ⟨(j:Int),(D:Int)⟩=some ⟨((j/Nat.gcd j D:Nat):Int),((D/Nat.gcd j D:Nat):Int)⟩:=by
 unfold uy qg
 rw[size_eq (by dsimp only;omega),af,size_eq (by dsimp only;omega),af,aj (by simp),Bg _ _ _ (eb _) (by omega) (by omega)]
 dsimp only
 have F:((Int.gcd (((j:Int).natAbs:Nat):Int) (((D:Int).natAbs:Nat):Int):Nat):Int)=((Nat.gcd j D:Nat):Int):=by simp[Int.gcd]
 rw[F]
 have U:0<Nat.gcd j D:=s3 _ (by omega)
 have k:j/Nat.gcd j D<=j:=tb _ _
 have B:D/Nat.gcd j D<=D:=tb _ _
 have G:Int.tdiv (j:Int) ((Nat.gcd j D:Nat):Int)=((j/Nat.gcd j D:Nat):Int):=rfl
 have t2:Int.tdiv (D:Int) ((Nat.gcd j D:Nat):Int)=((D/Nat.gcd j D:Nat):Int):=rfl
 unfold uh
 dsimp only
 rw[G,t2]
 generalize j/Nat.gcd j D=x at k⊢
 generalize D/Nat.gcd j D=y at B⊢
 rw[tE (by omega),tE (by unfold iC;omega),tE (by unfold iC;omega)]
def Bq{a b:Rat}(ad:bQ a)(ae:bQ b)(h:bg a+bg b<=1000000000):fB (a,b)=some (cR (bg a+bg b),0):=by
 have an:=si a
 have ao:=si b
 rw[da ad.1]at an
 rw[da ae.1]at ao
 obtain⟨n,d,k,av,Y,aw,Z,ax,aL,aM,ay⟩:=C1 ad
 obtain⟨B,j,F,aA,aa,aB,ab,aC,aN,aP,aD⟩:=C1 ae
 have ah:d<=1680:=zv (by omega) ⟨k,Z.symm⟩
 have ai:j<=1680:=zv (by omega) ⟨F,ab.symm⟩
 have aI:n*j<=1000000000*1680:=KR ay ai
 have aJ:B*d<=1000000000*1680:=KR aD ah
 have aK:d*j<=1680*1680:=KR ah ai
 have ar:0<d*j:=abC ax aC
 have ak:a.n*b.d=((n*j:Nat):Int):=by rw[av,aa];exact(Int.natCast_mul _ _).symm
 have al:b.n*a.d=((B*d:Nat):Int):=by rw[aA,Y];exact(Int.natCast_mul _ _).symm
 have aG:a.d*b.d=((d*j:Nat):Int):=by rw[Y,aa];exact(Int.natCast_mul _ _).symm
 have aH:a.n*b.d+b.n*a.d=((n*j+B*d:Nat):Int):=by rw[ak,al];exact(Int.natCast_add _ _).symm
 have ht:bg a+bg b=((n*k+B*F:Nat):Int):=by rw[aw,aB];exact(Int.natCast_add _ _).symm
 have au:(n*j+B*d)*1680=(n*k+B*F)*(d*j):=by
  rw[qd,qd]
  congr 1
  ·calc n*j*1680=n*j*(d*k):=by rw[Z]
    _=n*k*(d*j):=by ac_rfl
  calc B*d*1680=B*d*(j*F):=by rw[ab]
   _=B*F*(d*j):=by ac_rfl
 have aq:=Yt ar au
 have ag:=qt (t:=bg a+bg b) (by rw[ht];omega) h
 have aF:AG ⟨((n*j+B*d:Nat):Int),((d*j:Nat):Int)⟩=some (cR (bg a+bg b),0):=by
  unfold AG
  rw[Yv (by omega) (by omega) (by omega),aq.1,aq.2,af]
  have az:cR (bg a+bg b)=⟨(((n*k+B*F)/Nat.gcd (n*k+B*F) 1680:Nat):Int),((1680/Nat.gcd (n*k+B*F) 1680:Nat):Int)⟩:=by unfold cR;rw[ht,Int.toNat_natCast]
  rw[az]at ag⊢
  obtain⟨⟨⟨G,M,N,O,_⟩,U,_⟩,_⟩:=ag
  dsimp only at G M N O U⊢
  generalize (n*k+B*F)/Nat.gcd (n*k+B*F) 1680=x at G M N O U⊢
  generalize 1680/Nat.gcd (n*k+B*F) 1680=y at G M N O U⊢
  rw[size_eq (by omega),af,aj (by simp;omega),af,aj (by simp;omega)]
 unfold fB Fo Fm
 dsimp only
 rw[an,ao,af,af]
 refine(aO (x:=(cR (bg a+bg b),0)) ?_).trans rfl
 refine(aO (x:=false) rfl).trans ?_
 refine(aj rfl).trans ?_
 rw[aH,ak,al,aG,aE (by omega),aE (by omega),aE (by omega),aE (by omega),af,aF,af]
end Go.Proofs.YthhlipkkjippfaaGreatDoor
namespace Go.Proofs.YthhlipkkjippfaaGreatDoor
open Go Go.ag Go.Sy
attribute [local instance] ch cF
def fits(b:aT)(n:ak):Prop:=bQ n.start/\bQ n.length/\0<bg n.length/\bg n.start+bg n.length<=bg b.length/\(1<=n.id/\n.id<=1000000)/\(1<=n.part/\n.part<=1000000)/\(0<=n.bp/\n.bp<=9)/\(0<=n.bO/\n.bO<=20)/\lQ n.aU
instance (b:aT) (n:ak):Decidable (fits b n):=inferInstanceAs (Decidable (_/\_/\_/\_/\_/\_/\_/\_/\_))
def Dl(n:ak):Option aT->Prop
 |some b=>fits b n
 |none=>False
instance (n:ak):(o:Option aT)->Decidable (Dl n o)
 |some b=>inferInstanceAs (Decidable (fits b n))
 |none=>inferInstanceAs (Decidable False)
def gn(bars:List aT)(n:ak):Prop:=Dl n (bars.find? λb=>decide (b.id=n.av))
instance (bars:List aT) (n:ak):Decidable (gn bars n):=inferInstanceAs (Decidable (Dl n _))
def Lz{bars:List aT}{n:ak}(h:(bars.find? λb=>decide (b.id=n.av))=none):¬gn bars n:=by unfold gn;rw[h];exact λh=>h
def LA{bars:List aT}{n:ak}{b:aT}(h:(bars.find? λb=>decide (b.id=n.av))=some b):gn bars n↔fits b n:=by unfold gn;rw[h];exact J4
def iG(bars:List aT)(l:List ak):Prop:=ir bars/\l.length<=20000/\(∀n∈l,gn bars n)/\(l.map ak.id).Nodup
instance (bars:List aT) (l:List ak):Decidable (iG bars l):=inferInstanceAs (Decidable (_/\_/\_/\_))
def Wy{b:aT}(B:bQ b.length)(n:ak):Ag (b,n)=some (decide (fits b n)):=by
 unfold Ag
 dsimp only
 rw[wF,af,wF,af,wF,af,if_pos B]
 by_cases j:bQ n.start
 ·rw[if_pos j]
  by_cases k:bQ n.length
  ·rw[if_pos k]
   dsimp only
   have F:=lZ j
   have t2:=lZ k
   rw[aE (by omega)]
   simp only[WB,EW,WC,af,iB]
   refine kg ?_
   unfold fits
   simp[j,k,mo]
  rw[if_neg k]
  dsimp only
  unfold fits
  rw[an rfl,aj rfl,af];simp[k]
 rw[if_neg j]
 dsimp only
 unfold fits
 rw[aj rfl,af];simp[j]
def XW{bars:List aT}(ab:ir bars)(n:ak):Aq (bars,n)=some (decide (gn bars n)):=by
 have al:=ab.1.2
 unfold Aq
 dsimp only
 rw[Ms (by omega),af,XP,af]
 simp only[XY,af,tH]
 rcases ru bars λb=>decide (b.id=n.av)with ⟨G,M⟩| ⟨k,b,G,M,ad,ai⟩
 ·rw[M,an (by simp),dd (Lz G)]
 have ae:=(ab.2.1 b (dk G)).2.1
 rw[ad,j0.2 (LA M)]
 by_cases N:lQ n.aU/\(1<=n.id/\n.id<=1000000)/\(1<=n.part/\n.part<=1000000)/\(0<=n.bp/\n.bp<=9)/\(0<=n.bO/\n.bO<=20)
 ·obtain⟨O,U,Y,Z,aa⟩:=N
  rw[aj (by simp[O,U,Y,Z,aa]),xu,xu,af,af]
  unfold fits
  by_cases j:bQ n.start
  ·by_cases F:bQ n.length
   ·have ag:=lZ j
    have t2:=lZ F
    rw[if_pos j,if_pos F,aE (by omega),bh (aW G),xu,if_pos ae,af]
    simp only[iB,af]
    refine kg ?_
    simp[j,F,O,U,Y,Z,aa,ag]
   rw[if_neg F]
   simp only[j,F,hK]
   rw[an (by simp;exact nR j),aj (by simp),af]
   simp
  rw[if_neg j,aj (by simp),af]
  simp[j]
 rw[an (by
  rw[show ah (k:Int) 0=false from dd (by omega),q9]
  refine hf λB=>N ?_
  simp only[nh,k4,ta,ea]at B
  exact⟨B.1,B.2.1,B.2.2.1,B.2.2.2.1,B.2.2.2.2⟩)]
 congr 1;symm
 exact dd λh=>N ⟨h.2.2.2.2.2.2.2.2,h.2.2.2.2.1,h.2.2.2.2.2.1,h.2.2.2.2.2.2.1,h.2.2.2.2.2.2.2.1⟩
def Lo{bars:List aT}(U:bars.length<=1048576)(l:List ak):wS (bars,l)=some (decide (iG bars l)):=by
 unfold wS
 dsimp only
 rw[K3 U,af]
 by_cases G:ir bars
 ·rw[aj (by simp[G]),af]
  by_cases F:20000<l.length
  ·have:¬iG bars l:=λh=>by have:=h.2.1;omega
   rw[an (da (by omega))];simp[this]
  rw[aj (dd (by omega)),Lt U,af]
  rw[dU (σ:=List (Int×Bool)) (st:=λz k=>(k,z)) (l:=l) (λz x=>if !decide (gn bars x)||aq z x.id false then .inr (.inr false)else .inl (aM z x.id true)) (λ_=>.inl ()) (λ_ _=>True) (λk x z Y _=>by
   have ab:=bG Y
   dsimp only
   rw[an (by simpa using ab),bh (aW Y),WD]
   have M:=JJ bars λb=>decide (b.id=x.av)
   rcases ru bars λb=>decide (b.id=x.av)with ⟨F,N⟩| ⟨j,b,F,N,Z,ad⟩
   ·rw[F]at M
    rw[M,an (by simp),af,an rfl,dd (Lz F)]
    rfl
   rw[j0.2 (LA N)]
   rw[N]at M
   have aa:=(G.2.1 b (dk F)).2.1
   rw[M,aj (by simp),Lu G.2.2 (by rw[M];rfl),Z,bh (aW F),Wy aa,af]
   rw[tH,af,Bool.or_comm]
   by_cases B:(!decide (fits b x)||aq z x.id false)=true
   ·rw[an B,if_pos B]
   rw[aj (by simpa using B),if_neg B]
   rw[aE (by omega)];rfl) (λ_ _ _ _ _ _ _=>trivial) (λz _=>by dsimp only;rw[aj (by simp)]) [] trivial,Dx]
  by_cases B:(∀x∈l,(!decide (gn bars x))=false)/\(l.map ak.id).Nodup/\∀x∈l,aq ([]:List (Int×Bool)) x.id false=false
  ·rw[if_pos B]
   have:iG bars l:=⟨G,by omega,λn O=>by simpa using B.1 n O,B.2.1⟩
   simp[this,fk]
  rw[if_neg B]
  have:¬iG bars l:=λh=>B ⟨λn O=>by simp[h.2.2.1 n O],h.2.2.2,λn _=>rfl⟩
  simp[this,fQ]
 have:¬iG bars l:=λh=>G h.1
 rw[an (by simp[G]),af,an rfl];simp[this]
def XX(bars:List aT)(l:List ak):Ar (bars,l)=some (decide (iG bars l)):=by
 unfold Ar
 dsimp only
 rw[Mr,af]
 by_cases G:ir bars
 ·rw[aj (by simp[G]),af]
  by_cases aa:20000<l.length
  ·have:¬iG bars l:=λh=>by have:=h.2.1;omega
   rw[an (da (by omega))];simp[this]
  rw[aj (dd (by omega)),pV l.length (mH (λn=>!decide (gn bars n)) (λx y=>decide (x.id=y.id)) l) false (λk Y=>by
   have O:l[k]?=some l[k]:=c3 Y
   generalize l[k]=x at O
   rw[an (by simpa using Y),bh (aW O),XW G,af]
   unfold mH
   rw[O]
   dsimp only
   by_cases B:gn bars x
   ·rw[aj (by simp[B]),nv (l:=l.take k) (λy=>decide (y.id=x.id)) (.inr (.inr false)) (λj y U=>by
     obtain⟨Z,U⟩:=Ob U
     rw[an (by simpa using Z),bh (aW U),bh (aW O)]
     by_cases N:y.id=x.id
     ·rw[an (by simp[N])];simp[N]
     ·rw[aj (by simp[N]),aE (by omega)];simp[N]) (by
     rw[e8,o1 (by omega),aj (by simp)])]
    by_cases F:((l.take k).any λy=>decide (y.id=x.id))=true
    ·rw[if_pos F,if_pos (by rw[F];simp)];rfl
    rw[if_neg F,if_neg (by simp[B]at F⊢;exact F),fk,aE (by omega)];rfl
   rw[an (by simp[B]),if_pos (by simp[B])];rfl) (by rw[aj (by simp)])]
  have key:=Gu (λn=>!decide (gn bars n)) (λx y=>decide (x.id=y.id)) l
  rw[F6 ak.id]at key
  by_cases M:iG bars l
  ·rw[if_neg]
   ·simp[M,fk]
   rw[key];exact λh=>h ⟨λn B=>by simp[M.2.2.1 n B],M.2.2.2⟩
  rw[if_pos]
  ·simp[M,fQ]
  rw[key];exact λh=>M ⟨G,by omega,λn B=>by simpa using h.1 n B,h.2⟩
 have:¬iG bars l:=λh=>G h.1
 rw[an (by simp[G]),af,an rfl];simp[this]
def qb{bars:List aT}{n:ak}(h:gn bars n):∃(k:Nat)(b:aT),bars[k]?=some b/\b.id=n.av/\fits b n/\ix bars (λb=>decide (b.id=n.av))=(k:Int):=by
 unfold gn at h
 rcases ru bars λb=>decide (b.id=n.av)with ⟨j,B⟩| ⟨k,b,j,B,F,G⟩
 ·rw[j]at h;exact h.elim
 rw[B]at h;exact⟨k,b,j,by simpa using G,h,F⟩
def zJ{bars:List aT}(F:ir bars){n:ak}(h:gn bars n):aq (ef bars) n.av 0=ix bars (λb=>decide (b.id=n.av))/\0<=aq (ef bars) n.av 0/\aq (ef bars) n.av 0<=4000:=by
 obtain⟨k,b,j,G,M,B⟩:=qb h
 have e:aq (ef bars) n.av 0=ix bars (λb=>decide (b.id=n.av)):=Lu F.2.2 (by rw[h5];exact⟨b,dk j,by simp[G]⟩)
 have N:=bG j
 have:=F.1.2
 exact⟨e,by rw[e,B];omega,by rw[e,B];omega⟩
def WJ{bars:List aT}(B:ir bars){n:ak}(h:gn bars n):oO (ef bars) n:=by
 obtain⟨k,b,F,G,j,M⟩:=qb h
 obtain⟨e,N,O⟩:=zJ B h
 unfold fits lQ at j
 unfold oO
 refine⟨by omega,by omega,j.1,by omega,j.2.2.2.2.2.2.2.2.1,by omega⟩
theorem Mt{bars:List aT}(B:ir bars){n:ak}(h:gn bars n):wY (bars,n)=some (nK (ef bars) n):=by
 obtain⟨k,b,F,G,j,M⟩:=qb h
 obtain⟨e,N,O⟩:=zJ B h
 have:=B.1.2
 unfold wY
 dsimp only
 rw[Ms (by omega),af,xu,if_pos j.1,af,uJ j.2.2.2.2.2.2.2.2.1,af]
 unfold nK
 rw[e]
def zS(z:Int):Unit⊕Bool:=if z=0 then .inl ()else .inr (decide (z<0))
theorem RZ{x y:List Int}(ag:x.length=y.length)(ak:x.length<=1000):aB (λj:Int=>ab (ah j (x.length:Int)) (aa (au x j) λM=>aa (au y j) λN=>ab (!(aF M N)) (aa (au x j) λO=>aa (au y j) λU=>some (.inr (.inr (ah O U)))) (ae (ai (j+1)) <|some (.inl (j+1)))) (some (.inr (.inl ())))) 0=some (zS (c8 (x.zipWith (· - ·) y))):=by
 have key:∀(n k:Nat),k+n=x.length->aB (λj:Int=>ab (ah j (x.length:Int)) (aa (au x j) λM=>aa (au y j) λN=>ab (!(aF M N)) (aa (au x j) λO=>aa (au y j) λU=>some (.inr (.inr (ah O U)))) (ae (ai (j+1)) <|some (.inl (j+1)))) (some (.inr (.inl ())))) (k:Int)=some (zS (c8 ((x.drop k).zipWith (· - ·) (y.drop k)))):=by
  intro n
  induction n with
  |zero=>
   intro k ad
   rw[k6 (by omega)]
   refine iE ?_
   rw[aj (by simp;omega)];rfl
  |succ n af=>
   intro k ad
   have B:k<x.length:=by omega
   have Y:k<y.length:=by omega
   have F:x[k]?=some x[k]:=c3 B
   have G:y[k]?=some y[k]:=c3 Y
   rw[hT B,hT Y]
   simp only[List.zipWith_cons_cons,c8]
   generalize x[k]=u at *
   generalize y[k]=v at *
   by_cases Z:u=v
   ·rw[mr (z':=((k+1:Nat):Int)) (by
     rw[an (by simpa using B),bh (aW F),bh (aW G),aj (by simp[Z]),aE (by omega)];rfl),if_pos (by omega)]
    exact af (k+1) (by omega)
   refine iE ?_
   rw[an (by simpa using B),bh (aW F),bh (aW G),an (by simp[Z]),bh (aW F),bh (aW G),if_neg (by omega)]
   unfold zS
   rw[if_neg (by omega)]
   congr 3
   rw[j0];omega
 have:=key x.length 0 (by omega)
 simpa using this
def XV{bars:List aT}(j:ir bars){a b:ak}(k:gn bars a)(B:gn bars b):Ap (bars,a,b)=some (decide (cC (nK (ef bars)) a b<0)):=by
 unfold Ap
 dsimp only
 rw[Mt j k,Mt j B,af,af,RZ (x:=nK (ef bars) a) (y:=nK (ef bars) b) rfl (by rw[wC];omega)]
 unfold zS cC
 by_cases h:c8 ((nK (ef bars) a).zipWith (· - ·) (nK (ef bars) b))=0
 ·rw[if_pos h,h];rfl
 rw[if_neg h];rfl
theorem EV{at_:List (Int×Int)}{l:List ak}(G:(l.map ak.id).Nodup):gM (cC (nK at_)) l:=by
 intro a B b F j k
 have h:=CM (wC at_) j k
 unfold nK at h
 simp only[o3]at h
 exact oA G B F h.2.2.2.2.2.1
end Go.Proofs.YthhlipkkjippfaaGreatDoor
namespace Go.Proofs.YthhlipkkjippfaaGreatDoor
open Go Go.ag Go.Sy
attribute [local instance] ch cF
noncomputable def o9(at_:List (Int×Int))(xs:List ak):List ak:=gw (cC (nK at_)) xs
def CN(at_:List (Int×Int)):Go.Sort.SWO (Go.Proofs.ltOf (cC (nK at_))):=BO (wC at_)
def SI{at_:List (Int×Int)}{a b:ak}(h:cC (nK at_) a b<0):¬cC (nK at_) b a<0:=by
 have:=Du (nK at_ a) (nK at_ b) rfl
 unfold cC at *
 rw[this];omega
def SK(at_:List (Int×Int))(a b c:ak)(j:cC (nK at_) a b<0)(k:cC (nK at_) b c<0):cC (nK at_) a c<0:=Dw (nK at_ a) (nK at_ b) (nK at_ c) rfl rfl j k
def kC(at_:List (Int×Int))(z:List ak)(x:ak):List ak:=Vn (λy=>decide (cC (nK at_) x y<0)) z x
theorem NN{at_:List (Int×Int)}{l m:List ak}(k:m.Pairwise λa b=>¬cC (nK at_) b a<0)(j:m.Perm l)(B:(l.map ak.id).Nodup):m=o9 at_ l:=xI k (mK (CN at_) l) (j.trans (iM _ l).symm) ((EV B).perm j.symm)
def tC(at_:List (Int×Int))(l:List ak)(k:Nat):Bool:=match l[k]?,l[k+1]? with
 |some a,some b=>!decide (cC (nK at_) a b<0)
 |_,_=>false
theorem UL{at_:List (Int×Int)}{l:List ak}(G:(l.map ak.id).Nodup):(List.range (l.length-1)).any (tC at_ l)=true↔¬o9 at_ l=l:=by
 constructor
 ·intro h M
  obtain⟨k,N,B⟩:=h5.1 h
  have N:=hN.1 N
  have F:l[k]?=some l[k]:=c3 (by omega)
  have j:l[k+1]?=some l[k+1]:=c3 (by omega)
  unfold tC at B
  rw[F,j]at B
  simp only[gL,hL]at B
  have O:=mK (CN at_) l
  rw[show gw (cC (nK at_)) l=l from M]at O
  have U:=(pb.1 O) k (k+1) (by omega) (by omega) (by omega)
  have Y:=EV (at_:=at_) G _ (h6 (h:=(by omega:k<l.length))) _ (h6 (h:=(by omega:k+1<l.length))) B U
  have ab:l.Nodup:=List.Pairwise.of_map ak.id (λa b Z=>λe=>Z (by rw[e])) G
  have:=(pb.1 ab) k (k+1) (by omega) (by omega) (by omega)
  exact this Y
 intro M
 refine hf λad=>M ?_
 symm
 refine NN ?_ (List.Perm.refl _) G
 have:l.Pairwise λa b=>cC (nK at_) a b<0:=CP (SK at_) λk a b F j=>by
  refine hf λaa=>ad (h5.2 ⟨k,hN.2 ?_,?_⟩)
  ·have:=bG j;omega
  unfold tC;rw[F,j];simp[aa]
 exact this.imp λh=>SI h
def V1{ρ:Type}{step:Int->Option (Int⊕(Unit⊕ρ))}(n:Nat)(p:Nat->Bool)(r:ρ)(h:∀(k:Nat),k<n->step ((k:Int)+1)=some (if p k=true then .inr (.inr r)else .inl ((k:Int)+1+1)))(F:step ((n:Int)+1)=some (.inr (.inl ()))) :
  aB step 1=some (if(List.range n).any p=true then .inr r else .inl ()):=by
 have:=dU (σ:=Unit) (st:=λ_ k=>k+1) (step:=step) (l:=List.range n) (λ_ x=>if p x=true then .inr (.inr r)else .inl ()) (λ_=>.inl ()) (λ_ _=>True) (λk x z j _=>by
  have G:=bG j
  rw[ie (by simpa using G)]at j
  injection j with j;subst j
  rw[h k (by simpa using G)];split<;>rename_i B<;>simp[B]) (λ_ _ _ _ _ _ _=>trivial) (λz _=>by rw[xd];exact F) () trivial
 rw[show(0:Int)+1=1 from rfl]at this
 rw[this]
 congr 1
 clear this h F
 generalize List.range n=l
 induction l with
 |nil=>rfl
 |cons x l M=>
  simp only[ed,List.any_cons]
  by_cases B:p x=true
  ·simp[B]
  simp only[B,q9]
  simpa using M
def gv(i:bZ):Prop:=(-21<=i.steps/\i.steps<=21)/\(-36<=i.cw/\i.cw<=36)/\(-12<=7*i.cw-12*i.steps/\7*i.cw-12*i.steps<=12)
instance (i:bZ):Decidable (gv i):=inferInstanceAs (Decidable (_/\_/\_))
def eP(p:aC):Prop:=(1<=p.id/\p.id<=1000000)/\(0<=p.nQ/\p.nQ<=99)/\(0<=p.of/\p.of<=1000000)/\(-2<=p.bm/\p.bm<=2)/\(1<=p.eA/\p.eA<=40)/\gv p.shift/\cd p.low/\cd p.high/\p.of≠p.id/\(p.of=0->p.bm=0)/\num p.low<=num p.high
instance (p:aC):Decidable (eP p):=inferInstanceAs (Decidable (_/\_/\_/\_/\_/\_/\_/\_/\_/\_/\_))
def dK(i:bZ):Prop:=(-70<=i.steps/\i.steps<=70)/\(-120<=i.cw/\i.cw<=120)
instance (i:bZ):Decidable (dK i):=inferInstanceAs (Decidable (_/\_))
def XS(n lo hi:Int):An (n,lo,hi)=some (decide (lo<=n/\n<=hi)):=l7 n lo hi
def XR(i:bZ):Am i=some (if dK i then(7*i.cw-12*i.steps,0)else(0,1)):=by
 unfold Am Fj
 simp only[XS,af,iB]
 by_cases h:dK i
 ·have j:=h
  unfold dK at j
  rw[if_pos h,aj (by simp;omega),aE (by omega),aE (by omega),aE (by omega)]
 have j:=h
 unfold dK at j
 rw[if_neg h,an (by simp;omega)]
def D6(i:bZ):uk i=some (if dK i then(7*i.cw-12*i.steps,0)else(0,1)):=by
 unfold uk Fc oS rX j8
 simp only[Ak,af,iB]
 by_cases h:dK i
 ·have j:=h
  unfold dK at j
  rw[if_pos h,aj (by simp;omega),aE (by omega),aE (by omega),af]
  rw[af,aj (by simp),aE (by omega),aE (by omega),aE (by omega)]
 have j:=h
 unfold dK at j
 rw[if_neg h,an (by simp;omega),af]
 dsimp only
 rw[af,an (by simp)]
def ZC(i:bZ):r7 i=some (decide (gv i)):=by
 unfold r7
 rw[D6,af]
 by_cases h:dK i
 ·rw[if_pos h]
  dsimp only
  simp only[xL,af,iB]
  congr 1
  unfold gv
  rw[hC]
  simp[mo]
 rw[if_neg h]
 dsimp only
 rw[aj (by simp),af]
 congr 1;symm
 exact dd λj=>h (by unfold gv at j;unfold dK;omega)
def X1(i:bZ):Av i=some (decide (gv i)):=by
 unfold Av
 rw[XR,af]
 by_cases h:dK i
 ·rw[if_pos h]
  dsimp only
  simp only[Bp,af,iB]
  congr 1
  unfold gv
  rw[hC]
  simp[mo]
 rw[if_neg h]
 dsimp only
 rw[aj (by simp),af]
 congr 1;symm
 exact dd λj=>h (by unfold gv at j;unfold dK;omega)
def uE(p:aC):Prop:=(1<=p.id/\p.id<=1000000)/\(0<=p.nQ/\p.nQ<=99)/\(0<=p.of/\p.of<=1000000)/\(-2<=p.bm/\p.bm<=2)/\(1<=p.eA/\p.eA<=40)
instance (p:aC):Decidable (uE p):=inferInstanceAs (Decidable (_/\_/\_/\_/\_))
def qm(p:aC):Prop:=p.of≠p.id/\(p.of=0->p.bm=0)
instance (p:aC):Decidable (qm p):=inferInstanceAs (Decidable (_/\_))
def Bd(p:aC):Prop:=cd p.low/\cd p.high/\num p.low<=num p.high
instance (p:aC):Decidable (Bd p):=inferInstanceAs (Decidable (_/\_/\_))
def lT(p:aC):eP p↔uE p/\qm p/\gv p.shift/\Bd p:=by
 unfold eP uE qm Bd
 constructor
 ·rintro⟨j,F,G,M,N,O,U,Y,Z,k,B⟩;exact⟨⟨j,F,G,M,N⟩,⟨Z,k⟩,O,U,Y,B⟩
 rintro⟨⟨j,F,G,M,N⟩,⟨Z,k⟩,O,U,Y,B⟩;exact⟨j,F,G,M,N,O,U,Y,Z,k,B⟩
def Za(p:aC):(aa (uB p.id) λj=>ab j (aa (iY (p.nQ,(0,99))) λk=>ab k (aa (iY (p.of,(0,1000000))) λB=>ab B (aa (iY (p.bm,((-2),2))) λF=>ab F (aa (iY (p.eA,(1,40))) λG=>some G) (some false)) (some false)) (some false)) (some false))=some (decide (uE p)):=by
 simp only[NA,xL,af,iB]
 refine kg ?_
 unfold uE
 simp only[db,ea]
def Zb(p:aC)(b:Bool):(ab (!b) (some true) (ab (aF p.of p.id) (some true) (ab (aF p.of 0) (ab (!(aF p.bm 0)) (some true) (aa (r7 p.shift) λF=>some (!F))) (aa (r7 p.shift) λF=>some (!F)))))=some (!(b&&decide (qm p)&&decide (gv p.shift))):=by
 rw[ZC]
 simp only[af]
 generalize decide (gv p.shift)=s
 cases b
 ·rfl
 by_cases j:p.of=p.id
 ·have:¬qm p:=λh=>h.1 j
  rw[dd this,aj (c:= !true) rfl,an (by simp[j])];rfl
 rw[aj (c:= !true) rfl,aj (dd j)]
 by_cases k:p.of=0
 ·by_cases B:p.bm=0
  ·have:qm p:=⟨j,λ_=>B⟩
   rw[da this,an (da k),aj (by simp[B])];simp
  have:¬qm p:=λh=>B (h.2 k)
  rw[dd this,an (da k),an (by simp[B])];simp
 have:qm p:=⟨j,λh=>absurd h k⟩
 rw[da this,aj (dd k)];simp
def Zc(p:aC):(aa (iI p.low) λB=>ab B (aa (iI p.high) λF=>ab F (aa (nG p.low) λG=>aa (nG p.high) λM=>some (leI G M)) (some false)) (some false))=some (decide (Bd p)):=by
 simp only[mA,af]
 by_cases j:cd p.low
 ·rw[an (da j)]
  by_cases k:cd p.high
  ·rw[an (da k),xH j,xH k,af,af]
   congr 1;rw[j0];exact⟨λh=>⟨j,k,h⟩,λh=>h.2.2⟩
  rw[aj (dd k)];congr 1;symm;exact dd λh=>k h.2.1
 rw[aj (dd j)];congr 1;symm;exact dd λh=>j h.1
def Zd(p:aC):AU p=some (decide (eP p)):=by
 unfold AU
 rw[Za,af,Zb,af,Zc,af,Vb,j0.2 (lT p)]
 refine kg ?_
 simp only[Bool.not_not,db,ea,mo]
def XZ(p:aC):As p=some (decide (eP p)):=by
 unfold As
 simp only[Bp,X1,Mp,af,tH]
 by_cases N:uE p/\gv p.shift/\cd p.low/\cd p.high
 ·have Z:=N
  obtain⟨⟨O,ab,U,k,ad⟩,Y,B,F⟩:=N
  rw[aj (by simp only[O,ab,U,k,ad,da Y,da B,da F,and_self,K2];rfl)]
  rw[uJ B,uJ F]
  simp only[af]
  by_cases j:p.of=p.id
  ·rw[aj (by simp[j]),af]
   congr 1;symm;exact dd λh=>((lT p).1 h).2.1.1 j
  rw[an (by simp[j])]
  by_cases G:p.of=0
  ·rw[aj (by simp[G])]
   by_cases M:p.bm=0
   ·rw[an (da M),af]
    congr 1;rw[j0]
    exact⟨λh=>(lT p).2 ⟨Z.1,⟨j,λ_=>M⟩,Y,B,F,h⟩,λh=>((lT p).1 h).2.2.2.2.2⟩
   rw[aj (dd M),af]
   congr 1;symm;exact dd λh=>M (((lT p).1 h).2.1.2 G)
  rw[an (by simp[G]),af]
  congr 1;rw[j0]
  exact⟨λh=>(lT p).2 ⟨Z.1,⟨j,λh=>absurd h G⟩,Y,B,F,h⟩,λh=>((lT p).1 h).2.2.2.2.2⟩
 rw[an (by
  refine hf λaa=>N ?_
  simp only[nh,k4,ta]at aa
  obtain⟨ae,ag,ah,ai,ak,al,ao,aq⟩:=aa
  exact⟨⟨hA ae,hA ag,hA ah,hA ai,hA ak⟩,hA al,hA ao,hA aq⟩)]
 congr 1;symm;exact dd λh=>N (by
  obtain⟨O,_,U,k⟩:=(lT p).1 h
  exact⟨O,U,k.1,k.2.1⟩)
end Go.Proofs.YthhlipkkjippfaaGreatDoor
namespace Go.Proofs.YthhlipkkjippfaaGreatDoor
open Go Go.ag Go.Sy
attribute [local instance] ch cF
def oH(l:List aC)(p:aC):Bool:= !decide (p.of=0) && !(l.any λq=>decide (q.id=p.of)&&decide (q.of=0))
def kS(l:List aC):Prop:=(1<=l.length/\l.length<=60)/\(∀p∈l,eP p)/\(l.map aC.id).Nodup/\(l.any (oH l))=false
instance (l:List aC):Decidable (kS l):=inferInstanceAs (Decidable (_/\_/\_/\_))
def Dy{α:Type}(id:α->Int):∀(l:List α)(z:List (Int×α)),(∀k∈eC z,k∉l.map id)->(l.map id).Nodup->l.foldl (λm x=>aM m (id x) x) z=z++jt id l
 | [],z,_,_=>by simp[jt]
 |x::l,z,h,B=>by
  simp only[fa,h9,fb,not_or]at h B
  have F:id x∉eC z:=λF=>(h _ F).1 rfl
  rw[List.foldl_cons,Lk x F,Dy id l _ (λk j=>?_) B.2]
  ·simp[jt]
  simp only[eC,q7,hP,fa,abr,mv]at j
  rcases j with j|rfl
  ·exact(h k j).2
  exact B.1
def J6{α:Type}(id:α->Int):∀(l:List α)(z:List (Int×α)),(l.foldl (λm x=>aM m (id x) x) z).length<=z.length+l.length/\((l.foldl (λm x=>aM m (id x) x) z).length=z.length+l.length->(l.map id).Nodup/\∀k∈eC z,k∉l.map id)
 | [],z=>by simp
 |x::l,z=>by
  obtain⟨U,M⟩:=J6 id l (aM z (id x) x)
  have G:=zA (id x) x z
  rw[List.foldl_cons,List.length_cons]
  by_cases B:dG z (id x)=true
  ·rw[if_pos B]at G
   exact⟨by omega,λh=>by omega⟩
  rw[if_neg B]at G
  refine⟨by omega,λh=>?_⟩
  obtain⟨N,F⟩:=M (by omega)
  have O:id x∉eC z:=λj=>B ((wA _ _).2 j)
  simp only[fa,h9,fb,not_or]
  refine⟨⟨F (id x) ((zy _ _ _ _).2 (.inl rfl)),N⟩,λk j=>⟨λe=>O (e▸j),F k ((zy _ _ _ _).2 (.inr j))⟩⟩
def ID{α:Type}(id:α->Int)(l:List α)(n:Int):dG (jt id l) n=l.any λx=>decide (id x=n):=by
 rw[hC,wA,h5]
 unfold jt eC
 simp only[j4,gj,Function.comp,ea]
def CC{α:Type}(id:α->Int)(z:α):∀(l:List α)(n:Int),aq (jt id l) n z=(l.find? λx=>decide (id x=n)).getD z
 | [],n=>rfl
 |x::l,n=>by
  have j:=CC id z l n
  unfold jt at *
  rw[fa,rG,List.find?_cons]
  by_cases h:id x=n
  ·subst h;simp
  rw[if_neg h,j,dd h]
theorem ri{α:Type}{id:α->Int}{l:List α}(G:(l.map id).Nodup){x:α}(k:x∈l):(l.find? λy=>decide (id y=id x))=some x:=by
 cases j:l.find? λy=>decide (id y=id x)with
 |none=>
  have:=p5.1 j x k
  simp at this
 |some y=>
  have B:=gW j
  have F:=j5 j
  rw[oA G B k (by simpa using F)]
def V4{l:List aC}(M:(l.map aC.id).Nodup)(p:aC):AS (p,jt aC.id l)=some (oH l p):=by
 unfold AS oH
 dsimp only
 rw[ID,CC]
 by_cases k:p.of=0
 ·rw[aj (by simp[k]),af];simp[k]
 rw[an (by simp[k]),dd k]
 cases B:l.any λx=>decide (x.id=p.of)
 ·rw[an (c:= !false) rfl,af]
  have:(l.any λq=>decide (q.id=p.of)&&decide (q.of=0))=false:=by
   rw[k7]at B⊢
   intro x O
   have:=B x O
   simp at this
   simp[this]
  rw[this];rfl
 rw[aj (c:= !true) rfl,af]
 obtain⟨q,F,j⟩:=h5.1 B
 have j:q.id=p.of:=by simpa using j
 have G:=ri M F
 rw[j]at G
 rw[G]
 congr 1
 have:(l.any λq=>decide (q.id=p.of)&&decide (q.of=0))=decide (q.of=0):=by
  rw[hC,h5]
  constructor
  ·rintro⟨r,N,h⟩
   simp only[db,ea]at h
   rw[oA M F N (by rw[j,h.1])];simpa using h.2
  intro h;exact⟨q,F,by simp[j];simpa using h⟩
 rw[this];rfl
def SZ{l:List aC}(G:l.length<=1000000)(F:(l.map aC.id).Nodup):A3 (l,jt aC.id l)=some (l.any (oH l)):=by
 unfold A3
 dsimp only
 have:A8 (l,jt aC.id l)=some (ix l (oH l)):=by
  unfold A8
  dsimp only
  rw[nw (l:=l) (oH l) (λk x j=>by
   have B:=bG j
   rw[an (by simpa using B),bh (aW j),V4 F,af]
   cases oH l x
   ·rw[aj rfl,aE (by omega)];simp
   rw[an rfl];simp) (by rw[aj (by simp)])]
  exact rn l _
 rw[this,af]
 exact dn some (DT _ _)
def vU{α σ ρ:Type}(ok:α->Bool)(g:σ->α->σ)(r:ρ):∀(l:List α)(z:σ),ed (λz x=>if ok x=true then .inl (g z x)else(.inr (.inr r):σ⊕(σ⊕ρ))) (λz=>.inl z) l z=if l.all ok=true then .inl (l.foldl g z)else .inr r
 | [],z=>rfl
 |x::l,z=>by
  have j:=vU ok g r l (g z x)
  simp only[ed]
  by_cases h:ok x=true
  ·rw[if_pos h]
   dsimp only
   rw[j];simp[h]
  rw[if_neg h];simp[h]
def YQ{l:List aC}:AR l=some (decide (kS l)):=by
 unfold AR
 rw[xL,af]
 by_cases G:1<=l.length/\l.length<=60
 ·rw[aj (by rw[da (by omega)];rfl)]
  rw[dU (σ:=List (Int×aC)) (st:=λz k=>(k,z)) (l:=l) (λz x=>if decide (eP x)=true then .inl (aM z x.id x)else .inr (.inr false)) (λz=>.inl z) (λ_ _=>True) (λk x z M _=>by
   have U:=bG M
   dsimp only
   rw[an (by simpa using U),bh (aW M),Zd,af]
   by_cases h:eP x
   ·rw[aj (by simp[h]),aE (by omega)];simp[h]
   rw[an (by simp[h])];simp[h]) (λ_ _ _ _ _ _ _=>trivial) (λz _=>by dsimp only;rw[aj (by simp)]) [] trivial,vU]
  by_cases B:(l.all λx=>decide (eP x))=true
  ·rw[if_pos B,fk]
   have O:∀p∈l,eP p:=λp F=>by simpa using dT.1 B p F
   obtain⟨Y,N⟩:=J6 aC.id l []
   by_cases j:(l.map aC.id).Nodup
   ·rw[Dy aC.id l [] (by simp) j,List.nil_append,an (by simp[jt]),SZ (by omega) j,af,af]
    congr 1
    rw[hC,decide_eq_true_iff]
    simp only[gL]
    exact⟨λh=>⟨G,O,j,h⟩,λh=>h.2.2.2⟩
   rw[aj (by
    refine dd λh=>j (N ?_).1
    simp;omega),af]
   congr 1;symm;exact dd λh=>j h.2.2.1
  rw[if_neg B,fQ]
  congr 1;symm
  exact dd λh=>B (dT.2 λp F=>by simpa using h.2.1 p F)
 rw[an (by rw[dd (by omega)];rfl)]
 congr 1;symm;exact dd λh=>G h.1
theorem Mv{l:List aC}(F:l.length<=1000000)(id:Int):uv (l,id)=some (ix l λp=>decide (p.id=id)):=by
 unfold uv
 dsimp only
 rw[nw (l:=l) (λb=>decide (b.id=id)) (λk x j=>by
  have B:=bG j
  rw[an (by simpa using B),bh (aW j)]
  by_cases h:x.id=id
  ·rw[an (by simp[h])];simp[h]
  rw[aj (by simp[h]),aE (by omega)];simp[h]) (by rw[aj (by simp)])]
 exact rn l _
def KB{α:Type}(p:α->Bool):∀(l:List α)(k:Nat)(x:α),l[k]?=some x->p x=true->(ix l p=(k:Int)↔((l.take k).any p)=false)
 | [],k,x,h,_=>by simp at h
 |y::l,0,x,h,j=>by
  simp at h;subst h
  simp[ix,p4,j]
 |y::l,k+1,x,h,j=>by
  have B:=KB p l k x (by simpa using h) j
  rw[List.take_succ_cons,List.any_cons]
  unfold ix at B⊢
  rw[p4]
  cases F:p y
  ·simp only[q9,hQ,h8]
   rw[<-B]
   cases l.findIdx? p with
   |none=>simp only[Option.map_none];constructor<;>intro h<;>omega
   |some i=>simp only[Option.map_some];constructor<;>intro h<;>omega
  simp;omega
def ua(l:List aC)(p:aC):Bool:= !decide (p.of=0)&&(match l.find? λq=>decide (q.id=p.of)with|some q=>!decide (q.of=0)|none=>true)
def KZ{l:List aC}(F:(l.map aC.id).Nodup)(p:aC):ua l p=oH l p:=by
 unfold ua oH
 congr 1
 cases j:l.find? λq=>decide (q.id=p.of)with
 |none=>
  have:(l.any λq=>decide (q.id=p.of)&&decide (q.of=0))=false:=by
   rw[k7]
   intro x M
   have:=p5.1 j x M
   simp at this;simp[this]
  rw[this];rfl
 |some q=>
  have k:=gW j
  have B:q.id=p.of:=by simpa using j5 j
  have:(l.any λq=>decide (q.id=p.of)&&decide (q.of=0))=decide (q.of=0):=by
   rw[hC,h5]
   constructor
   ·rintro⟨r,G,h⟩
    simp only[db,ea]at h
    rw[oA F k G (by rw[B,h.1])];simpa using h.2
   intro h;exact⟨q,k,by simp[B];simpa using h⟩
  rw[this]
def YR{α:Type}{q:α->Bool}{r:α->α->Bool}{l:List α}{k:Nat}{x:α}(h:l[k]?=some x):mH q r l k=(q x||(l.take k).any λy=>r y x):=by unfold mH;rw[h]
def X0{l:List aC}:Au l=some (decide (kS l)):=by
 unfold Au
 by_cases ah:l.length<1
 ·have:¬kS l:=λh=>by have:=h.1.1;omega
  rw[an (da (by omega)),af,an rfl];simp[this]
 rw[aj (dd (by omega)),af]
 by_cases ai:60<l.length
 ·have:¬kS l:=λh=>by have:=h.1.2;omega
  rw[an (da (by omega))];simp[this]
 rw[aj (dd (by omega)),pV l.length (mH (λp=>!decide (eP p)||ua l p) (λx y=>decide (x.id=y.id)) l) false (λk ad=>by
  have O:l[k]?=some l[k]:=c3 ad
  generalize l[k]=x at O
  rw[an (by simpa using ad),bh (aW O),XZ,af]
  simp only[bh (aW O),Mv (l:=l) (by omega),af]
  rw[YR O]
  rw[tH,af]
  have ab:=KB (λp:aC=>decide (p.id=x.id)) l k x O (by simp)
  by_cases B:eP x
  ·by_cases N:((l.take k).any λp=>decide (p.id=x.id))=false
   ·rw[aj (by rw[ab.2 N];simp[B]),N]
    have aa:ua l x=(!decide (x.of=0)&&(match l.find? λq=>decide (q.id=x.of)with|some q=>!decide (q.of=0)|none=>true)):=rfl
    by_cases M:x.of=0
    ·rw[an (da M),fk,aE (by omega),aa];simp[M,B]
    rw[aj (dd M)]
    rcases ru l λq=>decide (q.id=x.of)with ⟨G,F⟩| ⟨j,q,G,F,Z,ag⟩
    ·rw[F,an (by simp),fQ,aa,G];simp[M]
    rw[Z,aj (dd (by omega)),bh (aW G),aa,F]
    by_cases Y:q.of=0
    ·rw[aj (by simp[Y]),fk,aE (by omega)];simp[Y,B]
    rw[an (by simp[Y]),fQ];simp[Y,M]
   have ae:¬(ix l λp:aC=>decide (p.id=x.id))=(k:Int):=λh=>N (ab.1 h)
   rw[an (by simp[ae]),fQ,if_pos]
   rw[Bool.not_eq_false]at N
   rw[N];simp
  rw[an (by simp[B]),fQ,if_pos (by simp[B])]) (by rw[aj (by simp)])]
 have key:=Gu (λp=>!decide (eP p)||ua l p) (λx y=>decide (x.id=y.id)) l
 rw[F6 aC.id]at key
 have e:((∀p∈l,(!decide (eP p)||ua l p)=false)/\(l.map aC.id).Nodup)↔kS l:=by
  constructor
  ·rintro⟨G,F⟩
   refine⟨by omega,λp B=>?_,F,?_⟩
   ·have:=G p B;simp at this;exact this.1
   rw[k7];intro p B
   have:=G p B;rw[KZ F]at this;simp at this;simp[this.2]
  rintro⟨_,G,F,Z⟩
  refine⟨λp B=>?_,F⟩
  rw[KZ F]
  have:=k7.1 Z p B
  simp[G p B];simpa using this
 rw[e]at key
 by_cases U:kS l
 ·rw[if_neg (λh=>key.1 h U),fk];simp[U]
 rw[if_pos (key.2 U),fQ];simp[U]
end Go.Proofs.YthhlipkkjippfaaGreatDoor
namespace Go.Proofs.YthhlipkkjippfaaGreatDoor
open Go Go.ag Go.Sy
attribute [local instance] ch cF
def fI(l:List aC)(n:ak):Option aC:=(l.filter λp=>decide (p.of=0)).find? λp=>decide (p.id=n.part)
def nf(l:List aC)(n:ak):Bool:=match fI l n with|some p=>!decide (num p.low<=num n.aU/\num n.aU<=num p.high)|none=>false
def pj(l:List aC)(ns:List ak):Int:=if(ns.any λn=>(fI l n).isNone)=true then 22 else if ns.any (nf l)=true then 20 else 0
def Xj{l:List aC}{n:ak}{p:aC}(h:fI l n=some p):p∈l/\p.of=0/\p.id=n.part:=by
 unfold fI at h
 have j:=gW h
 have k:=j5 h
 rw[hI]at j
 exact⟨j.1,by simpa using j.2,by simpa using k⟩
def Xh{l:List aC}(N:(l.map aC.id).Nodup)(n:ak):fI l n=match l.find? λp=>decide (p.id=n.part)with|some p=>if p.of=0 then some p else none|none=>none:=by
 cases k:l.find? λp=>decide (p.id=n.part)with
 |none=>
  unfold fI
  rw[p5]
  intro x B
  exact p5.1 k x (hI.1 B).1
 |some p=>
  have G:=gW k
  have M:p.id=n.part:=by simpa using j5 k
  dsimp only
  by_cases j:p.of=0
  ·rw[if_pos j]
   unfold fI
   have:=ri (id:=aC.id) (l:=l.filter λp=>decide (p.of=0)) (N.sublist (lA.map _)) (x:=p) (hI.2 ⟨G,by simp[j]⟩)
   rw[M]at this;exact this
  rw[if_neg j]
  unfold fI
  rw[p5]
  intro x B
  obtain⟨U,F⟩:=hI.1 B
  simp only[ea]at F⊢
  intro O
  have:=oA N U G (by rw[O,M])
  rw[this]at F;exact j F
def ZI(l:List aC)(n:ak):AW (n,jt aC.id (l.filter λp=>decide (p.of=0)))=some (fI l n).isNone:=by
 unfold AW fI
 dsimp only
 rw[ID,JJ]
 cases List.find? _ _<;>rfl
def Ui{l:List aC}{n:ak}{p:aC}(h:fI l n=some p)(k:cd p.low)(B:cd p.high)(F:cd n.aU):AY (n,jt aC.id (l.filter λp=>decide (p.of=0)))=some (nf l n):=by
 unfold AY nf
 dsimp only
 rw[CC]
 have j:=h
 unfold fI at j
 rw[j,h]
 dsimp only[Option.getD]
 rw[xH F,xH k,xH B,af,af,af,xL,af]
def ZT{l:List aC}(ae:l.length<=1000000)(aa:(l.map aC.id).Nodup)(O:∀p∈l,cd p.low/\cd p.high){ns:List ak}(ag:ns.length<=1000000)(ab:∀n∈ns,cd n.aU):w9 (l,ns)=some (pj l ns):=by
 unfold w9
 dsimp only
 rw[dU (σ:=List (Int×aC)) (st:=λz k=>(k,z)) (l:=l) (λz x=>.inl (if decide (x.of=0)=true then aM z x.id x else z)) (λz=>z) (λ_ _=>True) (λk x z j _=>by
  have B:=bG j
  dsimp only
  rw[an (by simpa using B),bh (aW j)]
  by_cases h:x.of=0
  ·rw[an (da h),af,aE (by omega)];simp[h]
  ·rw[aj (dd h),af,aE (by omega)];simp[h]) (λ_ _ _ _ _ _ _=>trivial) (λz _=>by dsimp only;rw[aj (by simp)]) [] trivial,
  fG (λ(z:List (Int×aC))(x:aC)=>if decide (x.of=0)=true then aM z x.id x else z) _ _ (λ_ _ _=>rfl),af,<-List.foldl_filter (p:=λx:aC=>decide (x.of=0)) (f:=λ(z:List (Int×aC))(x:aC)=>aM z x.id x),
  Dy aC.id _ [] (by simp) (aa.sublist (lA.map _)),List.nil_append]
 unfold pj
 have Y:AZ (ns,jt aC.id (l.filter λp=>decide (p.of=0)))=some (ns.any λn=>(fI l n).isNone):=by
  unfold AZ FE
  exact ma (l:=ns) (λn=>(fI l n).isNone) (λk x j=>by
   have B:=bG j
   rw[an (by simpa using B),bh (aW j),ZI,af]
   cases (fI l x).isNone
   ·rw[aj rfl,aE (by omega)];simp
   rw[an rfl];simp) (by rw[aj (by simp)])
 rw[Y,af]
 by_cases F:(ns.any λn=>(fI l n).isNone)=true
 ·rw[an F,if_pos F]
 rw[aj (by simpa using F),if_neg F]
 have Z:A2 (ns,jt aC.id (l.filter λp=>decide (p.of=0)))=some (ns.any (nf l)):=by
  unfold A2 FF
  exact ma (l:=ns) (nf l) (λk x j=>by
   have B:=bG j
   have N:=dk j
   have ad:∃p,fI l x=some p:=by
    cases M:fI l x with
    |none=>exact absurd (h5.2 ⟨x,N,by simp[M]⟩) F
    |some p=>exact⟨p,rfl⟩
   obtain⟨p,M⟩:=ad
   obtain⟨U,_,_⟩:=Xj M
   rw[an (by simpa using B),bh (aW j),Ui M (O p U).1 (O p U).2 (ab x N),af]
   cases nf l x
   ·rw[aj rfl,aE (by omega)];simp
   rw[an rfl];simp) (by rw[aj (by simp)])
 rw[Z,af]
 by_cases G:ns.any (nf l)=true
 ·rw[an G,if_pos G]
 rw[aj (by simpa using G),if_neg G]
def Mu{l:List aC}(M:l.length<=1000000)(N:(l.map aC.id).Nodup)(n:ak):(fI l n=none/\ur (l,n)=some (-1))\/∃(k:Nat)(p:aC),l[k]?=some p/\fI l n=some p/\ur (l,n)=some (k:Int):=by
 unfold ur
 dsimp only
 rw[Mv M,af,Xh N]
 rcases ru l λp=>decide (p.id=n.part)with ⟨B,F⟩| ⟨k,p,B,F,G,O⟩
 ·left;rw[B,F,an (by simp)];exact⟨rfl,rfl⟩
 rw[F,G,aj (dd (by omega)),bh (aW B)]
 dsimp only
 by_cases j:p.of=0
 ·right;rw[if_pos j,aj (by simp[j])];exact⟨k,p,B,rfl,rfl⟩
 left;rw[if_neg j,an (by simp[j])];exact⟨rfl,rfl⟩
def X2{l:List aC}(Z:l.length<=1000000)(ab:(l.map aC.id).Nodup)(ae:∀p∈l,cd p.low/\cd p.high){ns:List ak}(ah:ns.length<=1000000)(ag:∀n∈ns,cd n.aU):w3 (l,ns)=some (pj l ns):=by
 unfold w3 pj
 dsimp only
 rw[nv (l:=ns) (λn=>(fI l n).isNone) 22 (λk x F=>by
  have Y:=bG F
  rw[an (by simpa using Y),bh (aW F)]
  rcases Mu Z ab x with ⟨B,G⟩| ⟨j,p,B,G,U⟩
  ·rw[G,af,an (by simp),B];simp
  rw[U,af,aj (dd (by omega)),G,aE (by omega)];simp) (by rw[aj (by simp)])]
 by_cases M:(ns.any λn=>(fI l n).isNone)=true
 ·rw[if_pos M,if_pos M,fQ]
 rw[if_neg M,if_neg M,fk]
 rw[nv (l:=ns) (nf l) 20 (λk x F=>by
  have Y:=bG F
  have aa:=dk F
  rw[an (by simpa using Y),bh (aW F)]
  rcases Mu Z ab x with ⟨B,G⟩| ⟨j,p,B,G,U⟩
  ·exact absurd (h5.2 ⟨x,aa,by simp[B]⟩) M
  have ad:=ae p (dk B)
  rw[U,af,bh (aW B),bh (aW F)]
  unfold Fk nf
  dsimp only
  rw[uJ (ag x aa),uJ ad.1,uJ ad.2,af,af,af,Bp,af,af,G]
  dsimp only
  by_cases N:num p.low<=num x.aU/\num x.aU<=num p.high
  ·rw[aj (by rw[da N];rfl),aE (by omega),if_neg (by rw[da N];simp)];rfl
  rw[an (by rw[dd N];rfl),if_pos (by rw[dd N];rfl)]) (by rw[aj (by simp)])]
 by_cases O:ns.any (nf l)=true
 ·rw[if_pos O,if_pos O,fQ]
 rw[if_neg O,if_neg O,fk]
def Iv(a b:Rat):CA a b=decide (a=b):=by
 obtain⟨j,k⟩:=a
 obtain⟨b0,B⟩:=b
 rw[hC,ea]
 show di [.int .i64 j,.int .i64 k] [.int .i64 b0,.int .i64 B]=true↔_
 simp[di,gz,Rat.mk.injEq,mo]
def R3(a b:bZ):Is a b=decide (a=b):=by
 obtain⟨j,k⟩:=a
 obtain⟨b0,B⟩:=b
 rw[hC,ea]
 show di [.int .i64 j,.int .i64 k] [.int .i64 b0,.int .i64 B]=true↔_
 simp[di,gz,bZ.mk.injEq,mo]
def R4(a b:ak):Iu a b=decide (a=b):=by
 obtain⟨j,k,G,M,N,⟨O,U⟩,⟨Y,Z⟩,⟨aa,B,F⟩⟩:=a
 obtain⟨b0,ab,af,ag,ah,⟨ai,aj⟩,⟨al,an⟩,⟨ao,ad,ae⟩⟩:=b
 rw[hC,ea]
 show di [.int .i64 j,.int .i64 k,.int .i64 G,.int .i64 M,.int .i64 N,.int .i64 O,.int .i64 U,.int .i64 Y,.int .i64 Z,.int .i64 aa,.int .i64 B,.int .i64 F] [.int .i64 b0,.int .i64 ab,.int .i64 af,.int .i64 ag,.int .i64 ah,.int .i64 ai,.int .i64 aj,.int .i64 al,.int .i64 an,.int .i64 ao,.int .i64 ad,.int .i64 ae]=true↔_
 simp[di,gz,ak.mk.injEq,aV.mk.injEq,Rat.mk.injEq,mo]
def R6(a b:aw):sX a b=decide (a=b):=by
 obtain⟨j,k,B,⟨F,G⟩,⟨M,N⟩,⟨O,U,Y⟩⟩:=a
 obtain⟨b0,Z,aa,⟨ab,ad⟩,⟨ae,af⟩,⟨ag,ah,ai⟩⟩:=b
 rw[hC,ea]
 show di [.int .i64 j,.int .i64 k,.int .i64 B,.int .i64 F,.int .i64 G,.int .i64 M,.int .i64 N,.int .i64 O,.int .i64 U,.int .i64 Y] [.int .i64 b0,.int .i64 Z,.int .i64 aa,.int .i64 ab,.int .i64 ad,.int .i64 ae,.int .i64 af,.int .i64 ag,.int .i64 ah,.int .i64 ai]=true↔_
 simp[di,gz,aV.mk.injEq,Rat.mk.injEq,aw.mk.injEq,mo]
def Zk{a b:List ak}(j:a.length<=1048576):FB (a,b)=some (decide (a=b)):=YP R4 j
end Go.Proofs.YthhlipkkjippfaaGreatDoor
namespace Go.Proofs.YthhlipkkjippfaaGreatDoor
open Go Go.ag Go.Sy
attribute [local instance] ch cF
theorem Vd{β:Type}(a b:Option β):ab (!true) a b=b:=rfl
theorem Vc{β:Type}(a b:Option β):ab (!false) a b=a:=rfl
def cU(s:bI):Prop:=(1<=s.version/\s.version<=1000000)/\ir s.bars/\kS s.parts/\iG s.bars s.aK/\pj s.parts s.aK=0/\o9 (ef s.bars) s.aK=s.aK
noncomputable instance (s:bI):Decidable (cU s):=inferInstanceAs (Decidable (_/\_/\_/\_/\_/\_))
def Mc{l:List aC}(h:kS l):∀p∈l,cd p.low/\cd p.high:=λp j=>⟨(h.2.1 p j).2.2.2.2.2.2.1,(h.2.1 p j).2.2.2.2.2.2.2.1⟩
def LD{bars:List aT}{l:List ak}(h:∀n∈l,gn bars n):∀n∈l,cd n.aU:=λn B=>by
 obtain⟨k,b,F,G,j,M⟩:=qb (h n B)
 exact j.2.2.2.2.2.2.2.2.1
def ZU{bars:List aT}{ps:List aC}{ns:List ak}(j:kS ps)(k:iG bars ns):w9 (ps,ns)=some (pj ps ns):=ZT (by have:=j.1.2;omega) j.2.2.1 (Mc j) (by have:=k.2.1;omega) (LD k.2.2.1)
def X3{bars:List aT}{ps:List aC}{ns:List ak}(j:kS ps)(k:iG bars ns):w3 (ps,ns)=some (pj ps ns):=X2 (by have:=j.1.2;omega) j.2.2.1 (Mc j) (by have:=k.2.1;omega) (LD k.2.2.1)
theorem Zs{at_:List (Int×Int)}{l:List ak}(j:∀n∈l,oO at_ n)(k:gM (cC (nK at_)) l)(B:l.length<=1000000000):Bc (l,at_)=some (o9 at_ l):=by
 unfold Bc sy
 rw[if_pos ⟨j,k,by dsimp only;omega⟩];rfl
def Wz{β:Type}{e:Bool}{a b:Option β}(h:e=true->a=b):oP e a b=b:=by
 cases e
 ·rfl
 unfold oP;rw[h rfl];exact if_pos rfl
def CS{α:Type}{l:List α}{k:Nat}(h:l.length*k<=140737488355328)(B:l.length<=9223372036854775807):oP (List.isEmpty l) (some ([]:List α)) (ae (decide ((List.append ([]:List α) l).length*k<=140737488355328/\(List.append ([]:List α) l).length<=9223372036854775807)) <|some (List.append ([]:List α) l))=some l:=by
 have j:(ae (decide ((List.append ([]:List α) l).length*k<=140737488355328/\(List.append ([]:List α) l).length<=9223372036854775807)) <|some (List.append ([]:List α) l))=some l:=cr (da ⟨h,B⟩)
 rw[Wz (λF=>?_),j]
 rw[j,List.isEmpty_iff.1 F]
def WL{bars:List aT}{l:List ak}(h:iG bars l):Ai (bars,l)=some (o9 (ef bars) l):=by
 have:=h.1.1.2
 have:=h.2.1
 unfold Ai
 dsimp only
 rw[Lt (by omega),af]
 have k:=Zs (at_:=ef bars) (l:=l) (λn j=>WJ h.1 (h.2.2.1 n j)) (EV h.2.2.2) (by omega)
 rw[CS (by omega) (by omega),af,k,af]
def Wv{bars:List aT}{ns:List ak}(k:bars.length<=1048576)(j:iG bars ns):Af (bars,ns)=some (o9 (ef bars) ns,0):=by
 unfold Af
 dsimp only
 rw[Lo k,af,aj (by simp[j]),WL j,af]
def Zx{at_:List (Int×Int)}(l:List ak):(o9 at_ l).length=l.length:=(iM _ l).length_eq
def BD{s:bI}(M:s.bars.length<=1048576):oW s=some (decide (cU s)):=by
 unfold oW
 rw[NA,af]
 by_cases B:1<=s.version/\s.version<=1000000
 ·rw[aj (by rw[da B];rfl)]
  rw[K3 M,af]
  by_cases F:ir s.bars
  ·rw[aj (by rw[da F];rfl),YQ,af]
   by_cases k:kS s.parts
   ·rw[aj (by rw[da k];rfl),Lo M,af]
    by_cases j:iG s.bars s.aK
    ·rw[aj (by rw[da j];rfl),ZU k j,af,af]
     by_cases G:pj s.parts s.aK=0
     ·rw[aj (by simp[G]),Wv M j,af]
      dsimp only
      rw[an (by simp),Zk (by rw[Zx];have:=j.2.1;omega),af,af]
      congr 1
      rw[j0]
      exact⟨λh=>⟨B,F,k,j,G,h⟩,λh=>h.2.2.2.2.2⟩
     rw[an (by simp[G])]
     congr 1;symm;exact dd λh=>G h.2.2.2.2.1
    rw[an (by rw[dd j];rfl),af,an rfl]
    congr 1;symm;exact dd λh=>j h.2.2.2.1
   rw[an (by rw[dd k];rfl),af,an rfl]
   congr 1;symm;exact dd λh=>k h.2.2.1
  rw[an (by rw[dd F];rfl),af,an rfl]
  congr 1;symm;exact dd λh=>F h.2.1
 rw[an (by rw[dd B];rfl),af,an rfl]
 congr 1;symm;exact dd λh=>B h.1
def Mw(s:bI):wZ s=some (decide (cU s)):=by
 unfold wZ
 rw[Mr,X0,af,af,Bp,af]
 by_cases G:1<=s.version/\s.version<=1000000
 ·rw[aj (by rw[da G];rfl)]
  by_cases B:ir s.bars
  ·rw[aj (by rw[da B];rfl)]
   by_cases F:kS s.parts
   ·rw[da F,af,Vd,XX,af]
    by_cases j:iG s.bars s.aK
    ·rw[aj (by rw[da j];rfl),X3 F j,af]
     by_cases M:pj s.parts s.aK=0
     ·rw[aj (by simp[M])]
      have ad:=j.2.1
      rw[V1 (s.aK.length-1) (tC (ef s.bars) s.aK) false (λk ab=>by
       have O:s.aK[k]?=some s.aK[k]:=c3 (by omega)
       have U:s.aK[k+1]?=some s.aK[k+1]:=c3 (by omega)
       have Z:=j.2.2.1 _ (h6 (h:=(by omega:k<s.aK.length)))
       have aa:=j.2.2.1 _ (h6 (h:=(by omega:k+1<s.aK.length)))
       generalize s.aK[k]=x at *
       generalize s.aK[k+1]=y at *
       have Y:tC (ef s.bars) s.aK k = !decide (cC (nK (ef s.bars)) x y<0):=by unfold tC;rw[O,U]
       rw[an (da (by omega)),aE (by omega),show(k:Int)+1-1=(k:Int) by omega,bh (aW O),show(k:Int)+1=((k+1:Nat):Int)from rfl,bh (aW U),XV B Z aa,af,Y]
       by_cases h:cC (nK (ef s.bars)) x y<0
       ·rw[aj (by rw[da h];rfl),aE (by omega),if_neg (by rw[da h];simp)]
       ·rw[an (by rw[dd h];rfl),if_pos (by rw[dd h];rfl)]) (by
       rw[aj (dd (by omega))])]
      have key:=UL (at_:=ef s.bars) j.2.2.2
      by_cases N:o9 (ef s.bars) s.aK=s.aK
      ·rw[if_neg (λh=>key.1 h N),fk]
       rw[da (p:=cU s) ⟨G,B,F,j,M,N⟩]
      rw[if_pos (key.2 N),fQ]
      rw[dd (p:=cU s) λh=>N h.2.2.2.2.2]
     rw[an (by simp[M])]
     congr 1;symm;exact dd λh=>M h.2.2.2.2.1
    rw[an (by rw[dd j];rfl)]
    congr 1;symm;exact dd λh=>j h.2.2.2.1
   rw[dd F,af,Vc]
   congr 1;symm;exact dd λh=>F h.2.2.1
  rw[an (by rw[dd B];rfl),af,an rfl]
  congr 1;symm;exact dd λh=>B h.2.1
 rw[an (by rw[dd G];rfl),af,an rfl]
 congr 1;symm;exact dd λh=>G h.1
end Go.Proofs.YthhlipkkjippfaaGreatDoor
namespace Go.Proofs.YthhlipkkjippfaaGreatDoor
open Go Go.ag Go.Sy
attribute [local instance] ch cF
def ee(k:Int):Prop:= -7<=k/\k<=7
instance (k:Int):Decidable (ee k):=inferInstanceAs (Decidable (_/\_))
def c7(i:bZ):bZ:=⟨-i.steps,-i.cw⟩
def eB(i:bZ):Int:=7*i.cw-12*i.steps
def eD(t:Int):Int:=if 7<t then(t+4)/12 else if t < -7 then -((4-t)/12)else 0
def EP(key:Int)(i:bZ):Int:=(key+eB i)-12*eD (key+eB i)
def rL(key:Int)(i:bZ):bZ:=⟨i.steps+eD (key+eB i),i.cw⟩
def wc(k:Int):rV k=some (decide (ee k)):=l7 k (-7) 7
def WX{t:Int}(h:7<t):eD t=eD (t-12)+1:=by
 unfold eD
 rw[if_pos h]
 split
 ·omega
 rw[if_neg (by omega)];omega
def WW{t:Int}(h:t < -7):eD t=eD (t+12)-1:=by
 unfold eD
 rw[if_neg (by omega),if_pos h]
 split
 ·omega
 split<;>omega
def LO{t:Int}(h:ee t):eD t=0:=by
 unfold eD ee at *
 rw[if_neg (by omega),if_neg (by omega)]
def LN(t:Int):ee (t-12*eD t):=by
 unfold eD ee
 split
 ·omega
 split<;>omega
def KY:∀(n:Nat)(s t:Int),-7<=t->t<=12*n+7->s.natAbs+n<=1000000->n<=100000->aB (λj:(Int×Int)=>aa (rV j.2) λM=>ab (!M) (ae (ai (1*12)) <|ae (ai (j.2-(1*12))) <|ae (ai (j.1+1)) <|some (.inl ((j.1+1),(j.2-(1*12))))) (some (.inr (j.1,j.2)))) (s,t)=some (s+eD t,t-12*eD t)
 |n,s,t,h1,k,B,F=>by
  by_cases h:ee t
  ·rw[LO h]
   refine iE ?_
   dsimp only
   rw[wc,af,aj (by simp[h])];simp
  have G:7<t:=by unfold ee at h;omega
  match n,k,B,F with
  |0,k,_,_=>exact absurd k (by omega)
  |n+1,k,B,F=>
   rw[mr (z':=(s+1,t-12)) (by
    dsimp only
    rw[wc,af,an (by simp[h]),aE (by omega),aE (by omega),aE (by omega)];rfl),KY n (s+1) (t-12) (by omega) (by omega) (by omega) (by omega),WX G]
   congr 2<;>omega
def KW:∀(n:Nat)(s t:Int),t<=7 -> -(12*(n:Int)+7)<=t->s.natAbs+n<=1000000->n<=100000->aB (λj:(Int×Int)=>aa (rV j.2) λM=>ab (!M) (ae (ai ((-1)*12)) <|ae (ai (j.2-((-1)*12))) <|ae (ai (j.1+(-1))) <|some (.inl ((j.1+(-1)),(j.2-((-1)*12))))) (some (.inr (j.1,j.2)))) (s,t)=some (s+eD t,t-12*eD t)
 |n,s,t,h1,k,B,F=>by
  by_cases h:ee t
  ·rw[LO h]
   refine iE ?_
   dsimp only
   rw[wc,af,aj (by simp[h])];simp
  have G:t < -7:=by unfold ee at h;omega
  match n,k,B,F with
  |0,k,_,_=>exact absurd k (by omega)
  |n+1,k,B,F=>
   rw[mr (z':=(s+(-1),t-((-1)*12))) (by
    dsimp only
    rw[wc,af,an (by simp[h]),aE (by omega),aE (by omega),aE (by omega)]),KW n (s+(-1)) (t-((-1)*12)) (by omega) (by omega) (by omega) (by omega),WW G,show t-(-1)*12=t+12 by omega]
   congr 2<;>omega
def Ea{key:Int}{i:bZ}(j:ee key)(hi:dK i):um (key,i)=some (EP key i,rL key i,0):=by
 have B:=j
 have k:=hi
 unfold ee at B
 unfold dK at k
 unfold um
 dsimp only
 rw[D6,if_pos hi,af]
 dsimp only
 rw[aj (by simp),wc,af,af,aj (by simp[j]),aE (by omega)]
 have e:7*i.cw-12*i.steps+key=key+eB i:=by unfold eB;omega
 rw[e]
 have F: -2000<=key+eB i/\key+eB i<=2000:=by unfold eB;omega
 by_cases h:0<key+eB i
 ·rw[an (by simp[h]),KY 1000 i.steps (key+eB i) (by omega) (by omega) (by omega) (by omega)];rfl
 rw[aj (by simp;omega),KW 1000 i.steps (key+eB i) (by omega) (by omega) (by omega) (by omega)];rfl
theorem zT{i:bZ}(h:dK i):oS i=some (c7 i,0):=by
 have j:=h
 unfold dK at j
 unfold oS rX
 simp only[Ak,af,iB]
 unfold j8
 rw[aj (by simp;omega),aE (by omega),aE (by omega)]
 unfold c7
 simp
def Xr(i:bZ):rX i=some (decide (dK i)):=by
 unfold rX
 simp only[Ak,af,iB]
 refine kg ?_
 unfold dK
 simp
def su{i:bZ}(h:gv i):dK i/\dK (c7 i):=by
 unfold gv at h
 unfold dK c7
 dsimp only
 omega
def Ln{key:Int}{i:bZ}(k:ee key)(h:gv i):dK (rL key (c7 i))/\dK (c7 (rL key (c7 i)))/\ee (EP key (c7 i)):=by
 refine⟨?_,?_,LN _⟩
 all_goals
  have j: -100<=eD (key+eB (c7 i))/\eD (key+eB (c7 i))<=100 -> -45<=eD (key+eB (c7 i))/\eD (key+eB (c7 i))<=45:=by
   intro _
   unfold gv at h
   unfold ee at k
   unfold eD eB c7
   dsimp only
   split
   ·omega
   split<;>omega
  have B: -100<=eD (key+eB (c7 i))/\eD (key+eB (c7 i))<=100:=by
   unfold gv at h
   unfold ee at k
   unfold eD eB c7
   dsimp only
   split
   ·omega
   split<;>omega
  have j:=j B
  unfold dK rL
  unfold gv at h
  dsimp only[c7]at *
  omega
def ZB(v:Int):(if Int.tmod v 7<0 then(Int.tdiv v 7-1,Int.tmod v 7+7)else(Int.tdiv v 7,Int.tmod v 7))=(v/7,v%7):=by
 rcases Int.lt_or_le v 0 with h|h
 ·obtain⟨w,rfl⟩:∃w:Int,v = -w:=⟨-v,by omega⟩
  rw[Int.neg_tmod,Int.neg_tdiv,n3 (by omega),sa (by omega)]
  split<;>(congr 1<;>omega)
 rw[n3 h,sa h,if_neg (by omega)]
theorem XC{v:Int}(h: -5000<=v/\v<=5000):Aj (v,7)=some (v/7,v%7):=by
 have B: -1000<=v.tdiv 7/\v.tdiv 7<=1000 /\ -7<v.tmod 7/\v.tmod 7<7:=by
  rcases Int.lt_or_le v 0 with h0|h0
  ·obtain⟨w,rfl⟩:∃w:Int,v = -w:=⟨-v,by omega⟩
   rw[Int.neg_tmod,Int.neg_tdiv,n3 (by omega),sa (by omega)]
   omega
  rw[n3 h0,sa h0];omega
 have k:=ZB v
 unfold Aj
 dsimp only
 rw[cr (by decide),aE (by omega),cr (by decide),<-k]
 by_cases j:v.tmod 7<0
 ·rw[an (by simp[j]),aE (by omega),aE (by omega),if_pos j]
 rw[aj (by simp;omega),if_neg j]
def pl(p:aV):Int:=7*p.bm+p.step
def jP(j n:Int):aV:=⟨j%7,n-(12*(j/7)+iF (j%7)),j/7⟩
def fe(p:aV)(i:bZ):aV×Int:=if cd p/\dK i then(if cd (jP (pl p+i.steps) (num p+i.cw))then(jP (pl p+i.steps) (num p+i.cw),0)else(⟨0,0,0⟩,3))else(⟨0,0,0⟩,1)
theorem XA{p:aV}(j:0<=p.step/\p.step<=6)(B: -1000<=p.alter/\p.alter<=1000)(F: -1000<=p.bm/\p.bm<=1000):qj p=some (num p):=by
 have G:=wD p.step
 have k:au [0,2,4,5,7,9,11] p.step=some (iF p.step):=by
  show au uc p.step=_
  unfold au iF
  rw[if_pos j.1]
  have:p.step.toNat<uc.length:=by show _<7;omega
  rw[c3 this];rfl
 unfold qj
 rw[aE (by omega),bh k,aE (by omega),aE (by omega)]
 rfl
def HQ{p:aV}(h:cd p):jP (pl p) (num p)=p:=by
 obtain⟨⟨B,F⟩,_⟩:=h
 unfold jP pl
 have j:(7*p.bm+p.step)%7=p.step:=by omega
 have k:(7*p.bm+p.step)/7=p.bm:=by omega
 rw[j,k]
 unfold num
 cases p
 congr 1
 dsimp only
 omega
def L2(p:aV)(i:bZ):wV (p,i)=some (fe p i):=by
 unfold wV fe
 dsimp only
 rw[mA,af]
 by_cases j:cd p
 ·rw[aj (by simp[j]),Xr,af]
  by_cases hi:dK i
  ·rw[af,aj (by simp[hi]),if_pos ⟨j,hi⟩,R3]
   by_cases B:i=⟨0,0⟩
   ·subst B
    rw[an (by simp),show pl p+(⟨0,0⟩:bZ).steps=pl p by dsimp only;omega,show num p+(⟨0,0⟩:bZ).cw=num p by dsimp only;omega,HQ j,if_pos j]
   have U:=j
   have M:=hi
   unfold cd at U
   unfold dK at M
   have O:=rP j
   rw[aj (by simp[B])]
   unfold Fh
   rw[aE (by omega),aE (by omega),af,aE (by omega)]
   have Y:=XC (v:=7*p.bm+p.step+i.steps) (by omega)
   rw[Y,af,Mg j,af,aE (by omega)]
   dsimp only
   have N:0<=(7*p.bm+p.step+i.steps)%7/\(7*p.bm+p.step+i.steps)%7<=6:=by omega
   have G: -1000<=(7*p.bm+p.step+i.steps)/7/\(7*p.bm+p.step+i.steps)/7<=1000:=by omega
   have Z:=wD ((7*p.bm+p.step+i.steps)%7)
   rw[XA (p:=⟨(7*p.bm+p.step+i.steps)%7,0,(7*p.bm+p.step+i.steps)/7⟩) N (by dsimp only;omega) G,af]
   unfold num at O
   have e:num (⟨(7*p.bm+p.step+i.steps)%7,0,(7*p.bm+p.step+i.steps)/7⟩:aV)=12*((7*p.bm+p.step+i.steps)/7)+iF ((7*p.bm+p.step+i.steps)%7):=by unfold num;dsimp only;omega
   rw[e]
   have F:(⟨(7*p.bm+p.step+i.steps)%7,num p+i.cw-(12*((7*p.bm+p.step+i.steps)/7)+iF ((7*p.bm+p.step+i.steps)%7)),(7*p.bm+p.step+i.steps)/7⟩:aV)=jP (pl p+i.steps) (num p+i.cw):=rfl
   rw[aE (by unfold num;omega),F,mA,af]
   by_cases k:cd (jP (pl p+i.steps) (num p+i.cw))
   ·rw[aj (by simp[k]),if_pos k]
   rw[an (by simp[k]),if_neg k]
  rw[af,an (by simp[hi]),if_neg (λh=>hi h.2)]
 rw[an (by simp[j]),af,an rfl,if_neg (λh=>j h.1)]
end Go.Proofs.YthhlipkkjippfaaGreatDoor
namespace Go.Proofs.YthhlipkkjippfaaGreatDoor
open Go Go.ag Go.Sy
attribute [local instance] ch cF
def KA{p:aV}(h:cd p):wN p=some (num p):=by
 unfold wN
 rw[qf,if_pos h,af]
def D2(n m:Int)(j:0<=m/\m<=1000):ui (n,m)=some (decide (-m<=n/\n<=m)):=by
 unfold ui j8
 dsimp only
 rw[aE (by omega),show 0-m = -m by omega]
 exact l7 n (-m) m
theorem D3{p:aC}(h:eP p):uj p=some true:=by
 obtain⟨_,_,k,j⟩:=(lT p).1 h
 have B:=(su k).1
 unfold uj
 rw[D6,if_pos B,af]
 dsimp only
 simp only[D2 _ 21 (by omega),D2 _ 36 (by omega),D2 _ 12 (by omega),af,iB]
 have F:=k
 unfold gv at F
 rw[an (by simp;omega),mA,af,an (by simp[j.1]),mA,af,an (by simp[j.2.1]),KA j.1,af,KA j.2.1,af,af]
 exact dn some (da j.2.2)
def jW(p:aC)(key:Int):bZ:=rL key (c7 p.shift)
def tU(p:aC)(key:Int):Int:=EP key (c7 p.shift)
def qo{p:aC}(h:eP p):gv p.shift:=((lT p).1 h).2.2.1
def U7{p:aC}(h:eP p){key:Int}(j:ee key):z8 (p,key)=some (tU p key,0):=by
 unfold z8
 dsimp only
 rw[D3 h,af,aj (c:= !true) rfl,zT (su (qo h)).1,af,Ea j (su (qo h)).2,af]
 rfl
def U9{p:aC}(h:eP p){key:Int}(k:ee key)(x:aV):Ab (p,key,x)=some (fe x (jW p key)):=by
 unfold Ab
 dsimp only
 rw[D3 h,af,aj (c:= !true) rfl,zT (su (qo h)).1,af,Ea k (su (qo h)).2,af]
 dsimp only
 rw[aj (by simp),af,aj (by simp),af]
 dsimp only
 rw[aj (c:= !true) rfl,mA,af,af]
 dsimp only
 by_cases j:cd x
 ·rw[aj (by simp[j]),L2,af];rfl
 rw[an (by simp[j])];unfold fe;rw[if_neg (λh=>j h.1)]
def U8{p:aC}(h:eP p){key:Int}(k:ee key)(x:aV):Aa (p,key,x)=some (fe x (c7 (jW p key))):=by
 unfold Aa
 dsimp only
 rw[D3 h,af,aj (c:= !true) rfl,zT (su (qo h)).1,af,Ea k (su (qo h)).2,af]
 dsimp only
 rw[aj (by simp),af,aj (by simp),af]
 dsimp only
 rw[aj (c:= !true) rfl,mA,af,af]
 dsimp only
 by_cases j:cd x
 ·rw[aj (by simp[j]),zT (i:=⟨(rL key (c7 p.shift)).steps,(rL key (c7 p.shift)).cw⟩) (Ln k (qo h)).1,af]
  dsimp only
  rw[aj (by simp),L2,af];rfl
 rw[an (by simp[j])];unfold fe;rw[if_neg (λh=>j h.1)]
end Go.Proofs.YthhlipkkjippfaaGreatDoor
namespace Go.Proofs.YthhlipkkjippfaaGreatDoor
open Go Go.ag Go.Sy
attribute [local instance] ch cF
def tk(q:Rat):Int:=if bQ q then bg q else -1
def ht(p:aV):Int:=if cd p then num p else 0
def wK(w:aw):List Int:=[tk w.start,w.bp,ht w.aU,w.id]
def OO(w:aw):xj w=some (ht w.aU):=by
 unfold xj ht
 rw[qf,af]
 split<;>rfl
def aa0(a b:aw):xi (a,b)=some (c8 [ga (tk a.start) (tk b.start),ga a.bp b.bp,ga (ht a.aU) (ht b.aU),ga a.id b.id]):=by
 unfold xi
 dsimp only
 rw[Hd,af,Hd,af,vA,af,vA,af,OO,af,OO,af,vA,af,vA,af,yr _ (by simp),af]
 rfl
def UC(a b c d x y z u:Int):c8 [ga a x,ga b y,ga c z,ga d u]<0↔c8 [a-x,b-y,c-z,d-u]<0:=by
 have h:∀m n:Int,(ga m n=0↔m-n=0)/\(ga m n<0↔m-n<0):=by
  intro m n
  unfold ga
  split
  ·omega
  split<;>omega
 simp only[c8]
 have G:=h a x
 have M:=h b y
 have N:=h c z
 have O:=h d u
 by_cases j:a-x=0
 ·rw[if_pos (G.1.2 j),if_pos j]
  by_cases k:b-y=0
  ·rw[if_pos (M.1.2 k),if_pos k]
   by_cases B:c-z=0
   ·rw[if_pos (N.1.2 B),if_pos B]
    by_cases F:d-u=0
    ·rw[if_pos (O.1.2 F),if_pos F]
    rw[if_neg (λh=>F (O.1.1 h)),if_neg F];exact O.2
   rw[if_neg (λh=>B (N.1.1 h)),if_neg B];exact N.2
  rw[if_neg (λh=>k (M.1.1 h)),if_neg k];exact M.2
 rw[if_neg (λh=>j (G.1.1 h)),if_neg j];exact G.2
def aa1(a b:aw):∃z,xi (a,b)=some z/\(z<0↔cC wK a b<0):=⟨_,aa0 a b,UC _ _ _ _ _ _ _ _⟩
def Vs{l:List aw}(O:l.length<=1000000000):Bb (l,())=some (mX (λa b=>!decide (cC wK b a<0)) l):=by
 unfold Bb
 dsimp only
 rw[aE (by omega),V2 (λa b=>!decide (cC wK b a<0)) (λk a b G j=>by
  have N:=bG j
  obtain⟨z,B,F⟩:=aa1 b a
  rw[an (by simp<;>omega),show(k:Int)+1=((k+1:Nat):Int)from rfl,bh (aW j),aE (by omega),show((k+1:Nat):Int)-1=(k:Int) by omega,bh (aW G),B,af]
  by_cases h:cC wK b a<0
  ·rw[an (by simpa using F.2 h)];simp[h]
  rw[aj (by simpa using λM=>h (F.1 M)),aE (by omega)];simp[h]) (λz B=>by rw[aj (by simp<;>omega)])]
 cases mX (λa b=>!decide (cC wK b a<0)) l<;>rfl
def iN(len:Rat)(w:aw):Prop:=(1<=w.id/\w.id<=1000000)/\(0<=w.bp/\w.bp<=9)/\(0<=w.bO/\w.bO<=20)/\cd w.aU/\bQ w.start/\bQ w.length/\0<bg w.length/\bg w.start+bg w.length<=bg len
instance (len:Rat) (w:aw):Decidable (iN len w):=inferInstanceAs (Decidable (_/\_/\_/\_/\_/\_/\_/\_))
def aa2(n lo hi:Int):xm (n,lo,hi)=some (decide (lo<=n/\n<=hi)):=l7 n lo hi
def aaE{len:Rat}(B:bQ len)(w:aw):xh (w,len)=some (decide (iN len w)):=by
 unfold xh
 dsimp only
 simp only[aa2,af,iB,Hd,mA]
 by_cases j:bQ w.start
 ·by_cases k:bQ w.length
  ·have F:=lZ j
   have t2:=lZ k
   rw[if_pos j,if_pos k,if_pos B,aE (by omega)]
   simp only[iB]
   refine kg ?_
   unfold iN
   simp[j,k,mo,F]
  rw[if_pos j,if_neg k]
  rw[aj (c:=ah 0 (-1)) (by simp)]
  have:¬iN len w:=λh=>k h.2.2.2.2.2.1
  rw[dd this]
  simp only[vZ]
  repeat' split
  all_goals rfl
 rw[if_neg j]
 have:¬iN len w:=λh=>j h.2.2.2.2.1
 rw[dd this,aj (c:=leI 0 (-1)) (by simp)]
 simp only[vZ]
 repeat' split
 all_goals rfl
end Go.Proofs.YthhlipkkjippfaaGreatDoor
namespace Go.Proofs.YthhlipkkjippfaaGreatDoor
open Go Go.ag Go.Sy
attribute [local instance] ch cF
def abe:aC:=⟨0,0,0,0,0,⟨0,0⟩,⟨0,0,0⟩,⟨0,0,0⟩⟩
def partOf(s:bI)(id:Int):Option aC:=s.parts.find? λp=>decide (p.id=id)
def Ha{s:bI}(O:s.parts.length<=1000000)(id:Int):uD (s,id)=some (match partOf s id with|some p=>(⟨p⟩,true)|none=>(⟨abe⟩,false)):=by
 unfold uD partOf
 dsimp only
 have e:Ba (s.parts,id)=some (ix s.parts λp=>decide (p.id=id)):=by
  unfold Ba
  dsimp only
  rw[nw (l:=s.parts) (λp=>decide (p.id=id)) (λk x F=>by
   have M:=bG F
   rw[an (by simpa using M),bh (aW F)]
   unfold FN
   rw[af]
   by_cases h:x.id=id
   ·rw[an (by simp[h])];simp[h]
   rw[aj (by simp[h]),aE (by omega)];simp[h]) (by rw[aj (by simp)])]
  exact rn _ _
 rw[e,af]
 rcases ru s.parts λp=>decide (p.id=id)with ⟨j,B⟩| ⟨k,p,j,B,G,N⟩
 ·rw[j,B,an (by simp)];rfl
 rw[B,G,aj (by simp),bh (aW j)]
def OM{p:aC}(k:eP p){b:aT}(j:ee b.key)(l:List aw):xk (⟨p⟩,b,l)=some ⟨b.id,tU p b.key,b.length,l⟩:=by
 unfold xk
 dsimp only
 rw[U7 k j,af]
def vX(p:aC)(b:aT)(m:aR):Prop:=m.av=b.id/\m.key=tU p b.key/\m.length=b.length
instance (p:aC) (b:aT) (m:aR):Decidable (vX p b m):=inferInstanceAs (Decidable (_/\_/\_))
def iT(p:aC)(x:aR×aT):Bool:=decide (vX p x.2 x.1)&&mX (λa b=>!decide (cC wK b a<0)) x.1.aK&&x.1.aK.all λw=>decide (iN x.1.length w)
def de(v:aJ):List aw:=v.bu.flatMap aR.aK
def oX(z:List (Int×Bool))(l:List aw):List (Int×Bool):=l.foldl (λm w=>aM m w.id true) z
theorem Vm{m:aR}(M:bQ m.length)(N:m.aK.length<=1000000)(z:List (Int×Bool)):aB (ρ:=(List (Int×Bool))⊕((Int×(Int×(List (Int×Bool))))⊕((Int×(List (Int×Bool)))⊕Bool))) (λj:(Int×(List (Int×Bool)))=>ab (ah j.1 (m.aK.length:Int)) (aa (au m.aK j.1) λF=>aa (xh (F,m.length)) λO=>ab (!O) (some (.inr (.inr (.inr (.inr false))))) (ae (ai (j.1+1)) <|some (.inl ((j.1+1),(aM j.2 F.id true))))) (some (.inr (.inl j.2)))) (0,z) =
  some (if(m.aK.all λw=>decide (iN m.length w))=true then .inl (oX z m.aK)else .inr (.inr (.inr false))):=by
 rw[dU (σ:=List (Int×Bool)) (st:=λz k=>(k,z)) (l:=m.aK) (λz x=>if decide (iN m.length x)=true then .inl (aM z x.id true)else .inr (.inr (.inr (.inr false)))) (λz=>.inl z) (λ_ _=>True) (λk x z B _=>by
  have G:=bG B
  dsimp only
  rw[an (by simpa using G),bh (aW B),aaE M,af]
  by_cases h:iN m.length x
  ·rw[aj (by simp[h]),aE (by omega)];simp[h]
  rw[an (by simp[h])];simp[h]) (λ_ _ _ _ _ _ _=>trivial) (λz _=>by dsimp only;rw[aj (by simp)]) z trivial,vU]
 rfl
def y2{α β:Type}{l:List α}{r:List β}{k:Nat}{x:α×β}(h:(l.zip r)[k]?=some x):l[k]?=some x.1/\r[k]?=some x.2:=vf.1 h
def J7{α β σ:Type}(g:σ->α->σ):∀(l:List α)(r:List β)(z:σ),l.length<=r.length->(l.zip r).foldl (λz x=>g z x.1) z=l.foldl g z
 | [],_,z,_=>rfl
 |x::l,[],z,h=>by simp at h
 |x::l,y::r,z,h=>by
  rw[List.zip_cons_cons,List.foldl_cons,List.foldl_cons]
  exact J7 g l r _ (by simpa using h)
def UE(j:List aR):∀(n:Int)(z:List (Int×Bool)),j.foldl (λ(z:Int×List (Int×Bool)) m=>(z.1+(m.aK.length:Int),oX z.2 m.aK)) (n,z)=(n+((j.flatMap aR.aK).length:Int),oX z (j.flatMap aR.aK)):=by
 induction j with
 |nil=>intro n z;simp[oX]
 |cons m j k=>
  intro n z
  rw[List.foldl_cons,k,hM,e3]
  unfold oX
  rw[td]
  congr 1
  simp only[Int.natCast_add];omega
def ic(s:bI)(v:aJ):Prop:=cU s/\v.bu.length=s.bars.length/\(∃p,partOf s v.part=some p/\((v.bu.zip s.bars).all (iT p))=true)/\(de v).length<=20000/\((de v).map aw.id).Nodup
def KK:∀{l:List Nat}{n:Nat},n∈l->n<=l.sum
 | [],_,h=>by cases h
 |x::l,n,h=>by
  rw[List.sum_cons]
  rcases fb.1 h with rfl|h
  ·omega
  have:=KK h;omega
def nr{v:aJ}{m:aR}(h:m∈v.bu):m.aK.length<=(de v).length:=by
 unfold de
 rw[J1]
 exact KK (gj.2 ⟨m,h,rfl⟩)
def Be{s:bI}(k:cU s){id:Int}{p:aC}(h:partOf s id=some p):eP p/\p∈s.parts/\p.id=id:=by
 unfold partOf at h
 have j:=gW h
 exact⟨k.2.2.1.2.1 p j,j,by simpa using j5 h⟩
def kn{s:bI}(j:cU s){b:aT}(h:b∈s.bars):eR b:=j.2.1.2.1 b h
open Classical in
theorem OK{s:bI}{v:aJ}(aq:s.bars.length<=1048576)(aD:(de v).length<=1000000):xg (s,v)=some (decide (ic s v)):=by
 unfold xg
 dsimp only
 rw[BD aq,af]
 by_cases B:cU s
 ·rw[aj (by simp[B]),af]
  by_cases aa:v.bu.length=s.bars.length
  ·have aB:=B.2.1.1.2
   have aC:=B.2.2.1.1.2
   rw[aj (by simp[aa]),Ha (by omega),af]
   cases O:partOf s v.part with
   |none=>
    dsimp only
    rw[an (c:= !false) rfl,dd]
    rintro⟨_,_,⟨p,h,_⟩,_⟩
    rw[O]at h;cases h
   |some p=>
    have az:=(Be B O).1
    dsimp only
    rw[aj (c:= !true) rfl]
    have av:(v.bu.zip s.bars).length=v.bu.length:=by rw[List.length_zip];omega
    rw[dU (σ:=Int×List (Int×Bool)) (st:=λz k=>(z.1,k,z.2)) (l:=v.bu.zip s.bars) (λz x=>if iT p x=true then .inl (z.1+(x.1.aK.length:Int),oX z.2 x.1.aK)else .inr (.inr false)) (λz=>.inl z) (λk z=>0<=z.1/\z.1<=1000000*(k:Int)) (λk x z ad ao=>by
     obtain⟨F,Z⟩:=y2 ad
     have au:=bG F
     have ax:=dk F
     have al:=kn B (dk Z)
     have ay:=nr ax
     dsimp only
     rw[an (by simpa using au),bh (aW F),bh (aW Z),OM az al.2.2.2,af,Vs (by omega),af,Iv,Xb,af]
     by_cases ab:vX p x.2 x.1/\mX (λa b=>!decide (cC wK b a<0)) x.1.aK=true
     ·obtain⟨⟨ae,ag,Y⟩,ah⟩:=ab
      rw[aj (by simp[ae,ag,Y,ah]),Vm (by rw[Y];exact al.2.1) (by omega)]
      by_cases M:(x.1.aK.all λw=>decide (iN x.1.length w))=true
      ·have G:iT p x=true:=by unfold iT;rw[M,ah,da (p:=vX p x.2 x.1) ⟨ae,ag,Y⟩];rfl
       rw[if_pos M,if_pos G,fk,aE (by omega),aE (by omega)];rfl
      have G:¬iT p x=true:=by unfold iT;rw[nh]at M;rw[M];simp
      rw[if_neg M,if_neg G,fQ]
     ·have G:¬iT p x=true:=λh=>ab (by
       unfold iT at h
       simp only[db,ea]at h
       exact h.1)
      rw[if_neg G,an (by
       refine hf λj=>ab ?_
       simp only[nh,k4,ta,ea]at j
       exact⟨⟨j.1.1.1,j.1.1.2,j.1.2⟩,j.2⟩)]) (λk x z z' ad ao j=>by
     obtain⟨F,Z⟩:=y2 ad
     have ay:=nr (dk F)
     split at j
     ·injection j with j;subst j;dsimp only;omega
     cases j) (λz ao=>by dsimp only;rw[av,aj (by simp)]) (0,[]) ⟨by simp,by simp⟩,vU]
    by_cases N:(v.bu.zip s.bars).all (iT p)=true
    ·rw[if_pos N,fk,J7 (λ(z:Int×List (Int×Bool))(m:aR)=>(z.1+(m.aK.length:Int),oX z.2 m.aK)) _ _ _ (by omega),UE]
     dsimp only
     obtain⟨aA,ai⟩:=JZ aw.id (λ_=>true) (v.bu.flatMap aR.aK) []
     rw[show((0:Int)+((v.bu.flatMap aR.aK).length:Int))=((de v).length:Int) by unfold de;omega]
     by_cases ak:(de v).length<=20000
     ·rw[an (da (by omega)),af]
      refine kg ?_
      rw[ea]
      have ar:((oX [] (de v)).length:Int)=((de v).length:Int)↔((de v).map aw.id).Nodup:=by
       unfold oX de
       rw[Int.natCast_inj]
       simp only[List.length_nil,hV]at ai
       rw[ai]
       exact⟨λh=>h.1,λh=>⟨h,λ_ _=>rfl⟩⟩
      refine(ar).trans ⟨λh=>⟨B,aa,⟨p,O,N⟩,ak,h⟩,λh=>h.2.2.2.2⟩
     rw[aj (dd (by omega)),af,dd (λh=>ak h.2.2.2.1)]
    rw[if_neg N,fQ,dd]
    rintro⟨_,_,⟨q,U,h⟩,_⟩
    rw[O]at U
    injection U with U;subst U
    exact N h
  rw[an (by simp;omega),dd (λh=>aa h.2.1)]
 rw[an (by simp[B]),af,an rfl,dd (λh=>B h.1)]
end Go.Proofs.YthhlipkkjippfaaGreatDoor
namespace Go.Proofs.YthhlipkkjippfaaGreatDoor
open Go Go.ag Go.Sy
attribute [local instance] ch cF
def gH(p:aC):Int:=if p.of=0 then p.id else p.of
def L1(s:bI)(p:aC):aC:=(partOf s (gH p)).getD p
def Y8{l:List aC}(F:l.length<=1000000)(id:Int):A9 (l,(),id)=some (ix l λp=>decide (p.id=id)):=by
 unfold A9
 dsimp only
 rw[nw (l:=l) (λp=>decide (p.id=id)) (λk x j=>by
  have B:=bG j
  rw[an (by simpa using B),bh (aW j)]
  unfold Fv
  dsimp only
  unfold Fw
  simp only[af]
  by_cases h:x.id=id
  ·rw[an (by simp[h])];simp[h]
  rw[aj (by simp[h]),aE (by omega)];simp[h]) (by rw[aj (by simp)])]
 exact rn l _
def Y9{l:List aC}(j:l.length<=1000000)(id:Int):AT (l,id,())=some (max (ix l λp=>decide (p.id=id)) 0,decide (0<=ix l λp=>decide (p.id=id))):=by
 unfold AT
 dsimp only
 rw[Y8 j,af]
def others(s:bI)(p:aC):List ak:=s.aK.filter λn=>!decide (n.part=gH p)
def ud(x:aV)(n:Int):aV:=⟨x.step,x.alter,x.bm-n⟩
def jU(p:aC)(b:aT)(w:aw):aV×Int:=fe w.aU (c7 (jW p b.key))
def zH(s:bI)(p:aC)(b:aT)(w:aw):ak:=⟨w.id,gH p,b.id,w.bp,w.bO,w.start,w.length,ud (jU p b w).1 p.bm⟩
def Uv(s:bI)(p:aC)(x:aV):Prop:=lQ x/\num (L1 s p).low<=num x/\num x<=num (L1 s p).high
instance (s:bI) (p:aC) (x:aV):Decidable (Uv s p x):=inferInstanceAs (Decidable (_/\_/\_))
end Go.Proofs.YthhlipkkjippfaaGreatDoor
namespace Go.Proofs.YthhlipkkjippfaaGreatDoor
open Go Go.ag Go.Sy
attribute [local instance] ch cF
def eL{α β ρ:Type}(E:α->Int)(j:α->β)(R:α->ρ)(fin:List β->ρ)(l:List α)(z:List β):ρ:=match l.find? λx=>decide (E x≠0)with
 |some x=>R x
 |none=>fin (z++l.map j)
def vS{α β ρ:Type}(E:α->Int)(j:α->β)(R:α->ρ)(fin:List β->ρ)(x:α)(l:List α)(z:List β):eL E j R fin (x::l) z=if E x=0 then eL E j R fin l (z++[j x])else R x:=by
 unfold eL
 rw[List.find?_cons]
 by_cases h:E x=0
 ·rw[if_pos h,dd (by simpa using h)]
  dsimp only
  cases l.find? λx=>decide (E x≠0)with
  |none=>simp
  |some y=>rfl
 rw[if_neg h,da h]
def JU{α β ρ:Type}(E:α->Int)(j:α->β)(R:α->ρ)(fin:List β->ρ):∀(l:List α)(z:List β),ed (λ(z:List β) x=>if E x=0 then .inl (z++[j x])else .inr (R x)) fin l z=eL E j R fin l z
 | [],z=>by unfold eL;simp[ed]
 |x::l,z=>by
  have k:=JU E j R fin l (z++[j x])
  rw[vS]
  simp only[ed]
  by_cases h:E x=0
  ·rw[if_pos h,if_pos h];exact k
  rw[if_neg h,if_neg h]
def JL{α β ρ:Type}(E:α->Int)(j:α->β)(R:α->ρ)(fin:List β->ρ):∀(l m:List α)(z:List β),eL E j R fin (l++m) z=eL E j R (λz'=>eL E j R fin m z') l z
 | [],m,z=>by simp only[eL,List.nil_append,List.find?_nil,abr,mb]
 |x::l,m,z=>by rw[List.cons_append,vS,vS,JL E j R fin l m]
def ja(s:bI)(v:aJ):List (aT×aw):=(v.bu.zip s.bars).flatMap λx=>x.1.aK.map λw=>(x.2,w)
def UD{α σ ρ:Type}(f:σ->α->σ⊕ρ)(fin:σ->ρ)(x:α)(xs:List α)(z:σ):ed f fin (x::xs) z=Sum.elim (ed f fin xs) id (f z x):=by
 simp only[ed]
 cases f z x<;>rfl
theorem JV{ρ:Type}(E:aT×aw->Int)(j:aT×aw->ak)(R:aT×aw->ρ)(fin:List ak->ρ):∀(l:List (aR×aT))(z:List ak),ed (λ(z:List ak)(x:aR×aT)=>eL (ρ:=(List ak)⊕ρ) (λw=>E (x.2,w)) (λw=>j (x.2,w)) (λw=>.inr (R (x.2,w))) (λz=>.inl z) x.1.aK z) fin l z=eL E j R fin (l.flatMap λx=>x.1.aK.map λw=>(x.2,w)) z
 | [],z=>by unfold eL;simp[ed]
 |x::l,z=>by
  rw[hM,JL,UD]
  have key:∀(ws:List aw)(z:List ak),Sum.elim (ed (λ(z:List ak)(x:aR×aT)=>eL (ρ:=(List ak)⊕ρ) (λw=>E (x.2,w)) (λw=>j (x.2,w)) (λw=>.inr (R (x.2,w))) (λz=>.inl z) x.1.aK z) fin l) id (eL (ρ:=(List ak)⊕ρ) (λw=>E (x.2,w)) (λw=>j (x.2,w)) (λw=>.inr (R (x.2,w))) (λz=>.inl z) ws z)=eL E j R (λz'=>eL E j R fin (l.flatMap λx=>x.1.aK.map λw=>(x.2,w)) z') (ws.map λw=>(x.2,w)) z:=by
   intro ws
   induction ws with
   |nil=>
    intro z
    have M:∀{β:Type}(B:aw->Int)(F:aw->ak)(G:aw->β)(k:List ak->β)(z:List ak),eL B F G k [] z=k z:=λB F G k z=>by unfold eL;simp
    have N:∀{β:Type}(B:aT×aw->Int)(F:aT×aw->ak)(G:aT×aw->β)(k:List ak->β)(z:List ak),eL B F G k [] z=k z:=λB F G k z=>by unfold eL;simp
    rw[abr,M,N]
    exact JV E j R fin l z
   |cons w ws O=>
    intro z
    rw[fa,vS,vS]
    by_cases h:E (x.2,w)=0
    ·rw[if_pos h,if_pos h];exact O _
    rw[if_neg h,if_neg h];rfl
  exact key x.1.aK z
def pN(s:bI)(p:aC)(q:aT×aw):ak:=zH s p q.1 q.2
theorem Ut{α β:Type}{E:α->Int}{j:α->β}{ρ:Type}{R:α->ρ}{l:List α}{z z':List β}(h:eL (ρ:=(List β)⊕ρ) E j (λx=>.inr (R x)) (λz=>.inl z) l z=.inl z'):z'.length=z.length+l.length:=by
 unfold eL at h
 split at h
 ·cases h
 injection h with h;subst h;simp
def yc{α:Type}(l:List α)(x:α):(List.append l (x::([]:List α))).length=l.length+1:=by
 show(l++[x]).length=_
 simp
end Go.Proofs.YthhlipkkjippfaaGreatDoor
namespace Go.Proofs.YthhlipkkjippfaaGreatDoor
open Go Go.ag Go.Sy
attribute [local instance] ch cF
def nE(x:aV)(n:Int):aV:=⟨x.step,x.alter,x.bm+n⟩
def nJ(p:aC)(n:ak):ak:=⟨n.id,p.id,n.av,n.bp,n.bO,n.start,n.length,nE n.aU p.bm⟩
def ke(s:bI)(p:aC):List ak:=(s.aK.filter λn=>decide (n.part=gH p)).map (nJ p)
def Xy{s:bI}(F:cU s){id:Int}{p:aC}(B:partOf s id=some p):AQ (s,id)=some (ke s p,0):=by
 have ah:=F.2.1.1.2
 have av:=F.2.2.1.1.2
 have aq:=F.2.2.2.1.2.1
 obtain⟨ab,ao,ai⟩:=Be F B
 have au:=ab.2.2.2.1
 unfold AQ
 dsimp only
 rw[BD (by omega),af,aj (by simp[F]),Y9 (by omega),af]
 dsimp only
 unfold partOf at B
 rcases ru s.parts λq=>decide (q.id=id)with ⟨O,U⟩| ⟨k,q,O,U,Y,ag⟩
 ·rw[O]at B;cases B
 rw[U]at B
 injection B with B;subst B
 rw[Y,aj (by simp),show max (k:Int) 0=(k:Int) by omega,bh (aW O)]
 have aa:AV (s,q)=some (s,gH q,q):=by
  unfold AV gH
  dsimp only
  by_cases M:q.of=0
  ·rw[an (by simp[M]),af,if_pos M]
  rw[aj (by simp[M]),af,if_neg M]
 rw[aa,af]
 dsimp only
 rw[dU (σ:=List ak) (st:=λz k=>(k,z)) (l:=s.aK) (λz n=>.inl (if decide (n.part=gH q)=true then z++[nJ q n]else z)) (λz=>z) (λk z=>z.length<=k) (λj n z N ad=>by
  have al:=bG N
  have Z:=F.2.2.2.1.2.2.1 n (dk N)
  obtain⟨_,_,_,_,G,_⟩:=qb Z
  have ar:=G.2.2.2.2.2.2.2.2.2.2
  dsimp only
  rw[an (da (by omega)),bh (aW N)]
  by_cases h:n.part=gH q
  ·rw[aj (by simp[h]),aE (by omega),cr (da (by rw[yc];omega)),af,aE (by omega),if_pos (da h)];rfl
  ·rw[an (by simp[h]),af,aE (by omega),if_neg (by simpa using h)];rfl) (λj n z z' N ad G=>by
  injection G with G;subst G
  split
  ·rw[e3];simp only[List.length_cons,List.length_nil];omega
  omega) (λz _=>by dsimp only;rw[aj (by simp)]) [] (by simp),fG (λ(z:List ak)(n:ak)=>if decide (n.part=gH q)=true then z++[nJ q n]else z) _ _ (λ_ _ _=>rfl),af]
 have key:∀(l:List ak)(z:List ak),l.foldl (λz n=>if decide (n.part=gH q)=true then z++[nJ q n]else z) z=z++(l.filter λn=>decide (n.part=gH q)).map (nJ q):=by
  intro l
  induction l with
  |nil=>intro z;simp
  |cons n l ae=>
   intro z
   rw[List.foldl_cons,ae,k0]
   by_cases h:decide (n.part=gH q)=true
   ·rw[if_pos h,if_pos h];simp
   rw[if_neg h,if_neg h]
 rw[key]
 rfl
end Go.Proofs.YthhlipkkjippfaaGreatDoor
namespace Go.Proofs.YthhlipkkjippfaaGreatDoor
open Go Go.ag Go.Sy
attribute [local instance] ch cF
def qC(p:aC)(b:aT)(n:ak):aw:=⟨n.id,n.bp,n.bO,n.start,n.length,(fe n.aU (jW p b.key)).1⟩
def aba{p:aC}(k:eP p){b:aT}(j:ee b.key)(n:ak):xl (⟨p⟩,b,n)=some (qC p b n):=by
 unfold xl
 dsimp only
 rw[U9 k j,af]
 rfl
def Kh{p:aC}(N:eP p){b:aT}(M:ee b.key):∀(l:List ak)(out:List aw),out.length+l.length<=1000000->aB (λj:((List ak)×(List aw))=>aa (ab (ah 0 (j.1.length:Int)) (aa (au j.1 0) λB=>some (aF B.av b.id)) (some false)) λ(B:Bool)=>ab B (aa (au j.1 0) λU=>aa (xl (⟨p⟩,(b,U))) λF=>ae (decide ((List.append j.2 (F::([]:List aw))).length*80<=140737488355328/\(List.append j.2 (F::([]:List aw))).length<=9223372036854775807)) <|ae ((leI 0 1)&&(leI 1 (j.1.length:Int))) <|some (.inl ((List.drop (Int.toNat 1) j.1),(List.append j.2 (F::([]:List aw)))))) (some (.inr (j.1,j.2)))) (l,out)=some (l.dropWhile (λn=>decide (n.av=b.id)),out++(l.takeWhile λn=>decide (n.av=b.id)).map (qC p b))
 | [],out,_=>by
  refine(iE (r:=(([]:List ak),out)) ?_).trans ?_
  ·dsimp only
   rw[aj (by simp),af,aj rfl]
  simp
 |n::l,out,O=>by
  have G:au (n::l) (0:Int)=some n:=rfl
  simp only[List.length_cons]at O
  rw[J2,J3]
  by_cases h:n.av=b.id
  ·have k:decide (n.av=b.id)=true:=da h
   rw[mr (z':=(l,out++[qC p b n])) (by
    dsimp only
    rw[an (da (by simp only[List.length_cons];omega)),G,af,af,an (by simp[h]),af,aba N M,af,cr (da (by rw[yc];omega)),cr (by rw[db];exact⟨by decide,da (by simp only[List.length_cons];omega)⟩)]
    rfl),Kh N M l _ (by rw[e3];simp only[List.length_cons,List.length_nil];omega),if_pos k,if_pos k]
   simp
  have k:¬decide (n.av=b.id)=true:=by simpa using h
  rw[if_neg k,if_neg k]
  refine(iE (r:=(n::l,out)) ?_).trans ?_
  ·dsimp only
   rw[an (da (by simp only[List.length_cons];omega)),G,af,af,aj (by simp[h])]
  simp
def getM(p:aC):List aT->List ak->List aR
 | [],_=>[]
 |b::bs,l=>⟨b.id,tU p b.key,b.length,(l.takeWhile λn=>decide (n.av=b.id)).map (qC p b)⟩::getM p bs (l.dropWhile λn=>decide (n.av=b.id))
def dE(s:bI)(p:aC):aJ:=⟨p.id,getM p s.bars (ke s p)⟩
def yW(p:aC)(z:List ak×List aR)(b:aT):List ak×List aR:=(z.1.dropWhile (λn=>decide (n.av=b.id)),z.2++[⟨b.id,tU p b.key,b.length,(z.1.takeWhile λn=>decide (n.av=b.id)).map (qC p b)⟩])
def Kc(p:aC):∀(j:List aT)(z:List ak×List aR),(j.foldl (yW p) z).2=z.2++getM p j z.1
 | [],z=>by simp[getM]
 |b::j,z=>by
  rw[List.foldl_cons,Kc p j]
  show(z.2++[_])++getM p j _=z.2++(_::getM p j _)
  rw[hU]
  rfl
def TB{α:Type}(q:α->Bool)(l:List α):(l.dropWhile q).length<=l.length:=(List.dropWhile_sublist q).length_le
def get_eq{s:bI}(j:cU s){id:Int}{p:aC}(G:partOf s id=some p):uC (s,id)=some (dE s p,0):=by
 have Z:=j.2.1.1.2
 have ae:=j.2.2.1.1.2
 have O:=j.2.2.2.1.2.1
 obtain⟨N,ad,aa⟩:=Be j G
 have U:(ke s p).length<=20000:=by unfold ke;rw[hG];exact hJ (kA _ _) O
 unfold uC
 dsimp only
 rw[Xy j G,af,aj (by simp),Ha (by omega),af,G]
 dsimp only
 rw[dU (σ:=List ak×List aR) (st:=λz k=>(k,z)) (l:=s.bars) (λz b=>.inl (yW p z b)) (λz=>z.2) (λk z=>z.1.length<=20000/\z.2.length<=k) (λk b z B Y=>by
  have ab:=bG B
  have M:=kn j (dk B)
  dsimp only
  rw[an (da (by omega)),bh (aW B),Kh N M.2.2.2 z.1 [] (by simp only[List.length_nil];omega),af]
  dsimp only
  rw[OM N M.2.2.2,af,cr (da (by rw[yc];omega)),aE (by omega)]
  rfl) (λk b z z' B Y F=>by
  injection F with F;subst F
  unfold yW
  dsimp only
  have:=TB (λn=>decide (n.av=b.id)) z.1
  rw[e3]
  simp only[List.length_cons,List.length_nil]
  omega) (λz _=>by dsimp only;rw[aj (by simp)]) (ke s p,[]) ⟨U,by simp⟩,fG (yW p) _ _ (λ_ _ _=>rfl),af,Kc]
 rfl
end Go.Proofs.YthhlipkkjippfaaGreatDoor