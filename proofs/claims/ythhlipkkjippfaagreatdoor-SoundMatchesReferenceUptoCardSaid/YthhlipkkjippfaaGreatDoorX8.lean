import Derived.Test.YthhlipkkjippfaaGreatDoorX7
set_option linter.all false
namespace Go.Proofs.YthhlipkkjippfaaGreatDoor
open Go Go.ak Go.Sy
attribute [local instance] bP bX
def Gi{len:Rat}{seen ws:List Written}:lg len seen ws=true↔(∀w∈ws,c7 len w)/\(∀(k:Nat) a b,ws[k]?=some a->ws[k+1]?=some b->bf wK a b<0)/\(∀(k:Nat) w,ws[k]?=some w->((seen++ws.take k).any λx=>decide (x.id=w.id))=false)/\(ws=[]\/(seen++ws).length<=20000):=by
 unfold lg;rw[ek];have key:(∀x∈List.range ws.length,(match ws[x]? with|some w=>jf len seen ws x w|none=>true)=true)↔∀(k:Nat) w,ws[k]?=some w->jf len seen ws k w=true:=by
  constructor
  ·intro h k w B;have:=h k (ib.2 (aZ B));rw[B]at this;exact this
  intro h k F;cases B:ws[k]? with
  |none=>rfl
  |some w=>exact h k w B
 refine Iff.trans key ?_;constructor
 ·intro h;have G:∀(k:Nat) w,ws[k]?=some w->(c7 len w/\((seen++ws.take k).any λx=>decide (x.id=w.id))=false)/\(seen++ws.take k).length<20000:=by
   intro k w B;have:=h k w B;unfold jf at this;simp only[dk,ea,gj]at this;exact this.1
  refine⟨λw B=>?_,λk a b M Y=>?_,λk w B=>(G k w B).1.2,?_⟩
  ·obtain⟨k,F⟩:=List.mem_iff_getElem?.1 B;exact(G k w F).1.1
  ·have:=h (k+1) b Y;unfold jf at this;dsimp only at this;rw[M]at this;simp only[dk,ea]at this;exact this.2
  cases hl:ws.length with
  |zero=>left;exact List.length_eq_zero_iff.1 hl
  |succ n=>
   right;have e:ws[n]?=some ws[n]:=c5 (by omega);have:=(G n _ e).2;rw[dT,fb]at this;rw[dT];omega
 rintro⟨N,O,U,h4⟩ k w B;have F:=aZ B;unfold jf;rw[c3 (N w (dd B)),U k w B,c3 (by
  rcases h4 with h4|h4
  ·subst h4;simp at F
  rw[dT]at h4;rw[dT,fb];omega)]
 cases k with
 |zero=>rfl
 |succ j=>
  dsimp only;cases M:ws[j]? with
  |none=>rfl
  |some a=>dsimp only;rw[c3 (O j a w M B)];rfl
def Mt{seen:List Written}(Y:(seen.map Written.id).Nodup)(ws:List Written):(∀(k:Nat) w,ws[k]?=some w->((seen++ws.take k).any λx=>decide (x.id=w.id))=false)↔((seen++ws).map Written.id).Nodup:=by
 constructor
 ·intro h;rw[nh,k8];refine⟨Y,?_,?_⟩
  ·rw[<-vj Written.id,lb];intro i j hi N aa;have:=h j ws[j] (c5 N);rw[h8]at this;simpa using this ws[i] (hD.2 (.inr (sm.2 ⟨i,by omega,rfl⟩)))
  intro a O b U e;obtain⟨x,hx,rfl⟩:=gg.1 O;obtain⟨y,Z,rfl⟩:=gg.1 U;obtain⟨k,F⟩:=List.mem_iff_getElem?.1 Z;have:=h k y F;rw[h8]at this;have:=this x (hD.2 (.inl hx));simp at this;exact this e
 intro h k w G;rw[nh,k8]at h;rw[h8];intro x hx B;have B:x.id=w.id:=by simpa using B
 rcases hD.1 hx with hx|hx
 ·exact h.2.2 x.id (gg.2 ⟨x,hx,rfl⟩) w.id (gg.2 ⟨w,dd G,rfl⟩) B
 obtain⟨j,N,rfl⟩:=sm.1 hx;have M:=h.2.1;rw[<-vj Written.id,lb]at M;have F:=aZ G;have e:ws[k]=w:=by rw[c5 F]at G;exact nn G
 have:=M j k (by omega) F (by omega);rw[e]at this;simp at this;exact this B
def P1{ws:List Written}(M:(ws.map Written.id).Nodup):my (λa b=>!decide (bf wK b a<0)) ws=true↔∀(k:Nat) a b,ws[k]?=some a->ws[k+1]?=some b->bf wK a b<0:=by
 rw[zt];have O:∀a b:Written,bf wK b a = - bf wK a b:=λa b=>wv (wK a) (wK b) rfl;constructor
 ·intro h k a b j B;have F:=h k a b j B;simp only[gj,hA]at F;refine fl λN=>?_;have G:=zr IF N F;unfold wK at G;simp only[o1]at G;rw[<-vj Written.id]at M;have:=Ho M k a b j B;simp at this;exact this G.2.2.2.1
 intro h k a b j B;have F:=h k a b j B;have:=O a b;simp only[gj,hA];omega
def mn(p:Part):List (aB×aT)->List Written->Bool
 | [],_=>true
 |x::l,z=>decide (kM p x.2 x.1)&&lg x.1.length z x.1.notes&&mn p l (z++x.1.notes)
def Dm(p:Part):∀(l:List (aB×aT))(z:List Written),(z.map Written.id).Nodup->z.length<=20000->(mn p l z=true↔l.all (fN p)=true/\(z++l.flatMap λx=>x.1.notes).length<=20000/\((z++l.flatMap λx=>x.1.notes).map Written.id).Nodup)
 | [],z,h1,N=>by simp[mn,h1,N]
 |x::l,z,h1,N=>by
  unfold mn;rw[List.all_cons,hL,<-h7];simp only[dk,ea];constructor
  ·rintro⟨⟨k,G⟩,B⟩;obtain⟨Y,Z,aa,a4⟩:=Gi.1 G;have j:=(Mt h1 x.1.notes).1 aa;have F:(z++x.1.notes).length<=20000:=by
    rcases a4 with a4|a4
    ·rw[a4,iu];exact N
    exact a4
   obtain⟨ab,ad,ae⟩:=(Dm p l _ j F).1 B;have O:(x.1.notes.map Written.id).Nodup:=by rw[nh,k8]at j;exact j.2.1
   refine⟨⟨?_,ab⟩,ad,ae⟩;unfold fN;simp only[dk,ea,ek];exact⟨⟨k,(P1 O).2 Z⟩,λw U=>Y w U⟩
  rintro⟨⟨k,G⟩,B,M⟩;have j:((z++x.1.notes).map Written.id).Nodup:=by rw[nh,k8]at M;exact M.1
  have F:(z++x.1.notes).length<=20000:=by rw[dT]at B;omega
  have O:(x.1.notes.map Written.id).Nodup:=by rw[nh,k8]at j;exact j.2.1
  unfold fN at k;simp only[dk,ea,ek]at k;exact⟨⟨k.1.1,Gi.2 ⟨λw U=>k.2 w U,(P1 O).1 k.1.2,(Mt h1 _).2 j,.inr F⟩⟩,(Dm p l _ j F).2 ⟨G,B,M⟩⟩
def LU{ρ:Type}(p:Part)(r:ρ):∀(l:List (aB×aT))(z:List Written),cV (λ(z:List Written) x=>if(decide (kM p x.2 x.1)&&lg x.1.length z x.1.notes)=true then .inl (z++x.1.notes)else(.inr (.inr r):_⊕(Unit⊕ρ))) (λ_=>.inl ()) l z=if mn p l z=true then .inl ()else .inr r
 | [],z=>rfl
 |x::l,z=>by
  have j:=LU p r l (z++x.1.notes);by_cases h:(decide (kM p x.2 x.1)&&lg x.1.length z x.1.notes)=true
  ·have e:mn p (x::l) z=mn p l (z++x.1.notes):=by
    show(decide (kM p x.2 x.1)&&lg x.1.length z x.1.notes&&mn p l (z++x.1.notes))=_;rw[h,k4]
   rw[e];simp only[cV];rw[if_pos h];exact j
  have e:mn p (x::l) z=false:=by
   show(decide (kM p x.2 x.1)&&lg x.1.length z x.1.notes&&mn p l (z++x.1.notes))=_;rw[k5]at h;rw[h,p4]
  rw[e];simp only[cV];rw[if_neg h];rfl
open Classical in
theorem OK{s:Score}{v:View}(hv:(bD v).length<=1000000):xF (s,v)=some (decide (dj s v)):=by
 unfold xF;dsimp only;rw[Hq,af];by_cases B:cI s
 ·rw[ag (by simp[B])];by_cases ad:v.aK.length=s.bars.length
  ·have aA:=B.2.1.1.2;have aD:=B.2.2.1.1.2;rw[af,ag (by simp[ad]),Cw (by omega),af];rcases oP s.parts λp=>decide (p.id=v.part)with ⟨aa,ab⟩| ⟨j,p,aa,ab,aq,az⟩
   ·rw[ab,ah (by simp),da];rintro⟨_,_,⟨p,h,_⟩,_⟩;unfold partOf at h;rw[aa]at h;cases h
   have ai:partOf s v.part=some p:=ab;have ay:=(pt B ai).1;rw[aq,ag (by simp)];have au:(v.aK.zip s.bars).length=s.bars.length:=by rw[I1];omega
   rw[cu (σ:=List Written) (st:=λz k=>(k,z)) (l:=v.aK.zip s.bars) (λz x=>if(decide (kM p x.2 x.1)&&lg x.1.length z x.1.notes)=true then .inl (z++x.1.notes)else .inr (.inr false)) (λz=>.inl ()) (λk z=>z.length<=20000) (λk x z al U=>by
    obtain⟨an,aj⟩:=rE al;have aB:=aZ aj;have ax:=dd an;have ak:=iR B (dd aj);have aC:=gG ax;dsimp only;rw[ah (c3 (by omega)),aY (aF an)];unfold GL;rw[af,aY (aF aa),aY (aF aj),aat ay ak.2.2.2,af,OL,af];by_cases M:kM p x.2 x.1
    ·rw[ag (by rw[c3 (p:=x.1.aw=x.2.id/\x.1.key=kT p x.2.key/\x.1.length=x.2.length) M];rfl),Xr (by rw[M.2.2];exact ak.2.1) U (by omega),c3 M,k4];by_cases O:lg x.1.length z x.1.notes=true
     ·rw[if_pos O,if_pos O,ew,av (by omega)];rfl
     rw[if_neg O,if_neg O,e9]
    ·rw[ah (by rw[da (p:=x.1.aw=x.2.id/\x.1.key=kT p x.2.key/\x.1.length=x.2.length) M];rfl),e9,da M,p4,if_neg (by simp)]) (λk x z z' al U G=>by
    split at G
    ·rename_i F;injection G with G;subst G;simp only[dk]at F;rcases (Gi.1 F.2).2.2.2 with a4|a4
     ·rw[a4,iu];exact U
     exact a4
    cases G) (λz U=>by dsimp only;rw[au,ag (by simp)]) [] (by simp),LU]
   have ae:=Dm p (v.aK.zip s.bars) [] (by simp) (by simp);have ar:((v.aK.zip s.bars).flatMap λx=>x.1.notes)=bD v:=by
    unfold bD;have e:(v.aK.zip s.bars).map Prod.fst=v.aK:=List.map_fst_zip (by omega)
    conv=>rhs;rw[<-e]
    rw[q5]
   rw[List.nil_append,ar]at ae;by_cases F:mn p (v.aK.zip s.bars) []=true
   ·rw[if_pos F,ew];obtain⟨ao,Y,Z⟩:=ae.1 F;rw[c3 (p:=dj s v) ⟨B,ad,⟨p,ai,ao⟩,Y,Z⟩]
   rw[if_neg F,e9,da];rintro⟨_,_,⟨q,N,h⟩,Y,Z⟩;rw[ai]at N;injection N with N;subst N;exact F (ae.2 ⟨h,Y,Z⟩)
  rw[af,ah (by simp;omega),da (λh=>ad h.2.1)]
 rw[ah (by simp[B]),af,ah rfl,da (λh=>B h.1)]
def eO(p:Part):Int:=if p.of=0 then p.id else p.of
def N1(s:Score)(p:Part):Part:=(partOf s (eO p)).getD p
def abK{l:List Part}(hl:l.length<=1000000)(id:Int):Cg (l,(),id)=some (ix l λp=>decide (p.id=id)):=by
 unfold Cg;dsimp only;rw[nL (l:=l) (λp=>decide (p.id=id)) (λk x j=>by
  have B:=aZ j;rw[ah (by simpa using B),aY (aF j)];unfold GU;dsimp only;unfold GV;simp only[af];by_cases h:x.id=id
  ·rw[ah (by simp[h])];simp[h]
  rw[ag (by simp[h]),av (by omega)];simp[h]) (by rw[ag (by simp)])]
 exact rG l _
def abL{l:List Part}(hl:l.length<=1000000)(id:Int):B3 (l,id,())=some (max (ix l λp=>decide (p.id=id)) 0,decide (0<=ix l λp=>decide (p.id=id))):=by
 unfold B3;dsimp only;rw[abK hl,af]
def others(s:Score)(p:Part):List aq:=s.notes.filter λn=>!decide (n.part=eO p)
def uv(x:aV)(n:Int):aV:=⟨x.step,x.alter,x.aO-n⟩
def iD(p:Part)(b:aT)(w:Written):aV×Int:=dO w.aN (cE (gk p b.key))
def AF(s:Score)(p:Part)(b:aT)(w:Written):aq:=⟨w.id,eO p,b.id,w.aS,w.br,w.start,w.length,uv (iD p b w).1 p.aO⟩
def WI(s:Score)(p:Part)(x:aV):Prop:=l6 x/\num (N1 s p).low<=num x/\num x<=num (N1 s p).high
instance (s:Score) (p:Part) (x:aV):Decidable (WI s p x):=inferInstanceAs (Decidable (_/\_/\_))
def dP{α β ρ:Type}(E:α->Int)(N:α->β)(R:α->ρ)(fin:List β->ρ)(l:List α)(z:List β):ρ:=match l.find? λx=>decide (E x≠0)with
 |some x=>R x
 |none=>fin (z++l.map N)
def wu{α β ρ:Type}(E:α->Int)(N:α->β)(R:α->ρ)(fin:List β->ρ)(x:α)(l:List α)(z:List β):dP E N R fin (x::l) z=if E x=0 then dP E N R fin l (z++[N x])else R x:=by
 unfold dP;rw[List.find?_cons];by_cases h:E x=0
 ·rw[if_pos h,da (by simpa using h)];dsimp only;cases l.find? λx=>decide (E x≠0)with
  |none=>simp
  |some y=>rfl
 rw[if_neg h,c3 h]
def EL{α β ρ:Type}(E:α->Int)(N:α->β)(R:α->ρ)(fin:List β->ρ):∀(l:List α)(z:List β),cV (λ(z:List β) x=>if E x=0 then .inl (z++[N x])else .inr (R x)) fin l z=dP E N R fin l z
 | [],z=>by unfold dP;simp[cV]
 |x::l,z=>by
  have j:=EL E N R fin l (z++[N x]);rw[wu];simp only[cV];by_cases h:E x=0
  ·rw[if_pos h,if_pos h];exact j
  rw[if_neg h,if_neg h]
def LC{α β ρ:Type}(E:α->Int)(N:α->β)(R:α->ρ)(fin:List β->ρ):∀(l m:List α)(z:List β),dP E N R fin (l++m) z=dP E N R (λz'=>dP E N R fin m z') l z
 | [],m,z=>by
  simp only[dP,List.nil_append,List.find?_nil,adN,iu]
 |x::l,m,z=>by
  rw[List.cons_append,wu,wu,LC E N R fin l m]
def gK(s:Score)(v:View):List (aT×Written):=(v.aK.zip s.bars).flatMap λx=>x.1.notes.map λw=>(x.2,w)
def zR{α σ ρ:Type}(f:σ->α->σ⊕ρ)(fin:σ->ρ)(x:α)(xs:List α)(z:σ):cV f fin (x::xs) z=Sum.elim (cV f fin xs) id (f z x):=by
 simp only[cV];cases f z x<;>rfl
theorem EM{ρ:Type}(E:aT×Written->Int)(N:aT×Written->aq)(R:aT×Written->ρ)(fin:List aq->ρ):∀(l:List (aB×aT))(z:List aq),cV (λ(z:List aq)(x:aB×aT)=>dP (ρ:=(List aq)⊕ρ) (λw=>E (x.2,w)) (λw=>N (x.2,w)) (λw=>.inr (R (x.2,w))) (λz=>.inl z) x.1.notes z) fin l z=dP E N R fin (l.flatMap λx=>x.1.notes.map λw=>(x.2,w)) z
 | [],z=>by unfold dP;simp[cV]
 |x::l,z=>by
  rw[hL,LC,zR];have key:∀(ws:List Written)(z:List aq),Sum.elim (cV (λ(z:List aq)(x:aB×aT)=>dP (ρ:=(List aq)⊕ρ) (λw=>E (x.2,w)) (λw=>N (x.2,w)) (λw=>.inr (R (x.2,w))) (λz=>.inl z) x.1.notes z) fin l) id (dP (ρ:=(List aq)⊕ρ) (λw=>E (x.2,w)) (λw=>N (x.2,w)) (λw=>.inr (R (x.2,w))) (λz=>.inl z) ws z)=dP E N R (λz'=>dP E N R fin (l.flatMap λx=>x.1.notes.map λw=>(x.2,w)) z') (ws.map λw=>(x.2,w)) z:=by
   intro ws;induction ws with
   |nil=>
    intro z;have G:∀{β:Type}(k:Written->Int)(B:Written->aq)(F:Written->β)(j:List aq->β)(z:List aq),dP k B F j [] z=j z:=λk B F j z=>by unfold dP;simp
    have M:∀{β:Type}(k:aT×Written->Int)(B:aT×Written->aq)(F:aT×Written->β)(j:List aq->β)(z:List aq),dP k B F j [] z=j z:=λk B F j z=>by unfold dP;simp
    rw[adN,G,M];exact EM E N R fin l z
   |cons w ws O=>
    intro z;rw[e7,wu,wu];by_cases h:E (x.2,w)=0
    ·rw[if_pos h,if_pos h];exact O _
    rw[if_neg h,if_neg h];rfl
  exact key x.1.notes z
def pN(s:Score)(p:Part)(q:aT×Written):aq:=AF s p q.1 q.2
theorem LD{α β:Type}{E:α->Int}{N:α->β}{ρ:Type}{R:α->ρ}{l:List α}{z z':List β}(h:dP (ρ:=(List β)⊕ρ) E N (λx=>.inr (R x)) (λz=>.inl z) l z=.inl z'):z'.length=z.length+l.length:=by
 unfold dP at h;split at h
 ·cases h
 injection h with h;subst h;simp
def te{α:Type}(l:List α)(x:α):(List.append l (x::([]:List α))).length=l.length+1:=by
 show(l++[x]).length=_;simp
def nT(x:aV)(n:Int):aV:=⟨x.step,x.alter,x.aO+n⟩
def ki(p:Part)(n:aq):aq:=⟨n.id,p.id,n.aw,n.aS,n.br,n.start,n.length,nT n.aN p.aO⟩
def fm(s:Score)(p:Part):List aq:=(s.notes.filter λn=>decide (n.part=eO p)).map (ki p)
def ZE{s:Score}(F:cI s){id:Int}{p:Part}(B:partOf s id=some p):BZ (s,id)=some (fm s p,0):=by
 have ai:=F.2.1.1.2;have au:=F.2.2.1.1.2;have an:=F.2.2.2.1.2.1;obtain⟨aa,al,aj⟩:=pt F B;have ar:=aa.2.2.2.1;unfold BZ;dsimp only;rw[yq (by omega),af,ag (by simp[F]),abL (by omega),af];dsimp only;unfold partOf at B;rcases oP s.parts λq=>decide (q.id=id)with ⟨N,O⟩| ⟨k,q,N,O,U,ae⟩
 ·rw[N]at B;cases B
 rw[O]at B;injection B with B;subst B;rw[U,ag (by simp),show max (k:Int) 0=(k:Int) by omega,aY (aF N)];have Z:B5 (s,q)=some (s,eO q,q):=by
  unfold B5 eO;dsimp only;by_cases h0:q.of=0
  ·rw[ah (by simp[h0]),af,if_pos h0]
  rw[ag (by simp[h0]),af,if_neg h0]
 rw[Z,af];dsimp only;rw[cu (σ:=List aq) (st:=λz k=>(k,z)) (l:=s.notes) (λz n=>.inl (if decide (n.part=eO q)=true then z++[ki q n]else z)) (λz=>z) (λk z=>z.length<=k) (λj n z M ab=>by
  have ak:=aZ M;have Y:=F.2.2.2.1.2.2.1 n (dd M);obtain⟨_,_,_,_,G,_⟩:=pe Y;have ao:=G.2.2.2.2.2.2.2.2.2.2;dsimp only;rw[ah (c3 (by omega)),aY (aF M)];by_cases h:n.part=eO q
  ·rw[ag (by simp[h]),av (by omega),bG (c3 (by rw[te];omega)),af,av (by omega),if_pos (c3 h)];rfl
  ·rw[ah (by simp[h]),af,av (by omega),if_neg (by simpa using h)];rfl) (λj n z z' M ab G=>by
  injection G with G;subst G;split
  ·rw[dT];simp only[List.length_cons,List.length_nil];omega
  omega) (λz _=>by dsimp only;rw[ag (by simp)]) [] (by simp),eh (λ(z:List aq)(n:aq)=>if decide (n.part=eO q)=true then z++[ki q n]else z) _ _ (λ_ _ _=>rfl),af]
 have key:∀(l:List aq)(z:List aq),l.foldl (λz n=>if decide (n.part=eO q)=true then z++[ki q n]else z) z=z++(l.filter λn=>decide (n.part=eO q)).map (ki q):=by
  intro l;induction l with
  |nil=>intro z;simp
  |cons n l ad=>
   intro z;rw[List.foldl_cons,ad,ik];by_cases h:decide (n.part=eO q)=true
   ·rw[if_pos h,if_pos h];simp
   rw[if_neg h,if_neg h]
 rw[key];rfl
def jS(p:Part)(b:aT)(n:aq):Written:=⟨n.id,n.aS,n.br,n.start,n.length,(dO n.aN (gk p b.key)).1⟩
def adw{p:Part}(k:dG p){b:aT}(j:cW b.key)(n:aq):x4 (⟨p⟩,b,n)=some (jS p b n):=by
 unfold x4;dsimp only;rw[Xj k j,af];rfl
def Mg{p:Part}(N:dG p){b:aT}(M:cW b.key):∀(l:List aq)(k:List Written),k.length+l.length<=1000000->aA (λj:((List aq)×(List Written))=>aa (ab (aj 0 (j.1.length:Int)) (aa (an j.1 0) λF=>some (aC F.aw b.id)) (some false)) λ(F:Bool)=>ab F (aa (an j.1 0) λO=>aa (x4 (⟨p⟩,(b,O))) λG=>ae (WP 80 (List.append j.2 (G::([]:List Written)))) <|ae ((leI 0 1)&&(leI 1 (j.1.length:Int))) <|some (.inl ((List.drop (Int.toNat 1) j.1),(List.append j.2 (G::([]:List Written)))))) (some (.inr (j.1,j.2)))) (l,k)=some (l.dropWhile (λn=>decide (n.aw=b.id)),k++(l.takeWhile λn=>decide (n.aw=b.id)).map (jS p b))
 | [],k,_=>by
  refine(fj (r:=(([]:List aq),k)) ?_).trans ?_
  ·dsimp only;rw[ag (by simp),af,ag rfl]
  simp
 |n::l,k,hl=>by
  have h0:an (n::l) (0:Int)=some n:=rfl;simp only[List.length_cons]at hl;rw[u5,J4];by_cases h:n.aw=b.id
  ·have B:decide (n.aw=b.id)=true:=c3 h;rw[jC (z':=(l,k++[jS p b n])) (by
    dsimp only;rw[ah (c3 (by simp only[List.length_cons];omega)),h0,af,af,ah (by simp[h]),af,adw N M,af,bG (c3 (by rw[te];omega)),bG (by
     rw[dk];exact⟨by decide,c3 (by simp only[List.length_cons];omega)⟩)]
    rfl),Mg N M l _ (by rw[dT];simp only[List.length_cons,List.length_nil];omega),if_pos B,if_pos B]
   simp
  have B:¬decide (n.aw=b.id)=true:=by simpa using h
  rw[if_neg B,if_neg B];refine(fj (r:=(n::l,k)) ?_).trans ?_
  ·dsimp only;rw[ah (c3 (by simp only[List.length_cons];omega)),h0,af,af,ag (by simp[h])]
  simp
def getM(p:Part):List aT->List aq->List aB
 | [],_=>[]
 |b::bs,l=>⟨b.id,kT p b.key,b.length,(l.takeWhile λn=>decide (n.aw=b.id)).map (jS p b)⟩::getM p bs (l.dropWhile λn=>decide (n.aw=b.id))
def dB(s:Score)(p:Part):View:=⟨p.id,getM p s.bars (fm s p)⟩
def zW(p:Part)(z:List aq×List aB)(b:aT):List aq×List aB:=(z.1.dropWhile (λn=>decide (n.aw=b.id)),z.2++[⟨b.id,kT p b.key,b.length,(z.1.takeWhile λn=>decide (n.aw=b.id)).map (jS p b)⟩])
def Mb(p:Part):∀(j:List aT)(z:List aq×List aB),(j.foldl (zW p) z).2=z.2++getM p j z.1
 | [],z=>by simp[getM]
 |b::j,z=>by
  rw[List.foldl_cons,Mb p j];show(z.2++[_])++getM p j _=z.2++(_::getM p j _);rw[h7];rfl
def VY{α:Type}(q:α->Bool)(l:List α):(l.dropWhile q).length<=l.length:=(List.dropWhile_sublist q).length_le
def get_eq{s:Score}(j:cI s){id:Int}{p:Part}(G:partOf s id=some p):xU (s,id)=some (dB s p,0):=by
 have Z:=j.2.1.1.2;have ae:=j.2.2.1.1.2;have O:=j.2.2.2.1.2.1;obtain⟨N,ad,aa⟩:=pt j G;have U:(fm s p).length<=20000:=by unfold fm;rw[hP];exact hB (hW _ _) O
 unfold xU;dsimp only;rw[ZE j G,af,ag (by simp),IB (by omega),af,G];dsimp only;rw[cu (σ:=List aq×List aB) (st:=λz k=>(k,z)) (l:=s.bars) (λz b=>.inl (zW p z b)) (λz=>z.2) (λk z=>z.1.length<=20000/\z.2.length<=k) (λk b z B Y=>by
  have ab:=aZ B;have M:=iR j (dd B);dsimp only;rw[ah (c3 (by omega)),aY (aF B),Mg N M.2.2.2 z.1 [] (by simp only[List.length_nil];omega),af];dsimp only;rw[QI N M.2.2.2,af,bG (c3 (by rw[te];omega)),av (by omega)];rfl) (λk b z z' B Y F=>by
  injection F with F;subst F;unfold zW;dsimp only;have:=VY (λn=>decide (n.aw=b.id)) z.1;rw[dT];simp only[List.length_cons,List.length_nil];omega) (λz _=>by dsimp only;rw[ag (by simp)]) (fm s p,[]) ⟨U,by simp⟩,eh (zW p) _ _ (λ_ _ _=>rfl),af,Mb]
 rfl
def Vz(q:Rat):AZ q=some (decide (bF q)):=by
 unfold AZ;rw[sv,af];by_cases j:jL q
 ·have B:q.d≠0:=by have:=j.1;omega
  rw[ah (by simp[j]),bG (by simp[B])];by_cases k:0<=q.n
  ·rw[ah (by simp[k]),af];exact dn some (by rw[gl];simp[bF,j,k])
  rw[ag (by simp;omega),af,da (λh=>k h.2.1)]
 rw[ag (by simp[j]),af,da (λh=>j h.1)]
def dF(w:Written):Prop:=(0<=w.aS/\w.aS<=9)/\(0<=w.br/\w.br<=20)/\bF w.start/\bO w.aN
instance (w:Written):Decidable (dF w):=inferInstanceAs (Decidable (_/\_/\_/\_))
def Q8(a b c d e f:Bool):ab a (ab b (ab c (ab d (aa (some e) λj=>ab j (aa (some f) λk=>some k) (some false)) (some false)) (some false)) (some false)) (some false)=some (a&&b&&c&&d&&e&&f):=by cases a<;>cases b<;>cases c<;>cases d<;>cases e<;>cases f<;>rfl
def Vy(w:Written):AY w=some (decide (dF w)):=by
 unfold AY;rw[Vz,mJ,Q8,af];exact iL (by simp[dF,mv])
def Vt{l:List Written}(hl:l.length<=1000000000):Ce (l,())=some (l.any λw=>!decide (dF w)):=by
 unfold Ce;dsimp only;rw[mq (l:=l) (λw=>!decide (dF w)) (λk x j=>by
  have B:=aZ j;unfold Gy;rw[ah (by simpa using B),aY (aF j),Vy,af,af];cases decide (dF x)
  ·rfl
  show ab false _ _=_;rw[gE,av (by omega)];rfl) (by rw[ag (by simp)])]
def eA(v:View):Prop:=v.aK.length<=4000/\(bD v).length<=20000/\∀m∈v.aK,∀w∈m.notes,dF w
instance (v:View):Decidable (eA v):=inferInstanceAs (Decidable (_/\_/\_))
def LX{ρ:Type}(r:ρ):∀(l:List aB)(z:Int),cV (λ(z:Int)(m:aB)=>if(m.notes.any λw=>!decide (dF w))=true then(.inr (.inr r):Int⊕(Int⊕ρ))else .inl (z+(m.notes.length:Int))) (λz=>.inl z) l z=if(∀m∈l,∀w∈m.notes,dF w)then .inl (z+((l.flatMap aB.notes).length:Int))else .inr r
 | [],z=>by simp[cV]
 |m::l,z=>by
  simp only[cV];by_cases j:∀w∈m.notes,dF w
  ·have e:(m.notes.any λw=>!decide (dF w))=false:=by
    rw[h8];intro w k;simp[j w k]
   rw[e,if_neg (by decide)];dsimp only;rw[LX r l];rw[hL,dT,Int.natCast_add,Int.add_assoc];refine E8 ?_;simp only[fa,forall_eq_or_imp];exact⟨λh=>⟨j,h⟩,λh=>h.2⟩
  have e:(m.notes.any λw=>!decide (dF w))=true:=by
   rw[hM];refine fl λB=>j λw k=>?_;refine fl λF=>B ⟨w,k,by simp[F]⟩
  rw[e,if_pos rfl,if_neg (λh=>j (h m (by simp)))]
def zu{v:View}(U:v.aK.length<=1000000)(Y:(bD v).length<=1000000):sf v=some (decide (eA v)):=by
 unfold sf;rw[cu (σ:=Int) (st:=λz k=>(z,k)) (l:=v.aK) (λ(z:Int)(m:aB)=>if(m.notes.any λw=>!decide (dF w))=true then .inr (.inr false)else .inl (z+(m.notes.length:Int))) (λz=>.inl z) (λk z=>0<=z/\z<=k*1000000) (λk x z j O=>by
  have M:=aZ j;have N:=gG (dd j);dsimp only;rw[ah (by simpa using M),aY (aF j),av (by omega),Vt (by omega),af];cases (x.notes.any λw=>!decide (dF w))
  ·rw[gE,av (by omega)];rfl
  ·rfl) (λk x z z' j O B=>by
  have N:=gG (dd j);by_cases F:(x.notes.any λw=>!decide (dF w))=true
  ·rw[if_pos F]at B;cases B
  rw[if_neg F]at B;cases B;omega) (λz _=>by dsimp only;rw[ag (by simp)]) 0 (by omega),LX]
 by_cases h:∀m∈v.aK,∀w∈m.notes,dF w
 ·rw[if_pos h,ew];have e:(v.aK.flatMap aB.notes)=bD v:=rfl;rw[e,Int.zero_add,fK,af];refine dn some ?_;unfold leI;rw[gl,dk,ea,ea,ea];constructor
  ·rintro⟨a,b⟩;exact⟨by omega,by omega,h⟩
  rintro⟨a,b,_⟩;exact⟨by omega,by omega⟩
 rw[if_neg h,e9,da (λG=>h G.2.2)]
theorem vF{s:Score}{v:View}(h:dj s v):eA v:=by
 obtain⟨Y,hl,⟨p,ae,O⟩,N,_⟩:=h;have ab:=Y.2.1.1.2;refine⟨by omega,N,λm U w Z=>?_⟩;obtain⟨k,j⟩:=uu U;have ad:=aZ j;have aa:(v.aK.zip s.bars)[k]?=some (m,s.bars[k]'(by omega)):=by
  rw[sx];exact⟨j,c5 (by omega)⟩
 have:=ek.1 O _ (dd aa);unfold fN at this;simp only[dk,ek,ea]at this;obtain⟨_,B,F,G,M,_⟩:=this.2 w Z;exact⟨B,F,M,G⟩
theorem MH{α:Type}(cF:α->Bool){step:Int×(Int×List α)->Option ((Int×(Int×List α))⊕(Int×List α))}(ad:∀(i j:Nat)(l:List α)(x:α),l[j]?=some x->i<j->l.length<=1000000000->step ((i:Int),((j:Int),l))=some (.inl (if cF x=true then(((i+1:Nat):Int),(((j+1:Nat):Int),l.set i x))else((i:Int),(((j+1:Nat):Int),l)))))(aa:∀(i:Nat)(l:List α),step ((i:Int),((l.length:Int),l))=some (.inr ((i:Int),l))) :
  ∀(n i j:Nat)(l:List α),j+n=l.length->i<j->l.length<=1000000000->∃l',aA step ((i:Int),((j:Int),l))=some (((i+((l.drop j).filter cF).length:Nat):Int),l')/\l'.length=l.length/\l'.take (i+((l.drop j).filter cF).length)=l.take i++(l.drop j).filter cF:=by
 intro n;induction n with
 |zero=>
  intro i j l ab N hl;have:j=l.length:=by omega
  subst this;refine⟨l,?_,rfl,?_⟩
  ·rw[zc];exact fj (aa i l)
  rw[zc];simp
 |succ n Y=>
  intro i j l ab N hl;have O:j<l.length:=by omega
  have U:l[j]?=some l[j]:=c5 O;rw[hS O];generalize l[j]=x at U;have M:=ad i j l x U N hl;cases k:cF x with
  |true=>
   rw[k,if_pos rfl]at M;have Z:(l.set i x).drop (j+1)=l.drop (j+1):=by rw[List.drop_set_of_lt (by omega)]
   obtain⟨l',B,F,G⟩:=Y (i+1) (j+1) (l.set i x) (by rw[o0];omega) (by omega) (by rw[o0];omega);rw[Z]at B G;rw[o0]at F;have ht:(l.set i x).take (i+1)=l.take i++[x]:=by
    rw[KR,List.getElem?_set_self (by omega),List.take_set_of_le (ec _)];rfl
   refine⟨l',?_,F,?_⟩
   ·rw[jC M,B];simp[ik,k];omega
   rw[ik,if_pos k,List.length_cons,show i+(((l.drop (j+1)).filter cF).length+1)=i+1+((l.drop (j+1)).filter cF).length by omega,G,ht];simp
  |false=>
   rw[k,if_neg (by decide)]at M;obtain⟨l',B,F,G⟩:=Y i (j+1) l (by omega) (by omega) hl;refine⟨l',?_,F,?_⟩
   ·rw[jC M,B];simp[ik,k]
   rw[ik,if_neg (by simp[k])];exact G
def Ew{α:Type}(cF:α->Bool):∀(l:List α),match l.findIdx? (λx=>!cF x)with
  |some i=>i<l.length/\l.filter cF=l.take i++(l.drop (i+1)).filter cF
  |none=>l.filter cF=l
 | []=>rfl
 |x::l=>by
  have j:=Ew cF l;rw[pa];cases k:cF x with
  |true=>
   rw[if_neg (by simp)];cases B:l.findIdx? (λx=>!cF x)with
   |none=>
    rw[B]at j;dsimp only at j;show(x::l).filter cF=x::l;rw[ik,if_pos k,j]
   |some i=>
    rw[B]at j;dsimp only at j;show i+1<(x::l).length/\(x::l).filter cF=(x::l).take (i+1)++((x::l).drop (i+1+1)).filter cF;refine⟨by simp;omega,?_⟩;rw[ik,if_pos k,j.2];rfl
  |false=>
   rw[if_pos (by simp)];show 0<(x::l).length/\(x::l).filter cF=(x::l).take 0++((x::l).drop (0+1)).filter cF;refine⟨by simp,?_⟩;rw[ik,if_neg (by simp[k])];rfl
def VN{l:List Written}(hl:l.length<=1000000)(o:Int):(aa (aR (aA (λF:Int=>ab (aj F (l.length:Int)) (ae ((leI 0 F)&&(aj F (l.length:Int))) <|aa (an l F) λB=>ab (!(aC B.br o)) (some (.inr (.inr F))) (ae (ai (F+1)) <|some (.inl (F+1)))) (some (.inr (.inl ())))) 0) λ(F:Unit)=>some (-1)) λ(F:Int)=>ab (aC F (-1)) (some l) (aa (ae (ai (F+1)) <|aA (λB:(Int×(Int×(List Written)))=>ab (aj B.2.1 (B.2.2.length:Int)) (aa (ae ((leI 0 B.2.1)&&(aj B.2.1 (B.2.2.length:Int))) <|aa (an B.2.2 B.2.1) λG=>ab (!(!(aC G.br o))) (ae ((leI 0 B.1)&&(aj B.1 (B.2.2.length:Int))) <|aa (an B.2.2 B.1) λao=>ae (ai (B.1+1)) <|some ((B.1+1),(List.set B.2.2 (Int.toNat B.1) G))) (some (B.1,B.2.2))) λ(G:(Int×(List Written)))=>ae (ai (B.2.1+1)) <|some (.inl (G.1,((B.2.1+1),G.2)))) (some (.inr (B.1,B.2.2)))) (F,((F+1),l))) λ(B:(Int×(List Written)))=>ae ((leI 0 B.1)&&(leI B.1 (B.2.length:Int))) <|ae ((leI 0 B.1)&&(leI B.1 ((List.append (List.take (Int.toNat B.1) B.2) (List.replicate (Int.toNat ((B.2.length:Int)-B.1)) ((⟨0,0,0,(⟨0,0⟩:Rat),(⟨0,0⟩:Rat),(⟨0,0,0⟩:aV)⟩:Written):Written))).length:Int))) <|some (List.take (Int.toNat B.1) (List.append (List.take (Int.toNat B.1) B.2) (List.replicate (Int.toNat ((B.2.length:Int)-B.1)) ((⟨0,0,0,(⟨0,0⟩:Rat),(⟨0,0⟩:Rat),(⟨0,0,0⟩:aV)⟩:Written):Written))))))=some (l.filter λw=>decide (w.br=o)):=by
 have af:=MH (α:=Written) (λw=>decide (w.br=o)) (step:=(λB:(Int×(Int×(List Written)))=>ab (aj B.2.1 (B.2.2.length:Int)) (aa (ae ((leI 0 B.2.1)&&(aj B.2.1 (B.2.2.length:Int))) <|aa (an B.2.2 B.2.1) λG=>ab (!(!(aC G.br o))) (ae ((leI 0 B.1)&&(aj B.1 (B.2.2.length:Int))) <|aa (an B.2.2 B.1) λao=>ae (ai (B.1+1)) <|some ((B.1+1),(List.set B.2.2 (Int.toNat B.1) G))) (some (B.1,B.2.2))) λ(G:(Int×(List Written)))=>ae (ai (B.2.1+1)) <|some (.inl (G.1,((B.2.1+1),G.2)))) (some (.inr (B.1,B.2.2))))) (λi j l x N ar hl=>by
  have aw:=aZ N;obtain⟨y,al⟩:∃y,l[i]?=some y:=⟨_,c5 (by omega)⟩;dsimp only;rw[ah (c3 (by omega)),bG (show(leI 0 (j:Int)&&aj (j:Int) (l.length:Int))=true by rw[dk];exact⟨c3 (by omega),c3 (by omega)⟩),aY (aF N)];show aa (ab (!(!(decide (x.br=o)))) _ _) _=_;cases decide (x.br=o)
  ·rw[if_neg (by decide)];refine(au (x:=((i:Int),l)) rfl).trans ?_;exact av (n:=(j:Int)+1) (by omega)
  rw[if_pos rfl];refine(au (x:=((i:Int)+1,l.set i x)) ?_).trans ?_
  ·refine(ah rfl).trans ?_;rw[bG (show(leI 0 (i:Int)&&aj (i:Int) (l.length:Int))=true by rw[dk];exact⟨c3 (by omega),c3 (by omega)⟩),aY (aF al),av (by omega),Int.toNat_natCast]
  exact av (n:=(j:Int)+1) (by omega)) (λi l=>by dsimp only;rw[ag (by simp)])
 rw[nL (l:=l) (λw=>!(decide (w.br=o))) (λk x N=>by
  have ad:=aZ N;rw[ah (by simpa using ad),bG (show(leI 0 (k:Int)&&aj (k:Int) (l.length:Int))=true by rw[dk];exact⟨c3 (by omega),c3 (by omega)⟩),aY (aF N)];show ab (!(decide (x.br=o))) _ _=_;cases decide (x.br=o)
  ·rfl
  show ab false _ _=_;rw[gE,av (by omega)];rfl) (by rw[ag (by simp)])]
 have M:=Ew (λw=>decide (w.br=o)) l;cases Y:l.findIdx? (λw=>!(decide (w.br=o)))with
 |none=>
  rw[Y]at M;dsimp only at M;rw[M];rfl
 |some i=>
  rw[Y]at M;dsimp only at M;obtain⟨hi,M⟩:=M;obtain⟨l',U,aq,O⟩:=af (l.length-(i+1)) i (i+1) l (by omega) (by omega) (by omega);rw[<-M]at O;have ak:i+((l.drop (i+1)).filter λw=>decide (w.br=o)).length=(l.filter λw=>decide (w.br=o)).length:=by
   rw[M,dT,fb,qd (by omega)]
  have ax:=hW (λw=>decide (w.br=o)) l;rw[ak]at U O;refine(au (x:=(i:Int)) rfl).trans ?_;refine(ag (da (by omega))).trans ?_;refine(au (x:=(((l.filter λw=>decide (w.br=o)).length:Int),l')) ((av (by omega)).trans U)).trans ?_;generalize ay:(l.filter λw=>decide (w.br=o))=r at *;have Z:(List.append (List.take (Int.toNat (r.length:Int)) l') (List.replicate (Int.toNat ((l'.length:Int)-(r.length:Int))) ((⟨0,0,0,(⟨0,0⟩:Rat),(⟨0,0⟩:Rat),(⟨0,0,0⟩:aV)⟩:Written):Written)))=r++List.replicate (l'.length-r.length) (⟨0,0,0,⟨0,0⟩,⟨0,0⟩,⟨0,0,0⟩⟩:Written):=by
   rw[Int.toNat_natCast,O,show Int.toNat ((l'.length:Int)-(r.length:Int))=l'.length-r.length by omega];rfl
  dsimp only;rw[Z];refine(bG (show(leI 0 (r.length:Int)&&leI (r.length:Int) (l'.length:Int))=true by rw[dk];exact⟨c3 (by omega),c3 (by omega)⟩)).trans ?_;refine(bG (show(leI 0 (r.length:Int)&&leI (r.length:Int) ((r++List.replicate (l'.length-r.length) (⟨0,0,0,⟨0,0⟩,⟨0,0⟩,⟨0,0,0⟩⟩:Written)).length:Int))=true by rw[dk,dT];exact⟨c3 (by omega),c3 (by omega)⟩)).trans ?_;rw[Int.toNat_natCast];simp
def VM{l:List Written}(hl:l.length<=1000000)(o:Int):(aa (aR (aA (λG:Int=>ab (aj G (l.length:Int)) (ae ((leI 0 G)&&(aj G (l.length:Int))) <|aa (an l G) λB=>aa (ab (aC B.aS 0) (some true) (some (aC B.aS o))) λ(F:Bool)=>ab (!F) (some (.inr (.inr G))) (ae (ai (G+1)) <|some (.inl (G+1)))) (some (.inr (.inl ())))) 0) λ(G:Unit)=>some (-1)) λ(G:Int)=>ab (aC G (-1)) (some l) (aa (ae (ai (G+1)) <|aA (λB:(Int×(Int×(List Written)))=>ab (aj B.2.1 (B.2.2.length:Int)) (aa (ae ((leI 0 B.2.1)&&(aj B.2.1 (B.2.2.length:Int))) <|aa (an B.2.2 B.2.1) λF=>aa (ab (aC F.aS 0) (some true) (some (aC F.aS o))) λ(aq:Bool)=>ab (!(!aq)) (ae ((leI 0 B.1)&&(aj B.1 (B.2.2.length:Int))) <|aa (an B.2.2 B.1) λar=>ae (ai (B.1+1)) <|some ((B.1+1),(List.set B.2.2 (Int.toNat B.1) F))) (some (B.1,B.2.2))) λ(F:(Int×(List Written)))=>ae (ai (B.2.1+1)) <|some (.inl (F.1,((B.2.1+1),F.2)))) (some (.inr (B.1,B.2.2)))) (G,((G+1),l))) λ(B:(Int×(List Written)))=>ae ((leI 0 B.1)&&(leI B.1 (B.2.length:Int))) <|ae ((leI 0 B.1)&&(leI B.1 ((List.append (List.take (Int.toNat B.1) B.2) (List.replicate (Int.toNat ((B.2.length:Int)-B.1)) ((⟨0,0,0,(⟨0,0⟩:Rat),(⟨0,0⟩:Rat),(⟨0,0,0⟩:aV)⟩:Written):Written))).length:Int))) <|some (List.take (Int.toNat B.1) (List.append (List.take (Int.toNat B.1) B.2) (List.replicate (Int.toNat ((B.2.length:Int)-B.1)) ((⟨0,0,0,(⟨0,0⟩:Rat),(⟨0,0⟩:Rat),(⟨0,0,0⟩:aV)⟩:Written):Written))))))=some (l.filter λw=>decide (w.aS=0)||decide (w.aS=o)):=by
 have ak:=MH (α:=Written) (λw=>decide (w.aS=0)||decide (w.aS=o)) (step:=(λB:(Int×(Int×(List Written)))=>ab (aj B.2.1 (B.2.2.length:Int)) (aa (ae ((leI 0 B.2.1)&&(aj B.2.1 (B.2.2.length:Int))) <|aa (an B.2.2 B.2.1) λF=>aa (ab (aC F.aS 0) (some true) (some (aC F.aS o))) λ(aq:Bool)=>ab (!(!aq)) (ae ((leI 0 B.1)&&(aj B.1 (B.2.2.length:Int))) <|aa (an B.2.2 B.1) λar=>ae (ai (B.1+1)) <|some ((B.1+1),(List.set B.2.2 (Int.toNat B.1) F))) (some (B.1,B.2.2))) λ(F:(Int×(List Written)))=>ae (ai (B.2.1+1)) <|some (.inl (F.1,((B.2.1+1),F.2)))) (some (.inr (B.1,B.2.2))))) (λi j l x N ax hl=>by
  have ay:=aZ N;obtain⟨y,ao⟩:∃y,l[i]?=some y:=⟨_,c5 (by omega)⟩;dsimp only;rw[ah (c3 (by omega)),bG (show(leI 0 (j:Int)&&aj (j:Int) (l.length:Int))=true by rw[dk];exact⟨c3 (by omega),c3 (by omega)⟩),aY (aF N),rJ,af];show aa (ab (!(!(decide (x.aS=0)||decide (x.aS=o)))) _ _) _=_;cases decide (x.aS=0)||decide (x.aS=o)
  ·rw[if_neg (by decide)];refine(au (x:=((i:Int),l)) rfl).trans ?_;exact av (n:=(j:Int)+1) (by omega)
  rw[if_pos rfl];refine(au (x:=((i:Int)+1,l.set i x)) ?_).trans ?_
  ·refine(ah rfl).trans ?_;rw[bG (show(leI 0 (i:Int)&&aj (i:Int) (l.length:Int))=true by rw[dk];exact⟨c3 (by omega),c3 (by omega)⟩),aY (aF ao),av (by omega),Int.toNat_natCast]
  exact av (n:=(j:Int)+1) (by omega)) (λi l=>by dsimp only;rw[ag (by simp)])
 rw[nL (l:=l) (λw=>!(decide (w.aS=0)||decide (w.aS=o))) (λk x N=>by
  have ad:=aZ N;rw[ah (by simpa using ad),bG (show(leI 0 (k:Int)&&aj (k:Int) (l.length:Int))=true by rw[dk];exact⟨c3 (by omega),c3 (by omega)⟩),aY (aF N),rJ,af];show ab (!(decide (x.aS=0)||decide (x.aS=o))) _ _=_;cases decide (x.aS=0)||decide (x.aS=o)
  ·rfl
  show ab false _ _=_;rw[gE,av (by omega)];rfl) (by rw[ag (by simp)])]
 have M:=Ew (λw=>decide (w.aS=0)||decide (w.aS=o)) l;cases Y:l.findIdx? (λw=>!(decide (w.aS=0)||decide (w.aS=o)))with
 |none=>
  rw[Y]at M;dsimp only at M;rw[M];rfl
 |some i=>
  rw[Y]at M;dsimp only at M;obtain⟨hi,M⟩:=M;obtain⟨l',U,aw,O⟩:=ak (l.length-(i+1)) i (i+1) l (by omega) (by omega) (by omega);rw[<-M]at O;have al:i+((l.drop (i+1)).filter λw=>decide (w.aS=0)||decide (w.aS=o)).length=(l.filter λw=>decide (w.aS=0)||decide (w.aS=o)).length:=by
   rw[M,dT,fb,qd (by omega)]
  have az:=hW (λw=>decide (w.aS=0)||decide (w.aS=o)) l;rw[al]at U O;refine(au (x:=(i:Int)) rfl).trans ?_;refine(ag (da (by omega))).trans ?_;refine(au (x:=(((l.filter λw=>decide (w.aS=0)||decide (w.aS=o)).length:Int),l')) ((av (by omega)).trans U)).trans ?_;generalize aB:(l.filter λw=>decide (w.aS=0)||decide (w.aS=o))=r at *;have Z:(List.append (List.take (Int.toNat (r.length:Int)) l') (List.replicate (Int.toNat ((l'.length:Int)-(r.length:Int))) ((⟨0,0,0,(⟨0,0⟩:Rat),(⟨0,0⟩:Rat),(⟨0,0,0⟩:aV)⟩:Written):Written)))=r++List.replicate (l'.length-r.length) (⟨0,0,0,⟨0,0⟩,⟨0,0⟩,⟨0,0,0⟩⟩:Written):=by
   rw[Int.toNat_natCast,O,show Int.toNat ((l'.length:Int)-(r.length:Int))=l'.length-r.length by omega];rfl
  dsimp only;rw[Z];refine(bG (show(leI 0 (r.length:Int)&&leI (r.length:Int) (l'.length:Int))=true by rw[dk];exact⟨c3 (by omega),c3 (by omega)⟩)).trans ?_;refine(bG (show(leI 0 (r.length:Int)&&leI (r.length:Int) ((r++List.replicate (l'.length-r.length) (⟨0,0,0,⟨0,0⟩,⟨0,0⟩,⟨0,0,0⟩⟩:Written)).length:Int))=true by rw[dk,dT];exact⟨c3 (by omega),c3 (by omega)⟩)).trans ?_;rw[Int.toNat_natCast];simp
theorem X4{α σ:Type}(g:σ->α->σ){step:Int×σ->Option ((Int×σ)⊕σ)}{l:List α}(h:∀(k:Nat) x z,l[k]?=some x->step ((k:Int),z)=some (.inl ((k:Int)-1,g z x)))(F:∀z,step (-1,z)=some (.inr z)):∀(n:Nat)(z:σ),n<=l.length->aA step ((n:Int)-1,z)=some ((l.take n).foldr (λx z=>g z x) z):=by
 intro n;induction n with
 |zero=>intro z _;exact fj (F z)
 |succ n G=>
  intro z M;have j:l[n]?=some l[n]:=c5 (by omega);rw[KR,j];generalize l[n]=x at j;have B:=h n x z j;rw[show((n+1:Nat):Int)-1=(n:Int) by omega,jC B,G _ (by omega)];simp
theorem L5{p:Int->Bool}:∀(l:List Int),l.foldr (λn z=>if p n=true then n else z) 0=(l.find? p).getD 0
 | []=>rfl
 |x::l=>by
  rw[List.foldr_cons,L5 l,List.find?_cons];cases p x<;>rfl
def foldl_map'{α β:Type}(g:α->β):∀(l:List α)(z:List β),l.foldl (λz x=>z++[g x]) z=z++l.map g
 | [],z=>by simp
 |x::l,z=>by rw[List.foldl_cons,foldl_map' g l];simp
def jI(c:List Int)(l:List Written):Int:=(c.find? λn=>l.any λw=>decide (w.br=n)).getD 0
def Vr{l:List Written}(hl:l.length<=1000000000)(n:Int):Cd (l,n)=some (l.any λw=>decide (w.br=n)):=by
 unfold Cd;dsimp only;rw[mq (l:=l) (λw=>decide (w.br=n)) (λk x j=>by
  have B:=aZ j;rw[ah (by simpa using B),aY (aF j)];show ab (decide (x.br=n)) _ _=_;cases decide (x.br=n)
  ·rw[gE,av (by omega)];rfl
  rfl) (by rw[ag (by simp)])]
def Zp{m:aB}(G:m.notes.length<=1000000){c:List Int}(B:c.length<=1048576):AT (m,c)=some (jI c m.notes):=by
 unfold AT;refine(au (x:=jI c m.notes) ?_).trans rfl;refine(au (x:=c) rfl).trans ?_;refine(av (by omega)).trans ?_;refine(X4 (λz n=>if(m.notes.any λw=>decide (w.br=n))=true then n else z) (l:=c) (λk x z j=>?_) (λz=>rfl) c.length 0 (ec _)).trans ?_
 ·have F:=aZ j;dsimp only;rw[ah (c3 (by omega)),aY (aF j),Vr (by omega),af];cases (m.notes.any λw=>decide (w.br=x))
  ·refine(au (x:=z) rfl).trans ?_;exact av (n:=(k:Int)-1) (by omega)
  refine(au (x:=x) rfl).trans ?_;exact av (n:=(k:Int)-1) (by omega)
 rw[zv,L5 (p:=λn=>m.notes.any λw=>decide (w.br=n))];rfl
def Aj(c:List Int)(m:aB):aB:=⟨m.aw,m.key,m.length,m.notes.filter λw=>decide (w.br=jI c m.notes)⟩
def ey(v:View)(c:List Int):View:=⟨v.part,v.aK.map (Aj c)⟩
def XI{m:aB}(j:m.notes.length<=1000000){c:List Int}(B:c.length<=1048576):xb (m,c)=some (Aj c m):=by
 unfold xb;refine(au (Zp j B)).trans ?_;refine(au (DY (k:=80) (by omega) (by omega))).trans ?_;exact au (VN j (jI c m.notes))
def Ai(n:Int)(m:aB):aB:=⟨m.aw,m.key,m.length,m.notes.filter λw=>decide (w.aS=0)||decide (w.aS=n)⟩
def iZ(v:View)(n:Int):View:=⟨v.part,v.aK.map (Ai n)⟩
def XH{m:aB}(j:m.notes.length<=1000000)(n:Int):xa (m,n)=some (Ai n m):=by
 unfold xa;refine(au (x:=n) rfl).trans ?_;refine(au (DY (k:=80) (by omega) (by omega))).trans ?_;exact au (VM j n)
theorem KY{g:aB->Option aB}{f:aB->aB}{l:List aB}(hl:l.length<=1000000)(h:∀m∈l,g m=some (f m)):aA (λj:(Int×(List aB))=>ab (aj j.1 (l.length:Int)) (aa (an l j.1) λN=>aa (g N) λF=>ae (WP 56 (List.append j.2 (F::([]:List aB)))) <|ae (ai (j.1+1)) <|some (.inl ((j.1+1),(List.append j.2 (F::([]:List aB)))))) (some (.inr j.2))) (0,([]:List aB))=some (l.map f):=by
 refine(cu (st:=λ(z:List aB) k=>(k,z)) (l:=l) (λz x=>.inl (z++[f x])) (λz=>z) (λk z=>z.length<=k) (λk x z B G=>?_) (λk x z z' _ G M=>by cases M;simp;omega) (λz _=>by dsimp only;rw[ag (by simp)]) [] (by simp)).trans (dn some ((eh (λz x=>z++[f x]) l [] (λ_ _ _=>rfl)).trans ((foldl_map' f l []).trans (List.nil_append _))));have O:=aZ B;dsimp only;have e:(List.append z (f x::([]:List aB))).length=z.length+1:=dT;rw[ah (c3 (by omega)),aY (aF B),h x (dd B),af,bG (c3 (by rw[e];omega)),av (by omega)];rfl
def qZ(l:List Int)(k:Nat):Bool:=(l[k]?).any λx=>decide (x<1)||(decide (20<x)||(decide (0<k)&&(l[k-1]?).any λy=>decide (x<=y)))
def mz(l:List Int):Bool:= !(List.range l.length).any (qZ l)
def zeroV:View:=⟨0,[]⟩
def Ol{l:List Int}{k:Nat}{x:Int}(F:k<l.length)(hl:l.length<=1048576):ab (aj 0 (k:Int)) (ae (ai ((k:Int)-1)) <|aa (an l ((k:Int)-1)) λB=>some (leI x B)) (some false)=some (decide (0<k)&&(l[k-1]?).any λy=>decide (x<=y)):=by
 cases k with
 |zero=>rfl
 |succ k=>
  have j:l[k]?=some l[k]:=c5 (by omega);generalize l[k]=y at j;rw[ah (c3 (by omega)),av (by omega),show((k+1:Nat):Int)-1=(k:Int) by omega,aY (aF j)];simp[j,leI]
theorem D8{v:View}(B:v.aK.length<=1000000)(F:(bD v).length<=1000000){c:List Int}(G:c.length<=1048576):ph (v,c)=some (if mz c=true/\eA v then(ey v c,0)else(zeroV,1)):=by
 unfold ph;dsimp only;rw[nJ c.length (qZ c) (zeroV,1) (λk M=>by
  have j:c[k]?=some c[k]:=c5 M;unfold qZ;rw[j];generalize c[k]=x at j;rw[Option.any_some,ah (c3 (by omega)),aY (aF j),Ol M G];have e:∀(a b d:Bool),ab a (some true) (ab b (some true) (some d))=some (a||(b||d)):=λa b d=>by cases a<;>cases b<;>rfl
  rw[e,af];show ab (decide (x<1)||(decide (20<x)||_)) _ _=_;cases (decide (x<1)||(decide (20<x)||(decide (0<k)&&(c[k-1]?).any λy=>decide (x<=y))))
  ·rw[gE,av (by omega)];rfl
  rfl) (by rw[ag (by simp)])]
 unfold mz;cases (List.range c.length).any (qZ c)with
 |true=>rw[if_pos rfl,e9,if_neg (by simp)]
 |false=>
  rw[if_neg (by decide),ew,zu B F,af];by_cases hv:eA v
  ·rw[ag (by simp[hv]),if_pos ⟨rfl,hv⟩];refine(au (x:=ey v c) ?_).trans rfl;unfold GA Gx;dsimp only;refine(au (x:=v.aK.map (Aj c)) ?_).trans rfl;refine(au (KY (g:=λm=>xb (m,c)) B (λm N=>XI (hB (gG N) F) G))).trans rfl
  rw[ah (by simp[hv]),if_neg (λh=>hv h.2)];rfl
def yd(n lo hi:Int):po (n,lo,hi)=some (decide (lo<=n/\n<=hi)):=jR n lo hi
def OM{c:List Int}(G:c.length<=1048576):xJ c=some (mz c):=by
 unfold xJ mz;rw[nJ c.length (qZ c) false (λk B=>by
  have j:c[k]?=some c[k]:=c5 B;unfold qZ;rw[j];generalize c[k]=x at j;rw[Option.any_some,ah (c3 (by omega)),aY (aF j),aY (aF j),yd,af,Ol B G];have e:∀(a d:Bool),ab a (some true) (some d)=some (a||d):=λa d=>by cases a<;>rfl
  rw[e,af];have F:(!decide (1<=x/\x<=20)||(decide (0<k)&&(c[k-1]?).any λy=>decide (x<=y)))=(decide (x<1)||(decide (20<x)||(decide (0<k)&&(c[k-1]?).any λy=>decide (x<=y)))):=by
   rw[<-Bool.or_assoc];congr 1;rw[gl];simp
  rw[F];cases (decide (x<1)||(decide (20<x)||(decide (0<k)&&(c[k-1]?).any λy=>decide (x<=y))))
  ·rw[gE,av (by omega)];rfl
  rfl) (by rw[ag (by simp)])]
 cases (List.range c.length).any (qZ c)<;>rfl
def VW{v:View}(j:v.aK.length<=1000000)(k:(bD v).length<=1000000)(n:Int):w8 (v,n)=some (if eA v/\0<=n/\n<=9 then(iZ v n,0)else(zeroV,1)):=by
 unfold w8;dsimp only;rw[zu j k,af];have e:∀(a b d:Bool),ab a (some true) (ab b (some true) (some d))=some (a||(b||d)):=λa b d=>by cases a<;>cases b<;>rfl
 rw[e,af];by_cases h:eA v/\0<=n/\n<=9
 ·rw[if_pos h,ag (by simp[h.1,aj];omega)];refine(au (x:=iZ v n) ?_).trans rfl;unfold Gz Gw;dsimp only;refine(au (x:=v.aK.map (Ai n)) ?_).trans rfl;refine(au (KY (g:=λm=>xa (m,n)) j (λm F=>XH (hB (gG F) k) n))).trans rfl
 rw[if_neg h,ah (by
  refine fl λB=>h ?_;simp only[k5,kb,ta,ea,aj,hA]at B;exact⟨B.1,by omega,by omega⟩)]
 rfl
def lq(z:List (Int×Bool))(w:Written):List (Int×Bool):=aM z w.aS true
def jQ(v:View):List (Int×Bool):=(bD v).foldl lq []
noncomputable def eP(v:View):List Int:=jo ((eG (jQ v) 0).map (·.1))
def Hl(a:Int):∀(l:List Written)(z:List (Int×Bool)),a∈eL (l.foldl lq z)↔a∈eL z\/∃w∈l,w.aS=a
 | [],z=>by simp
 |w::l,z=>by
  rw[List.foldl_cons,Hl a l];unfold lq;rw[Ay];simp only[fa,exists_eq_or_imp];constructor
  ·rintro((h|h)|h)
   ·exact .inr (.inl h.symm)
   ·exact .inl h
   exact .inr (.inr h)
  rintro(h|h|h)
  ·exact .inl (.inr h)
  ·exact .inl (.inl h.symm)
  exact .inr h
def FY{a:Int}:∀{z:List (Int×Bool)},(eL z).Nodup->(a∈(eG z 0).map (·.1)↔a≠0/\a∈eL z)
 | [],_=>by simp[eG]
 |p::z,h=>by
  simp only[eL,e7,h5]at h;have e:eG (p::z) 0=if p.1=0 then z else p::eG z 0:=rfl
  rw[e];by_cases h0:p.1=0
  ·rw[if_pos h0];simp only[eL,e7,fa];constructor
   ·intro k;exact⟨λe=>h.1 (by rw[h0,<-e];exact k),.inr k⟩
   rintro⟨j,h2|h2⟩
   ·exact absurd (h2.trans h0) j
   exact h2
  rw[if_neg h0,e7,fa,FY h.2];simp only[eL,e7,fa];constructor
  ·rintro(j| ⟨j,h2⟩)
   ·exact⟨by rw[j];exact h0,.inl j⟩
   exact⟨j,.inr h2⟩
  rintro⟨j,h2|h2⟩
  ·exact .inl h2
  exact .inr ⟨j,h2⟩
def FZ:∀(z:List (Int×Bool)),(eG z 0).length<=z.length
 | []=>ec _
 |p::z=>by
  have:=FZ z;have e:eG (p::z) 0=if p.1=0 then z else p::eG z 0:=rfl
  rw[e];split
  ·simp
  simp only[List.length_cons];omega
def Ou:∀(l:List Written){z:List (Int×Bool)},(eL z).Nodup->(eL (l.foldl lq z)).Nodup
 | [],z,h=>h
 |w::l,z,h=>Ou l (Nq _ _ h)
def ID(v:View):(eL (jQ v)).Nodup:=Ou (bD v) (by simp)
def Da(v:View)(a:Int):a∈eP v↔a≠0/\∃w∈bD v,w.aS=a:=by
 unfold eP jo;rw[(q2 _ _).mem_iff,FY (ID v)];unfold jQ;rw[Hl];simp
def Hm:∀(l:List Written)(z:List (Int×Bool)),(l.foldl lq z).length<=z.length+l.length
 | [],z=>by simp
 |w::l,z=>by
  have:=Hm l (lq z w);have h:(lq z w).length<=z.length+1:=by
   unfold lq;rw[Az];split<;>omega
  rw[List.foldl_cons,List.length_cons];omega
def adi{v:View}(M:v.aK.length<=1000000)(N:(bD v).length<=1000000):AU v=some (if eA v then(eP v,0)else([],1)):=by
 unfold AU;rw[zu M N,af];by_cases hv:eA v
 ·rw[if_pos hv,ag (by simp[hv])];refine(au (x:=jQ v) ?_).trans ?_
  ·refine(cu (st:=λ(z:List (Int×Bool)) k=>(k,z)) (l:=v.aK) (λz m=>.inl (m.notes.foldl lq z)) (λz=>z) (λ_ _=>True) (λk m z F _=>?_) (λ_ _ _ _ _ _ _=>trivial) (λz _=>by dsimp only;rw[ag (by simp)]) [] trivial).trans (dn some ((eh (λz m=>m.notes.foldl lq z) v.aK [] (λ_ _ _=>rfl)).trans ?_))
   ·have ae:=aZ F;have ai:=gG (dd F);dsimp only;rw[ah (c3 (by omega)),aY (aF F)];refine(au (x:=m.notes.foldl lq z) ?_).trans (by rw[av (by omega)];rfl);refine(cu (st:=λ(z:List (Int×Bool)) k=>(k,z)) (l:=m.notes) (λz w=>.inl (lq z w)) (λz=>z) (λ_ _=>True) (λj w z B _=>?_) (λ_ _ _ _ _ _ _=>trivial) (λz _=>by dsimp only;rw[ag (by simp)]) z trivial).trans (dn some (eh lq m.notes z (λ_ _ _=>rfl)));have ad:=aZ B;dsimp only;rw[ah (c3 (by omega)),aY (aF B),av (by omega)];rfl
   exact List.foldl_flatMap.symm
  refine(au (x:=eG (jQ v) 0) rfl).trans ?_;refine(au (x:=eP v) ?_).trans rfl;unfold xS;refine bG ?_;rw[dk,ek];constructor
  ·intro p U;have:p.1∈(eG (jQ v) 0).map (·.1):=gg.2 ⟨p,U,rfl⟩;rw[FY (ID v)]at this;unfold jQ at this;rw[Hl]at this;obtain⟨_,h⟩:=this;rcases h with h| ⟨w,B,h⟩
   ·exact absurd h (by simp)
   obtain⟨m,O,Y⟩:=k0.1 B;obtain⟨⟨Z,aa⟩,_⟩:=hv.2.2 m O w Y;exact E9 (by omega)
  refine c3 ?_;have e:(eG (jQ v) 0).length<=(jQ v).length:=FZ _;have G:=Hm (bD v) [];have ab:(jQ v).length<=(bD v).length:=by simpa [jQ]using G
  omega
 rw[if_neg hv,ah (by simp[hv])]
def jZ(l:List Int)(D:Nat):List Int:=(List.range D).map λi=>(l[i*l.length/D]?).getD 0
theorem foldl_set{a:Nat->Int}:∀(n:Nat)(z:List Int)(i:Nat),((List.range n).foldl (λz k=>z.set k (a k)) z)[i]?=if i<n/\i<z.length then some (a i)else z[i]?
 |0,z,i=>by simp
 |n+1,z,i=>by
  have hl:∀n,((List.range n).foldl (λz k=>z.set k (a k)) z).length=z.length:=by
   intro n;induction n with
   |zero=>simp
   |succ n F=>rw[F8,td];simp[F]
  rw[F8,td];show(((List.range n).foldl (λz k=>z.set k (a k)) z).set n (a n))[i]?=_;rw[e0,foldl_set n z i,hl];by_cases B:n=i
  ·subst B;rw[if_pos rfl];by_cases j:n<z.length
   ·rw[if_pos j,if_pos ⟨by omega,j⟩]
   rw[if_neg j,if_neg (λh=>j h.2),hJ (by omega)]
  rw[if_neg B];by_cases j:i<n/\i<z.length
  ·rw[if_pos j,if_pos ⟨by omega,j.2⟩]
  rw[if_neg j,if_neg (by omega)]
def Rg{l:List Int}{D:Nat}(aw:1<=D/\D<=40)(hl:l.length<=1000000):aA (λj:(Int×(List Int))=>ab (aj j.1 ((List.replicate (Int.toNat (D:Int)) (0:Int)).length:Int)) (aa (ab (aj 0 (l.length:Int)) (ae (ai (j.1*(l.length:Int))) <|ae (!(aC (D:Int) 0)) <|ae (ai (Int.tdiv (j.1*(l.length:Int)) (D:Int))) <|aa (an l (Int.tdiv (j.1*(l.length:Int)) (D:Int))) λN=>ae ((leI 0 j.1)&&(aj j.1 (j.2.length:Int))) <|aa (an j.2 j.1) λaz=>some (List.set j.2 (Int.toNat j.1) N)) (some j.2)) λ(N:(List Int))=>ae (ai (j.1+1)) <|some (.inl ((j.1+1),N))) (some (.inr j.2))) (0,(List.replicate (Int.toNat (D:Int)) (0:Int)))=some (jZ l D):=by
 have M:(List.replicate (Int.toNat (D:Int)) (0:Int)).length=D:=by rw[rb];omega
 refine(cu (st:=λ(z:List Int) k=>(k,z)) (l:=List.range D) (λz k=>.inl (z.set k ((l[k*l.length/D]?).getD 0))) (λz=>z) (λ_ z=>z.length=D/\(l=[]->∀i,i<D->z[i]?=some 0)) (λk x z B G=>?_) (λk x z z' B G ad=>?_) (λz _=>by
  dsimp only;rw[ag (by rw[M];simp)]) (List.replicate (Int.toNat (D:Int)) 0) ⟨M,λ_ i hi=>by rw[List.getElem?_replicate];simp[hi]⟩).trans (dn some ((eh (λ(z:List Int)(k:Nat)=>z.set k ((l[k*l.length/D]?).getD 0)) (List.range D) _ (λ_ _ _=>rfl)).trans ?_))
 ·have F:=aZ B;rw[r2]at F;rw[ia F]at B;cases B;obtain⟨ay,ar⟩:=G;dsimp only;rw[ah (c3 (by rw[M];omega))];obtain⟨y,aq⟩:∃y,z[k]?=some y:=⟨_,c5 (by omega)⟩;by_cases h0:0<l.length
  ·have ax:k*l.length<=40*1000000:=vt (by omega) hl;have Y:((k:Int)*(l.length:Int))=((k*l.length:Nat):Int):=(Int.natCast_mul _ _).symm;have Z:Int.tdiv ((k*l.length:Nat):Int) (D:Int)=((k*l.length/D:Nat):Int):=rfl;have ak:k*l.length/D<l.length:=by
    rw[rv (by omega),o7 l.length D];exact Qe F h0
   obtain⟨u,O⟩:∃u,l[k*l.length/D]?=some u:=⟨_,c5 ak⟩;have al:((k*l.length/D:Nat):Int)<=1000000:=by
    have:k*l.length/D<=1000000:=by omega
    exact Int.ofNat_le.2 this
   have ao:(0:Int)<=((k*l.length/D:Nat):Int):=M0 _;refine(au (x:=z.set k u) ?_).trans ?_
   ·refine(ah (c3 (by omega))).trans ?_;rw[Y,Z,av (by omega),bG (by simp;omega),av (by generalize ((k*l.length/D:Nat):Int)=q at al ao;omega),aY (aF O),bG (show(leI 0 (k:Int)&&aj (k:Int) (z.length:Int))=true by rw[dk];exact⟨c3 (by omega),c3 (by omega)⟩),aY (aF aq),Int.toNat_natCast]
   rw[av (by omega),O];rfl
  have af:l=[]:=j0 (by omega);refine(au (x:=z) (ag (da (by omega)))).trans ?_;rw[av (by omega)];have:z.set k ((l[k*l.length/D]?).getD 0)=z:=by
   subst af;refine hX λi=>?_;rw[e0];by_cases e:k=i
   ·subst e;rw[if_pos rfl,if_pos (by omega),ar rfl k (by omega)];rfl
   rw[if_neg e]
  rw[this];rfl
 ·cases ad;have F:=aZ B;rw[r2]at F;rw[ia F]at B;cases B;refine⟨by rw[o0];exact G.1,λh0 i hi=>?_⟩;rw[e0];by_cases e:k=i
  ·subst e;subst h0;rw[if_pos rfl,if_pos (by rw[G.1];omega)];rfl
  rw[if_neg e];exact G.2 h0 i hi
 refine hX λi=>?_;rw[foldl_set (a:=λk=>(l[k*l.length/D]?).getD 0),M];unfold jZ;rw[e3];by_cases h:i<D
 ·rw[if_pos ⟨h,h⟩,ia h];rfl
 rw[if_neg (λU=>h U.1),hJ (by rw[M];omega),hJ (by simpa using h)];rfl
theorem Rh{v:View}(k:v.aK.length<=1000000)(B:(bD v).length<=1000000)(hv:eA v){D:Nat}(F:1<=D/\D<=40)(hl:(eP v).length<=1000000):AS (v,(D:Int))=some (if D<(eP v).length then([],6)else(jZ (eP v) D,0)):=by
 unfold AS;dsimp only;rw[adi k B,if_pos hv,af];refine(au (x:=false) ?_).trans ((ag rfl).trans ?_)
 ·refine(ag rfl).trans ((ag (da (by omega))).trans (dn some (da (by omega))))
 by_cases j:D<(eP v).length
 ·rw[if_pos j];exact ah (c3 (by dsimp only;omega))
 rw[if_neg j];refine(ag (da (by dsimp only;omega))).trans ?_;refine(bG (c3 (by omega))).trans ((bG (c3 (by rw[rb];omega))).trans ?_);exact au (Rg F hl)
def Jj{l:List Int}{D:Nat}{a:Int}(h:a∈jZ l D):a=0\/a∈l:=by
 obtain⟨i,_,rfl⟩:=gg.1 h;cases j:l[i*l.length/D]? with
 |none=>exact .inl rfl
 |some x=>exact .inr (dd j)
theorem LV{α ρ:Type}(p:α->Bool)(g:α->ρ):∀(l:List α),cV (λ(_:Unit) x=>if p x=true then(.inr (.inr (g x)):Unit⊕(Unit⊕ρ))else .inl ()) (λ_=>.inl ()) l ()=(l.find? p).elim (.inl ()) λx=>.inr (g x)
 | []=>rfl
 |x::l=>by
  rw[zR];cases h:p x with
  |true=>rw[if_pos rfl,List.find?_cons_of_pos h];rfl
  |false=>rw[if_neg lA,List.find?_cons_of_neg (by simp[h])];exact LV p g l
theorem aaC{l:List Written}(hl:l.length<=1000000){c:List Int}(G:c.length<=1048576):BI (l,c)=some (jI c l):=by
 unfold BI;dsimp only;refine(di (x:=(c.find? λn=>l.any λw=>decide (w.br=n)).elim (Sum.inl ()) λn=>Sum.inr n) ?_).trans ?_
 ·refine(cu (σ:=Unit) (st:=λ_ k=>k) (l:=c) (λ_ n=>if(l.any λw=>decide (w.br=n))=true then(.inr (.inr n):Unit⊕(Unit⊕Int))else .inl ()) (λ_=>.inl ()) (λ_ _=>True) (λk n z B _=>?_) (λ_ _ _ _ _ _ _=>trivial) (λz _=>by rw[ag (by simp)]) () trivial).trans (dn some (LV (ρ:=Int) (λn=>l.any λw=>decide (w.br=n)) (λn=>n) c));have N:=aZ B;refine(ah (c3 (by omega))).trans ?_;refine(di (x:=if(l.any λw=>decide (w.br=n))=true then Sum.inr (Sum.inr (Sum.inr n))else Sum.inl ()) ?_).trans ?_
  ·refine il (l:=l) (λw=>decide (w.br=n)) (Sum.inr (Sum.inr n)) (λj w F=>?_) (by rw[ag (by simp)]);have M:=aZ F;refine(ah (c3 (by omega))).trans ((au (aF F)).trans ((au (aF B)).trans ?_));by_cases h:w.br=n
   ·rw[if_pos (c3 h)];exact(ah (c3 h)).trans (au (aF B))
   rw[if_neg (by simp[h])];exact(ag (da h)).trans (av (by omega))
  cases (l.any λw=>decide (w.br=n))with
  |true=>rfl
  |false=>rw[if_neg lA,Sum.elim_inl,if_neg lA];exact av (by omega)
 unfold jI;generalize (c.find? λn=>l.any λw=>decide (w.br=n))=o;cases o<;>rfl
def Lq{α:Type}(p:α->Bool):∀(l z:List α),l.foldl (λz x=>if p x=true then z++[x]else z) z=z++l.filter p:=by
 intro l;induction l with
 |nil=>intro z;simp
 |cons x l j=>
  intro z;rw[List.foldl_cons,j,ik];split
  ·rw[h7];rfl
  rfl
theorem Ev{ω α:Type}{l:List α}(hl:l.length<=1000000)(p:α->Bool){step:Int×List α->Option ((Int×List α)⊕ω)}(fin:List α->ω)(h:∀(k:Nat) x z,l[k]?=some x->z.length<=k->step ((k:Int),z)=some (.inl ((k:Int)+1,if p x=true then z++[x]else z)))(B:∀z,step ((l.length:Int),z)=some (.inr (fin z))):aA step (0,[])=some (fin (l.filter p)):=by
 refine(cu (st:=λ(z:List α) k=>(k,z)) (l:=l) (λz x=>(Sum.inl (if p x=true then z++[x]else z):List α⊕ω)) fin (λk z=>z.length<=k) (λk x z F j=>h k x z F j) (λk x z z' F j B=>?_) (λz _=>B z) [] (ec _)).trans (dn some ((eh (λz x=>if p x=true then z++[x]else z) l [] (λ_ _ _=>rfl)).trans ?_))
 ·cases B;split
  ·rw[dT];exact adR j
  exact adJ j
 rw[Lq,List.nil_append]
theorem Ni{ω:Type}{l:List aB}(f:aB->aB){step:Int×List aB->Option ((Int×List aB)⊕ω)}(fin:List aB->ω)(h:∀(k:Nat) x z,l[k]?=some x->z.length=k->step ((k:Int),z)=some (.inl ((k:Int)+1,z++[f x])))(B:∀z,step ((l.length:Int),z)=some (.inr (fin z))):aA step (0,[])=some (fin (l.map f)):=by
 refine(cu (st:=λ(z:List aB) k=>(k,z)) (l:=l) (λz x=>(Sum.inl (z++[f x]):List aB⊕ω)) fin (λk z=>z.length=k) (λk x z F j=>h k x z F j) (λk x z z' F j B=>by cases B;simp[j]) (λz _=>B z) [] rfl).trans (dn some ((eh (λz x=>z++[f x]) l [] (λ_ _ _=>rfl)).trans ?_));rw[foldl_map',List.nil_append]
def Du{z:List Written}(x:Written)(j:z.length<=1000000){β:Type}{o:Option β}:ae (WP 80 (List.append z (x::([]:List Written)))) o=o:=by
 have e:(List.append z (x::([]:List Written))).length=z.length+1:=dT;exact bG (c3 (by rw[e];omega))
def Dt{z:List aB}(x:aB)(j:z.length<=1000000){β:Type}{o:Option β}:ae (WP 56 (List.append z (x::([]:List aB)))) o=o:=by
 have e:(List.append z (x::([]:List aB))).length=z.length+1:=dT;exact bG (c3 (by rw[e];omega))
def ZZ(q:Rat):xp q=some (decide (bF q)):=by
 unfold xp;rw[jK,af];by_cases h:bF q
 ·rw[if_pos h,c3 h];exact dn some (c3 (mU h))
 rw[if_neg h,da h];rfl
def aaA(w:Written){β:Type}(A B:Option β):(aa (aa (po (w.aS,(0,9))) λO=>ab (!O) (some true) (aa (po (w.br,(0,20))) λU=>ab (!U) (some true) (aa (xp w.start) λY=>ab (!Y) (some true) (aa (jF w.aN) λN=>some (!N))))) λ(M:Bool)=>ab M A B)=if dF w then B else A:=by
 rw[yd,yd,ZZ,oc];unfold dF;by_cases j:0<=w.aS/\w.aS<=9
 ·by_cases k:0<=w.br/\w.br<=20
  ·by_cases F:bF w.start
   ·by_cases G:bO w.aN
    ·simp[j,k,F,G,af,ab]
    simp[j,k,F,G,af,ab]
   simp[j,k,F,af,ab]
  simp[j,k,af,ab]
 simp[j,af,ab]
def LW:∀(l:List aB)(z:Int),z<=20000->cV (λ(z:Int)(m:aB)=>if 20000<z+(m.notes.length:Int)then(.inr (.inr false):Int⊕(Unit⊕Bool))else if(m.notes.any λw=>!decide (dF w))=true then .inr (.inr false)else .inl (z+(m.notes.length:Int))) (λ_=>.inl ()) l z=if(∀m∈l,∀w∈m.notes,dF w)/\z+((l.flatMap aB.notes).length:Int)<=20000 then .inl ()else .inr false
 | [],z,F=>by simp[cV,F]
 |m::l,z,F=>by
  rw[zR,hL,dT];by_cases B:20000<z+(m.notes.length:Int)
  ·rw[if_pos B,if_neg (λh=>by have:=h.2;omega)];rfl
  rw[if_neg B];by_cases j:∀w∈m.notes,dF w
  ·have e:(m.notes.any λw=>!decide (dF w))=false:=by
    rw[h8];intro w k;simp[j w k]
   rw[e,if_neg lA];refine(LW l _ (by omega)).trans (E8 ?_);simp only[fa,forall_eq_or_imp];exact⟨λh=>⟨⟨j,h.1⟩,by omega⟩,λh=>⟨h.1.2,by omega⟩⟩
  have e:(m.notes.any λw=>!decide (dF w))=true:=by
   rw[hM];refine fl λG=>j λw k=>?_;refine fl λM=>G ⟨w,k,by simp[M]⟩
  rw[e,if_pos rfl,if_neg (λh=>j (h.1 m (by simp)))];rfl
def Cz{v:View}(aa:v.aK.length<=1000000)(ab:(bD v).length<=1000000):so v=some (decide (eA v)):=by
 unfold so;by_cases N:v.aK.length<=4000
 ·refine(
      ag (da (by omega))).trans ?_
  refine(di (x:=if(∀m∈v.aK,∀w∈m.notes,dF w)/\(0:Int)+((v.aK.flatMap aB.notes).length:Int)<=20000 then .inl ()else .inr false) ?_).trans ?_
  ·refine(
       cu (σ:=Int) (st:=λz k=>(z,k)) (l:=v.aK) (λ(z:Int)(m:aB)=>if 20000<z+(m.notes.length:Int)then(.inr (.inr false):Int⊕(Unit⊕Bool))else if(m.notes.any λw=>!decide (dF w))=true then .inr (.inr false)else .inl (z+(m.notes.length:Int))) (λ_=>.inl ()) (λ_ z=>0<=z/\z<=20000) (λk m z F U=>?_) (λk m z z' F U G=>?_) (λz _=>by dsimp only;rw[ag (by simp)]) 0 ⟨Int.le_refl _,by omega⟩).trans (dn some (LW v.aK 0 (by omega)))
   ·have ae:=aZ F;have Y:=gG (dd F);dsimp only;refine(ah (c3 (by omega))).trans ?_;by_cases M:20000<z+(m.notes.length:Int)
    ·rw[if_pos M];refine(di (x:=Sum.inr (Sum.inr (Sum.inr false))) ((au (aF F)).trans ((av (by omega)).trans (ah (c3 M))))).trans rfl
    rw[if_neg M];refine(di (x:=if(m.notes.any λw=>!decide (dF w))=true then Sum.inr (Sum.inr (Sum.inr false))else Sum.inl (z+(m.notes.length:Int))) ((au (aF F)).trans ((av (by omega)).trans ((ag (da M)).trans ?_)))).trans ?_
    ·refine(cu (σ:=Unit) (st:=λ_ k=>k) (l:=m.notes) (λ_ w=>if(!decide (dF w))=true then(.inr (.inr (.inr (.inr false))):Unit⊕(Int⊕(Int×Int⊕(Unit⊕Bool))))else .inl ()) (λ_=>.inl (z+(m.notes.length:Int))) (λ_ _=>True) (λj w _ O _=>?_) (λ_ _ _ _ _ _ _=>trivial) (λ_ _=>by rw[ag (by simp)]) () trivial).trans (dn some ?_)
     ·have ad:=aZ O;refine(ah (c3 (by omega))).trans ?_;rw[aF O];simp only[af];rw[aaA];by_cases B:dF w
      ·rw[if_pos B,if_neg (by simp[B])];exact av (by omega)
      rw[if_neg B,if_pos (by simp[B])]
     have:∀l:List Written,cV (λ(_:Unit)(w:Written)=>if(!decide (dF w))=true then(.inr (.inr (.inr (.inr false))):Unit⊕(Int⊕(Int×Int⊕(Unit⊕Bool))))else .inl ()) (λ_=>.inl (z+(m.notes.length:Int))) l ()=if(l.any λw=>!decide (dF w))=true then .inr (.inr (.inr false))else .inl (z+(m.notes.length:Int)):=by
      intro l;induction l with
      |nil=>rfl
      |cons w l Z=>
       rw[zR,List.any_cons];cases (!decide (dF w))with
       |true=>rfl
       |false=>rw[if_neg lA,lB];exact Z
     exact this m.notes
    cases (m.notes.any λw=>!decide (dF w))with
    |true=>rfl
    |false=>rw[if_neg lA,Sum.elim_inl,if_neg lA];exact av (by omega)
   have Y:=gG (dd F);split at G
   ·cases G
   split at G
   ·cases G
   cases G;omega
  have e:(v.aK.flatMap aB.notes)=bD v:=rfl;rw[e];by_cases h:(∀m∈v.aK,∀w∈m.notes,dF w)/\(0:Int)+((bD v).length:Int)<=20000
  ·have B:eA v:=⟨N,by omega,h.1⟩;rw[if_pos h,c3 B];rfl
  have B:¬eA v:=λhv=>h ⟨hv.2.2,by have:=hv.2.1;omega⟩;rw[if_neg h,da B];rfl
 rw[ah (c3 (by omega)),da (λh=>N h.1)]
def aaB{v:View}(O:v.aK.length<=1000000)(U:(bD v).length<=1000000){c:List Int}(N:c.length<=1048576):BH (v,c)=some (if mz c=true/\eA v then(ey v c,0)else(zeroV,1)):=by
 unfold BH;dsimp only;rw[Cz O U,OM N];by_cases hv:eA v
 ·by_cases F:mz c=true
  ·rw[if_pos ⟨F,hv⟩];refine(au (x:=false) ?_).trans ((ag rfl).trans ?_)
   ·rw[af,c3 hv,af,F];rfl
   refine(au (Ni (l:=v.aK) (Aj c) (λz=>z) (λk m z B ad=>?_) (λz=>by dsimp only;rw[ag (by simp)]))).trans rfl;have Z:=aZ B;have aa:=gG (dd B);refine(ah (c3 (by dsimp only;omega))).trans ((au (aF B)).trans ?_);refine(au (aaC (l:=m.notes) (by omega) N)).trans ?_;refine(au (Ev (l:=m.notes) (by omega) (λw=>decide (w.br=jI c m.notes)) (λz=>z) (λj w y M ab=>?_) (λz=>by dsimp only;rw[ag (by simp)]))).trans ?_
   ·have Y:=aZ M;refine(ah (c3 (by dsimp only;omega))).trans ?_;refine(au (x:=if decide (w.br=jI c m.notes)=true then y++[w]else y) ((au (aF M)).trans ?_)).trans (av (by dsimp only;omega));by_cases G:w.br=jI c m.notes
    ·rw[if_pos (c3 G)];exact(ah (c3 G)).trans ((au (aF M)).trans (Du w (by dsimp only;omega)))
    rw[if_neg (by simp[G])];exact ag (da G)
   exact(Dt _ (by dsimp only;omega)).trans (av (by dsimp only;omega))
  rw[if_neg (λh=>F h.1)];refine(au (x:=true) ?_).trans (ah rfl);rw[af,c3 hv,af];cases B:mz c with
  |true=>exact absurd B F
  |false=>rfl
 rw[if_neg (λh=>hv h.2)];refine(au (x:=true) ?_).trans (ah rfl);rw[af,da hv];rfl
def aay{v:View}(N:v.aK.length<=1000000)(O:(bD v).length<=1000000)(n:Int):xK (v,n)=some (if eA v/\0<=n/\n<=9 then(iZ v n,0)else(zeroV,1)):=by
 unfold xK;dsimp only;rw[Cz N O,yd];by_cases hv:eA v
 ·by_cases B:0<=n/\n<=9
  ·rw[if_pos ⟨hv,B⟩];refine(au (x:=false) ?_).trans ((ag rfl).trans ?_)
   ·rw[af,c3 hv,af,c3 B];rfl
   refine(au (Ni (l:=v.aK) (Ai n) (λz=>z) (λk m z M ab=>?_) (λz=>by dsimp only;rw[ag (by simp)]))).trans rfl;have Y:=aZ M;have Z:=gG (dd M);refine(ah (c3 (by dsimp only;omega))).trans ((au (aF M)).trans ?_);refine(au (Ev (l:=m.notes) (by omega) (λw=>decide (w.aS=0)||decide (w.aS=n)) (λz=>z) (λj w y G aa=>?_) (λz=>by dsimp only;rw[ag (by simp)]))).trans ?_
   ·have U:=aZ G;refine(ah (c3 (by dsimp only;omega))).trans ?_;refine(au (x:=if(decide (w.aS=0)||decide (w.aS=n))=true then y++[w]else y) ?_).trans (av (by dsimp only;omega));refine(au (x:=decide (w.aS=0)||decide (w.aS=n)) ((au (aF G)).trans ?_)).trans ?_
    ·by_cases F:w.aS=0
     ·rw[c3 F];exact ah (c3 F)
     rw[da F,lB];exact(ag (da F)).trans (au (aF G))
    cases (decide (w.aS=0)||decide (w.aS=n))with
    |true=>exact(ah rfl).trans ((au (aF G)).trans (Du w (by dsimp only;omega)))
    |false=>rfl
   exact(Dt _ (by dsimp only;omega)).trans (av (by dsimp only;omega))
  rw[if_neg (λh=>B h.2)];refine(au (x:=true) ?_).trans (ah rfl);rw[af,c3 hv,af,da B];rfl
 rw[if_neg (λh=>hv h.1)];refine(au (x:=true) ?_).trans (ah rfl);rw[af,da hv];rfl
def sE(p:Part)(q:aT×Written):Int:=(iD p q.1 q.2).2
def sN(p:Part)(q:aT×Written):aq:=⟨q.2.id,p.id,q.1.id,q.2.aS,q.2.br,q.2.start,q.2.length,(iD p q.1 q.2).1⟩
open Classical in
noncomputable def fe(s:Score)(v:View):List aq×Int:=
 if dj s v then(match partOf s v.part with
  |some p=>dP (sE p) (sN p) (λ_=>(([]:List aq),(3:Int))) (λl=>(l,0)) (gK s v) []
  |none=>([],1))else([],1)
theorem PX{s:Score}{v:View}(aj:s.bars.length<=1048576)(hv:(bD v).length<=1000000):xV (s,v)=some (fe s v):=by
 unfold xV fe;dsimp only;rw[QD aj hv,af];by_cases F:dj s v
 ·obtain⟨G,ao,⟨p,Z,ad⟩,ae,ai⟩:=F;have F:dj s v:=⟨G,ao,⟨p,Z,ad⟩,ae,ai⟩;obtain⟨ax,aG,aC⟩:=pt G Z;have aH:=G.2.2.1.1.2;rw[ag (by simp[F]),IB (by omega),af,if_pos F,Z];dsimp only;rw[cu (σ:=List aq) (st:=λz k=>(k,z)) (l:=v.aK.zip s.bars) (λz x=>dP (ρ:=(List aq)⊕((List aq)⊕(List aq×Int))) (λw=>sE p (x.2,w)) (λw=>sN p (x.2,w)) (λw=>.inr (.inr ([],3))) (λz=>.inl z) x.1.notes z) (λz=>.inl z) (λk z=>z.length<=20000+1000000*k) (λk x z O az=>by
   obtain⟨M,ab⟩:=rE O;have aE:=aZ M;have ar:=dd M;have al:=iR G (dd ab);have au:=gG ar;have aB:=G.2.1.1.2;have Y:=ek.1 ad x (dd O);unfold fN at Y;simp only[dk,ea,ek]at Y;have ak:x.1.aw=x.2.id:=Y.1.1.1;dsimp only;rw[ah (c3 (by omega)),aY (aF M)];rw[cu (σ:=List aq) (st:=λz k=>(k,z)) (l:=x.1.notes) (λz w=>if sE p (x.2,w)=0 then .inl (z++[sN p (x.2,w)])else .inr (.inr (.inr (.inr ([],3))))) (λz=>.inl z) (λj U=>U.length<=z.length+j) (λj w U aa aA=>by
    have aD:=aZ aa;dsimp only;rw[ah (c3 (by omega)),aY (aF aa),aY (aF ab),Xi ax al.2.2.2,af];have an:dO w.aN (cE (gk p x.2.key))=iD p x.2 w:=rfl;have ay:sE p (x.2,w)=(iD p x.2 w).2:=rfl;rw[an,ay];by_cases N:(iD p x.2 w).2=0
    ·rw[ag (by simp[N]),bG (c3 (by rw[te];omega)),av (by omega),if_pos N,ak];rfl
    ·rw[ah (by simp[N]),if_neg N]) (λj w U aI aa aA B=>by
    split at B
    ·injection B with B;subst B;rw[dT];simp only[List.length_cons,List.length_nil];omega
    cases B) (λU _=>by dsimp only;rw[ag (by simp)]) z (by omega)]
   rw[EL (λw=>sE p (x.2,w)) (λw=>sN p (x.2,w))];unfold dP;cases (x.1.notes.find? λw=>decide (sE p (x.2,w)≠0))with
   |some w=>rfl
   |none=>dsimp only;rw[ew,av (by omega)];rfl) (λk x z z' O az B=>by
   obtain⟨M,ab⟩:=rE O;have au:=gG (dd M);have:=LD B;omega) (λz _=>by
   dsimp only;rw[ag (da (by rw[I1];omega))]) [] (by simp),EM (sE p) (sN p) (λq=>Sum.inr ([],3))]
  rw[show((v.aK.zip s.bars).flatMap λx=>x.1.notes.map λw=>(x.2,w))=gK s v from rfl];unfold dP;cases (gK s v).find? λq=>decide (sE p q≠0)with
  |some q=>rfl
  |none=>rfl
 rw[ah (by simp[F]),if_neg F]
def ZB(a n:Int):pl (iQ a n)=a:=by unfold pl iQ;dsimp only;omega
def NM(a n:Int):num (iQ a n)=n:=by unfold num iQ;dsimp only;omega
def WR{i:Interval}:cQ (cE i)↔cQ i:=by unfold cQ cE;dsimp only;omega
def Q1{x:aV}{i:Interval}(h:(dO x i).2=0):dO (dO x i).1 (cE i)=(x,0):=by
 unfold dO at h;by_cases j:bO x/\cQ i
 ·rw[if_pos j]at h;by_cases k:bO (iQ (pl x+i.steps) (num x+i.bL))
  ·have e:dO x i=(iQ (pl x+i.steps) (num x+i.bL),0):=by unfold dO;rw[if_pos j,if_pos k]
   rw[e];unfold dO;dsimp only;rw[ZB,NM,show pl x+i.steps+(cE i).steps=pl x by unfold cE;dsimp only;omega,show num x+i.bL+(cE i).bL=num x by unfold cE;dsimp only;omega,Jk j.1,if_pos ⟨k,WR.2 j.2⟩,if_pos j.1]
  rw[if_neg k]at h;cases h
 rw[if_neg j]at h;cases h
theorem Dk{x:aV}{i:Interval}(h:(dO x i).2=0):bO x/\cQ i/\bO (dO x i).1:=by
 unfold dO at h⊢;by_cases j:bO x/\cQ i
 ·rw[if_pos j]at h⊢;by_cases k:bO (iQ (pl x+i.steps) (num x+i.bL))
  ·rw[if_pos k];exact⟨j.1,j.2,k⟩
  rw[if_neg k]at h;cases h
 rw[if_neg j]at h;cases h
theorem KK{α:Type}{q:α->Bool}:∀{l:List α},(l.Pairwise λn m=>q m=true->q n=true)->l.takeWhile q=l.filter q/\l.dropWhile q=l.filter λx=>!q x
 | [],_=>⟨rfl,rfl⟩
 |x::l,h=>by
  rw[vf]at h;obtain⟨G,M⟩:=KK h.2;by_cases j:q x=true
  ·rw[J4,u5,ik,ik,if_pos j,if_pos j,if_pos j,if_neg (by simp[j]),G,M];exact⟨rfl,rfl⟩
  have B:∀y∈l,q y=false:=λy k=>by
   cases F:q y
   ·rfl
   exact absurd (h.1 y k F) j
  rw[J4,u5,ik,ik,if_neg j,if_neg j,if_neg j,if_pos (by simpa using j)];refine⟨(x3.2 λy k=>by simp[B y k]).symm,?_⟩;congr 1;exact(J2.2 λy k=>by simp[B y k]).symm
def mr(j:List aT)(id:Int):Nat:=j.findIdx λb=>decide (b.id=id)
def kZ(p:Part)(l:List aq)(b:aT):aB:=⟨b.id,kT p b.key,b.length,(l.filter λn=>decide (n.aw=b.id)).map (jS p b)⟩
def Me(p:Part):∀(j:List aT)(l:List aq),(j.map aT.id).Nodup->(l.Pairwise λn m=>mr j n.aw<=mr j m.aw)->getM p j l=j.map (kZ p l)
 | [],l,_,_=>rfl
 |b::j,l,F,O=>by
  simp only[e7,h5,gg]at F;have h0:∀id,mr (b::j) id=if b.id=id then 0 else mr j id+1:=by
   intro id;unfold mr;rw[List.findIdx_cons];by_cases h:b.id=id<;>simp[h]
  obtain⟨U,Y⟩:=KK (q:=λn:aq=>decide (n.aw=b.id)) (l:=l) (O.imp λ{n m} h B=>by
   have B:m.aw=b.id:=by simpa using B
   rw[h0,h0,if_pos B.symm]at h;by_cases N:b.id=n.aw
   ·simp[N]
   rw[if_neg N]at h;omega)
  show _::getM p j _=_;rw[e7,U,Y,Me p j _ F.2 (by
   refine qs ?_ (O.sublist kB);intro n m ab aa h;have G:=(hG.1 ab).2;have M:=(hG.1 aa).2;simp only[gj,hA]at G M;rw[h0,h0,if_neg (hU G),if_neg (hU M)]at h;omega)]
  congr 1;refine hN λk Z=>?_;have ad:k.id≠b.id:=λe=>F.1 ⟨k,Z,e⟩;unfold kZ;rw[List.filter_filter];congr 2;refine adI λn _=>?_;by_cases h:n.aw=k.id
  ·simp[h,ad]
  simp[h]
def Kp{bars:List aT}{id:Int}{k:Nat}(h:(ix bars λb=>decide (b.id=id))=(k:Int)):mr bars id=k:=by
 unfold ix at h;cases j:bars.findIdx? λb=>decide (b.id=id)with
 |none=>rw[j]at h;dsimp only at h;omega
 |some i=>
  rw[j]at h;dsimp only at h;have:=(List.findIdx?_eq_some_iff_findIdx_eq.1 j).2;unfold mr;omega
def Y1{s:Score}(B:cI s):s.notes.Pairwise λn m=>mr s.bars n.aw<=mr s.bars m.aw:=by
 have M:=oq (CQ (wS (dW s.bars))) s.notes;rw[show fU (bf (nK (dW s.bars))) s.notes=s.notes from B.2.2.2.2.2]at M;refine qs ?_ M;intro n m Y U h;have O:=B.2.2.2.1.2.2.1 n Y;have N:=B.2.2.2.1.2.2.1 m U;obtain⟨k,b,_,_,_,F⟩:=pe O;obtain⟨j,ab,_,_,_,G⟩:=pe N;have Z:=(AG B.2.1 O).1;have aa:=(AG B.2.1 N).1;rw[Kp F,Kp G];unfold bf nK at h;simp only[List.zipWith_cons_cons,cP]at h;rw[Z,aa,F,G]at h;split at h
 ·omega
 omega
def ZF{s:Score}(j:cI s)(p:Part):(fm s p).Pairwise λn m=>mr s.bars n.aw<=mr s.bars m.aw:=by
 unfold fm;rw[r1];exact(Y1 j).sublist kB
def rD{s:Score}(j:cI s)(p:Part):dB s p=⟨p.id,s.bars.map (kZ p (fm s p))⟩:=by
 unfold dB;rw[Me p s.bars _ j.2.1.2.2 (ZF j p)]
def yc(s:Score)(p:Part)(v:View):List aq:=others s p++(gK s v).map (pN s p)
def Sd(at_:List (Int×Int))(l:List aq):Prop:=l.Pairwise λa b=>¬bf (nK at_) b a<0
variable {at_:List (Int×Int)}{l m:List aq}
theorem abt(l:List aq):Sd at_ (pE at_ l):=oq (DV at_) l
def Pv(h:Sd at_ l)(q:aq->Bool):Sd at_ (l.filter q):=List.Pairwise.sublist kB h
def abr{s:Score}(j:cI s):Sd (dW s.bars) s.notes:=by
 have:=abt (at_:=dW s.bars) s.notes;rw[j.2.2.2.2.2]at this;exact this
variable {s:Score}{C8:Int}{p:Part}{v:View}
def adf{s:Score}{v:View}{p:Part}(hv:dj s v)(B:partOf s v.part=some p):∀x∈v.aK.zip s.bars,kM p x.2 x.1/\my (λa b=>!decide (bf wK b a<0)) x.1.notes=true/\∀w∈x.1.notes,c7 x.1.length w:=by
 obtain⟨_,_,⟨G,j,k⟩,_⟩:=hv;rw[B]at j;injection j with j;subst j;intro x F;have:=ek.1 k x F;unfold fN at this;simp only[dk,ea,ek]at this;exact⟨this.1.1,this.1.2,this.2⟩
def Q0{x:aV}{i:Interval}(h:(dO x i).2=0):(dO x i).1=iQ (pl x+i.steps) (num x+i.bL):=by
 unfold dO at h⊢;split at h
 ·rename_i j;rw[if_pos j];split at h
  ·rename_i k;rw[if_pos k]
  cases h
 cases h
def Y4(x:aV)(n:Int):num (uv x n)=num x-12*n:=by unfold num uv;dsimp only;omega
theorem NN{s:Score}{p:Part}{b:aT}{w:Written}(h:(iD p b w).2=0):num (pN s p (b,w)).aN=num w.aN+((cE (gk p b.key)).bL-12*p.aO):=by
 show num (uv (iD p b w).1 p.aO)=_;rw[Y4];unfold iD at h⊢;rw[Q0 h,NM];omega
theorem Va{at_:List (Int×Int)}{s:Score}{p:Part}{b:aT}{len:Rat}{w u:Written}(k:c7 len w)(j:c7 len u)(O:(iD p b w).2=0)(U:(iD p b u).2=0):bf (nK at_) (pN s p (b,w)) (pN s p (b,u))=bf wK w u:=by
 have B:tk w.start=bz w.start:=if_pos k.2.2.2.2.1;have F:tk u.start=bz u.start:=if_pos j.2.2.2.2.1;have G:ht w.aN=num w.aN:=if_pos k.2.2.2.1;have M:ht u.aN=num u.aN:=if_pos j.2.2.2.1;have n1:=NN (s:=s) O;have Y:=NN (s:=s) U;unfold bf nK wK;rw[n1,Y,B,F,G,M];simp only[List.zipWith_cons_cons,List.zipWith_nil_left,cP,pN,AF,Int.sub_self,hK];have N:num w.aN+((cE (gk p b.key)).bL-12*p.aO)-(num u.aN+((cE (gk p b.key)).bL-12*p.aO))=num w.aN-num u.aN:=by omega
 rw[N]
def LK{α β:Type}(key:α->Int)(f:α->List β):∀{l:List α}{x:α},(l.map key).Nodup->x∈l->(l.flatMap λy=>if key y=key x then f y else [])=f x
 | [],x,_,h=>by cases h
 |y::l,x,j,h=>by
  rw[e7,h5]at j;rw[hL];rcases fa.1 h with rfl|h
  ·rw[if_pos rfl];have:(l.flatMap λy=>if key y=key x then f y else [])=[]:=List.flatMap_eq_nil_iff.2 λy k=>if_neg λ(e:key y=key x)=>j.1 (e▸gg.2 ⟨y,k,rfl⟩);rw[this,iu]
  rw[if_neg λ(e:key y=key x)=>j.1 (e▸gg.2 ⟨x,h,rfl⟩),List.nil_append];exact LK key f j.2 h
def Za(x:aV)(n:Int):uv (nT x n) n=x:=by unfold nT uv;cases x;dsimp only;congr 1;omega
def Ob{s:Score}{v:View}(hl:v.aK.length=s.bars.length):(gK s v).map (·.2)=bD v:=by
 unfold gK bD;rw[adS];have e:(λx:aB×aT=>(x.1.notes.map λw=>(x.2,w)).map (·.2))=λx=>x.1.notes:=by
  funext x;rw[k7];exact List.map_id _
 rw[e];have:v.aK=(v.aK.zip s.bars).map (·.1):=(List.map_fst_zip (by omega)).symm
 conv=>rhs;rw[this,q5]
theorem He{s:Score}{v:View}(hl:v.aK.length=s.bars.length):(gK s v).length=(bD v).length:=by rw[<-Ob hl,hP]
def Nu{n:Int}(h:0<=n/\n<=6): -1<=7*gH n-12*n/\7*gH n-12*n<=5:=by
 have:n=0\/n=1\/n=2\/n=3\/n=4\/n=5\/n=6:=by omega
 rcases this with rfl|rfl|rfl|rfl|rfl|rfl|rfl<;>decide
theorem Y9{t:Int}(h: -19<=t/\t<=19): -1<=dy t/\dy t<=1:=by
 unfold dy;split
 ·omega
 split<;>omega
def acP{p:Part}(F:dG p){key:Int}(k:cW key){x:aV}(ad:l6 x):(dO (nT x p.aO) (gk p key)).2=0:=by
 have j:=mN F;have an: -2<=p.aO/\p.aO<=2:=F.2.2.2.1;obtain⟨Y,ah,ai⟩:=ad;obtain⟨B,af,ag⟩:=Y;have Z:cQ (gk p key):=(Gb k j).1;have ab:bO (nT x p.aO):=⟨B,⟨by show -4<=x.alter;omega,by show x.alter<=4;omega⟩,⟨by show -8<=x.aO+p.aO;omega,by show x.aO+p.aO<=20;omega⟩⟩;unfold dO;rw[if_pos ⟨ab,Z⟩,if_pos];have al:dh (cE p.shift) = -(dh p.shift):=by unfold dh cE;dsimp only;omega
 have ak: -12<=dh p.shift/\dh p.shift<=12:=j.2.2;have ao:=Y9 (t:=key+dh (cE p.shift)) (by unfold cW at k;omega);have aa:=Gk (key+dh (cE p.shift));unfold cW at aa k;have au:=j.1;have av:=j.2.1;have M:(gk p key).steps = -p.shift.steps+dy (key+dh (cE p.shift)):=rfl;have N:(gk p key).bL = -p.shift.bL:=rfl;have O:pl (nT x p.aO)=7*(x.aO+p.aO)+x.step:=rfl;have U:num (nT x p.aO)=12*(x.aO+p.aO)+gH x.step+x.alter:=rfl;have ae:dh (cE p.shift)=7*(-p.shift.bL)-12*(-p.shift.steps):=rfl;rw[M,N,O,U];generalize aj:7*(x.aO+p.aO)+x.step+(-p.shift.steps+dy (key+dh (cE p.shift)))=P;have G:0<=P%7/\P%7<=6:=by omega
 have aq:=Nu G;have ar:=Nu B;refine⟨G,?_,?_⟩
 ·show -4<=_-(12*(P/7)+gH (P%7))/\_-(12*(P/7)+gH (P%7))<=4;omega
 show -8<=P/7/\P/7<=20;omega
def Dh{α β:Type}(f:α->β):∀l:List α,(l.map f).zip l=l.map λb=>(f b,b)
 | []=>rfl
 |x::l=>by rw[e7,List.zip_cons_cons,Dh f l,e7]
variable {s:Score}{p:Part}
def lj(s:Score)(p:Part):List aq:=s.notes.filter λn=>decide (n.part=eO p)
def iz(p:Part)(b:aT)(n:aq):Written:=jS p b (ki p n)
def NZ(M:cI s){n:aq}(G:n∈lj s p):∃b∈s.bars,b.id=n.aw/\fits b n:=by
 obtain⟨k,b,j,B,F,_⟩:=pe (M.2.2.2.1.2.2.1 n (hG.1 G).1);exact⟨b,dd j,B,F⟩
def Gr(j:cI s){n:aq}(O:n∈lj s p){b:aT}(M:b∈s.bars)(N:n.aw=b.id):fits b n:=by
 obtain⟨k,B,F,G⟩:=NZ j O;have:k=b:=rF j.2.1.2.2 B M (F.trans N);rw[<-this];exact G
def tY(B:dG p){b:aT}(k:cW b.key){n:aq}(F:l6 n.aN):iD p b (iz p b n)=(nT n.aN p.aO,0)/\bO (iz p b n).aN:=by
 have h:=acP B k F;have j:=Q1 h;exact⟨j,(Dk h).2.2⟩
def Gs(B:dG p){b:aT}(k:cW b.key){n:aq}(G:l6 n.aN)(j:n.aw=b.id)(F:n.part=eO p):pN s p (b,iz p b n)=n:=by
 show AF s p b (iz p b n)=n;unfold AF;rw[(tY B k G).1];dsimp only;rw[Za,<-j,<-F];rfl
def IH(Z:dG p){b:aT}(Y:cW b.key){n:aq}(U:fits b n):c7 b.length (iz p b n):=by
 obtain⟨j,k,B,F,G,aa,M,N,O⟩:=U;exact⟨G,M,N,(tY Z Y O).2,j,k,B,F⟩
def Zw(j:cI s):gK s (dB s p)=s.bars.flatMap λb=>((lj s p).filter λn=>decide (n.aw=b.id)).map λn=>(b,iz p b n):=by
 rw[rD j p];unfold gK;dsimp only;rw[Dh,q5];congr 1;funext b;unfold kZ fm;dsimp only;rw[I3,k7,k7];rfl
def Ur(B:cI s):(s.bars.flatMap λb=>(lj s p).filter λn=>decide (n.aw=b.id)).Perm (lj s p):=by
 have F:(lj s p).Nodup:=by
  have:((lj s p).map aq.id).Nodup:=B.2.2.2.1.2.2.2.sublist (kB.map _);exact List.Pairwise.imp (λh e=>h (dn aq.id e)) (r1.1 this)
 refine(u0 ?_ F).2 λn=>?_
 ·show List.Pairwise _ _;rw[List.pairwise_flatMap];refine⟨λb _=>F.sublist kB,?_⟩;refine List.Pairwise.imp (λ{b N} h n M m G e=>?_) (r1.1 B.2.1.2.2);subst e;have j:=(hG.1 M).2;have k:=(hG.1 G).2;simp only[ea]at j k;exact h (j.symm.trans k)
 rw[k0];constructor
 ·rintro⟨b,_,h⟩;exact(hG.1 h).1
 intro h;obtain⟨b,j,k,_⟩:=NZ B h;exact⟨b,j,hG.2 ⟨h,by simp[k]⟩⟩
def ZO(j:cI s)(N:p∈s.parts):(yc s p (dB s p)).Perm s.notes:=by
 have O:=j.2.2.1.2.1 p N;have e:(gK s (dB s p)).map (pN s p)=s.bars.flatMap λb=>(lj s p).filter λn=>decide (n.aw=b.id):=by
  rw[Zw j,adS];unfold List.flatMap;congr 1;refine hN λb B=>?_;rw[k7];refine(hN λn M=>?_).trans (List.map_id _);obtain⟨k,G⟩:=hG.1 M;have F:n.aw=b.id:=by simpa using G
  exact Gs O (iR j B).2.2.2 (Gr j k B F).2.2.2.2.2.2.2.2 F (by simpa using (hG.1 k).2)
 unfold yc;rw[e];refine((Ur j).append_left _).trans ?_;refine List.perm_append_comm.trans ?_;exact List.filter_append_perm (λn=>decide (n.part=eO p)) s.notes
def qf(j:cI s)(Z:p∈s.parts):dj s (dB s p):=by
 have G:=j.2.2.1.2.1 p Z;have an:partOf s p.id=some p:=qe j.2.2.1.2.2.1 Z;have ae:=ZO j Z;have hl:(dB s p).aK.length=s.bars.length:=by rw[rD j p];simp
 have Y:∀b∈s.bars,∀n,n∈(lj s p).filter (λn=>decide (n.aw=b.id))->cW b.key/\fits b n/\n.aw=b.id/\n.part=eO p:=λb M n N=>by
  obtain⟨B,U⟩:=hG.1 N;have ad:n.aw=b.id:=by simpa using U
  exact⟨(iR j M).2.2.2,Gr j B M ad,ad,by simpa using (hG.1 B).2⟩
 refine⟨j,hl,⟨p,by rw[rD j p];exact an,?_⟩,?_,?_⟩
 ·rw[rD j p];dsimp only;rw[Dh,List.all_map,ek];intro b M;show fN p (kZ p (fm s p) b,b)=true;have al:(kZ p (fm s p) b).notes=((lj s p).filter λn=>decide (n.aw=b.id)).map (iz p b):=by
   unfold kZ fm;dsimp only;rw[I3,k7];rfl
  unfold fN;rw[al];simp only[dk,ea,ek];refine⟨⟨⟨rfl,rfl,rfl⟩,zt.2 λk a c ai aj=>?_⟩,λw au=>?_⟩
  ·have ao:(((lj s p).filter λn=>decide (n.aw=b.id)).map (iz p b)).Pairwise λa b=>¬bf wK b a<0:=by
    rw[r1];have ar:=Pv (Pv (abr j) λn=>decide (n.part=eO p)) λn=>decide (n.aw=b.id);refine qs (λ{n m} N ak h=>?_) ar;obtain⟨F,O,aa,ab⟩:=Y b M n N;obtain⟨ay,ah,av,ax⟩:=Y b M m ak;have af:=O.2.2.2.2.2.2.2.2;have ag:=ah.2.2.2.2.2.2.2.2;have:=Va (at_:=dW s.bars) (s:=s) (IH G F ah) (IH G F O) (by rw[(tY G F ag).1]) (by rw[(tY G F af).1]);rw[Gs G F ag av ax,Gs G F af aa ab]at this;rw[<-this];exact h
   have:=Ho ao k a c ai aj;rw[gj,hA];exact this
  obtain⟨n,N,rfl⟩:=gg.1 au;obtain⟨F,O,aa,ab⟩:=Y b M n N;exact IH G F O
 ·rw[<-He hl,<-hP (f:=pN s p)];have B:=ae.length_eq;unfold yc at B;rw[dT]at B;have:=j.2.2.2.1.2.1;omega
 rw[<-Ob hl];have B:((yc s p (dB s p)).map aq.id).Nodup:=(ae.map aq.id).nodup_iff.2 j.2.2.2.1.2.2.2;unfold yc at B;rw[nh,k8]at B;have U:=B.2.1;rw[k7]at U⊢;exact U
end Go.Proofs.YthhlipkkjippfaaGreatDoor
namespace Go.Proofs.YthhlipkkjippfaaGreatDoor
open Go Go.ak Go.Sy
attribute [local instance] bP bX
def Vv(q:aB->Written->Bool)(m:aB):aB:=⟨m.aw,m.key,m.length,m.notes.filter (q m)⟩
def p7(q:aB->Written->Bool)(v:View):View:=⟨v.part,v.aK.map (Vv q)⟩
theorem AP(v:View)(c:List Int):ey v c=p7 (λm w=>decide (w.br=jI c m.notes)) v:=rfl
def Vc{a b c:Written}(j:¬bf wK b a<0)(k:¬bf wK c b<0):¬bf wK c a<0:=
 zP (wK c) (wK b) (wK a) rfl rfl k j
theorem KD{l:List Written}(h:my (λa b=>!decide (bf wK b a<0)) l=true):l.Pairwise λa b=>¬bf wK b a<0:=
 DW (R:=λa b=>¬bf wK b a<0) (λa b c j B=>Vc j B) λk a b F G=>by
  have:=zt.1 h k a b F G;rw[gj,hA]at this;exact this
def Dp(q:aB->Written->Bool)(v:View):(bD (p7 q v)).Sublist (bD v):=by
 unfold bD p7;dsimp only;induction v.aK with
 |nil=>exact .refl _
 |cons m l j=>
  rw[e7,hL,hL];exact List.Sublist.append kB j
def vG{s:Score}{v:View}(hv:dj s v)(q:aB->Written->Bool):dj s (p7 q v):=by
 obtain⟨aa,hl,⟨p,Y,j⟩,N,O⟩:=hv;refine⟨aa,by simp[p7,hl],⟨p,Y,?_⟩,?_,?_⟩
 ·rw[ek]at j⊢;intro x B;unfold p7 at B;dsimp only at B;rw[List.zip_map_left,gg]at B;obtain⟨y,ad,rfl⟩:=B;have h:=j y ad;unfold fN at h⊢;simp only[dk,ea,ek]at h⊢;obtain⟨⟨⟨F,G,M⟩,b⟩,c⟩:=h;refine⟨⟨⟨F,G,M⟩,?_⟩,λw ab=>c w (hG.1 ab).1⟩;have Z:=(KD b).sublist (kB (p:=q y.1));refine zt.2 λk a c j U=>?_;have:=Ho Z k a c j U;rw[gj,hA];exact this
 ·exact hB (Dp q v).length_le N
 exact O.sublist ((Dp q v).map _)
def Zv{s:Score}{v:View}(q:aB->Written->Bool):gK s (p7 q v)=(v.aK.zip s.bars).flatMap λx=>(x.1.notes.filter (q x.1)).map λw=>(x.2,w):=by
 unfold gK p7;dsimp only;rw[List.zip_map_left,q5];rfl
def WH{α β ρ:Type}{E:α->Int}{N:α->β}{R:α->ρ}{fin:List β->ρ}{l:List α}(h:∀x∈l,E x=0)(z:List β):dP E N R fin l z=fin (z++l.map N):=by
 unfold dP;have:(l.find? λx=>decide (E x≠0))=none:=by
  rw[n3];intro x j;simp[h x j]
 rw[this]
def acf{s:Score}{v:View}{p:Part}(hv:dj s v)(k:partOf s v.part=some p)(j:∀q∈gK s v,sE p q=0):fe s v=((gK s v).map (sN p),0):=by
 unfold fe;rw[if_pos hv,k];dsimp only;rw[WH j,List.nil_append]
variable {s:Score}{p:Part}
def pV(s:Score)(p:Part)(b:aT):List aq:=(lj s p).filter λn=>decide (n.aw=b.id)
def AN(c:List Int)(l:List aq):Int:=(c.find? λn=>l.any λx=>decide (x.br=n)).getD 0
def gx(s:Score)(p:Part)(c:List Int)(b:aT):List aq:=((pV s p b).filter λn=>decide (n.br=AN c (pV s p b))).map (ki p)
def Yu(b:aT):(kZ p (fm s p) b).notes=(pV s p b).map (iz p b):=by
 unfold kZ fm pV;dsimp only;rw[I3,k7];rfl
def ZD(c:List Int)(b:aT)(l:List aq):jI c (l.map (iz p b))=AN c l:=by
 unfold jI AN;congr 2;funext n;rw[List.any_map];rfl
def DJ(F:cI s){b:aT}(k:b∈s.bars){n:aq}(M:n∈pV s p b):cW b.key/\fits b n/\n.aw=b.id/\n.part=eO p:=by
 obtain⟨j,G⟩:=hG.1 M;have B:n.aw=b.id:=by simpa using G
 exact⟨(iR F k).2.2.2,Gr F j k B,B,by simpa using (hG.1 j).2⟩
def Pq(F:dG p){b:aT}{n:aq}(h:cW b.key/\fits b n/\n.aw=b.id/\n.part=eO p):sE p (b,iz p b n)=0/\sN p (b,iz p b n)=ki p n:=by
 obtain⟨j,k,B,G⟩:=h;have hi:=(tY F j k.2.2.2.2.2.2.2.2).1;unfold sE sN;dsimp only;rw[hi];refine⟨rfl,?_⟩;unfold ki iz jS ki;dsimp only;rw[B]
def Hf(j:cI s)(c:List Int):gK s (ey (dB s p) c)=s.bars.flatMap λb=>((pV s p b).filter λn=>decide (n.br=AN c (pV s p b))).map λn=>(b,iz p b n):=by
 rw[AP,Zv,rD j p];dsimp only;rw[Dh,q5];congr 1;funext b;dsimp only;rw[Yu,ZD,I3,k7];rfl
theorem yx(j:cI s)(G:p∈s.parts)(c:List Int):fe s (ey (dB s p) c)=(s.bars.flatMap (gx s p c),0):=by
 have M:=j.2.2.1.2.1 p G;have O:partOf s p.id=some p:=qe j.2.2.1.2.2.1 G;have hv:dj s (ey (dB s p) c):=vG (qf j G) _;have N:partOf s (ey (dB s p) c).part=some p:=by
  rw[rD j p];exact O
 rw[acf hv N (λq k=>by
  rw[Hf j,k0]at k;obtain⟨b,B,k⟩:=k;obtain⟨n,F,rfl⟩:=gg.1 k;exact(Pq M (DJ j B (hG.1 F).1)).1),Hf j,adS]
 congr 1;unfold List.flatMap;congr 1;refine hN λb B=>?_;unfold gx;rw[k7];refine hN λn F=>?_;exact(Pq M (DJ j B (hG.1 F).1)).2
end Go.Proofs.YthhlipkkjippfaaGreatDoor
namespace Go.Proofs.YthhlipkkjippfaaGreatDoor
open Go Go.ak Go.Sy
attribute [local instance] bP bX
def fh{σ β ρ:Type}(f:σ->β->σ⊕ρ):List β->σ->σ⊕ρ
 | [],z=>.inl z
 |x::l,z=>match f z x with
  |.inl y=>fh f l y
  |.inr w=>.inr w
def LS{σ β ρ:Type}(f:σ->β->σ⊕ρ):∀(a b:List β)(z:σ),fh f (a++b) z=Sum.elim (fh f b) .inr (fh f a z)
 | [],b,z=>rfl
 |x::a,b,z=>by
  simp only[List.cons_append,fh];cases f z x with
  |inl y=>exact LS f a b y
  |inr w=>rfl
def lT{σ β ρ:Type}(g:σ->β->σ):∀(l:List β)(z:σ),fh (λz x=>(.inl (g z x):σ⊕ρ)) l z=.inl (l.foldl g z)
 | [],z=>rfl
 |x::l,z=>lT g l (g z x)
def zQ{σ β ρ:Type}{f:σ->β->σ⊕ρ}{I:Nat->σ->Prop}(F:∀k z x y,I k z->f z x=.inl y->I (k+1) y):∀(l:List β)(k:Nat)(z y:σ),I k z->fh f l z=.inl y->I (k+l.length) y
 | [],k,z,y,B,h=>by cases h;exact B
 |x::l,k,z,y,B,h=>by
  simp only[fh]at h;cases j:f z x with
  |inl w=>
   rw[j]at h;have G:=zQ F l (k+1) w y (F k z x w B j) h;rw[List.length_cons,show k+(l.length+1)=k+1+l.length by omega];exact G
  |inr w=>rw[j]at h;exact nomatch h
def jl{β:Type}(e:Int)(seg:Int->List β)(nx:Int->Int):Nat->Int->List β
 |0,_=>[]
 |n+1,b=>if b<e then seg b++jl e seg nx n (nx b)else []
theorem lZ{σ ρ O ω β:Type}{step:O->Option (O⊕ω)}(st:σ->Int->O)(e:Int)(seg:Int->List β)(nx:Int->Int)(f:σ->β->σ⊕ρ)(fin:σ->ω)(Y:ρ->ω)(I:Nat->σ->Prop)(U:Nat)(ae:∀k z x y,I k z->f z x=.inl y->I (k+1) y)(P:Int->Prop)(af:∀b,P b->b<e->b<nx b/\P (nx b))(ag:∀k z b,P b->b<e->I k z->k+(seg b).length<=U->step (st z b)=some (Sum.elim (λy=>.inl (st y (nx b))) (λw=>.inr (Y w)) (fh f (seg b) z)))(Z:∀z b,P b->¬b<e->step (st z b)=some (.inr (fin z))) :
  ∀(n k:Nat)(N:σ)(b:Int),P b->e<=b+n->I k N->k+(jl e seg nx n b).length<=U->aA step (st N b)=some (Sum.elim fin Y (fh f (jl e seg nx n b) N)):=by
 intro n;induction n with
 |zero=>
  intro k z b j ad M F;exact fj (Z z b j (by omega))
 |succ n ah=>
  intro k z b j ad M F;unfold jl at F⊢;by_cases h:b<e
  ·rw[if_pos h]at F⊢;rw[dT]at F;have B:=ag k z b j h M (by omega);rw[LS];cases G:fh f (seg b) z with
   |inl y=>
    rw[G]at B;have aa:=zQ ae _ _ _ _ M G;have ab:=af b j h;rw[jC B];exact ah _ y (nx b) ab.2 (by omega) aa (by omega)
   |inr w=>
    rw[G]at B;exact fj B
  rw[if_neg h];exact fj (Z z b j h)
theorem Fl{β:Type}{e:Int}{seg:Int->List β}{nx:Int->Int}(K E:Int)(j:0<=K){P:Int->Prop}(N:∀b,P b->b<e->P (nx b)/\nx b<=E/\((seg b).length:Int)<=K*(nx b-b)) :
  ∀(n:Nat)(b:Int),P b->b<=E->((jl e seg nx n b).length:Int)<=K*(E-b):=by
 intro n;induction n with
 |zero=>
  intro b _ M;have:=Int.mul_nonneg j (show(0:Int)<=E-b by omega);simpa [jl]using this
 |succ n O=>
  intro b G M;unfold jl;by_cases h:b<e
  ·rw[if_pos h];obtain⟨k,B,U⟩:=N b G h;have Y:=O (nx b) k B;rw[dT];have F:K*(E-b)=K*(nx b-b)+K*(E-nx b):=by rw[<-Int.mul_add];congr 1;omega
   rw[F]
   push_cast
   omega
  rw[if_neg h];have:=Int.mul_nonneg j (show(0:Int)<=E-b by omega);simpa using this
theorem Fk{β:Type}{e:Int}{seg:Int->List β}{nx:Int->Int}{P:Int->Prop}{Q:β->Prop}(F:∀b,P b->b<e->P (nx b)/\∀x∈seg b,Q x) :
  ∀(n:Nat)(b:Int),P b->∀x∈jl e seg nx n b,Q x:=by
 intro n;induction n with
 |zero=>intro b _ x hx;exact absurd hx (by simp[jl])
 |succ n G=>
  intro b B x hx;unfold jl at hx;by_cases h:b<e
  ·rw[if_pos h,hD]at hx;obtain⟨j,k⟩:=F b B h;rcases hx with hx|hx
   ·exact k x hx
   exact G _ j x hx
  rw[if_neg h]at hx;exact absurd hx (by simp)
def vv(l:List Repeat)(b:Int):Int:=ix l λr=>decide (r.from_=b)
def jz(l:List Ending)(b p:Int):Bool:=l.any λx=>decide (x.from_<=b)&&(decide (b<x.aW) && !decide (x.pass=p))
def gv(l:List Ending)(a b p:Int):List Int:=jl b (λi=>if jz l i p then []else [i]) (λi=>i+1) (b-a).toNat a
def jM(l:List Ending)(r:Repeat)(p:Int):List Int:=jl (r.times+1) (λq=>gv l r.from_ r.aW q) (λq=>q+1) (r.times+1-p).toNat p
def mS(f:Form)(q:Repeat->Int)(b:Int):List Int:=match f.bg.find? λr=>decide (r.from_=b)with
 |none=>[b]
 |some r=>jM f.bC r (q r)
def jD(f:Form)(b:Int):Int:=match f.bg.find? λr=>decide (r.from_=b)with
 |none=>b+1
 |some r=>r.aW
def dQ(f:Form)(q:Repeat->Int)(a e:Int):List Int:=jl e (mS f q) (jD f) (e-a).toNat a
def fY(f:Form):List Int:=if f.jump.at_=0 then dQ f (λ_=>1) 0 f.bars else dQ f (λ_=>1) 0 f.jump.at_++dQ f Repeat.times f.jump.to f.jump.de
def Zy(l:List Ending)(a b p:Int)(h:a<=b):((gv l a b p).length:Int)<=b-a:=by
 have:=Fl (e:=b) (seg:=λi=>if jz l i p then []else [i]) (nx:=λi=>i+1) 1 b (by omega) (P:=λ_=>True) (λi _ hi=>⟨trivial,by omega,by
  by_cases h:jz l i p=true
  ·rw[if_pos h];simp;omega
  rw[if_neg h];simp;omega⟩) (b-a).toNat a trivial h
 unfold gv;omega
def aa5(l:List Ending)(r:Repeat)(p:Int)(h:r.from_<=r.aW)(j:1<=p)(k:p<=r.times)(B:r.times<=9):((jM l r p).length:Int)<=9*(r.aW-r.from_):=by
 have:=Fl (e:=r.times+1) (seg:=λq=>gv l r.from_ r.aW q) (nx:=λq=>q+1) (r.aW-r.from_) (r.times+1) (by omega) (P:=λ_=>True) (λi _ hi=>⟨trivial,by omega,by
  have:=Zy l r.from_ r.aW i h;have e:(r.aW-r.from_)*(i+1-i)=r.aW-r.from_:=by
   rw[show i+1-i=1 by omega,Int.mul_one]
  rw[e];exact this⟩) (r.times+1-p).toNat p trivial (by omega)
 have F:(r.aW-r.from_)*(r.times+1-p)<=(r.aW-r.from_)*9:=Int.mul_le_mul_of_nonneg_left (by omega) (by omega);unfold jM;omega
def qg(bars:Int)(r:Repeat):Prop:=r.from_<r.aW/\r.aW<=bars/\1<=r.times/\r.times<=9/\0<=r.from_
def Pc(bars:Int):∀(l:List Repeat)(z:Int),0<=z->lx (oB bars) Repeat.aW z l=true->∀r∈l,qg bars r
 | [],_,_,_,r,hr=>absurd hr (by simp)
 |x::l,z,N,h,r,hr=>by
  simp only[lx,dk,gj,oB,kb,hA]at h;obtain⟨⟨⟨⟨⟨k,B⟩,F⟩,G⟩,M⟩,j⟩:=h;rcases fa.1 hr with rfl|hr
  ·exact⟨by omega,by omega,by omega,by omega,by omega⟩
  exact Pc bars l x.aW (by omega) j r hr
theorem Oc{f:Form}(M:∀r∈f.bg,qg f.bars r){q:Repeat->Int}(j:∀r∈f.bg,1<=q r/\q r<=r.times)(a e:Int)(G:a<=f.bars)(aa:e<=f.bars):((dQ f q a e).length:Int)<=9*(f.bars-a):=by
 refine Fl 9 f.bars (by omega) (P:=λ_=>True) (λb _ Z=>⟨trivial,?_⟩) _ a trivial G;unfold mS jD;cases h:f.bg.find? λr=>decide (r.from_=b)with
 |none=>exact⟨by dsimp only;omega,by simp;omega⟩
 |some r=>
  have N:=M r (hf h);have F:r.from_=b:=fv (kA (p:=λr:Repeat=>decide (r.from_=b)) h);obtain⟨O,k,U,B,Y⟩:=N;refine⟨k,?_⟩;rw[<-F];exact aa5 _ _ _ (by omega) (j r (hf h)).1 (j r (hf h)).2 B
def kK(f:Form):Prop:=(1<=f.bars/\f.bars<=4000)/\(∀r∈f.bg,qg f.bars r)/\(f.bg.length<=1048576/\f.bC.length<=1048576)/\(f.jump.at_<=f.bars/\0<=f.jump.to/\f.jump.to<=f.bars/\f.jump.de<=f.bars)/\(f.jump.at_=0->f.jump.de<=f.jump.to)
def yF{f:Form}(h:kK f):(fY f).length<=72000:=by
 obtain⟨⟨O,U⟩,j,_,⟨G,Z,M,N⟩,_⟩:=h;have B:=λe(F:e<=f.bars)=>Oc j (q:=λ_=>1) (λr k=>⟨by simp,(j r k).2.2.1⟩) 0 e (by omega) F;have Y:=Oc j (q:=Repeat.times) (λr k=>⟨(j r k).2.2.1,by simp⟩) f.jump.to f.jump.de M N;unfold fY;by_cases e:f.jump.at_=0
 ·rw[if_pos e];have:=B f.bars (by simp);omega
 rw[if_neg e,dT];have:=B f.jump.at_ G;omega
def Zx(l:List Ending)(a b p:Int):∀x∈gv l a b p,a<=x/\x<b:=by
 refine Fk (P:=λi=>a<=i) (λi hi k=>⟨by omega,λx j=>?_⟩) _ a (by simp);by_cases h:jz l i p=true
 ·rw[if_pos h]at j;exact absurd j (by simp)
 rw[if_neg h,n2]at j;omega
def aa4(l:List Ending)(r:Repeat)(p:Int):∀x∈jM l r p,r.from_<=x/\x<r.aW:=
 Fk (P:=λ_=>True) (λi _ _=>⟨trivial,Zx l _ _ i⟩) _ p trivial
def Hg{f:Form}(B:∀r∈f.bg,qg f.bars r)(q:Repeat->Int)(a e:Int)(k:0<=a)(Z:e<=f.bars):∀x∈dQ f q a e,0<=x/\x<f.bars:=by
 refine Fk (P:=λb=>0<=b) (λb U Y=>?_) _ a k;unfold mS jD;cases h:f.bg.find? λr=>decide (r.from_=b)with
 |none=>exact⟨by dsimp only;omega,λx j=>by rw[n2]at j;omega⟩
 |some r=>
  obtain⟨F,G,M,N,O⟩:=B r (hf h);exact⟨by dsimp only;omega,λx j=>by have:=aa4 _ _ _ x j;omega⟩
def QL{f:Form}(h:kK f):∀x∈fY f,0<=x/\x<f.bars:=by
 obtain⟨⟨G,M⟩,j,_,⟨k,B,N,F⟩,_⟩:=h;intro x hx;unfold fY at hx;by_cases e:f.jump.at_=0
 ·rw[if_pos e]at hx;exact Hg j _ _ _ (by simp) (by simp) x hx
 rw[if_neg e,hD]at hx;rcases hx with hx|hx
 ·exact Hg j _ _ _ (by simp) k x hx
 exact Hg j _ _ _ B F x hx
def mh(f:Form):Int:=if f.jump.at_=0 then f.bars else f.jump.at_
def IJ{f:Form}(h:kK f):fY f=dQ f (λ_=>1) 0 (mh f)++dQ f Repeat.times f.jump.to f.jump.de:=by
 unfold fY mh;by_cases e:f.jump.at_=0
 ·have k:=h.2.2.2.2 e;have j:dQ f Repeat.times f.jump.to f.jump.de=[]:=by
   unfold dQ;rw[show(f.jump.de-f.jump.to).toNat=0 by omega];rfl
  rw[if_pos e,if_pos e,j,iu]
 rw[if_neg e,if_neg e]
def Ag{α:Type}{l:List α}{p:α->Bool}(h:l.find? p=none):ix l p = -1:=by
 have:l.findIdx? p=none:=by
  rw[List.findIdx?_eq_none_iff];intro x j;simpa using n3.1 h x j
 unfold ix;rw[this]
def wC{α:Type}{p:α->Bool}:∀{l:List α}{x:α},l.find? p=some x->∃k:Nat,ix l p=k/\l[k]?=some x/\p x=true
 | [],x,h=>by exact nomatch h
 |a::l,x,h=>by
  rw[List.find?_cons]at h;cases B:p a with
  |true=>
   rw[B]at h;cases h;refine⟨0,?_,rfl,B⟩;unfold ix;rw[pa,B];rfl
  |false=>
   rw[B]at h;obtain⟨k,j,G,M⟩:=wC h;refine⟨k+1,?_,G,M⟩;unfold ix at j⊢;rw[pa,B];cases F:l.findIdx? p with
   |none=>rw[F]at j;simp at j
   |some i=>rw[F]at j;simp at j⊢;omega
def CM{l:List Repeat}(hl:l.length<=1048576)(b:Int):aR (aA (λj:Int=>ab (aj j (l.length:Int)) (aa (an l j) λG=>ab (aC G.from_ b) (some (.inr (.inr j))) (ae (ai (j+1)) <|some (.inl (j+1)))) (some (.inr (.inl ())))) 0) (λ(j:Unit)=>some (-1))=some (vv l b):=by
 rw[nL (l:=l) (λr=>decide (r.from_=b)) (λk x B=>by
  have F:=aZ B;rw[ah (by simpa using F),aY (aF B)];show ab (decide (x.from_=b)) _ _=_;cases decide (x.from_=b)
  ·rw[gE,av (by omega)];rfl
  rfl) (by rw[ag (by simp)])]
 exact rG l _
def aan{f:Form}(hl:f.bg.length<=1048576)(b:Int):uK (f,b)=some (vv f.bg b):=CM hl b
def I6(a b c:Bool):ab a (ab b (some c) (some false)) (some false)=some (a&&(b&&c)):=by cases a<;>cases b<;>rfl
def aal{f:Form}(hl:f.bC.length<=1048576)(b p:Int):pn (f,(b,p))=some (!jz f.bC b p):=by
 unfold pn;dsimp only;rw[il (l:=f.bC) (λx=>decide (x.from_<=b)&&(decide (b<x.aW) && !decide (x.pass=p))) false (λk x j=>by
  have B:=aZ j;rw[ah (by simpa using B),aY (aF j),I6,af];show ab (decide (x.from_<=b)&&(decide (b<x.aW) && !decide (x.pass=p))) _ _=_;cases (decide (x.from_<=b)&&(decide (b<x.aW) && !decide (x.pass=p)))
  ·rw[gE,av (by omega)];rfl
  rfl) (by rw[ag (by simp)])]
 unfold jz;cases (f.bC.any λx=>decide (x.from_<=b)&&(decide (b<x.aW) && !decide (x.pass=p)))<;>rfl
def Gm{o:Order}(hl:o.form.bC.length<=1048576)(b p:Int):jg (o,(b,p))=some (jz o.form.bC b p):=by
 unfold jg GW G3;dsimp only;rw[mq (l:=o.form.bC) (λx=>decide (x.from_<=b)&&(decide (b<x.aW) && !decide (x.pass=p))) (λk x j=>by
  have B:=aZ j;unfold GQ;dsimp only;rw[ah (by simpa using B),aY (aF j),I6,af,af];show ab (decide (x.from_<=b)&&(decide (b<x.aW) && !decide (x.pass=p))) _ _=_;cases (decide (x.from_<=b)&&(decide (b<x.aW) && !decide (x.pass=p)))
  ·rw[gE,av (by omega)];rfl
  rfl) (by rw[ag (by simp)])]
 rfl
def Mk{β:Type}{o:Option β}{z:List Int}{x:Int}(h:z.length<=100000):ae (WP 8 (List.append z (x::([]:List Int)))) o=o:=by
 have e:(List.append z (x::([]:List Int))).length=z.length+1:=dT;exact bG (c3 (by rw[e];omega))
def tN{ρ:Type}:∀(l z:List Int),fh (λz x=>(.inl (z++[x]):List Int⊕ρ)) l z=.inl (z++l)
 | [],z=>by rw[iu];rfl
 |x::l,z=>by
  refine(tN l (z++[x])).trans ?_;rw[h7];rfl
def adr{f:Form}(hl:f.bC.length<=1048576){a u p:Int}{B:List Int}(U:0<=a)(Z:u<=1048576)(O:B.length+(gv f.bC a u p).length<=100000) :
  aA (λj:(Int×(List Int))=>ab (aj j.1 u) (aa (aa (pn (f,(j.1,p))) λF=>ab F (ae (WP 8 (List.append j.2 (j.1::([]:List Int)))) <|some (List.append j.2 (j.1::([]:List Int)))) (some j.2)) λ(F:(List Int))=>ae (ai (j.1+1)) <|some (.inl ((j.1+1),F))) (some (.inr j.2))) (a,B)=some (B++gv f.bC a u p):=by
 refine(lZ (ρ:=Empty) (λ(z:List Int) b=>(b,z)) u (λi=>if jz f.bC i p then []else [i]) (λi=>i+1) (λz x=>.inl (z++[x])) id Empty.elim (λk z=>z.length<=k) 100000 (λk z x y G h=>by cases h;simpa using G) (λb=>0<=b) (λb M _=>⟨by omega,by omega⟩) (λk z b M Y G N=>?_) (λz b M h=>by dsimp only;rw[ag (da h)];rfl) (u-a).toNat B.length B a U (by omega) (ec _) O).trans (by rw[tN];rfl);dsimp only;rw[ah (c3 Y),aal hl,af];by_cases h:jz f.bC b p=true
 ·rw[h,if_pos rfl];exact av (by omega)
 rw[k5]at h;rw[h,if_neg (by decide)];rw[h,if_neg (by decide)]at N;refine(au (x:=z++[b]) (Mk (by simp at N;omega))).trans ?_;exact av (by omega)
def ads{f:Form}(hl:f.bC.length<=1048576){r:Repeat}{p:Int}{F:List Int}(Z:qg f.bars r)(G:f.bars<=4000)(Y:1<=p)(U:F.length+(jM f.bC r p).length<=100000) :
  aA (λB:(Int×(List Int))=>ab (leI B.1 r.times) (aa (aA (λj:(Int×(List Int))=>ab (aj j.1 r.aW) (aa (aa (pn (f,(j.1,B.1))) λM=>ab M (ae (WP 8 (List.append j.2 (j.1::([]:List Int)))) <|some (List.append j.2 (j.1::([]:List Int)))) (some j.2)) λ(M:(List Int))=>ae (ai (j.1+1)) <|some (.inl ((j.1+1),M))) (some (.inr j.2))) (r.from_,B.2)) λ(j:(List Int))=>ae (ai (B.1+1)) <|some (.inl ((B.1+1),j))) (some (.inr B.2))) (p,F)=some (F++jM f.bC r p):=by
 obtain⟨ad,af,ak,al,O⟩:=Z;refine(lZ (ρ:=Empty) (λ(z:List Int) b=>(b,z)) (r.times+1) (λq=>gv f.bC r.from_ r.aW q) (λi=>i+1) (λz x=>.inl (z++[x])) id Empty.elim (λk z=>z.length<=k) 100000 (λk z x y N h=>by cases h;simpa using N) (λb=>1<=b) (λb G _=>⟨by omega,by omega⟩) (λk z b G ao N an=>?_) (λz b G h=>by dsimp only;rw[ag (da (by omega))];rfl) (r.times+1-p).toNat F.length F p Y (by omega) (ec _) U).trans (by rw[tN];rfl);dsimp only;rw[ah (c3 (by omega)),tN];refine(au (adr hl O (by omega) (by omega))).trans ?_;exact av (by omega)
def IK{f:Form}(h:kK f)(q:Repeat->Int)(ax:∀r∈f.bg,1<=q r/\q r<=r.times){a e:Int}{G:List Int}(ar:0<=a)(aJ:e<=f.bars)(aq:G.length+(dQ f q a e).length<=100000) :
  aA (λB:(Int×(List Int))=>ab (aj B.1 e) (aa (uK (f,B.1)) λaf=>ab (aj af 0) (ae (WP 8 (List.append B.2 (B.1::([]:List Int)))) <|ae (ai (B.1+1)) <|some (.inl ((B.1+1),(List.append B.2 (B.1::([]:List Int)))))) (aa (an f.bg af) λN=>aa (aA (λF:(Int×(List Int))=>ab (leI F.1 N.times) (aa (aA (λj:(Int×(List Int))=>ab (aj j.1 N.aW) (aa (aa (pn (f,(j.1,F.1))) λU=>ab U (ae (WP 8 (List.append j.2 (j.1::([]:List Int)))) <|some (List.append j.2 (j.1::([]:List Int)))) (some j.2)) λ(U:(List Int))=>ae (ai (j.1+1)) <|some (.inl ((j.1+1),U))) (some (.inr j.2))) (N.from_,F.2)) λ(j:(List Int))=>ae (ai (F.1+1)) <|some (.inl ((F.1+1),j))) (some (.inr F.2))) (q N,B.2)) λ(F:(List Int))=>some (.inl (N.aW,F)))) (some (.inr B.2))) (a,G)=some (G++dQ f q a e):=by
 obtain⟨⟨az,ak⟩,Z,⟨ay,hl⟩,_⟩:=h;refine(lZ (ρ:=Empty) (λ(z:List Int) b=>(b,z)) e (mS f q) (jD f) (λz x=>.inl (z++[x])) id Empty.elim (λk z=>z.length<=k) 100000 (λk z x y O h=>by cases h;simpa using O) (λb=>0<=b) (λb Y _=>?_) (λk z b Y aw O M=>?_) (λz b Y h=>by dsimp only;rw[ag (da h)];rfl) (e-a).toNat G.length G a ar (by omega) (ec _) aq).trans (by rw[tN];rfl)
 ·unfold jD;cases h:f.bg.find? λr=>decide (r.from_=b)with
  |none=>exact⟨by dsimp only;omega,by dsimp only;omega⟩
  |some r=>
   obtain⟨aC,aD,aE,aG,aH⟩:=Z r (hf h);have aI:r.from_=b:=fv (kA (p:=λr:Repeat=>decide (r.from_=b)) h);exact⟨by dsimp only;omega,by dsimp only;omega⟩
 dsimp only;rw[ah (c3 aw),tN];refine(au (aan ay b)).trans ?_;unfold vv;unfold mS at M⊢;unfold jD;cases h:f.bg.find? λr=>decide (r.from_=b)with
 |none=>
  rw[h]at M;rw[Ag h];refine(ah (by decide)).trans ?_;refine(Mk (by simp at M;omega)).trans ?_;exact av (by omega)
 |some r=>
  rw[h]at M;have ad:=hf h;obtain⟨aK,al,ao,aB⟩:=wC h;rw[al];refine(ag (da (by omega))).trans ?_;refine(au (aF ao)).trans ?_;exact au (ads hl (Z r ad) ak (ax r ad).1 (hB (Nat.add_le_add_right O _) M))
def OI{f:Form}(h:kK f):xA f=some (fY f):=by
 obtain⟨⟨U,Y⟩,B,_,⟨G,M,Z,N⟩,_⟩:=id h;have j:=yF h;have F:∀r∈f.bg,1<=(λ_=>1:Repeat->Int) r/\(λ_=>1:Repeat->Int) r<=r.times:=λr k=>⟨by simp,(B r k).2.2.1⟩;have O:∀r∈f.bg,1<=r.times/\r.times<=r.times:=λr k=>⟨(B r k).2.2.1,by simp⟩;unfold fY at j⊢;unfold xA;by_cases e:f.jump.at_=0
 ·rw[if_pos e]at j⊢;refine(ah (c3 e)).trans ?_;exact au (IK h (λ_=>1) F (by simp) (by simp) (by simp;omega))
 rw[if_neg e]at j⊢;rw[dT]at j;refine(ag (da e)).trans ?_;refine(au (IK h (λ_=>1) F (by simp) G (by simp;omega))).trans ?_;refine(au (IK h Repeat.times O M N (by simp;omega))).trans ?_;have e:(List.append ([]++dQ f (λ_=>1) 0 f.jump.at_) ([]++dQ f Repeat.times f.jump.to f.jump.de)).length=(dQ f (λ_=>1) 0 f.jump.at_).length+(dQ f Repeat.times f.jump.to f.jump.de).length:=dT;exact bG (c3 (by rw[e];omega))
abbrev MI:=List (Int×Int)
def gS(z:Int×MI)(x:Int):(Int×MI)⊕Unit:=if 20000<z.1+1 then .inr ()else .inl (z.1+1,aM z.2 x (ar z.2 x 0+1))
def IS(k:Nat)(z:Int×MI):Prop:=z.1=k/\∀x,0<=ar z.2 x 0/\ar z.2 x 0<=k
def yM(k:Nat)(z:Int×MI)(x:Int)(y:Int×MI)(j:IS k z)(h:gS z x=.inl y):IS (k+1) y:=by
 unfold gS at h;by_cases e:20000<z.1+1
 ·rw[if_pos e]at h;exact nomatch h
 rw[if_neg e]at h;cases h;refine⟨by have:=j.1;dsimp only;omega,λw=>?_⟩;dsimp only;rw[mH];have B:=j.2 x;have F:=j.2 w;by_cases e:w=x
 ·rw[if_pos e];omega
 rw[if_neg e];omega
def abG{ω:Type}{o:Order}(hl:o.form.bC.length<=1048576){a u p:Int}{z:Int×MI}{k:Nat}(ak:0<=a)(ao:u<=1048576)(F:IS k z)(ad:k+(gv o.form.bC a u p).length<=100000)(M:ω) :
  (aA (λj:(Int×(Int×(List (Int×Int))))=>ab (aj j.1 u) (aR (aa (jg (o,(j.1,p))) λO=>ab (!O) (ae (ai ((ar j.2.2 j.1 0)+1)) <|ae (ai (j.2.1+1)) <|ab (aj 20000 (j.2.1+1)) (some (.inr (.inr (.inr M)))) (some (.inl ((j.2.1+1),(aM j.2.2 j.1 ((ar j.2.2 j.1 0)+1)))))) (some (.inl (j.2.1,j.2.2)))) λ(O:(Int×(List (Int×Int))))=>ae (ai (j.1+1)) <|some (.inl ((j.1+1),(O.1,O.2)))) (some (.inr (.inl (j.2.1,j.2.2))))) (a,(z.1,z.2)):Option ((Int×MI)⊕ω))=some (Sum.elim Sum.inl (λ_=>Sum.inr M) (fh gS (gv o.form.bC a u p) z)):=by
 refine lZ (λ(z:Int×MI) b=>(b,(z.1,z.2))) u (λi=>if jz o.form.bC i p then []else [i]) (λi=>i+1) gS Sum.inl (λ_=>.inr M) IS 100000 yM (λb=>0<=b) (λb Y _=>⟨by omega,by omega⟩) (λk z b Y al F N=>?_) (λz b Y h=>by dsimp only;rw[ag (da h)]) (u-a).toNat k z a ak (by omega) F ad;dsimp only;rw[ah (c3 al),Gm hl,af];by_cases h:jz o.form.bC b p=true
 ·rw[h,if_pos rfl];exact av (by omega)
 rw[k5]at h;rw[h,if_neg (by decide)];rw[h,if_neg (by decide)]at N;have N:k+1<=100000:=N;obtain⟨B,U⟩:=z;have an:B=k:=F.1;have Z:=F.2 b;dsimp only at Z;simp only[fh];have e:gS (B,U) b=if 20000<B+1 then .inr ()else .inl (B+1,aM U b (ar U b 0+1)):=rfl
 rw[e];refine(dn (λq=>aR q _) (ah rfl)).trans ?_;rw[av (by omega),av (by omega)];by_cases G:20000<B+1
 ·rw[if_pos G];exact dn (λq=>aR q _) (ah (c3 G))
 rw[if_neg G];refine(dn (λq=>aR q _) (ag (da G))).trans ?_;exact av (n:=b+1) (by omega)
def abH{ω:Type}{o:Order}(hl:o.form.bC.length<=1048576){r:Repeat}{p:Int}{z:Int×MI}{k:Nat}(ad:qg o.form.bars r)(M:o.form.bars<=4000)(Z:1<=p)(G:IS k z)(U:k+(jM o.form.bC r p).length<=100000)(F:ω) :
  (aA (λB:(Int×(Int×(List (Int×Int))))=>ab (leI B.1 r.times) (aR (aA (λj:(Int×(Int×(List (Int×Int))))=>ab (aj j.1 r.aW) (aR (aa (jg (o,(j.1,B.1))) λN=>ab (!N) (ae (ai ((ar j.2.2 j.1 0)+1)) <|ae (ai (j.2.1+1)) <|ab (aj 20000 (j.2.1+1)) (some (.inr (.inr (.inr (.inr (.inr F)))))) (some (.inl ((j.2.1+1),(aM j.2.2 j.1 ((ar j.2.2 j.1 0)+1)))))) (some (.inl (j.2.1,j.2.2)))) λ(N:(Int×(List (Int×Int))))=>ae (ai (j.1+1)) <|some (.inl ((j.1+1),(N.1,N.2)))) (some (.inr (.inl (j.2.1,j.2.2))))) (r.from_,(B.2.1,B.2.2))) λ(j:(Int×(List (Int×Int))))=>ae (ai (B.1+1)) <|some (.inl ((B.1+1),(j.1,j.2)))) (some (.inr (.inl (B.2.1,B.2.2))))) (p,(z.1,z.2)):Option ((Int×MI)⊕ω))=some (Sum.elim Sum.inl (λ_=>Sum.inr F) (fh gS (jM o.form.bC r p) z)):=by
 obtain⟨af,ak,al,an,O⟩:=ad;refine lZ (λ(z:Int×MI) b=>(b,(z.1,z.2))) (r.times+1) (λq=>gv o.form.bC r.from_ r.aW q) (λi=>i+1) gS Sum.inl (λ_=>.inr F) IS 100000 yM (λb=>1<=b) (λb M _=>⟨by omega,by omega⟩) (λk z b M ao G Y=>?_) (λz b M h=>by dsimp only;rw[ag (da (by omega))]) (r.times+1-p).toNat k z p Z (by omega) G U;dsimp only;rw[ah (c3 (by omega))];refine(di (abG hl O (by omega) G Y _)).trans ?_;cases fh gS (gv o.form.bC r.from_ r.aW b) z with
 |inl y=>exact av (by omega)
 |inr w=>rfl
def PF{ω:Type}{o:Order}(h:kK o.form)(q:Repeat->Int)(aO:∀r∈o.form.bg,1<=q r/\q r<=r.times){a e:Int}{z:Int×MI}{k:Nat}(aK:0<=a)(aV:e<=o.form.bars)(Y:IS k z)(aJ:k+(dQ o.form q a e).length<=100000)(U:ω)(F:(Int×MI)->ω) :
  (aA (λB:(Int×((List (Int×Int))×Int))=>ab (aj B.2.2 e) (aR (aa (aR (aA (λG:Int=>ab (aj G (o.form.bg.length:Int)) (aa (an o.form.bg G) λN=>ab (aC N.from_ B.2.2) (some (.inr (.inr G))) (ae (ai (G+1)) <|some (.inl (G+1)))) (some (.inr (.inl ())))) 0) λ(G:Unit)=>some (-1)) λ(G:Int)=>ab (aj G 0) (ae (ai ((ar B.2.1 B.2.2 0)+1)) <|ae (ai (B.1+1)) <|ab (aj 20000 (B.1+1)) (some (.inr (.inr U))) (some (.inl ((B.1+1),((aM B.2.1 B.2.2 ((ar B.2.1 B.2.2 0)+1)),B.2.2))))) (aa (an o.form.bg G) λN=>aa (some (q N)) λ(aQ:Int)=>aR (aA (λM:(Int×(Int×(List (Int×Int))))=>ab (leI M.1 N.times) (aR (aA (λj:(Int×(Int×(List (Int×Int))))=>ab (aj j.1 N.aW) (aR (aa (jg (o,(j.1,M.1))) λao=>ab (!ao) (ae (ai ((ar j.2.2 j.1 0)+1)) <|ae (ai (j.2.1+1)) <|ab (aj 20000 (j.2.1+1)) (some (.inr (.inr (.inr (.inr (.inr (.inr (.inr U)))))))) (some (.inl ((j.2.1+1),(aM j.2.2 j.1 ((ar j.2.2 j.1 0)+1)))))) (some (.inl (j.2.1,j.2.2)))) λ(ao:(Int×(List (Int×Int))))=>ae (ai (j.1+1)) <|some (.inl ((j.1+1),(ao.1,ao.2)))) (some (.inr (.inl (j.2.1,j.2.2))))) (N.from_,(M.2.1,M.2.2))) λ(j:(Int×(List (Int×Int))))=>ae (ai (M.1+1)) <|some (.inl ((M.1+1),(j.1,j.2)))) (some (.inr (.inl (M.2.1,M.2.2))))) (aQ,(B.1,B.2.1))) λ(M:(Int×(List (Int×Int))))=>ae (ai (N.aW-1)) <|some (.inl (M.1,(M.2,(N.aW-1)))))) λ(G:(Int×((List (Int×Int))×Int)))=>ae (ai (G.2.2+1)) <|some (.inl (G.1,(G.2.1,(G.2.2+1))))) (some (.inr (F (B.1,B.2.1))))) (z.1,(z.2,a)):Option ω)=some (Sum.elim F (λ_=>U) (fh gS (dQ o.form q a e) z)):=by
 obtain⟨⟨aS,ay⟩,ak,⟨aP,hl⟩,_⟩:=h;refine lZ (λ(z:Int×MI) b=>(z.1,(z.2,b))) e (mS o.form q) (jD o.form) gS F (λ_=>U) IS 100000 yM (λb=>0<=b) (λb ax _=>?_) (λk z b ax aL Y O=>?_) (λz b ax h=>by dsimp only;rw[ag (da h)]) (e-a).toNat k z a aK (by omega) Y aJ
 ·unfold jD;cases h:o.form.bg.find? λr=>decide (r.from_=b)with
  |none=>exact⟨by dsimp only;omega,by dsimp only;omega⟩
  |some r=>
   obtain⟨aD,aE,aG,aH,aI⟩:=ak r (hf h);have aw:r.from_=b:=fv (kA (p:=λr:Repeat=>decide (r.from_=b)) h);exact⟨by dsimp only;omega,by dsimp only;omega⟩
 dsimp only;rw[ah (c3 aL),CM aP b,af];unfold vv;unfold mS at O⊢;unfold jD;cases h:o.form.bg.find? λr=>decide (r.from_=b)with
 |none=>
  rw[h]at O;rw[Ag h];have O:k+1<=100000:=O;obtain⟨Z,aq⟩:=z;have aU:Z=k:=Y.1;have aw:=Y.2 b;dsimp only at aw;simp only[fh];have e:gS (Z,aq) b=if 20000<Z+1 then .inr ()else .inl (Z+1,aM aq b (ar aq b 0+1)):=rfl
  rw[e];refine(dn (λq=>aR q _) (ah (by decide))).trans ?_;rw[av (by omega),av (by omega)];by_cases ad:20000<Z+1
  ·rw[if_pos ad];exact dn (λq=>aR q _) (ah (c3 ad))
  rw[if_neg ad];refine(dn (λq=>aR q _) (ag (da ad))).trans ?_;exact av (n:=b+1) (by omega)
 |some r=>
  rw[h]at O;have al:=hf h;obtain⟨aX,az,aB,aT⟩:=wC h;rw[az];refine(dn (λq=>aR q _) ((ag (da (by omega))).trans ((au (aF aB)).trans (af _ _)))).trans ?_;have aN:=abH hl (ak r al) ay (aO r al).1 Y O (ω:=(Int×MI×Int)⊕((Int×MI×Int)⊕ω)) (.inr (.inr U));refine(dn (λq=>aR q _) (di aN)).trans ?_;obtain⟨aD,aE,aG,aH,aI⟩:=ak r al;cases fh gS (jM o.form.bC r (q r)) z with
  |inl y=>
   refine(dn (λq=>aR q _) (av (by omega))).trans ?_;refine(av (n:=r.aW-1+1) (by omega)).trans ?_;rw[Qp];rfl
  |inr w=>rfl
def EW:∀(l:List Int)(z:Int×MI),z.1<=20000->(match fh gS l z with |.inl y=>y.1=z.1+l.length/\y.1<=20000 |.inr _=>20000<z.1+l.length)
 | [],z,h=>⟨by simp,h⟩
 |x::l,z,h=>by
  have e:gS z x=if 20000<z.1+1 then .inr ()else .inl (z.1+1,aM z.2 x (ar z.2 x 0+1)):=rfl
  simp only[fh,e];by_cases k:20000<z.1+1
  ·rw[if_pos k];simp only[List.length_cons];omega
  rw[if_neg k];have:=EW l (z.1+1,aM z.2 x (ar z.2 x 0+1)) (by dsimp only;omega);dsimp only at this⊢;cases j:fh gS l (z.1+1,aM z.2 x (ar z.2 x 0+1))with
  |inl y=>rw[j]at this;simp only[List.length_cons];dsimp only at this;omega
  |inr w=>rw[j]at this;simp only[List.length_cons];dsimp only at this;omega
def QB{f:Form}(h:kK f):mh f<=f.bars:=by
 unfold mh;by_cases e:f.jump.at_=0
 ·rw[if_pos e];omega
 rw[if_neg e];exact h.2.2.2.1.1
def C7(f:Form):ab (aC f.jump.at_ 0) (some f.bars) (some f.jump.at_)=some (mh f):=by
 unfold mh;by_cases e:f.jump.at_=0
 ·rw[if_pos e];exact ah (c3 e)
 rw[if_neg e];exact ag (da e)
theorem Zf{o:Order}(h:kK o.form):BY o=some (decide ((fY o.form).length<=20000)):=by
 obtain⟨⟨ae,af⟩,U,_,⟨ag,Z,ah,aa⟩,_⟩:=id h;have O:=yF h;rw[IJ h]at O⊢;have ab:∀r∈o.form.bg,1<=(λ_=>1:Repeat->Int) r/\(λ_=>1:Repeat->Int) r<=r.times:=λr M=>⟨by simp,(U r M).2.2.1⟩;have ad:∀r∈o.form.bg,1<=r.times/\r.times<=r.times:=λr M=>⟨(U r M).2.2.1,by simp⟩;have I0:IS 0 ((0,[]):Int×MI):=⟨rfl,λx=>by dsimp only;rw[oX];omega⟩;rw[dT]at O⊢;have k:=PF h (λ_=>1) ab (Int.le_refl 0) (QB h) I0 (by omega) (ω:=(Int×MI)⊕(Unit⊕Bool)) (.inr (.inr false)) Sum.inl;have j:=EW (dQ o.form (λ_=>1) 0 (mh o.form)) (0,[]) (by simp);unfold BY;cases G:fh gS (dQ o.form (λ_=>1) 0 (mh o.form)) (0,[])with
 |inr w=>
  rw[G]at k j;dsimp only at j;refine(di (x:=.inr false) ((au (C7 o.form)).trans (di k))).trans ?_;exact dn some (da (by omega)).symm
 |inl y=>
  rw[G]at k j;dsimp only at j;have Y:IS (dQ o.form (λ_=>1) 0 (mh o.form)).length y:=by
   have:=zQ yM _ _ _ _ I0 G;rwa [hT]at this
  have F:=PF h Repeat.times ad Z aa Y (by omega) (ω:=Unit⊕Bool) (.inr false) (λ_=>.inl ());have B:=EW (dQ o.form Repeat.times o.form.jump.to o.form.jump.de) y j.2;cases N:fh gS (dQ o.form Repeat.times o.form.jump.to o.form.jump.de) y with
  |inr w=>
   rw[N]at F B;dsimp only at B;refine(di (x:=.inr false) ?_).trans (?_:_=_)
   ·refine(au (C7 o.form)).trans ?_;refine(di k).trans ?_;exact F
   exact dn some (da (by omega)).symm
  |inl w=>
   rw[N]at F B;dsimp only at B;refine(di (x:=.inl ()) ?_).trans (?_:_=_)
   ·refine(au (C7 o.form)).trans ?_;refine(di k).trans ?_;exact F
   exact dn some (c3 (by omega)).symm
def jd(l:List Cut)(v:aE):Bool:=l.any λc=>decide (c.from_<=v.aw)&&(decide (v.aw<c.aW)&&(decide (c.pass=0)||decide (c.pass=v.pass)))
def I7(a b c d:Bool):ab a (ab b (ab c (some true) (some d)) (some false)) (some false)=some (a&&(b&&(c||d))):=by cases a<;>cases b<;>cases c<;>rfl
def XR{l:List Cut}(hl:l.length<=1048576)(v:aE):ji (l,v)=some (jd l v):=by
 unfold ji G2;dsimp only;rw[mq (l:=l) (λc=>decide (c.from_<=v.aw)&&(decide (v.aw<c.aW)&&(decide (c.pass=0)||decide (c.pass=v.pass)))) (λk x j=>by
  have B:=aZ j;unfold GO;dsimp only;rw[ah (by simpa using B),aY (aF j),I7,af,af];show ab (decide (x.from_<=v.aw)&&(decide (v.aw<x.aW)&&(decide (x.pass=0)||decide (x.pass=v.pass)))) _ _=_;cases (decide (x.from_<=v.aw)&&(decide (v.aw<x.aW)&&(decide (x.pass=0)||decide (x.pass=v.pass))))
  ·rw[gE,av (by omega)];rfl
  rfl) (by rw[ag (by simp)])]
 rfl
abbrev MV:=MI×List aE
def gU(l:List Cut)(z:MV)(x:Int):MV:=(aM z.1 x (ar z.1 x 0+1),if jd l ⟨x,ar z.1 x 0+1⟩then z.2 else z.2++[⟨x,ar z.1 x 0+1⟩])
def IU(k:Nat)(z:MV):Prop:=z.2.length<=k/\∀x,0<=ar z.1 x 0/\ar z.1 x 0<=k
def pP(l:List Cut)(k:Nat)(z:MV)(x:Int)(y:MV)(j:IU k z)(h:(Sum.inl (gU l z x):MV⊕Empty)=.inl y):IU (k+1) y:=by
 cases h;refine⟨?_,λw=>?_⟩
 ·have:=j.1;unfold gU;dsimp only;cases jd l ⟨x,ar z.1 x 0+1⟩
  ·simp;omega
  simp;omega
 unfold gU;dsimp only;rw[mH];have B:=j.2 x;have F:=j.2 w;by_cases e:w=x
 ·rw[if_pos e];omega
 rw[if_neg e];omega
def Al{M:Type}{l:List Cut}(hl:l.length<=1048576){m:MI}{j:List aE}{x:Int}{k:Nat}(B:IU k (m,j))(O:k<=100000)(c:List aE->Option M) :
  (ae (ai ((ar m x 0)+1)) <|aa (aa (ji (l,(⟨x,(ar (aM m x ((ar m x 0)+1)) x 0)⟩:aE))) λF=>ab (!F) (ae (WP 16 (List.append j ((⟨x,(ar (aM m x ((ar m x 0)+1)) x 0)⟩:aE)::([]:List aE)))) <|some (List.append j ((⟨x,(ar (aM m x ((ar m x 0)+1)) x 0)⟩:aE)::([]:List aE)))) (some j)) λ(F:List aE)=>c F)=c (gU l (m,j) x).2:=by
 have G:=B.2 x;have N:j.length<=k:=B.1;dsimp only at G;rw[av (by omega),XR hl,af,mH,if_pos rfl];unfold gU;dsimp only;cases jd l ⟨x,ar m x 0+1⟩
 ·refine(au (x:=j++[⟨x,ar m x 0+1⟩]) ?_).trans rfl;have e:(List.append j ((⟨x,ar m x 0+1⟩:aE)::([]:List aE))).length=j.length+1:=dT;exact bG (c3 (by rw[e];omega))
 rfl
def acZ{o:Order}(hl:o.form.bC.length<=1048576)(Y:o.form.bd.length<=1048576){a u p:Int}{z:MV}{k:Nat}(U:0<=a)(ad:u<=1048576)(B:IU k z)(O:k+(gv o.form.bC a u p).length<=100000) :
  aA (λj:(Int×((List (Int×Int))×(List aE)))=>ab (aj j.1 u) (aa (aa (jg (o,(j.1,p))) λG=>ab (!G) (ae (ai ((ar j.2.1 j.1 0)+1)) <|aa (aa (ji (o.form.bd,(⟨j.1,(ar (aM j.2.1 j.1 ((ar j.2.1 j.1 0)+1)) j.1 0)⟩:aE))) λN=>ab (!N) (ae (WP 16 (List.append j.2.2 ((⟨j.1,(ar (aM j.2.1 j.1 ((ar j.2.1 j.1 0)+1)) j.1 0)⟩:aE)::([]:List aE)))) <|some (List.append j.2.2 ((⟨j.1,(ar (aM j.2.1 j.1 ((ar j.2.1 j.1 0)+1)) j.1 0)⟩:aE)::([]:List aE)))) (some j.2.2)) λ(N:(List aE))=>some ((aM j.2.1 j.1 ((ar j.2.1 j.1 0)+1)),N)) (some (j.2.1,j.2.2))) λ(G:((List (Int×Int))×(List aE)))=>ae (ai (j.1+1)) <|some (.inl ((j.1+1),(G.1,G.2)))) (some (.inr (j.2.1,j.2.2)))) (a,(z.1,z.2))=some ((List.foldl (gU o.form.bd) z (gv o.form.bC a u p)).1,(List.foldl (gU o.form.bd) z (gv o.form.bC a u p)).2):=by
 refine(lZ (ρ:=Empty) (λ(z:MV) b=>(b,(z.1,z.2))) u (λi=>if jz o.form.bC i p then []else [i]) (λi=>i+1) (λz x=>.inl (gU o.form.bd z x)) (λz=>(z.1,z.2)) Empty.elim IU 100000 (pP o.form.bd) (λb=>0<=b) (λb M _=>⟨by omega,by omega⟩) (λk z b M Z B F=>?_) (λz b M h=>by dsimp only;rw[ag (da h)]) (u-a).toNat k z a U (by omega) B O).trans (by rw[lT];rfl);dsimp only;rw[ah (c3 Z),Gm hl,af];by_cases h:jz o.form.bC b p=true
 ·rw[h,if_pos rfl];exact av (by omega)
 rw[k5]at h;rw[h,if_neg (by decide)];rw[h,if_neg (by decide)]at F;have F:k+1<=100000:=F;refine(dn (λq=>aa q _) ((ah rfl).trans (Al Y B (by omega) _))).trans ?_;exact av (n:=b+1) (by omega)
theorem ac1{o:Order}(hl:o.form.bC.length<=1048576)(Y:o.form.bd.length<=1048576){r:Repeat}{p:Int}{z:MV}{k:Nat}(af:qg o.form.bars r)(G:o.form.bars<=4000)(ad:1<=p)(F:IU k z)(U:k+(jM o.form.bC r p).length<=100000) :
  aA (λB:(Int×((List (Int×Int))×(List aE)))=>ab (leI B.1 r.times) (aa (aA (λj:(Int×((List (Int×Int))×(List aE)))=>ab (aj j.1 r.aW) (aa (aa (jg (o,(j.1,B.1))) λM=>ab (!M) (ae (ai ((ar j.2.1 j.1 0)+1)) <|aa (aa (ji (o.form.bd,(⟨j.1,(ar (aM j.2.1 j.1 ((ar j.2.1 j.1 0)+1)) j.1 0)⟩:aE))) λN=>ab (!N) (ae (WP 16 (List.append j.2.2 ((⟨j.1,(ar (aM j.2.1 j.1 ((ar j.2.1 j.1 0)+1)) j.1 0)⟩:aE)::([]:List aE)))) <|some (List.append j.2.2 ((⟨j.1,(ar (aM j.2.1 j.1 ((ar j.2.1 j.1 0)+1)) j.1 0)⟩:aE)::([]:List aE)))) (some j.2.2)) λ(N:(List aE))=>some ((aM j.2.1 j.1 ((ar j.2.1 j.1 0)+1)),N)) (some (j.2.1,j.2.2))) λ(M:((List (Int×Int))×(List aE)))=>ae (ai (j.1+1)) <|some (.inl ((j.1+1),(M.1,M.2)))) (some (.inr (j.2.1,j.2.2)))) (r.from_,(B.2.1,B.2.2))) λ(j:((List (Int×Int))×(List aE)))=>ae (ai (B.1+1)) <|some (.inl ((B.1+1),(j.1,j.2)))) (some (.inr (B.2.1,B.2.2)))) (p,(z.1,z.2))=some ((List.foldl (gU o.form.bd) z (jM o.form.bC r p)).1,(List.foldl (gU o.form.bd) z (jM o.form.bC r p)).2):=by
 obtain⟨ak,al,an,ao,O⟩:=af;refine(lZ (ρ:=Empty) (λ(z:MV) b=>(b,(z.1,z.2))) (r.times+1) (λq=>gv o.form.bC r.from_ r.aW q) (λi=>i+1) (λz x=>.inl (gU o.form.bd z x)) (λz=>(z.1,z.2)) Empty.elim IU 100000 (pP o.form.bd) (λb=>1<=b) (λb G _=>⟨by omega,by omega⟩) (λk z b G aq F Z=>?_) (λz b G h=>by dsimp only;rw[ag (da (by omega))]) (r.times+1-p).toNat k z p ad (by omega) F U).trans (by rw[lT];rfl);dsimp only;rw[ah (c3 (by omega)),lT];refine(au (acZ hl Y O (by omega) F Z)).trans ?_;exact av (n:=b+1) (by omega)
theorem ac0{o:Order}(h:kK o.form)(ak:o.form.bd.length<=1048576)(q:Repeat->Int)(aJ:∀r∈o.form.bg,1<=q r/\q r<=r.times){a e:Int}{z:MV}{k:Nat}(aH:0<=a)(aQ:e<=o.form.bars)(O:IU k z)(aG:k+(dQ o.form q a e).length<=100000) :
  aA (λB:((List (Int×Int))×(Int×(List aE)))=>ab (aj B.2.1 e) (aa (aa (aR (aA (λF:Int=>ab (aj F (o.form.bg.length:Int)) (aa (an o.form.bg F) λG=>ab (aC G.from_ B.2.1) (some (.inr (.inr F))) (ae (ai (F+1)) <|some (.inl (F+1)))) (some (.inr (.inl ())))) 0) λ(F:Unit)=>some (-1)) λ(F:Int)=>ab (aj F 0) (ae (ai ((ar B.1 B.2.1 0)+1)) <|aa (aa (ji (o.form.bd,(⟨B.2.1,(ar (aM B.1 B.2.1 ((ar B.1 B.2.1 0)+1)) B.2.1 0)⟩:aE))) λG=>ab (!G) (ae (WP 16 (List.append B.2.2 ((⟨B.2.1,(ar (aM B.1 B.2.1 ((ar B.1 B.2.1 0)+1)) B.2.1 0)⟩:aE)::([]:List aE)))) <|some (List.append B.2.2 ((⟨B.2.1,(ar (aM B.1 B.2.1 ((ar B.1 B.2.1 0)+1)) B.2.1 0)⟩:aE)::([]:List aE)))) (some B.2.2)) λ(G:(List aE))=>some ((aM B.1 B.2.1 ((ar B.1 B.2.1 0)+1)),(B.2.1,G))) (aa (an o.form.bg F) λG=>aa (some (q G)) λ(aL:Int)=>aa (aA (λM:(Int×((List (Int×Int))×(List aE)))=>ab (leI M.1 G.times) (aa (aA (λj:(Int×((List (Int×Int))×(List aE)))=>ab (aj j.1 G.aW) (aa (aa (jg (o,(j.1,M.1))) λZ=>ab (!Z) (ae (ai ((ar j.2.1 j.1 0)+1)) <|aa (aa (ji (o.form.bd,(⟨j.1,(ar (aM j.2.1 j.1 ((ar j.2.1 j.1 0)+1)) j.1 0)⟩:aE))) λal=>ab (!al) (ae (WP 16 (List.append j.2.2 ((⟨j.1,(ar (aM j.2.1 j.1 ((ar j.2.1 j.1 0)+1)) j.1 0)⟩:aE)::([]:List aE)))) <|some (List.append j.2.2 ((⟨j.1,(ar (aM j.2.1 j.1 ((ar j.2.1 j.1 0)+1)) j.1 0)⟩:aE)::([]:List aE)))) (some j.2.2)) λ(al:(List aE))=>some ((aM j.2.1 j.1 ((ar j.2.1 j.1 0)+1)),al)) (some (j.2.1,j.2.2))) λ(Z:((List (Int×Int))×(List aE)))=>ae (ai (j.1+1)) <|some (.inl ((j.1+1),(Z.1,Z.2)))) (some (.inr (j.2.1,j.2.2)))) (G.from_,(M.2.1,M.2.2))) λ(j:((List (Int×Int))×(List aE)))=>ae (ai (M.1+1)) <|some (.inl ((M.1+1),(j.1,j.2)))) (some (.inr (M.2.1,M.2.2)))) (aL,(B.1,B.2.2))) λ(M:((List (Int×Int))×(List aE)))=>ae (ai (G.aW-1)) <|some (M.1,((G.aW-1),M.2)))) λ(F:((List (Int×Int))×(Int×(List aE))))=>ae (ai (F.2.1+1)) <|some (.inl (F.1,((F.2.1+1),F.2.2)))) (some (.inr (B.2.2,B.1)))) (z.1,(a,z.2))=some ((List.foldl (gU o.form.bd) z (dQ o.form q a e)).2,(List.foldl (gU o.form.bd) z (dQ o.form q a e)).1):=by
 obtain⟨⟨aN,ao⟩,U,⟨aK,hl⟩,_⟩:=h;refine(lZ (ρ:=Empty) (λ(z:MV) b=>(z.1,(b,z.2))) e (mS o.form q) (jD o.form) (λz x=>.inl (gU o.form.bd z x)) (λz=>(z.2,z.1)) Empty.elim IU 100000 (pP o.form.bd) (λb=>0<=b) (λb ad _=>?_) (λk z b ad aI O N=>?_) (λz b ad h=>by dsimp only;rw[ag (da h)]) (e-a).toNat k z a aH (by omega) O aG).trans (by rw[lT];rfl)
 ·unfold jD;cases h:o.form.bg.find? λr=>decide (r.from_=b)with
  |none=>exact⟨by dsimp only;omega,by dsimp only;omega⟩
  |some r=>
   obtain⟨ax,ay,az,aB,aD⟩:=U r (hf h);have aP:r.from_=b:=fv (kA (p:=λr:Repeat=>decide (r.from_=b)) h);exact⟨by dsimp only;omega,by dsimp only;omega⟩
 dsimp only;rw[ah (c3 aI),CM aK b,af,lT];unfold vv;unfold mS at N⊢;unfold jD;cases h:o.form.bg.find? λr=>decide (r.from_=b)with
 |none=>
  rw[h]at N;rw[Ag h];have N:k+1<=100000:=N;refine(dn (λq=>aa q _) ((ah (by decide)).trans (Al ak O (by omega) _))).trans ?_;exact av (n:=b+1) (by omega)
 |some r=>
  rw[h]at N;have Y:=hf h;obtain⟨aS,aq,aw,aO⟩:=wC h;rw[aq];obtain⟨ax,ay,az,aB,aD⟩:=U r Y;refine(dn (λq=>aa q _) ((ag (da (by omega))).trans ((au (aF aw)).trans ((af _ _).trans ((au (ac1 hl ak (U r Y) ao (aJ r Y).1 O N)).trans (av (n:=r.aW-1) (by omega))))))).trans ?_;refine(av (n:=r.aW-1+1) (by omega)).trans ?_;rw[Qp];rfl
def ac2{o:Order}(hl:o.form.bC.length<=1048576)(Y:o.form.bd.length<=1048576){a u p:Int}{z:MV}{k:Nat}(U:0<=a)(ad:u<=1048576)(B:IU k z)(O:k+(gv o.form.bC a u p).length<=100000) :
  aA (λj:(Int×((List aE)×(List (Int×Int))))=>ab (aj j.1 u) (aa (aa (jg (o,(j.1,p))) λG=>ab (!G) (ae (ai ((ar j.2.2 j.1 0)+1)) <|aa (aa (ji (o.form.bd,(⟨j.1,(ar (aM j.2.2 j.1 ((ar j.2.2 j.1 0)+1)) j.1 0)⟩:aE))) λN=>ab (!N) (ae (WP 16 (List.append j.2.1 ((⟨j.1,(ar (aM j.2.2 j.1 ((ar j.2.2 j.1 0)+1)) j.1 0)⟩:aE)::([]:List aE)))) <|some (List.append j.2.1 ((⟨j.1,(ar (aM j.2.2 j.1 ((ar j.2.2 j.1 0)+1)) j.1 0)⟩:aE)::([]:List aE)))) (some j.2.1)) λ(N:(List aE))=>some ((aM j.2.2 j.1 ((ar j.2.2 j.1 0)+1)),N)) (some (j.2.2,j.2.1))) λ(G:((List (Int×Int))×(List aE)))=>ae (ai (j.1+1)) <|some (.inl ((j.1+1),(G.2,G.1)))) (some (.inr (j.2.1,j.2.2)))) (a,(z.2,z.1))=some ((List.foldl (gU o.form.bd) z (gv o.form.bC a u p)).2,(List.foldl (gU o.form.bd) z (gv o.form.bC a u p)).1):=by
 refine(lZ (ρ:=Empty) (λ(z:MV) b=>(b,(z.2,z.1))) u (λi=>if jz o.form.bC i p then []else [i]) (λi=>i+1) (λz x=>.inl (gU o.form.bd z x)) (λz=>(z.2,z.1)) Empty.elim IU 100000 (pP o.form.bd) (λb=>0<=b) (λb M _=>⟨by omega,by omega⟩) (λk z b M Z B F=>?_) (λz b M h=>by dsimp only;rw[ag (da h)]) (u-a).toNat k z a U (by omega) B O).trans (by rw[lT];rfl);dsimp only;rw[ah (c3 Z),Gm hl,af];by_cases h:jz o.form.bC b p=true
 ·rw[h,if_pos rfl];exact av (by omega)
 rw[k5]at h;rw[h,if_neg (by decide)];rw[h,if_neg (by decide)]at F;have F:k+1<=100000:=F;refine(dn (λq=>aa q _) ((ah rfl).trans (Al Y B (by omega) _))).trans ?_;exact av (n:=b+1) (by omega)
theorem ac4{o:Order}(hl:o.form.bC.length<=1048576)(Y:o.form.bd.length<=1048576){r:Repeat}{p:Int}{z:MV}{k:Nat}(af:qg o.form.bars r)(G:o.form.bars<=4000)(ad:1<=p)(F:IU k z)(U:k+(jM o.form.bC r p).length<=100000) :
  aA (λB:(Int×((List aE)×(List (Int×Int))))=>ab (leI B.1 r.times) (aa (aA (λj:(Int×((List aE)×(List (Int×Int))))=>ab (aj j.1 r.aW) (aa (aa (jg (o,(j.1,B.1))) λM=>ab (!M) (ae (ai ((ar j.2.2 j.1 0)+1)) <|aa (aa (ji (o.form.bd,(⟨j.1,(ar (aM j.2.2 j.1 ((ar j.2.2 j.1 0)+1)) j.1 0)⟩:aE))) λN=>ab (!N) (ae (WP 16 (List.append j.2.1 ((⟨j.1,(ar (aM j.2.2 j.1 ((ar j.2.2 j.1 0)+1)) j.1 0)⟩:aE)::([]:List aE)))) <|some (List.append j.2.1 ((⟨j.1,(ar (aM j.2.2 j.1 ((ar j.2.2 j.1 0)+1)) j.1 0)⟩:aE)::([]:List aE)))) (some j.2.1)) λ(N:(List aE))=>some ((aM j.2.2 j.1 ((ar j.2.2 j.1 0)+1)),N)) (some (j.2.2,j.2.1))) λ(M:((List (Int×Int))×(List aE)))=>ae (ai (j.1+1)) <|some (.inl ((j.1+1),(M.2,M.1)))) (some (.inr (j.2.1,j.2.2)))) (r.from_,(B.2.1,B.2.2))) λ(j:((List aE)×(List (Int×Int))))=>ae (ai (B.1+1)) <|some (.inl ((B.1+1),(j.1,j.2)))) (some (.inr (B.2.1,B.2.2)))) (p,(z.2,z.1))=some ((List.foldl (gU o.form.bd) z (jM o.form.bC r p)).2,(List.foldl (gU o.form.bd) z (jM o.form.bC r p)).1):=by
 obtain⟨ak,al,an,ao,O⟩:=af;refine(lZ (ρ:=Empty) (λ(z:MV) b=>(b,(z.2,z.1))) (r.times+1) (λq=>gv o.form.bC r.from_ r.aW q) (λi=>i+1) (λz x=>.inl (gU o.form.bd z x)) (λz=>(z.2,z.1)) Empty.elim IU 100000 (pP o.form.bd) (λb=>1<=b) (λb G _=>⟨by omega,by omega⟩) (λk z b G aq F Z=>?_) (λz b G h=>by dsimp only;rw[ag (da (by omega))]) (r.times+1-p).toNat k z p ad (by omega) F U).trans (by rw[lT];rfl);dsimp only;rw[ah (c3 (by omega)),lT];refine(au (ac2 hl Y O (by omega) F Z)).trans ?_;exact av (n:=b+1) (by omega)
theorem ac3{o:Order}(h:kK o.form)(ak:o.form.bd.length<=1048576)(q:Repeat->Int)(aJ:∀r∈o.form.bg,1<=q r/\q r<=r.times){a e:Int}{z:MV}{k:Nat}(aH:0<=a)(aQ:e<=o.form.bars)(O:IU k z)(aG:k+(dQ o.form q a e).length<=100000) :
  aA (λB:((List aE)×((List (Int×Int))×Int))=>ab (aj B.2.2 e) (aa (aa (aR (aA (λF:Int=>ab (aj F (o.form.bg.length:Int)) (aa (an o.form.bg F) λM=>ab (aC M.from_ B.2.2) (some (.inr (.inr F))) (ae (ai (F+1)) <|some (.inl (F+1)))) (some (.inr (.inl ())))) 0) λ(F:Unit)=>some (-1)) λ(F:Int)=>ab (aj F 0) (ae (ai ((ar B.2.1 B.2.2 0)+1)) <|aa (aa (ji (o.form.bd,(⟨B.2.2,(ar (aM B.2.1 B.2.2 ((ar B.2.1 B.2.2 0)+1)) B.2.2 0)⟩:aE))) λM=>ab (!M) (ae (WP 16 (List.append B.1 ((⟨B.2.2,(ar (aM B.2.1 B.2.2 ((ar B.2.1 B.2.2 0)+1)) B.2.2 0)⟩:aE)::([]:List aE)))) <|some (List.append B.1 ((⟨B.2.2,(ar (aM B.2.1 B.2.2 ((ar B.2.1 B.2.2 0)+1)) B.2.2 0)⟩:aE)::([]:List aE)))) (some B.1)) λ(M:(List aE))=>some ((aM B.2.1 B.2.2 ((ar B.2.1 B.2.2 0)+1)),(B.2.2,M))) (aa (an o.form.bg F) λM=>aa (some (q M)) λ(aL:Int)=>aa (aA (λG:(Int×((List aE)×(List (Int×Int))))=>ab (leI G.1 M.times) (aa (aA (λj:(Int×((List aE)×(List (Int×Int))))=>ab (aj j.1 M.aW) (aa (aa (jg (o,(j.1,G.1))) λZ=>ab (!Z) (ae (ai ((ar j.2.2 j.1 0)+1)) <|aa (aa (ji (o.form.bd,(⟨j.1,(ar (aM j.2.2 j.1 ((ar j.2.2 j.1 0)+1)) j.1 0)⟩:aE))) λal=>ab (!al) (ae (WP 16 (List.append j.2.1 ((⟨j.1,(ar (aM j.2.2 j.1 ((ar j.2.2 j.1 0)+1)) j.1 0)⟩:aE)::([]:List aE)))) <|some (List.append j.2.1 ((⟨j.1,(ar (aM j.2.2 j.1 ((ar j.2.2 j.1 0)+1)) j.1 0)⟩:aE)::([]:List aE)))) (some j.2.1)) λ(al:(List aE))=>some ((aM j.2.2 j.1 ((ar j.2.2 j.1 0)+1)),al)) (some (j.2.2,j.2.1))) λ(Z:((List (Int×Int))×(List aE)))=>ae (ai (j.1+1)) <|some (.inl ((j.1+1),(Z.2,Z.1)))) (some (.inr (j.2.1,j.2.2)))) (M.from_,(G.2.1,G.2.2))) λ(j:((List aE)×(List (Int×Int))))=>ae (ai (G.1+1)) <|some (.inl ((G.1+1),(j.1,j.2)))) (some (.inr (G.2.1,G.2.2)))) (aL,(B.1,B.2.1))) λ(G:((List aE)×(List (Int×Int))))=>ae (ai (M.aW-1)) <|some (G.2,((M.aW-1),G.1)))) λ(F:((List (Int×Int))×(Int×(List aE))))=>ae (ai (F.2.1+1)) <|some (.inl (F.2.2,(F.1,(F.2.1+1))))) (some (.inr B.1))) (z.2,(z.1,a))=some (List.foldl (gU o.form.bd) z (dQ o.form q a e)).2:=by
 obtain⟨⟨aN,ao⟩,U,⟨aK,hl⟩,_⟩:=h;refine(lZ (ρ:=Empty) (λ(z:MV) b=>(z.2,(z.1,b))) e (mS o.form q) (jD o.form) (λz x=>.inl (gU o.form.bd z x)) (λz=>z.2) Empty.elim IU 100000 (pP o.form.bd) (λb=>0<=b) (λb ad _=>?_) (λk z b ad aI O N=>?_) (λz b ad h=>by dsimp only;rw[ag (da h)]) (e-a).toNat k z a aH (by omega) O aG).trans (by rw[lT];rfl)
 ·unfold jD;cases h:o.form.bg.find? λr=>decide (r.from_=b)with
  |none=>exact⟨by dsimp only;omega,by dsimp only;omega⟩
  |some r=>
   obtain⟨ax,ay,az,aB,aD⟩:=U r (hf h);have aP:r.from_=b:=fv (kA (p:=λr:Repeat=>decide (r.from_=b)) h);exact⟨by dsimp only;omega,by dsimp only;omega⟩
 dsimp only;rw[ah (c3 aI),CM aK b,af,lT];unfold vv;unfold mS at N⊢;unfold jD;cases h:o.form.bg.find? λr=>decide (r.from_=b)with
 |none=>
  rw[h]at N;rw[Ag h];have N:k+1<=100000:=N;refine(dn (λq=>aa q _) ((ah (by decide)).trans (Al ak O (by omega) _))).trans ?_;exact av (n:=b+1) (by omega)
 |some r=>
  rw[h]at N;have Y:=hf h;obtain⟨aS,aq,aw,aO⟩:=wC h;rw[aq];obtain⟨ax,ay,az,aB,aD⟩:=U r Y;refine(dn (λq=>aa q _) ((ag (da (by omega))).trans ((au (aF aw)).trans ((af _ _).trans ((au (ac4 hl ak (U r Y) ao (aJ r Y).1 O N)).trans (av (n:=r.aW-1) (by omega))))))).trans ?_;refine(av (n:=r.aW-1+1) (by omega)).trans ?_;rw[Qp];rfl
def km(f:Form):Bool:=decide (1<=f.bars)&&(decide (f.bars<=4000)&&(oe f.bars f.bg&&(p8 f&&(nG f&&(tD f&&decide ((fY f).length<=20000))))))
def pD(f:Form):Prop:=f.bg.length<=1048576/\f.bC.length<=1048576/\f.bd.length<=1048576
def EB{f:Form}(B:pD f)(F:1<=f.bars)(G:f.bars<=4000)(k:oe f.bars f.bg=true)(hj:nG f=true):kK f:=by
 simp only[oe,dk]at k;have M:=Pc f.bars f.bg 0 (by omega) k.2;have j:(f.jump.at_<=f.bars/\0<=f.jump.to/\f.jump.to<=f.bars/\f.jump.de<=f.bars)/\(f.jump.at_=0->f.jump.de<=f.jump.to):=by
  simp only[nG,iv,dk,gj,kb,ea,hA]at hj;rcases hj with hj|hj
  ·rw[hj];dsimp only;omega
  omega
 exact⟨⟨F,G⟩,M,⟨B.1,B.2.1⟩,j.1,j.2⟩
def EC{f:Form}(j:pD f)(h:km f=true):kK f:=by
 simp only[km,dk,ea]at h;exact EB j h.1 h.2.1 h.2.2.1 h.2.2.2.2.1
def aa7{f:Form}(F:pD f):BS f=some (km f):=by
 obtain⟨B,M,G⟩:=id F;unfold BS km;refine(au (x:=decide (1<=f.bars)&&(decide (f.bars<=4000)&&(oe f.bars f.bg&&(p8 f&&(nG f&&(tD f&&decide ((fY f).length<=20000))))))) ?_).trans rfl;by_cases j:1<=f.bars
 ·by_cases k:f.bars<=4000
  ·refine(ah (c3 j)).trans ((ah (c3 k)).trans ?_);rw[c3 j,c3 k,k4,k4];refine(au (Y8 (o:=⟨f⟩) B)).trans ?_;dsimp only;cases N:oe f.bars f.bg
   ·rfl
   refine(ah rfl).trans ((au (Y7 (o:=⟨f⟩) B M)).trans ?_);dsimp only;cases U:p8 f
   ·rfl
   refine(ah rfl).trans ((au (Ze (o:=⟨f⟩) B)).trans ?_);dsimp only;cases O:nG f
   ·rfl
   refine(ah rfl).trans ((au (Y6 (o:=⟨f⟩) G)).trans ?_);dsimp only;cases Y:tD f
   ·rfl
   refine(ah rfl).trans ((au (Zf (o:=⟨f⟩) (EB F j k N O))).trans ?_);rfl
  refine(ah (c3 j)).trans ((ag (da k)).trans ?_);rw[da k,p4,vx]
 refine(ag (da j)).trans ?_;rw[da j,p4]
def bK(f:Form):List aE:=((fY f).foldl (gU f.bd) ([],[])).2
def aa6{f:Form}(k:pD f):uS f=some (if km f then(bK f,0)else([],1)):=by
 unfold uS;refine(au (aa7 k)).trans ?_;cases h:km f
 ·rfl
 refine(ag rfl).trans ?_;have j:=EC k h;have M:=yF j;obtain⟨⟨ab,ad⟩,G,_,⟨ae,N,af,O⟩,_⟩:=id j;have Z:∀r∈f.bg,1<=(λ_=>1:Repeat->Int) r/\(λ_=>1:Repeat->Int) r<=r.times:=λr B=>⟨by simp,(G r B).2.2.1⟩;have aa:∀r∈f.bg,1<=r.times/\r.times<=r.times:=λr B=>⟨(G r B).2.2.1,by simp⟩;have e:bK f=((dQ f Repeat.times f.jump.to f.jump.de).foldl (gU f.bd) ((dQ f (λ_=>1) 0 (mh f)).foldl (gU f.bd) ([],[]))).2:=by
  unfold bK;rw[IJ j,td]
 rw[IJ j,dT]at M;rw[if_pos rfl,e];have I0:IU 0 (([],[]):MV):=⟨by simp,λx=>by dsimp only;rw[oX];omega⟩;have U:=ac0 (o:=⟨f⟩) j k.2.2 (λ_=>1) Z (Int.le_refl 0) (QB j) I0 (by dsimp only;omega);have F:=zQ (pP f.bd) (dQ f (λ_=>1) 0 (mh f)) 0 _ _ I0 (lT (gU f.bd) _ _);rw[hT]at F;have Y:=ac3 (o:=⟨f⟩) j k.2.2 Repeat.times aa N O F (by dsimp only;omega);refine(au (x:=((dQ f Repeat.times f.jump.to f.jump.de).foldl (gU f.bd) ((dQ f (λ_=>1) 0 (mh f)).foldl (gU f.bd) ([],[]))).2) ?_).trans rfl;refine(au (C7 f)).trans ?_;refine(au U).trans ?_;exact Y
def aaV{α:Type}[DecidableEq α](ok:α->Bool)(l:List α):∀(n:Nat),n<=l.length->((List.range n).any (λk=>(l[k]?).any λc=>!ok c||(l.take k).any (λx=>decide (x=c)))=true↔¬((∀c∈l.take n,ok c=true)/\(l.take n).Nodup)):=by
 intro n;induction n with
 |zero=>intro _;simp
 |succ n Z=>
  intro aa;have F:l[n]?=some l[n]:=c5 (by omega);rw[F8,List.any_append,iv,Z (by omega),KR,F];generalize l[n]=c at F;simp only[iv,gj,List.any_cons,List.any_nil,T0,F,Option.any_some,Option.toList_some,hD,n2,k8,hM,ea];constructor
  ·rintro(h|h| ⟨x,j,G⟩) ⟨B,M,_,N⟩
   ·exact h ⟨λc Y=>B c (.inl Y),M⟩
   ·have:=B c (.inr rfl);rw[h]at this;exact nomatch this
   exact N x j c (by simp) G
  intro h;by_cases j:(∀c∈l.take n,ok c=true)/\(l.take n).Nodup
  ·right;by_cases G:ok c=true
   ·right;by_cases B:c∈l.take n
    ·exact⟨c,B,rfl⟩
    exact absurd ⟨λx F=>F.elim (j.1 x) (λe=>e▸G),j.2,by simp,λa O b U e=>by
     exact B (U▸e▸O)⟩ h
   left;simpa using G
  exact .inl j
def OH{f:Form}(O:pD f):xx f=some (km f):=by
 obtain⟨M,ak,ax⟩:=id O;unfold xx km;by_cases F:1<=f.bars
 ·rw[c3 F,k4];by_cases G:f.bars<=4000
  ·rw[c3 G,k4];have U:∀(a b c:Bool)(l:Int),(ab (aj f.bars 1) (some true) (ab (aj 4000 f.bars) (some true) (aa (some a) λaz=>ab (!az) (some true) (aa (some b) λaA=>ab (!aA) (some true) (aa (some c) λj=>ab (!j) (some true) (some (aj 100 l)))))))=some (!(a&&(b&&(c && !aj 100 l)))):=by
    intro a b c l;refine(ag (da (by omega))).trans ((ag (da (by omega))).trans ?_);cases a<;>cases b<;>cases c<;>cases aj 100 l<;>rfl
   rw[aam M,aag M ak,aaj M];refine(au (U _ _ _ _)).trans ?_;cases aq:oe f.bars f.bg
   ·rfl
   cases ay:p8 f
   ·rfl
   cases ar:nG f
   ·rfl
   have al:=EB O F G aq ar;unfold tD;by_cases N:f.bd.length<=100
   ·rw[c3 N,k4];refine(ag (show(!(true&&(true&&(true && !aj 100 (f.bd.length:Int)))))=false by
     have:aj 100 (f.bd.length:Int)=false:=da (by omega);rw[this];rfl)).trans ?_
    rw[nJ f.bd.length (λk=>(f.bd[k]?).any λc=>!decide (iY f.bars c)||(f.bd.take k).any (λx=>decide (x=c))) false (λk ao=>by
     have B:f.bd[k]?=some f.bd[k]:=c5 ao;generalize f.bd[k]=c at B;rw[B,Option.any_some];have Y:∀(a m:Bool)(q:Unit⊕Bool)(i:Int)(hi:ai i=true),aa (aa (some a) λj=>ab (!j) (some true) (some m)) (λ(j:Bool)=>ab j (some (.inr q:Int⊕(Unit⊕Bool))) (ae (ai i) <|some (.inl i)))=some (if(!a||m)=true then .inr q else .inl i):=by
      intro a m q i hi;cases a<;>cases m<;>first|rfl|exact bG hi
     have Z:aa (an f.bd (k:Int)) (λj=>aa (xy (f,j)) λaB=>ab (!aB) (some true) (ae ((leI 0 (k:Int))&&(leI (k:Int) (f.bd.length:Int))) <|aa (an f.bd (k:Int)) λav=>aa (xz ((List.take (Int.toNat (k:Int)) f.bd),av)) λaw=>some (leI 0 aw)))=aa (some (decide (iY f.bars c))) λj=>ab (!j) (some true) (some ((f.bd.take k).any (λx=>decide (x=c)))):=by
      refine(au (aF B)).trans ?_;rw[aaf,af,af];congr 1;refine(bG (show(leI 0 (k:Int)&&leI (k:Int) (f.bd.length:Int))=true by rw[dk];exact⟨c3 (by omega),c3 (by omega)⟩)).trans ?_;refine(au (aF B)).trans ?_;rw[Int.toNat_natCast];refine(au (aah (by rw[fb];omega) c)).trans ?_;exact dn some (E7 _ _)
     refine(ah (c3 (by omega))).trans ?_;refine(dn (λq=>aa q _) Z).trans ?_;exact Y _ _ _ _ (E9 (by omega))) (by rw[ag (da (by omega))])]
    have ad:(List.range f.bd.length).any (λk=>(f.bd[k]?).any λc=>!decide (iY f.bars c)||(f.bd.take k).any (λx=>decide (x=c))) = !decide ((∀c∈f.bd,iY f.bars c)/\f.bd.Nodup):=by
     have:=aaV (λc=>decide (iY f.bars c)) f.bd f.bd.length (ec _);rw[zv]at this;rw[gl,this,gj,hA];simp only[ea]
    rw[ad];cases decide ((∀c∈f.bd,iY f.bars c)/\f.bd.Nodup)
    ·rfl
    refine(au (OI al)).trans ?_;refine dn some ?_;rw[gl];simp[leI];omega
   rw[da N];refine(ah (show(!(true&&(true&&(true && !aj 100 (f.bd.length:Int)))))=true by
    have:aj 100 (f.bd.length:Int)=true:=c3 (by omega);rw[this];rfl)).trans ?_
   rfl
  rw[da G,p4];refine(au (x:=true) ((ag (da (by omega))).trans (ah (c3 (by omega))))).trans rfl
 rw[da F,p4];refine(au (x:=true) (ah (c3 (by omega)))).trans rfl
def sO(f:Form):List aE:=((fY f).foldl (gU []) ([],[])).2
def LY(cs:List Cut):∀(l:List Int)(z w:MV),z.1=w.1->z.2=w.2.filter (λv=>!jd cs v)->(l.foldl (gU cs) z).1=(l.foldl (gU []) w).1/\(l.foldl (gU cs) z).2=(l.foldl (gU []) w).2.filter (λv=>!jd cs v)
 | [],z,w,h1,j=>⟨h1,j⟩
 |x::l,z,w,h1,j=>by
  refine LY cs l (gU cs z x) (gU [] w x) ?_ ?_
  ·unfold gU;rw[h1]
  unfold gU;dsimp only;rw[h1];have e:(if jd [] ⟨x,ar w.1 x 0+1⟩=true then w.2 else w.2++[⟨x,ar w.1 x 0+1⟩])=w.2++[⟨x,ar w.1 x 0+1⟩]:=rfl;rw[e,List.filter_append];cases k:jd cs ⟨x,ar w.1 x 0+1⟩
  ·rw[if_neg (λh=>nomatch h),j];simp[k]
  rw[if_pos rfl,j];simp[k]
def Qy(f:Form):bK f=(sO f).filter (λv=>!jd f.bd v):=(LY f.bd (fY f) ([],[]) ([],[]) rfl rfl).2
def kC(n:Nat)(m:MI):List Int:=(List.range n).map λ(i:Nat)=>ar m (i:Int) 0
def yY(n:Nat)(m:MI):(kC n m).length=n:=by simp[kC]
def yX{n i:Nat}(h:i<n)(m:MI):(kC n m)[i]?=some (ar m (i:Int) 0):=by
 unfold kC;rw[e3,ia h];rfl
def Rf{n i:Nat}(h:i<n)(m:MI)(v:Int):(kC n m).set i v=kC n (aM m (i:Int) v):=by
 refine hX λj=>?_;rw[e0,yY];by_cases k:j<n
 ·rw[yX k,yX k,mH];by_cases e:i=j
  ·rw[if_pos e,if_pos h,if_pos (by rw[e])]
  rw[if_neg e,if_neg (by omega)]
 have B:(kC n m)[j]?=none:=hJ (by rw[yY];omega);have F:(kC n (aM m (i:Int) v))[j]?=none:=hJ (by rw[yY];omega);rw[B,F,if_neg (by omega)]
def Re(n:Nat):List.replicate n (0:Int)=kC n []:=by
 unfold kC;refine hX λj=>?_;rw[e3,List.getElem?_replicate];by_cases h:j<n
 ·rw[if_pos h,ia h];rfl
 rw[if_neg h,hJ (by simpa using h)];rfl
def aae{f:Form}(h:kK f):Bs f=some (sO f):=by
 have af:=yF h;have U:=QL h;obtain⟨⟨ab,ad⟩,_⟩:=id h;unfold Bs sO;refine(au (OI h)).trans ?_;refine(bG (c3 (by omega))).trans ?_;refine(bG (c3 (by rw[rb];omega))).trans ?_;rw[Re];refine(au (x:=((fY f).foldl (gU []) ([],[])).2) ?_).trans rfl;refine(cu (σ:=MV) (st:=λz k=>(k,(kC (Int.toNat f.bars) z.1,z.2))) (l:=fY f) (λz x=>.inl (gU [] z x)) (λz=>z.2) IU (λk x z j B=>?_) (λk x z z' _ B Y=>pP [] k z x z' B (by cases Y;rfl)) (λz _=>by dsimp only;rw[ag (da (by omega))]) ([],[]) ⟨by simp,λx=>by dsimp only;rw[oX];omega⟩).trans (dn some (eh (gU []) (fY f) ([],[]) (λ_ _ _=>rfl)));have ai:=aZ j;obtain⟨Z,aa⟩:=U x (dd j);obtain⟨m,F⟩:=z;have O:=B.2 x;have ae:F.length<=k:=B.1;dsimp only at O⊢;obtain⟨i,rfl⟩:∃i:Nat,x=(i:Int):=⟨x.toNat,by omega⟩;have hi:i<Int.toNat f.bars:=by omega
 have M:=aF (yX hi m);have N:∀m,(kC (Int.toNat f.bars) m).length=Int.toNat f.bars:=yY _;have G:∀m,(leI 0 (i:Int)&&aj (i:Int) ((kC (Int.toNat f.bars) m).length:Int))=true:=λm=>by
  rw[N,dk];exact⟨c3 (by omega),c3 (by omega)⟩
 refine(ah (c3 (by omega))).trans ?_;refine(au (aF j)).trans ?_;refine(bG (G m)).trans ((au M).trans ?_);refine(av (by omega)).trans ?_;refine(bG (G m)).trans ((au M).trans ?_);refine(au (aF j)).trans ((au (aF j)).trans ?_);rw[Int.toNat_natCast,Rf hi];refine(bG (G _)).trans ((au (aF (yX hi _))).trans ?_);rw[mH,if_pos rfl];have e:(List.append F ((⟨(i:Int),ar m (i:Int) 0+1⟩:aE)::([]:List aE))).length=F.length+1:=dT;refine(bG (c3 (by rw[e];omega))).trans ?_;refine(av (by omega)).trans ?_;rfl
def aak(c:Cut)(v:aE):Bq (c,v)=some (decide (c.from_<=v.aw)&&(decide (v.aw<c.aW)&&(decide (c.pass=0)||decide (c.pass=v.pass)))):=by
 unfold Bq;dsimp only;rw[I7,af]
def L2{α:Type}(p:α->Bool):∀(l:List α)(z:Bool),l.foldl (λz x=>z||p x) z=(z||l.any p)
 | [],z=>by simp
 |x::l,z=>by rw[List.foldl_cons,L2 p l];simp[Bool.or_assoc]
def L0{α:Type}(p:α->Bool):∀(l z:List α),l.foldl (λz x=>if p x=true then z else z++[x]) z=z++l.filter (λx=>!p x)
 | [],z=>by simp
 |x::l,z=>by
  rw[List.foldl_cons,L0 p l];cases h:p x<;>simp[h]
def QG(f:Form):(sO f).length<=(fY f).length:=by
 have:∀(l:List Int)(z:MV),(l.foldl (gU []) z).2.length<=z.2.length+l.length:=by
  intro l;induction l with
  |nil=>intro z;simp
  |cons x l j=>
   intro z;have:=j (gU [] z x);have e:(gU [] z x).2.length=z.2.length+1:=by
    unfold gU;dsimp only;have e:jd [] ⟨x,ar z.1 x 0+1⟩=false:=rfl;rw[e];simp
   rw[List.foldl_cons,List.length_cons];omega
 have:=this (fY f) ([],[]);simpa [sO]using this
def aad{f:Form}(B:pD f):Br f=some (if km f then(bK f,0)else([],1)):=by
 unfold Br;refine(au (OH B)).trans ?_;cases h:km f
 ·rfl
 have M:=EC B h;have Y:=yF M;have hv:=QG f;refine(ag rfl).trans ((au (aae M)).trans ?_);rw[if_pos rfl];refine(au (x:=bK f) ?_).trans rfl;refine(cu (st:=λ(z:List aE) k=>(k,z)) (l:=sO f) (λz x=>.inl (if jd f.bd x=true then z else z++[x])) (λz=>z) (λk z=>z.length<=k) (λk x z F O=>?_) (λk x z z' _ O U=>by
  cases U;by_cases N:jd f.bd x=true
  ·rw[if_pos N];omega
  rw[if_neg N];simp;omega) (λz _=>by dsimp only;rw[ag (da (by omega))]) [] (by simp)).trans ?_
 ·have ab:=aZ F;have Z:=B.2.2;dsimp only;refine(ah (c3 (by omega))).trans ?_;refine(au (x:=if jd f.bd x=true then z else z++[x]) (((au (x:=jd f.bd x) ?_)).trans ?_)).trans (av (by omega))
  ·refine(cu (st:=λ(z:Bool) k=>(z,k)) (l:=f.bd) (λz c=>.inl (z||(decide (c.from_<=x.aw)&&(decide (x.aw<c.aW)&&(decide (c.pass=0)||decide (c.pass=x.pass)))))) (λz=>z) (λ_ _=>True) (λj c z G _=>?_) (λ_ _ _ _ _ _ _=>trivial) (λz _=>by dsimp only;rw[ag (da (by omega))]) false trivial).trans ?_
   ·have aa:=aZ G;dsimp only;refine(ah (c3 (by omega))).trans ?_;refine(au (x:=z||(decide (c.from_<=x.aw)&&(decide (x.aw<c.aW)&&(decide (c.pass=0)||decide (c.pass=x.pass))))) ?_).trans ?_
    ·cases z
     ·refine(ag rfl).trans ((au (aF G)).trans ((au (aF F)).trans ((au (aak c x)).trans ?_)));rfl
     rfl
    exact av (by omega)
   refine dn some ((eh (λz c=>z||_) f.bd false (λ_ _ _=>rfl)).trans ?_);rw[L2];rfl
  cases jd f.bd x
  ·refine(ah rfl).trans ((au (aF F)).trans ?_);have e:(List.append z (x::([]:List aE))).length=z.length+1:=dT;refine(bG (c3 (by rw[e];omega))).trans ?_;rfl
  rfl
 refine dn some ((eh (λz x=>if jd f.bd x=true then z else z++[x]) (sO f) [] (λ_ _ _=>rfl)).trans ?_);rw[L0,List.nil_append,Qy]
def kc{α:Type}(key:α->Int)(m:List (Int×List α))(x:α):List (Int×List α):=aM m (key x) (ar m (key x) []++[x])
def zZ{α:Type}(key:α->Int)(k:Int):∀(l:List α)(m:List (Int×List α)),ar (l.foldl (kc key) m) k []=ar m k []++l.filter λx=>decide (key x=k)
 | [],m=>by simp
 |x::l,m=>by
  rw[List.foldl_cons,zZ key k l,ik];unfold kc;rw[mH];by_cases h:k=key x
  ·rw[if_pos h,h,if_pos (by simp)];simp
  rw[if_neg h,if_neg (by simp;exact λe=>h e.symm)]
def E4{α:Type}(key:α->Int):∀(l:List α)(m:List (Int×List α))(n:Nat),(∀k,(ar m k []).length<=n)->∀k,(ar (l.foldl (kc key) m) k []).length<=n+l.length
 | [],m,n,h,k=>by simpa using h k
 |x::l,m,n,h,k=>by
  rw[List.foldl_cons,List.length_cons];have:=E4 key l (kc key m x) (n+1) (λk=>by
   unfold kc;rw[mH];by_cases e:k=key x
   ·rw[if_pos e,dT];have:=h (key x);simp;omega
   rw[if_neg e];have:=h k;omega) k
  omega
def Xc{ns:List aq}(hl:ns.length<=1000000):aA (λB:(Int×(List (Int×(List aq))))=>ab (aj B.1 (ns.length:Int)) (aa (an ns B.1) λF=>ae (WP 96 (List.append (ar B.2 F.aw ([]:List aq)) (F::([]:List aq)))) <|ae (ai (B.1+1)) <|some (.inl ((B.1+1),(aM B.2 F.aw (List.append (ar B.2 F.aw ([]:List aq)) (F::([]:List aq))))))) (some (.inr B.2))) (0,([]:List (Int×(List aq))))=some (ns.foldl (kc aq.aw) []):=by
 refine(cu (st:=λ(z:List (Int×List aq)) k=>(k,z)) (l:=ns) (λz x=>.inl (kc aq.aw z x)) (λz=>z) (λk z=>∀j,(ar z j []).length<=k) (λk x z M G=>?_) (λk x z z' _ G N=>by
  cases N;intro j;have:=E4 aq.aw [x] z k G j;simpa using this) (λz _=>by dsimp only;rw[ag (by simp)]) [] (λj=>by rw[oX];simp)).trans (dn some (eh (kc aq.aw) ns [] (λ_ _ _=>rfl)))
 have U:=aZ M;have O:=G x.aw;dsimp only;have e:(List.append (ar z x.aw ([]:List aq)) (x::([]:List aq))).length=(ar z x.aw ([]:List aq)).length+1:=dT;rw[ah (c3 (by omega)),aY (aF M),bG (c3 (by rw[e];omega)),av (by omega)];rfl
def gR(t:Int)(n:aq):ay:=⟨n.part,eN (t+bz n.start),n.length,n.aN⟩
def eM(bars:List aT)(snd:aT->List aq):List aE->Int->List ay
 | [],_=>[]
 |v::vs,t=>match bars[v.aw.toNat]? with
  |some b=>(snd b).map (gR t)++eM bars snd vs (t+bz b.length)
  |none=>eM bars snd vs t
def gP(bars:List aT)(snd:aT->List aq)(z:List ay×Int)(v:aE):List ay×Int:=match bars[v.aw.toNat]? with
 |some b=>(z.1++(snd b).map (gR z.2),z.2+bz b.length)
 |none=>z
def Ma(bars:List aT)(snd:aT->List aq):∀(vs:List aE)(z:List ay×Int),(vs.foldl (gP bars snd) z).1=z.1++eM bars snd vs z.2
 | [],z=>by simp[eM]
 |v::vs,z=>by
  rw[List.foldl_cons,Ma bars snd vs];have j:gP bars snd z v=match bars[v.aw.toNat]? with
   |some b=>(z.1++(snd b).map (gR z.2),z.2+bz b.length)
   |none=>z:=rfl
  have k:eM bars snd (v::vs) z.2=match bars[v.aw.toNat]? with
   |some b=>(snd b).map (gR z.2)++eM bars snd vs (z.2+bz b.length)
   |none=>eM bars snd vs z.2:=rfl
  rw[j,k];cases bars[v.aw.toNat]? with
  |none=>rfl
  |some b=>dsimp only;rw[h7]
theorem acN{ε:Type}{l:List aq}{tm:Rat}{t:Int}{ts:List ay}(E:(List ay×Int)->ε)(ad:tm=eN t)(h0:0<=t)(ao:t<=900000000)(hl:l.length<=1000000)(Z:∀n∈l,bF n.start/\bz n.start<=100000)(ht:ts.length<=1000000000000) :
  (aA (λB:(Int×(List ay))=>ab (aj B.1 (l.length:Int)) (aa (an l B.1) λj=>aa (kh (tm,j.start)) λF=>ab (!(aC F.2 0)) (some (.inr (.inr (E (B.2,F.2))))) (ae (WP 64 (List.append B.2 ((⟨j.part,F.1,j.length,j.aN⟩:ay)::([]:List ay)))) <|ae (ai (B.1+1)) <|some (.inl ((B.1+1),(List.append B.2 ((⟨j.part,F.1,j.length,j.aN⟩:ay)::([]:List ay))))))) (some (.inr (.inl B.2)))) (0,ts):Option (List ay⊕ε))=some (.inl (ts++l.map (gR t))):=by
 have G:=yg (t:=t) h0 (by omega);refine(cu (st:=λ(z:List ay) k=>(k,z)) (l:=l) (λz x=>.inl (z++[gR t x])) (λz=>.inl z) (λk z=>z.length<=ts.length+k) (λk x z M O=>?_) (λk x z z' _ O Y=>by cases Y;simp;omega) (λz _=>by dsimp only;rw[ag (by simp)]) ts (by simp)).trans (dn some ((eh (λz x=>z++[gR t x]) l ts (λ_ _ _=>rfl)).trans (dn Sum.inl (foldl_map' (gR t) l ts))));have ar:=aZ M;obtain⟨N,ak⟩:=Z x (dd M);have al:=mU N;dsimp only;have e:(List.append z (gR t x::([]:List ay))).length=z.length+1:=dT;have U:kh (tm,x.start)=some (eN (t+bz x.start),0):=by
  rw[ad,OQ G.1 N (by rw[G.2];omega),G.2]
 rw[ah (c3 (by omega)),aY (aF M),U,af];refine(ag rfl).trans ?_;refine(bG (c3 (by rw[show(List.append z ((⟨x.part,(eN (t+bz x.start),(0:Int)).1,x.length,x.aN⟩:ay)::([]:List ay))).length=z.length+1 from e];omega))).trans ?_;exact av (by omega)
def aaW:eN 0=⟨0,1⟩:=by decide +kernel
def ZC{bars:List aT}(ak:∀b∈bars,fx b){vs:List aE}(hv:vs.length<=20000/\∀v∈vs,0<=v.aw/\v.aw<(bars.length:Int))(mp:List (Int×List aq))(al:∀b∈bars,(ar mp b.id []).length<=20000/\∀n∈ar mp b.id [],bF n.start/\bz n.start<=100000){ts:List ay}(ht:ts.length<=100000000000) :
  (aA (λF:(Int×((List ay)×(Int×Int)))=>ab (aj F.1 (vs.length:Int)) (aa (an vs F.1) λaM=>aa (an bars aM.aw) λad=>aR (aA (λB:(Int×(List ay))=>ab (aj B.1 ((ar mp ad.id ([]:List aq)).length:Int)) (aa (an (ar mp ad.id ([]:List aq)) B.1) λj=>aa (kh ((⟨F.2.2.1,F.2.2.2⟩:Rat),j.start)) λO=>ab (!(aC O.2 0)) (some (.inr (.inr (.inr (.inr (B.2,O.2)))))) (ae (WP 64 (List.append B.2 ((⟨j.part,O.1,j.length,j.aN⟩:ay)::([]:List ay)))) <|ae (ai (B.1+1)) <|some (.inl ((B.1+1),(List.append B.2 ((⟨j.part,O.1,j.length,j.aN⟩:ay)::([]:List ay))))))) (some (.inr (.inl B.2)))) (0,F.2.1)) λ(B:(List ay))=>aa (kh ((⟨F.2.2.1,F.2.2.2⟩:Rat),ad.length)) λj=>ae (ai (F.1+1)) <|some (.inl ((F.1+1),(B,(j.1.n,j.1.d))))) (some (.inr (.inl F.2.1)))) (0,(ts,(0,1))):Option (List ay⊕(List ay×Int)))=some (.inl (ts++eM bars (λb=>ar mp b.id []) vs 0)):=by
 have az:((0:Int),(ts,((0:Int),(1:Int))))=(0,(ts,((eN 0).n,(eN 0).d))):=by rw[aaW]
 refine(dn (aA _) az).trans ?_;refine(cu (σ:=List ay×Int) (st:=λz k=>(k,(z.1,((eN z.2).n,(eN z.2).d)))) (l:=vs) (λz v=>(Sum.inl (gP bars (λb=>ar mp b.id []) z v):(List ay×Int)⊕(List ay⊕(List ay×Int)))) (λz=>(Sum.inl z.1:List ay⊕(List ay×Int))) (λk z=>(0<=z.2/\z.2<=40320*(k:Int))/\z.1.length<=ts.length+20000*k) (λk v z M U=>?_) (λk v z z' M U aG=>?_) (λz _=>by dsimp only;rw[ag (by simp)]) (ts,0) ⟨by dsimp only;omega,by simp⟩).trans (dn some ((eh (gP bars (λb=>ar mp b.id [])) vs (ts,0) (λ_ _ _=>rfl)).trans (dn Sum.inl (Ma bars (λb=>ar mp b.id []) vs (ts,0)))))
 ·have aH:=aZ M;obtain⟨aL,aO⟩:=hv.2 v (dd M);obtain⟨⟨Z,aI⟩,aJ⟩:=U;have G:bars[v.aw.toNat]?=some bars[v.aw.toNat]:=c5 (by omega);unfold gP;rw[G];generalize bars[v.aw.toNat]=b at G;have N:=dd G;obtain⟨_,af,ax,_⟩:=ak b N;obtain⟨aK,ao⟩:=al b N;have aD:an bars v.aw=some b:=by
   have:=aF G;rwa [show((v.aw.toNat:Nat):Int)=v.aw by omega]at this
  dsimp only;rw[ah (c3 (by omega)),aY (aF M),aY aD];refine(di (acN (tm:=⟨(eN z.2).n,(eN z.2).d⟩) (ts:=z.1) (ε:=(Int×(List ay×(Int×Int)))⊕(List ay⊕(List ay×Int))) (λx=>.inr (.inr x)) rfl Z (by omega) (by omega) ao (by omega))).trans ?_;have Y:=yg (t:=z.2) Z (by omega);have aB:kh (eN z.2,b.length)=some (eN (z.2+bz b.length),0):=by
   rw[OQ Y.1 af (by rw[Y.2];omega),Y.2]
  refine(au aB).trans ?_;exact av (by omega)
 cases aG;have aH:=aZ M;obtain⟨aL,aO⟩:=hv.2 v (dd M);obtain⟨⟨Z,aI⟩,aJ⟩:=U;have G:bars[v.aw.toNat]?=some bars[v.aw.toNat]:=c5 (by omega);unfold gP;rw[G];generalize bars[v.aw.toNat]=b at G;have N:=dd G;obtain⟨_,af,ax,_⟩:=ak b N;obtain⟨aK,ao⟩:=al b N;dsimp only;refine⟨by omega,?_⟩;rw[dT,hP];omega
def Oi{bars:List aT}(O:∀b∈bars,fx b){vs:List aE}(hv:vs.length<=20000/\∀v∈vs,0<=v.aw/\v.aw<(bars.length:Int)){ns:List aq}(N:ns.length<=20000/\∀n∈ns,bF n.start/\bz n.start<=100000){ts:List ay}(ht:ts.length<=100000000000) :
  ((aa (aA (λB:(Int×(List (Int×(List aq))))=>ab (aj B.1 (ns.length:Int)) (aa (an ns B.1) λj=>ae (WP 96 (List.append (ar B.2 j.aw ([]:List aq)) (j::([]:List aq)))) <|ae (ai (B.1+1)) <|some (.inl ((B.1+1),(aM B.2 j.aw (List.append (ar B.2 j.aw ([]:List aq)) (j::([]:List aq))))))) (some (.inr B.2))) (0,([]:List (Int×(List aq))))) λ(B:(List (Int×(List aq))))=>aR (aA (λj:(Int×((List ay)×(Int×Int)))=>ab (aj j.1 (vs.length:Int)) (aa (an vs j.1) λY=>aa (an bars Y.aw) λM=>aR (aA (λF:(Int×(List ay))=>ab (aj F.1 ((ar B M.id ([]:List aq)).length:Int)) (aa (an (ar B M.id ([]:List aq)) F.1) λk=>aa (kh ((⟨j.2.2.1,j.2.2.2⟩:Rat),k.start)) λG=>ab (!(aC G.2 0)) (some (.inr (.inr (.inr (.inr (F.2,G.2)))))) (ae (WP 64 (List.append F.2 ((⟨k.part,G.1,k.length,k.aN⟩:ay)::([]:List ay)))) <|ae (ai (F.1+1)) <|some (.inl ((F.1+1),(List.append F.2 ((⟨k.part,G.1,k.length,k.aN⟩:ay)::([]:List ay))))))) (some (.inr (.inl F.2)))) (0,j.2.1)) λ(F:(List ay))=>aa (kh ((⟨j.2.2.1,j.2.2.2⟩:Rat),M.length)) λk=>ae (ai (j.1+1)) <|some (.inl ((j.1+1),(F,(k.1.n,k.1.d))))) (some (.inr (.inl j.2.1)))) (0,(ts,(0,1)))) λ(j:(List ay))=>some (j,0)):Option (List ay×Int))=some (ts++eM bars (λb=>ns.filter λn=>decide (n.aw=b.id)) vs 0,0):=by
 refine(au (Xc (by omega))).trans ?_;have e:(λb:aT=>ar (ns.foldl (kc aq.aw) []) b.id [])=λb=>ns.filter λn=>decide (n.aw=b.id):=by
  funext b;rw[zZ,oX,List.nil_append]
 have:=ZC O hv (ns.foldl (kc aq.aw) []) (λb Z=>by
  rw[zZ,oX,List.nil_append];exact⟨hB (hW _ _) N.1,λn U=>N.2 n (hG.1 U).1⟩) ht
 rw[e]at this;exact di this
theorem Cm{bars:List aT}{f g:aT->List aq}(h:∀b∈bars,f b=g b):∀(vs:List aE)(t:Int),eM bars f vs t=eM bars g vs t
 | [],t=>rfl
 |v::vs,t=>by
  unfold eM;cases j:bars[v.aw.toNat]? with
  |none=>exact Cm h vs t
  |some b=>
   dsimp only;rw[h b (dd j),Cm h vs]
def pH(bars:List aT):List aE->Int
 | []=>0
 |v::vs=>match bars[v.aw.toNat]? with
  |some b=>bz b.length+pH bars vs
  |none=>pH bars vs
def CT{bars:List aT}(j:∀b∈bars,fx b):∀(vs:List aE),0<=pH bars vs/\pH bars vs<=40320*(vs.length:Int)
 | []=>by simp[pH]
 |v::vs=>by
  have B:=CT j vs;unfold pH;cases h:bars[v.aw.toNat]? with
  |none=>simp only[List.length_cons];omega
  |some b=>
   obtain⟨_,_,k,_⟩:=j b (dd h);simp only[List.length_cons];omega
def Cn{bars:List aT}(j:∀b∈bars,fx b){snd:aT->List aq}{x:ay}:∀(vs:List aE)(t:Int),x∈eM bars snd vs t->∃t' b n,t<=t'/\t'+bz b.length<=t+pH bars vs/\b∈bars/\n∈snd b/\x=gR t' n
 | [],t,h=>absurd h (by simp[eM])
 |v::vs,t,h=>by
  have hv:=CT j vs;unfold eM at h;unfold pH;cases k:bars[v.aw.toNat]? with
  |none=>rw[k]at h;exact Cn j vs t h
  |some b=>
   rw[k]at h;obtain⟨_,_,M,_⟩:=j b (dd k);dsimp only at h⊢;rcases hD.1 h with h|h
   ·obtain⟨n,G,rfl⟩:=gg.1 h;exact⟨t,b,n,by omega,by omega,dd k,G,rfl⟩
   obtain⟨t',B,n,N,O,F⟩:=Cn j vs _ h;exact⟨t',B,n,by omega,by omega,F⟩
theorem ve{bars:List aT}{snd:aT->List aq}{m:Nat}(h:∀b∈bars,(snd b).length<=m):∀(vs:List aE)(t:Int),(eM bars snd vs t).length<=m*vs.length
 | [],t=>by simp[eM]
 |v::vs,t=>by
  unfold eM;cases j:bars[v.aw.toNat]? with
  |none=>
   have:=ve h vs t;dsimp only;rw[List.length_cons,Nat.mul_succ];omega
  |some b=>
   have:=ve h vs (t+bz b.length);have:=h b (dd j);dsimp only;rw[dT,hP,List.length_cons,Nat.mul_succ];omega
def ZA{p q:aV}(F:bO p)(G:bO q)(k:num p=num q)(B:p.step=q.step):p=q:=by
 obtain⟨s,a,o⟩:=p;obtain⟨s',j,o'⟩:=q;obtain⟨_,M,_⟩:=F;obtain⟨_,N,_⟩:=G;unfold num at k;dsimp only at *;subst B;have:o=o':=by omega
 subst this;have:a=j:=by omega
 rw[this]
theorem acO{a b:ay}(j:dY a)(k:dY b)(h:tK a=tK b):a=b:=by
 obtain⟨ag,B,F,G⟩:=a;obtain⟨ah,M,N,O⟩:=b;unfold tK at h;simp only[o1]at h;obtain⟨aa,ab,ad,ae,af,_⟩:=h;have U:B=M:=(zC j.1).trans ((dn eN aa).trans (zC k.1).symm);have Y:F=N:=(zC j.2.2.2).trans ((dn eN af).trans (zC k.2.2.2).symm);have Z:G=O:=ZA j.2.2.1 k.2.2.1 ad ae;rw[U,Y,Z,ab]
theorem Ih(t:ay):(tK t).length=tS.length:=rfl
def Qk{l:List ay}(h:∀t∈l,dY t):gY (iV tS tK) l:=by
 intro a B b F j k;rw[tq Ih]at j k;exact acO (h a B) (h b F) (zr (K:=tK) (n:=5) (λ_=>rfl) j k)
noncomputable def ir(l:List ay):List ay:=fU (iV tS tK) l
def PT{l:List ay}(h:∀t∈l,dY t)(hl:l.length<=1000000000000):xR (l,())=some (ir l):=by
 unfold xR sC;rw[if_pos ⟨h,Qk h,by dsimp only;omega⟩];rfl
variable {s:Score}{p:Part}{c:List Int}
def yv(B:cI s)(Y:p∈s.parts){b:aT}(M:b∈s.bars){n:aq}(U:n∈gx s p c b):n.aw=b.id/\n.part=p.id/\bF n.start/\bF n.length/\bz n.start+bz n.length<=bz b.length/\bO n.aN:=by
 have Z:=B.2.2.1.2.1 p Y;obtain⟨m,O,rfl⟩:=gg.1 U;obtain⟨F,j,G,aa⟩:=DJ B M (hG.1 O).1;have hi:=(tY Z F j.2.2.2.2.2.2.2.2).1;have k:=Dk (x:=(iz p b m).aN) (i:=cE (gk p b.key)) (by
  have:(iD p b (iz p b m)).2=0:=by rw[hi]
  exact this)
 have N:(dO (iz p b m).aN (cE (gk p b.key))).1=nT m.aN p.aO:=by
  have:(iD p b (iz p b m)).1=nT m.aN p.aO:=by rw[hi]
  exact this
 rw[N]at k;exact⟨G,rfl,j.1,j.2.1,j.2.2.2.1,k.2.2⟩
def H2(j:cI s)(b:aT):(gx s p c b).length<=20000:=by
 have:=j.2.2.2.1.2.1;unfold gx pV lj;rw[hP];exact hB (hW _ _) (hB (hW _ _) (hB (hW _ _) this))
theorem PN(j:cI s)(k:p∈s.parts):(s.bars.flatMap (gx s p c)).length<=20000:=by
 have h:=(vG (qf j k) (λm w=>decide (w.br=jI c m.notes))).2.2.2.1;have B:=dn Prod.fst (yx j k c);have hv:dj s (ey (dB s p) c):=vG (qf j k) _;have e:(gK s (ey (dB s p) c)).length=(s.bars.flatMap (gx s p c)).length:=by
  rw[Hf j,J3,J3];congr 1;refine hN λb _=>?_;unfold gx;rw[hP,hP]
 rw[<-e,He hv.2.1];exact h
def PO(k:cI s)(B:p∈s.parts){b:aT}(G:b∈s.bars):(s.bars.flatMap (gx s p c)).filter (λn=>decide (n.aw=b.id))=gx s p c b:=by
 rw[List.filter_flatMap];refine Eq.trans ?_ (LK aT.id (gx s p c) k.2.1.2.2 G);unfold List.flatMap;congr 1;refine hN λy F=>?_;by_cases h:y.id=b.id
 ·rw[if_pos h,J2];intro n j;have:=(yv k B F j).1;simp[this,h]
 rw[if_neg h,x3];intro n j;have:=(yv k B F j).1;simp[this,h]
def iI(s:Score)(c:List Int)(vs:List aE)(p:Part):List ay:=eM s.bars (gx s p c) vs 0
def kl(s:Score)(c:List Int)(vs:List aE):List ay:=s.parts.flatMap (iI s c vs)
def Od(k:cI s)(M:p∈s.parts){vs:List aE}(hv:vs.length<=20000){x:ay}(ab:x∈iI s c vs p):dY x/\x.part=p.id/\∃t',0<=t'/\bz x.start+bz x.length<=t'/\t'<=pH s.bars vs:=by
 have j:∀b∈s.bars,fx b:=λb Z=>iR k Z;obtain⟨t',b,n,ag,ah,F,Y,rfl⟩:=Cn j vs 0 ab;obtain⟨ad,N,O,B,ae,U⟩:=yv k M F Y;have aa:=k.2.2.1.2.1 p M;have ht:=CT j vs;have ai:=((jG p).1 aa).1.1;have aj:=mU O;have ak:=mU B;have G:=yg (t:=t'+bz n.start) (by omega) (by omega);refine⟨⟨G.1,?_,U,B⟩,N,t'+bz b.length,?_,?_,by omega⟩
 ·show 0<=n.part/\n.part<=1000000;omega
 ·obtain⟨_,_,af,_⟩:=j b F;omega
 show bz (eN (t'+bz n.start))+bz n.length<=t'+bz b.length;rw[G.2];omega
theorem yh(k:cI s){vs:List aE}(hv:vs.length<=20000):(∀x∈kl s c vs,dY x)/\(kl s c vs).length<=400000000*s.parts.length:=by
 constructor
 ·intro x j;obtain⟨p,B,j⟩:=k0.1 j;exact(Od k B hv j).1
 unfold kl;have:∀(l:List Part),(l.flatMap (iI s c vs)).length<=400000000*l.length:=by
  intro l;induction l with
  |nil=>simp
  |cons p l F=>
   have:=ve (bars:=s.bars) (snd:=gx s p c) (m:=20000) (λb _=>H2 k b) vs 0;have e:(iI s c vs p).length<=20000*vs.length:=this;rw[hL,dT,List.length_cons,Nat.mul_succ];omega
 exact this s.parts
end Go.Proofs.YthhlipkkjippfaaGreatDoor
namespace Go.Proofs.YthhlipkkjippfaaGreatDoor
open Go Go.ak Go.Sy
attribute [local instance] bP bX
def jc(w:c8)(r:Room):Prop:=cI w.score/\r.version=w.score.version/\km r.form=true/\r.form.bars=(w.score.bars.length:Int)/\mz r.bp=true
noncomputable instance (w:c8) (r:Room):Decidable (jc w r):=inferInstanceAs (Decidable (_/\_/\_/\_/\_))
def lz(w:c8)(r:Room):Prop:=w.score.bars.length<=1048576/\pD r.form/\r.bp.length<=1048576
def ON{w:c8}{r:Room}(h:lz w r):xM (w,r)=some (decide (jc w r)):=by
 obtain⟨M,B,F⟩:=h;unfold xM;dsimp only;rw[Hq,OH B,OM F];have e:∀(a b c d f:Bool),(aa (aa (some a) λk=>ab (!k) (some true) (some (!b))) λ(k:Bool)=>ab k (some false) (aa (aa (some c) λj=>ab j (ab d (aa (some f) λG=>some G) (some false)) (some false)) λ(j:Bool)=>some j))=some (a&&(b&&(c&&(d&&f)))):=by
  intro a b c d f;cases a<;>cases b<;>cases c<;>cases d<;>cases f<;>rfl
 refine(e _ _ _ _ _).trans (dn some ?_);unfold aC;rw[gl];simp only[dk,ea];rfl
def ada:eA zeroV:=⟨by simp[zeroV],by simp[zeroV,bD],λm j=>absurd j (by simp[zeroV])⟩
def Zq{c:List Int}(k:c.length<=1048576):ph (zeroV,c)=some (if mz c=true then(zeroV,0)else(zeroV,1)):=by
 rw[D8 (by simp[zeroV]) (by simp[zeroV,bD]) k];by_cases h:mz c=true
 ·rw[if_pos h,if_pos ⟨h,ada⟩];rfl
 rw[if_neg h,if_neg (λj=>h j.1)]
def sL{f:Form}(G:pD f)(h:km f=true):(bK f).length<=20000/\∀v∈bK f,0<=v.aw/\v.aw<f.bars:=by
 have F:=EC G h;have hl:(fY f).length<=20000:=by
  simp only[km,dk,ea]at h;exact h.2.2.2.2.2.2
 have B:=QL F;rw[Qy];refine⟨hB (hW _ _) (hB (QG f) hl),λv hv=>?_⟩;have hv:=(hG.1 hv).1;have key:∀(l:List Int)(z:MV),(∀x∈l,0<=x/\x<f.bars)->(∀v∈z.2,0<=v.aw/\v.aw<f.bars)->∀v∈(l.foldl (gU []) z).2,0<=v.aw/\v.aw<f.bars:=by
  intro l;induction l with
  |nil=>intro z _ j;exact j
  |cons x l N=>
   intro z k j;refine N (gU [] z x) (λy M=>k y (by simp[M])) λv hv=>?_;have e:(gU [] z x).2=z.2++[⟨x,ar z.1 x 0+1⟩]:=rfl;rw[e,hD]at hv;rcases hv with hv|hv
   ·exact j v hv
   rw[n2]at hv;rw[hv];exact k x (by simp)
 exact key (fY f) ([],[]) B (by simp) v hv
def Nv{w:c8}{r:Room}(h:lz w r){U:Type}(A:Option U)(B:List aE×Int->Option U):(aa (uS r.form) λN=>aa (ph ((⟨0,([]:List aB)⟩:View),r.bp)) λan=>aa (ab (!(aC N.2 0)) (some true) (ab (!(aC an.2 0)) (some true) (aa (pq w.score) λO=>ab (!O) (some true) (ab (!(aC r.version w.score.version)) (some true) (some (!(aC r.form.bars (w.score.bars.length:Int)))))))) λO=>ab O A (B N))=if jc w r then B (bK r.form,0)else A:=by
 obtain⟨aj,ak,al⟩:=h;refine(au (aa6 ak)).trans ?_;refine(au (Zq al)).trans ?_;rw[yq aj];by_cases j:jc w r
 ·obtain⟨Y,Z,ad,ae,ai⟩:=id j;rw[if_pos j,ad,ai,if_pos rfl,if_pos rfl];refine(au (x:=false) ?_).trans rfl;refine(ag rfl).trans ((ag rfl).trans ?_);rw[af,ag (by simp[Y]),ag (by simp[Z])];exact dn some (by simp[ae])
 rw[if_neg j];refine(au (x:=true) ?_).trans rfl;by_cases G:km r.form=true
 ·rw[if_pos G];refine(ag rfl).trans ?_;by_cases M:mz r.bp=true
  ·rw[if_pos M];refine(ag rfl).trans ?_;rw[af];by_cases k:cI w.score
   ·rw[ag (by simp[k])];by_cases F:r.version=w.score.version
    ·rw[ag (by simp[F])];refine dn some ?_;have:r.form.bars≠(w.score.bars.length:Int):=λe=>j ⟨k,F,G,e,M⟩;simp[this]
    exact ah (by simp[F])
   exact ah (by simp[k])
  rw[if_neg M];rfl
 rw[if_neg G];rfl
def CJ{w:c8}{r:Room}(h:lz w r):nY (w,r)=some (if jc w r then(ir (kl w.score r.bp (bK r.form)),0)else([],1)):=by
 unfold nY;refine(Nv h (some (([]:List ay),1)) _).trans ?_;by_cases G:jc w r
 ·rw[if_pos G,if_pos G];obtain⟨j,ax,ab,az,ad⟩:=id G;obtain⟨ae,ai,aj⟩:=h;obtain⟨Y,ar⟩:=sL ai ab;have aA:=j.2.1.1.2;have aD:=j.2.2.1.1.2;have O:∀b∈w.score.bars,fx b:=λb B=>iR j B;refine(di (x:=.inl (kl w.score r.bp (bK r.form))) ?_).trans ?_
  ·refine(cu (st:=λ(z:List ay) k=>(k,z)) (l:=w.score.parts) (λz p=>(Sum.inl (z++iI w.score r.bp (bK r.form) p):List ay⊕(List ay⊕(List ay×Int)))) (λz=>Sum.inl z) (λk z=>z.length<=400000000*k) (λk p z M ak=>?_) (λk p z z' M ak al=>?_) (λz _=>by dsimp only;rw[ag (by simp)]) [] (by simp)).trans ?_
   ·have aB:=aZ M;have F:=dd M;have an:partOf w.score p.id=some p:=qe j.2.2.1.2.2.1 F;have hv:=qf j F;have aG:=hv.2.1;have aE:=hv.2.2.2.1;have U:=vG hv (λm w=>decide (w.br=jI r.bp m.notes));rw[<-AP]at U;have aC:=U.2.2.2.1;dsimp only;rw[ah (c3 (by omega)),aY (aF M),get_eq j an,af];refine(au (x:=(0,z++iI w.score r.bp (bK r.form) p)) ?_).trans ?_
    ·refine(ah rfl).trans ?_;refine(au (x:=(z++iI w.score r.bp (bK r.form) p,0)) ?_).trans rfl;refine(au (D8 (v:=dB w.score p) (by omega) (by omega) aj)).trans ?_;rw[if_pos ⟨ad,vF hv⟩];refine(ag rfl).trans ?_;refine(au (PX (s:=w.score) (v:=ey (dB w.score p) r.bp) ae (by omega))).trans ?_;rw[yx j F];refine(ag rfl).trans ?_;refine(Oi O ⟨Y,λv hv=>by have:=ar v hv;omega⟩ (ns:=w.score.bars.flatMap (gx w.score p r.bp)) ⟨PN j F,λn N=>?_⟩ (by omega)).trans ?_
     ·obtain⟨b,B,N⟩:=k0.1 N;obtain⟨_,_,Z,aa,aw,_⟩:=yv j F B N;have:=(O b B).2.2.1;have:=mU aa;exact⟨Z,by omega⟩
     rw[Cm (g:=gx w.score p r.bp) (λb B=>PO j F B)];rfl
    refine(ag rfl).trans ?_;exact av (by omega)
   ·cases al;have:=ve (bars:=w.score.bars) (snd:=gx w.score p r.bp) (m:=20000) (λb _=>H2 j b) (bK r.form) 0;have e:(iI w.score r.bp (bK r.form) p).length<=20000*(bK r.form).length:=this;rw[dT];omega
   refine dn some ((eh (λz p=>z++iI w.score r.bp (bK r.form) p) w.score.parts [] (λ_ _ _=>rfl)).trans (dn Sum.inl ?_));have:∀(l:List Part)(z:List ay),l.foldl (λz p=>z++iI w.score r.bp (bK r.form) p) z=z++l.flatMap (iI w.score r.bp (bK r.form)):=by
    intro l;induction l with
    |nil=>intro z;simp
    |cons p l ao=>intro z;rw[List.foldl_cons,ao];simp
   rw[this];rfl
  obtain⟨aq,aH⟩:=yh (c:=r.bp) j Y;exact au (PT aq (by omega))
 rw[if_neg G,if_neg G]
end Go.Proofs.YthhlipkkjippfaaGreatDoor
