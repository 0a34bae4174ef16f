import Derived.Test.YthhlipkkjippfaaGreatDoorX8
set_option linter.all false
namespace Go.Proofs.YthhlipkkjippfaaGreatDoor
open Go Go.ag Go.Sy
attribute [local instance] bV cB
def yK{α:Type}{l:List α}{p:α->Bool}(h:l.find? p=none):ix l p = -1:=by
 have:l.findIdx? p=none:=by
  rw[List.findIdx?_eq_none_iff]
  intro x j
  simpa using qd.1 h x j
 unfold ix;rw[this]
def vz{α:Type}{p:α->Bool}:∀{l:List α}{x:α},l.find? p=some x->∃k:Nat,ix l p=k/\l[k]?=some x/\p x=true
 | [],x,h=>by exact nomatch h
 |a::l,x,h=>by
  rw[List.find?_cons]at h
  cases B:p a with
  |true=>
   rw[B]at h
   cases h
   refine⟨0,?_,rfl,B⟩
   unfold ix
   rw[p6,B];rfl
  |false=>
   rw[B]at h
   obtain⟨k,j,G,M⟩:=vz h
   refine⟨k+1,?_,G,M⟩
   unfold ix at j⊢
   rw[p6,B]
   cases F:l.findIdx? p with
   |none=>rw[F]at j;simp at j
   |some i=>rw[F]at j;simp at j⊢;omega
def Bf{l:List Repeat}(M:l.length<=1048576)(b:Int):aQ (ay (λj:Int=>ab (ah j (l.length:Int)) (aa (au l j) λG=>ab (aA G.from_ b) (some (.inr (.inr j))) (ae (ai (j+1)) <|some (.inl (j+1)))) (some (.inr (.inl ())))) 0) (λ(j:Unit)=>some (-1))=some (ux l b):=by
 rw[mQ (l:=l) (λr=>decide (r.from_=b)) (λk x B=>by
  have F:=bx B
  rw[ak (by simpa using F),aY (aS B)]
  show ab (decide (x.from_=b)) _ _=_
  cases decide (x.from_=b)
  ·rw[gA,aC (by omega)];rfl
  rfl) (by rw[aj (by simp)])]
 exact qM l _
def XY{f:Form}(j:f.aX.length<=1048576)(b:Int):tT (f,b)=some (ux f.aX b):=Bf j b
def Hn(a b c:Bool):ab a (ab b (some c) (some false)) (some false)=some (a&&(b&&c)):=by cases a<;>cases b<;>rfl
def XW{f:Form}(F:f.bz.length<=1048576)(b p:Int):ov (f,(b,p))=some (!iW f.bz b p):=by
 unfold ov
 dsimp only
 rw[nX (l:=f.bz) (λx=>decide (x.from_<=b)&&(decide (b<x.aO) && !decide (x.pass=p))) false (λk x j=>by
  have B:=bx j
  rw[ak (by simpa using B),aY (aS j),Hn,af]
  show ab (decide (x.from_<=b)&&(decide (b<x.aO) && !decide (x.pass=p))) _ _=_
  cases (decide (x.from_<=b)&&(decide (b<x.aO) && !decide (x.pass=p)))
  ·rw[gA,aC (by omega)];rfl
  rfl) (by rw[aj (by simp)])]
 unfold iW
 cases (f.bz.any λx=>decide (x.from_<=b)&&(decide (b<x.aO) && !decide (x.pass=p)))<;>rfl
def EC{o:Order}(F:o.form.bz.length<=1048576)(b p:Int):iD (o,(b,p))=some (iW o.form.bz b p):=by
 unfold iD Fb Fi
 dsimp only
 rw[lE (l:=o.form.bz) (λx=>decide (x.from_<=b)&&(decide (b<x.aO) && !decide (x.pass=p))) (λk x j=>by
  have B:=bx j
  unfold E6
  dsimp only
  rw[ak (by simpa using B),aY (aS j),Hn,af,af]
  show ab (decide (x.from_<=b)&&(decide (b<x.aO) && !decide (x.pass=p))) _ _=_
  cases (decide (x.from_<=b)&&(decide (b<x.aO) && !decide (x.pass=p)))
  ·rw[gA,aC (by omega)];rfl
  rfl) (by rw[aj (by simp)])]
 rfl
def JU{β:Type}{o:Option β}{z:List Int}{x:Int}(h:z.length<=100000):ae (decide ((List.append z (x::([]:List Int))).length*8<=140737488355328/\(List.append z (x::([]:List Int))).length<=9223372036854775807)) o=o:=by
 have e:(List.append z (x::([]:List Int))).length=z.length+1:=e4
 exact cq (db (by rw[e];omega))
def sQ{ρ:Type}:∀(l z:List Int),eR (λz x=>(.inl (z++[x]):List Int⊕ρ)) l z = .inl (z++l)
 | [],z=>by rw[nb];rfl
 |x::l,z=>by
  refine(sQ l (z++[x])).trans ?_
  rw[j2];rfl
def aaR{f:Form}(Y:f.bz.length<=1048576){a u p:Int}{B:List Int}(U:0<=a)(ad:u<=1048576)(O:B.length+(fS f.bz a u p).length<=100000) :
  ay (λj:(Int×(List Int))=>ab (ah j.1 u) (aa (aa (ov (f,(j.1,p))) λF=>ab F (ae (decide ((List.append j.2 (j.1::([]:List Int))).length*8<=140737488355328/\(List.append j.2 (j.1::([]:List Int))).length<=9223372036854775807)) <|some (List.append j.2 (j.1::([]:List Int)))) (some j.2)) λ(F:(List Int))=>ae (ai (j.1+1)) <|some (.inl ((j.1+1),F))) (some (.inr j.2))) (a,B)=some (B++fS f.bz a u p):=by
 refine(kT (ρ:=Empty) (λ(z:List Int) b=>(b,z)) u (λi=>if iW f.bz i p then []else [i]) (λi=>i+1) (λz x=>.inl (z++[x])) id Empty.elim (λk z=>z.length<=k) 100000 (λk z x y G h=>by cases h;simpa using G) (λb=>0<=b) (λb M _=>⟨by omega,by omega⟩) (λk z b M Z G N=>?_) (λz b M h=>by dsimp only;rw[aj (dk h)];rfl) (u-a).toNat B.length B a U (by omega) (eb _) O).trans (by rw[sQ];rfl)
 dsimp only
 rw[ak (db Z),XW Y,af]
 by_cases h:iW f.bz b p=true
 ·rw[h,if_pos rfl]
  exact aC (by omega)
 rw[om]at h
 rw[h,if_neg (by decide)]
 rw[h,if_neg (by decide)]at N
 refine(aI (x:=z++[b]) (JU (by simp at N;omega))).trans ?_
 exact aC (by omega)
def aaS{f:Form}(Y:f.bz.length<=1048576){r:Repeat}{p:Int}{F:List Int}(ad:pk f.bars r)(G:f.bars<=4000)(Z:1<=p)(U:F.length+(jf f.bz r p).length<=100000) :
  ay (λB:(Int×(List Int))=>ab (leI B.1 r.times) (aa (ay (λj:(Int×(List Int))=>ab (ah j.1 r.aO) (aa (aa (ov (f,(j.1,B.1))) λM=>ab M (ae (decide ((List.append j.2 (j.1::([]:List Int))).length*8<=140737488355328/\(List.append j.2 (j.1::([]:List Int))).length<=9223372036854775807)) <|some (List.append j.2 (j.1::([]:List Int)))) (some j.2)) λ(M:(List Int))=>ae (ai (j.1+1)) <|some (.inl ((j.1+1),M))) (some (.inr j.2))) (r.from_,B.2)) λ(j:(List Int))=>ae (ai (B.1+1)) <|some (.inl ((B.1+1),j))) (some (.inr B.2))) (p,F)=some (F++jf f.bz r p):=by
 obtain⟨af,ag,al,an,O⟩:=ad
 refine(kT (ρ:=Empty) (λ(z:List Int) b=>(b,z)) (r.times+1) (λq=>fS f.bz r.from_ r.aO q) (λi=>i+1) (λz x=>.inl (z++[x])) id Empty.elim (λk z=>z.length<=k) 100000 (λk z x y N h=>by cases h;simpa using N) (λb=>1<=b) (λb G _=>⟨by omega,by omega⟩) (λk z b G aq N ao=>?_) (λz b G h=>by dsimp only;rw[aj (dk (by omega))];rfl) (r.times+1-p).toNat F.length F p Z (by omega) (eb _) U).trans (by rw[sQ];rfl)
 dsimp only
 rw[ak (db (by omega)),sQ]
 refine(aI (aaR Y O (by omega) (by omega))).trans ?_
 exact aC (by omega)
def G3{f:Form}(h:kN f)(q:Repeat->Int)(aw:∀r∈f.aX,1<=q r/\q r<=r.times){a e:Int}{G:List Int}(aq:0<=a)(aJ:e<=f.bars)(ao:G.length+(dK f q a e).length<=100000) :
  ay (λB:(Int×(List Int))=>ab (ah B.1 e) (aa (tT (f,B.1)) λaf=>ab (ah af 0) (ae (decide ((List.append B.2 (B.1::([]:List Int))).length*8<=140737488355328/\(List.append B.2 (B.1::([]:List Int))).length<=9223372036854775807)) <|ae (ai (B.1+1)) <|some (.inl ((B.1+1),(List.append B.2 (B.1::([]:List Int)))))) (aa (au f.aX af) λN=>aa (ay (λF:(Int×(List Int))=>ab (leI F.1 N.times) (aa (ay (λj:(Int×(List Int))=>ab (ah j.1 N.aO) (aa (aa (ov (f,(j.1,F.1))) λU=>ab U (ae (decide ((List.append j.2 (j.1::([]:List Int))).length*8<=140737488355328/\(List.append j.2 (j.1::([]:List Int))).length<=9223372036854775807)) <|some (List.append j.2 (j.1::([]:List Int)))) (some j.2)) λ(U:(List Int))=>ae (ai (j.1+1)) <|some (.inl ((j.1+1),U))) (some (.inr j.2))) (N.from_,F.2)) λ(j:(List Int))=>ae (ai (F.1+1)) <|some (.inl ((F.1+1),j))) (some (.inr F.2))) (q N,B.2)) λ(F:(List Int))=>some (.inl (N.aO,F)))) (some (.inr B.2))) (a,G)=some (G++dK f q a e):=by
 obtain⟨⟨az,ag⟩,Z,⟨ax,ar⟩,_⟩:=h
 refine(kT (ρ:=Empty) (λ(z:List Int) b=>(b,z)) e (l9 f q) (iZ f) (λz x=>.inl (z++[x])) id Empty.elim (λk z=>z.length<=k) 100000 (λk z x y O h=>by cases h;simpa using O) (λb=>0<=b) (λb Y _=>?_) (λk z b Y av O M=>?_) (λz b Y h=>by dsimp only;rw[aj (dk h)];rfl) (e-a).toNat G.length G a aq (by omega) (eb _) ao).trans (by rw[sQ];rfl)
 ·unfold iZ
  cases h:f.aX.find? λr=>decide (r.from_=b)with
  |none=>exact⟨by dsimp only;omega,by dsimp only;omega⟩
  |some r=>
   obtain⟨aB,aD,aE,aF,aG⟩:=Z r (hE h)
   have aH:r.from_=b:=hD (k7 (p:=λr:Repeat=>decide (r.from_=b)) h)
   exact⟨by dsimp only;omega,by dsimp only;omega⟩
 dsimp only
 rw[ak (db av),sQ]
 refine(aI (XY ax b)).trans ?_
 unfold ux
 unfold l9 at M⊢
 unfold iZ
 cases h:f.aX.find? λr=>decide (r.from_=b)with
 |none=>
  rw[h]at M
  rw[yK h]
  refine(ak (by decide)).trans ?_
  refine(JU (by simp at M;omega)).trans ?_
  exact aC (by omega)
 |some r=>
  rw[h]at M
  have ad:=hE h
  obtain⟨aK,al,an,aA⟩:=vz h
  rw[al]
  refine(aj (dk (by omega))).trans ?_
  refine(aI (aS an)).trans ?_
  exact aI (aaS ar (Z r ad) ag (aw r ad).1 (hF (Nat.add_le_add_right O _) M))
def XZ{f:Form}(h:kN f):Ab f=some (gL f):=by
 obtain⟨⟨U,Y⟩,B,_,⟨G,M,Z,N⟩,_⟩:=id h
 have j:=G2 h
 have F:∀r∈f.aX,1<=(λ_=>1:Repeat->Int) r/\(λ_=>1:Repeat->Int) r<=r.times:=λr k=>⟨by simp,(B r k).2.2.1⟩
 have O:∀r∈f.aX,1<=r.times/\r.times<=r.times:=λr k=>⟨(B r k).2.2.1,by simp⟩
 unfold gL at j⊢
 unfold Ab
 by_cases e:f.jump.at_=0
 ·rw[if_pos e]at j⊢
  refine(ak (db e)).trans ?_
  exact aI (G3 h (λ_=>1) F (by simp) (by simp) (by simp;omega))
 rw[if_neg e]at j⊢
 rw[e4]at j
 refine(aj (dk e)).trans ?_
 refine(aI (G3 h (λ_=>1) F (by simp) G (by simp;omega))).trans ?_
 refine(aI (G3 h Repeat.times O M N (by simp;omega))).trans ?_
 have e:(List.append ([]++dK f (λ_=>1) 0 f.jump.at_) ([]++dK f Repeat.times f.jump.to f.jump.cW)).length=(dK f (λ_=>1) 0 f.jump.at_).length+(dK f Repeat.times f.jump.to f.jump.cW).length:=e4
 exact cq (db (by rw[e];omega))
end Go.Proofs.YthhlipkkjippfaaGreatDoor
namespace Go.Proofs.YthhlipkkjippfaaGreatDoor
open Go Go.ag Go.Sy
attribute [local instance] bV cB
abbrev MI:=List (Int×Int)
def gS(z:Int×MI)(x:Int):(Int×MI)⊕Unit:=if 20000<z.1+1 then .inr ()else .inl (z.1+1,aH z.2 x (an z.2 x 0+1))
def IS(k:Nat)(z:Int×MI):Prop:=z.1=k/\∀x,0<=an z.2 x 0/\an z.2 x 0<=k
def xw(k:Nat)(z:Int×MI)(x:Int)(y:Int×MI)(j:IS k z)(h:gS z x = .inl y):IS (k+1) y:=by
 unfold gS at h
 by_cases e:20000<z.1+1
 ·rw[if_pos e]at h;exact nomatch h
 rw[if_neg e]at h
 cases h
 refine⟨by have:=j.1;dsimp only;omega,λw=>?_⟩
 dsimp only
 rw[mX]
 have B:=j.2 x
 have F:=j.2 w
 by_cases e:w=x
 ·rw[if_pos e];omega
 rw[if_neg e];omega
def YM{ω:Type}{o:Order}(al:o.form.bz.length<=1048576){a u p:Int}{z:Int×MI}{k:Nat}(ag:0<=a)(ar:u<=1048576)(F:IS k z)(ad:k+(fS o.form.bz a u p).length<=100000)(M:ω) :
  (ay (λj:(Int×(Int×(List (Int×Int))))=>ab (ah j.1 u) (aQ (aa (iD (o,(j.1,p))) λO=>ab (!O) (ae (ai ((an j.2.2 j.1 0)+1)) <|ae (ai (j.2.1+1)) <|ab (ah 20000 (j.2.1+1)) (some (.inr (.inr (.inr M)))) (some (.inl ((j.2.1+1),(aH j.2.2 j.1 ((an j.2.2 j.1 0)+1)))))) (some (.inl (j.2.1,j.2.2)))) λ(O:(Int×(List (Int×Int))))=>ae (ai (j.1+1)) <|some (.inl ((j.1+1),(O.1,O.2)))) (some (.inr (.inl (j.2.1,j.2.2))))) (a,(z.1,z.2)):Option ((Int×MI)⊕ω))=some (Sum.elim Sum.inl (λ_=>Sum.inr M) (eR gS (fS o.form.bz a u p) z)):=by
 refine kT (λ(z:Int×MI) b=>(b,(z.1,z.2))) u (λi=>if iW o.form.bz i p then []else [i]) (λi=>i+1) gS Sum.inl (λ_=>.inr M) IS 100000 xw (λb=>0<=b) (λb Y _=>⟨by omega,by omega⟩) (λk z b Y ao F N=>?_) (λz b Y h=>by dsimp only;rw[aj (dk h)]) (u-a).toNat k z a ag (by omega) F ad
 dsimp only
 rw[ak (db ao),EC al,af]
 by_cases h:iW o.form.bz b p=true
 ·rw[h,if_pos rfl]
  exact aC (by omega)
 rw[om]at h
 rw[h,if_neg (by decide)]
 rw[h,if_neg (by decide)]at N
 have N:k+1<=100000:=N
 obtain⟨B,U⟩:=z
 have aq:B=k:=F.1
 have Z:=F.2 b
 dsimp only at Z
 simp only[eR]
 have e:gS (B,U) b=if 20000<B+1 then .inr ()else .inl (B+1,aH U b (an U b 0+1)):=rfl
 rw[e]
 refine(ea (λq=>aQ q _) (ak rfl)).trans ?_
 rw[aC (by omega),aC (by omega)]
 by_cases G:20000<B+1
 ·rw[if_pos G]
  exact ea (λq=>aQ q _) (ak (db G))
 rw[if_neg G]
 refine(ea (λq=>aQ q _) (aj (dk G))).trans ?_
 exact aC (n:=b+1) (by omega)
def YN{ω:Type}{o:Order}(Z:o.form.bz.length<=1048576){r:Repeat}{p:Int}{z:Int×MI}{k:Nat}(af:pk o.form.bars r)(M:o.form.bars<=4000)(ad:1<=p)(G:IS k z)(U:k+(jf o.form.bz r p).length<=100000)(F:ω) :
  (ay (λB:(Int×(Int×(List (Int×Int))))=>ab (leI B.1 r.times) (aQ (ay (λj:(Int×(Int×(List (Int×Int))))=>ab (ah j.1 r.aO) (aQ (aa (iD (o,(j.1,B.1))) λN=>ab (!N) (ae (ai ((an j.2.2 j.1 0)+1)) <|ae (ai (j.2.1+1)) <|ab (ah 20000 (j.2.1+1)) (some (.inr (.inr (.inr (.inr (.inr F)))))) (some (.inl ((j.2.1+1),(aH j.2.2 j.1 ((an j.2.2 j.1 0)+1)))))) (some (.inl (j.2.1,j.2.2)))) λ(N:(Int×(List (Int×Int))))=>ae (ai (j.1+1)) <|some (.inl ((j.1+1),(N.1,N.2)))) (some (.inr (.inl (j.2.1,j.2.2))))) (r.from_,(B.2.1,B.2.2))) λ(j:(Int×(List (Int×Int))))=>ae (ai (B.1+1)) <|some (.inl ((B.1+1),(j.1,j.2)))) (some (.inr (.inl (B.2.1,B.2.2))))) (p,(z.1,z.2)):Option ((Int×MI)⊕ω))=some (Sum.elim Sum.inl (λ_=>Sum.inr F) (eR gS (jf o.form.bz r p) z)):=by
 obtain⟨ag,al,ao,aq,O⟩:=af
 refine kT (λ(z:Int×MI) b=>(b,(z.1,z.2))) (r.times+1) (λq=>fS o.form.bz r.from_ r.aO q) (λi=>i+1) gS Sum.inl (λ_=>.inr F) IS 100000 xw (λb=>1<=b) (λb M _=>⟨by omega,by omega⟩) (λk z b M ar G Y=>?_) (λz b M h=>by dsimp only;rw[aj (dk (by omega))]) (r.times+1-p).toNat k z p ad (by omega) G U
 dsimp only
 rw[ak (db (by omega))]
 refine(fN (YM Z O (by omega) G Y _)).trans ?_
 cases eR gS (fS o.form.bz r.from_ r.aO b) z with
 |inl y=>exact aC (by omega)
 |inr w=>rfl
def M8{ω:Type}{o:Order}(h:kN o.form)(q:Repeat->Int)(aP:∀r∈o.form.aX,1<=q r/\q r<=r.times){a e:Int}{z:Int×MI}{k:Nat}(aK:0<=a)(aY:e<=o.form.bars)(Y:IS k z)(aJ:k+(dK o.form q a e).length<=100000)(U:ω)(F:(Int×MI)->ω) :
  (ay (λB:(Int×((List (Int×Int))×Int))=>ab (ah B.2.2 e) (aQ (aa (aQ (ay (λG:Int=>ab (ah G (o.form.aX.length:Int)) (aa (au o.form.aX G) λN=>ab (aA N.from_ B.2.2) (some (.inr (.inr G))) (ae (ai (G+1)) <|some (.inl (G+1)))) (some (.inr (.inl ())))) 0) λ(G:Unit)=>some (-1)) λ(G:Int)=>ab (ah G 0) (ae (ai ((an B.2.1 B.2.2 0)+1)) <|ae (ai (B.1+1)) <|ab (ah 20000 (B.1+1)) (some (.inr (.inr U))) (some (.inl ((B.1+1),((aH B.2.1 B.2.2 ((an B.2.1 B.2.2 0)+1)),B.2.2))))) (aa (au o.form.aX G) λN=>aa (some (q N)) λ(aT:Int)=>aQ (ay (λM:(Int×(Int×(List (Int×Int))))=>ab (leI M.1 N.times) (aQ (ay (λj:(Int×(Int×(List (Int×Int))))=>ab (ah j.1 N.aO) (aQ (aa (iD (o,(j.1,M.1))) λao=>ab (!ao) (ae (ai ((an j.2.2 j.1 0)+1)) <|ae (ai (j.2.1+1)) <|ab (ah 20000 (j.2.1+1)) (some (.inr (.inr (.inr (.inr (.inr (.inr (.inr U)))))))) (some (.inl ((j.2.1+1),(aH j.2.2 j.1 ((an j.2.2 j.1 0)+1)))))) (some (.inl (j.2.1,j.2.2)))) λ(ao:(Int×(List (Int×Int))))=>ae (ai (j.1+1)) <|some (.inl ((j.1+1),(ao.1,ao.2)))) (some (.inr (.inl (j.2.1,j.2.2))))) (N.from_,(M.2.1,M.2.2))) λ(j:(Int×(List (Int×Int))))=>ae (ai (M.1+1)) <|some (.inl ((M.1+1),(j.1,j.2)))) (some (.inr (.inl (M.2.1,M.2.2))))) (aT,(B.1,B.2.1))) λ(M:(Int×(List (Int×Int))))=>ae (ai (N.aO-1)) <|some (.inl (M.1,(M.2,(N.aO-1)))))) λ(G:(Int×((List (Int×Int))×Int)))=>ae (ai (G.2.2+1)) <|some (.inl (G.1,(G.2.1,(G.2.2+1))))) (some (.inr (F (B.1,B.2.1))))) (z.1,(z.2,a)):Option ω)=some (Sum.elim F (λ_=>U) (eR gS (dK o.form q a e) z)):=by
 obtain⟨⟨aU,aw⟩,ag,⟨aR,aL⟩,_⟩:=h
 refine kT (λ(z:Int×MI) b=>(z.1,(z.2,b))) e (l9 o.form q) (iZ o.form) gS F (λ_=>U) IS 100000 xw (λb=>0<=b) (λb av _=>?_) (λk z b av aM Y O=>?_) (λz b av h=>by dsimp only;rw[aj (dk h)]) (e-a).toNat k z a aK (by omega) Y aJ
 ·unfold iZ
  cases h:o.form.aX.find? λr=>decide (r.from_=b)with
  |none=>exact⟨by dsimp only;omega,by dsimp only;omega⟩
  |some r=>
   obtain⟨aB,aD,aE,aF,aG⟩:=ag r (hE h)
   have ar:r.from_=b:=hD (k7 (p:=λr:Repeat=>decide (r.from_=b)) h)
   exact⟨by dsimp only;omega,by dsimp only;omega⟩
 dsimp only
 rw[ak (db aM),Bf aR b,af]
 unfold ux
 unfold l9 at O⊢
 unfold iZ
 cases h:o.form.aX.find? λr=>decide (r.from_=b)with
 |none=>
  rw[h]at O
  rw[yK h]
  have O:k+1<=100000:=O
  obtain⟨Z,aq⟩:=z
  have aW:Z=k:=Y.1
  have ar:=Y.2 b
  dsimp only at ar
  simp only[eR]
  have e:gS (Z,aq) b=if 20000<Z+1 then .inr ()else .inl (Z+1,aH aq b (an aq b 0+1)):=rfl
  rw[e]
  refine(ea (λq=>aQ q _) (ak (by decide))).trans ?_
  rw[aC (by omega),aC (by omega)]
  by_cases ad:20000<Z+1
  ·rw[if_pos ad]
   exact ea (λq=>aQ q _) (ak (db ad))
  rw[if_neg ad]
  refine(ea (λq=>aQ q _) (aj (dk ad))).trans ?_
  exact aC (n:=b+1) (by omega)
 |some r=>
  rw[h]at O
  have al:=hE h
  obtain⟨aZ,ax,az,aV⟩:=vz h
  rw[ax]
  refine(ea (λq=>aQ q _) ((aj (dk (by omega))).trans ((aI (aS az)).trans (af _ _)))).trans ?_
  have aN:=YN aL (ag r al) aw (aP r al).1 Y O (ω:=(Int×MI×Int)⊕((Int×MI×Int)⊕ω)) (.inr (.inr U))
  refine(ea (λq=>aQ q _) (fN aN)).trans ?_
  obtain⟨aB,aD,aE,aF,aG⟩:=ag r al
  cases eR gS (jf o.form.bz r (q r)) z with
  |inl y=>
   refine(ea (λq=>aQ q _) (aC (by omega))).trans ?_
   refine(aC (n:=r.aO-1+1) (by omega)).trans ?_
   rw[abf];rfl
  |inr w=>rfl
def Dh:∀(l:List Int)(z:Int×MI),z.1<=20000->(match eR gS l z with |.inl y=>y.1=z.1+l.length/\y.1<=20000 |.inr _=>20000<z.1+l.length)
 | [],z,h=>⟨by simp,h⟩
 |x::l,z,h=>by
  have e:gS z x=if 20000<z.1+1 then .inr ()else .inl (z.1+1,aH z.2 x (an z.2 x 0+1)):=rfl
  simp only[eR,e]
  by_cases k:20000<z.1+1
  ·rw[if_pos k]
   simp only[List.length_cons];omega
  rw[if_neg k]
  have:=Dh l (z.1+1,aH z.2 x (an z.2 x 0+1)) (by dsimp only;omega)
  dsimp only at this⊢
  cases j:eR gS l (z.1+1,aH z.2 x (an z.2 x 0+1))with
  |inl y=>rw[j]at this;simp only[List.length_cons];dsimp only at this;omega
  |inr w=>rw[j]at this;simp only[List.length_cons];dsimp only at this;omega
def Of{f:Form}(h:kN f):lx f<=f.bars:=by
 unfold lx
 by_cases e:f.jump.at_=0
 ·rw[if_pos e];omega
 rw[if_neg e];exact h.2.2.2.1.1
def BB(f:Form):ab (aA f.jump.at_ 0) (some f.bars) (some f.jump.at_)=some (lx f):=by
 unfold lx
 by_cases e:f.jump.at_=0
 ·rw[if_pos e];exact ak (db e)
 rw[if_neg e];exact aj (dk e)
theorem WA{o:Order}(h:kN o.form):Am o=some (decide ((gL o.form).length<=20000)):=by
 obtain⟨⟨ae,af⟩,U,_,⟨ag,Z,ah,aa⟩,_⟩:=id h
 have O:=G2 h
 rw[G1 h]at O⊢
 have ab:∀r∈o.form.aX,1<=(λ_=>1:Repeat->Int) r/\(λ_=>1:Repeat->Int) r<=r.times:=λr M=>⟨by simp,(U r M).2.2.1⟩
 have ad:∀r∈o.form.aX,1<=r.times/\r.times<=r.times:=λr M=>⟨(U r M).2.2.1,by simp⟩
 have I0:IS 0 ((0,[]):Int×MI):=⟨rfl,λx=>by dsimp only;rw[oc];omega⟩
 rw[e4]at O⊢
 have k:=M8 h (λ_=>1) ab (Int.le_refl 0) (Of h) I0 (by omega) (ω:=(Int×MI)⊕(Unit⊕Bool)) (.inr (.inr false)) Sum.inl
 have j:=Dh (dK o.form (λ_=>1) 0 (lx o.form)) (0,[]) (by simp)
 unfold Am
 cases G:eR gS (dK o.form (λ_=>1) 0 (lx o.form)) (0,[])with
 |inr w=>
  rw[G]at k j
  dsimp only at j
  refine(fN (x:=.inr false) ((aI (BB o.form)).trans (fN k))).trans ?_
  exact ea some (dk (by omega)).symm
 |inl y=>
  rw[G]at k j
  dsimp only at j
  have Y:IS (dK o.form (λ_=>1) 0 (lx o.form)).length y:=by
   have:=yp xw _ _ _ _ I0 G
   rwa [ia]at this
  have F:=M8 h Repeat.times ad Z aa Y (by omega) (ω:=Unit⊕Bool) (.inr false) (λ_=>.inl ())
  have B:=Dh (dK o.form Repeat.times o.form.jump.to o.form.jump.cW) y j.2
  cases N:eR gS (dK o.form Repeat.times o.form.jump.to o.form.jump.cW) y with
  |inr w=>
   rw[N]at F B
   dsimp only at B
   refine(fN (x:=.inr false) ?_).trans (?_:_=_)
   ·refine(aI (BB o.form)).trans ?_
    refine(fN k).trans ?_
    exact F
   exact ea some (dk (by omega)).symm
  |inl w=>
   rw[N]at F B
   dsimp only at B
   refine(fN (x:=.inl ()) ?_).trans (?_:_=_)
   ·refine(aI (BB o.form)).trans ?_
    refine(fN k).trans ?_
    exact F
   exact ea some (db (by omega)).symm
def mN(l:List Cut)(v:aF):Bool:=l.any λc=>decide (c.from_<=v.az)&&(decide (v.az<c.aO)&&(decide (c.pass=0)||decide (c.pass=v.pass)))
def OL(a b c d:Bool):ab a (ab b (ab c (some true) (some d)) (some false)) (some false)=some (a&&(b&&(c||d))):=by cases a<;>cases b<;>cases c<;>rfl
def Vq{l:List Cut}(F:l.length<=1048576)(v:aF):iF (l,v)=some (mN l v):=by
 unfold iF Fh
 dsimp only
 rw[lE (l:=l) (λc=>decide (c.from_<=v.az)&&(decide (v.az<c.aO)&&(decide (c.pass=0)||decide (c.pass=v.pass)))) (λk x j=>by
  have B:=bx j
  unfold E4
  dsimp only
  rw[ak (by simpa using B),aY (aS j),OL,af,af]
  show ab (decide (x.from_<=v.az)&&(decide (v.az<x.aO)&&(decide (x.pass=0)||decide (x.pass=v.pass)))) _ _=_
  cases (decide (x.from_<=v.az)&&(decide (v.az<x.aO)&&(decide (x.pass=0)||decide (x.pass=v.pass))))
  ·rw[gA,aC (by omega)];rfl
  rfl) (by rw[aj (by simp)])]
 rfl
abbrev MV:=MI×List aF
def gU(l:List Cut)(z:MV)(x:Int):MV:=(aH z.1 x (an z.1 x 0+1),if mN l ⟨x,an z.1 x 0+1⟩then z.2 else z.2++[⟨x,an z.1 x 0+1⟩])
def IU(k:Nat)(z:MV):Prop:=z.2.length<=k/\∀x,0<=an z.1 x 0/\an z.1 x 0<=k
def qk(l:List Cut)(k:Nat)(z:MV)(x:Int)(y:MV)(j:IU k z)(h:(Sum.inl (gU l z x):MV⊕Empty) = .inl y):IU (k+1) y:=by
 cases h
 refine⟨?_,λw=>?_⟩
 ·have:=j.1
  unfold gU
  dsimp only
  cases mN l ⟨x,an z.1 x 0+1⟩
  ·simp;omega
  simp;omega
 unfold gU
 dsimp only
 rw[mX]
 have B:=j.2 x
 have F:=j.2 w
 by_cases e:w=x
 ·rw[if_pos e];omega
 rw[if_neg e];omega
def yN{N:Type}{l:List Cut}(M:l.length<=1048576){m:MI}{j:List aF}{x:Int}{k:Nat}(B:IU k (m,j))(U:k<=100000)(c:List aF->Option N) :
  (ae (ai ((an m x 0)+1)) <|aa (aa (iF (l,(⟨x,(an (aH m x ((an m x 0)+1)) x 0)⟩:aF))) λF=>ab (!F) (ae (decide ((List.append j ((⟨x,(an (aH m x ((an m x 0)+1)) x 0)⟩:aF)::([]:List aF))).length*16<=140737488355328/\(List.append j ((⟨x,(an (aH m x ((an m x 0)+1)) x 0)⟩:aF)::([]:List aF))).length<=9223372036854775807)) <|some (List.append j ((⟨x,(an (aH m x ((an m x 0)+1)) x 0)⟩:aF)::([]:List aF)))) (some j)) λ(F:List aF)=>c F)=c (gU l (m,j) x).2:=by
 have G:=B.2 x
 have O:j.length<=k:=B.1
 dsimp only at G
 rw[aC (by omega),Vq M,af,mX,if_pos rfl]
 unfold gU
 dsimp only
 cases mN l ⟨x,an m x 0+1⟩
 ·refine(aI (x:=j++[⟨x,an m x 0+1⟩]) ?_).trans rfl
  have e:(List.append j ((⟨x,an m x 0+1⟩:aF)::([]:List aF))).length=j.length+1:=e4
  exact cq (db (by rw[e];omega))
 rfl
def aav{o:Order}(Z:o.form.bz.length<=1048576)(Y:o.form.ba.length<=1048576){a u p:Int}{z:MV}{k:Nat}(U:0<=a)(ag:u<=1048576)(B:IU k z)(O:k+(fS o.form.bz a u p).length<=100000) :
  ay (λj:(Int×((List (Int×Int))×(List aF)))=>ab (ah j.1 u) (aa (aa (iD (o,(j.1,p))) λG=>ab (!G) (ae (ai ((an j.2.1 j.1 0)+1)) <|aa (aa (iF (o.form.ba,(⟨j.1,(an (aH j.2.1 j.1 ((an j.2.1 j.1 0)+1)) j.1 0)⟩:aF))) λN=>ab (!N) (ae (decide ((List.append j.2.2 ((⟨j.1,(an (aH j.2.1 j.1 ((an j.2.1 j.1 0)+1)) j.1 0)⟩:aF)::([]:List aF))).length*16<=140737488355328/\(List.append j.2.2 ((⟨j.1,(an (aH j.2.1 j.1 ((an j.2.1 j.1 0)+1)) j.1 0)⟩:aF)::([]:List aF))).length<=9223372036854775807)) <|some (List.append j.2.2 ((⟨j.1,(an (aH j.2.1 j.1 ((an j.2.1 j.1 0)+1)) j.1 0)⟩:aF)::([]:List aF)))) (some j.2.2)) λ(N:(List aF))=>some ((aH j.2.1 j.1 ((an j.2.1 j.1 0)+1)),N)) (some (j.2.1,j.2.2))) λ(G:((List (Int×Int))×(List aF)))=>ae (ai (j.1+1)) <|some (.inl ((j.1+1),(G.1,G.2)))) (some (.inr (j.2.1,j.2.2)))) (a,(z.1,z.2))=some ((List.foldl (gU o.form.ba) z (fS o.form.bz a u p)).1,(List.foldl (gU o.form.ba) z (fS o.form.bz a u p)).2):=by
 refine(kT (ρ:=Empty) (λ(z:MV) b=>(b,(z.1,z.2))) u (λi=>if iW o.form.bz i p then []else [i]) (λi=>i+1) (λz x=>.inl (gU o.form.ba z x)) (λz=>(z.1,z.2)) Empty.elim IU 100000 (qk o.form.ba) (λb=>0<=b) (λb M _=>⟨by omega,by omega⟩) (λk z b M ad B F=>?_) (λz b M h=>by dsimp only;rw[aj (dk h)]) (u-a).toNat k z a U (by omega) B O).trans (by rw[kO];rfl)
 dsimp only
 rw[ak (db ad),EC Z,af]
 by_cases h:iW o.form.bz b p=true
 ·rw[h,if_pos rfl]
  exact aC (by omega)
 rw[om]at h
 rw[h,if_neg (by decide)]
 rw[h,if_neg (by decide)]at F
 have F:k+1<=100000:=F
 refine(ea (λq=>aa q _) ((ak rfl).trans (yN Y B (by omega) _))).trans ?_
 exact aC (n:=b+1) (by omega)
theorem aax{o:Order}(ad:o.form.bz.length<=1048576)(Y:o.form.ba.length<=1048576){r:Repeat}{p:Int}{z:MV}{k:Nat}(ag:pk o.form.bars r)(G:o.form.bars<=4000)(af:1<=p)(F:IU k z)(U:k+(jf o.form.bz r p).length<=100000) :
  ay (λB:(Int×((List (Int×Int))×(List aF)))=>ab (leI B.1 r.times) (aa (ay (λj:(Int×((List (Int×Int))×(List aF)))=>ab (ah j.1 r.aO) (aa (aa (iD (o,(j.1,B.1))) λM=>ab (!M) (ae (ai ((an j.2.1 j.1 0)+1)) <|aa (aa (iF (o.form.ba,(⟨j.1,(an (aH j.2.1 j.1 ((an j.2.1 j.1 0)+1)) j.1 0)⟩:aF))) λN=>ab (!N) (ae (decide ((List.append j.2.2 ((⟨j.1,(an (aH j.2.1 j.1 ((an j.2.1 j.1 0)+1)) j.1 0)⟩:aF)::([]:List aF))).length*16<=140737488355328/\(List.append j.2.2 ((⟨j.1,(an (aH j.2.1 j.1 ((an j.2.1 j.1 0)+1)) j.1 0)⟩:aF)::([]:List aF))).length<=9223372036854775807)) <|some (List.append j.2.2 ((⟨j.1,(an (aH j.2.1 j.1 ((an j.2.1 j.1 0)+1)) j.1 0)⟩:aF)::([]:List aF)))) (some j.2.2)) λ(N:(List aF))=>some ((aH j.2.1 j.1 ((an j.2.1 j.1 0)+1)),N)) (some (j.2.1,j.2.2))) λ(M:((List (Int×Int))×(List aF)))=>ae (ai (j.1+1)) <|some (.inl ((j.1+1),(M.1,M.2)))) (some (.inr (j.2.1,j.2.2)))) (r.from_,(B.2.1,B.2.2))) λ(j:((List (Int×Int))×(List aF)))=>ae (ai (B.1+1)) <|some (.inl ((B.1+1),(j.1,j.2)))) (some (.inr (B.2.1,B.2.2)))) (p,(z.1,z.2))=some ((List.foldl (gU o.form.ba) z (jf o.form.bz r p)).1,(List.foldl (gU o.form.ba) z (jf o.form.bz r p)).2):=by
 obtain⟨al,ao,aq,ar,O⟩:=ag
 refine(kT (ρ:=Empty) (λ(z:MV) b=>(b,(z.1,z.2))) (r.times+1) (λq=>fS o.form.bz r.from_ r.aO q) (λi=>i+1) (λz x=>.inl (gU o.form.ba z x)) (λz=>(z.1,z.2)) Empty.elim IU 100000 (qk o.form.ba) (λb=>1<=b) (λb G _=>⟨by omega,by omega⟩) (λk z b G au F Z=>?_) (λz b G h=>by dsimp only;rw[aj (dk (by omega))]) (r.times+1-p).toNat k z p af (by omega) F U).trans (by rw[kO];rfl)
 dsimp only
 rw[ak (db (by omega)),kO]
 refine(aI (aav ad Y O (by omega) F Z)).trans ?_
 exact aC (n:=b+1) (by omega)
theorem aaw{o:Order}(h:kN o.form)(ag:o.form.ba.length<=1048576)(q:Repeat->Int)(aK:∀r∈o.form.aX,1<=q r/\q r<=r.times){a e:Int}{z:MV}{k:Nat}(aE:0<=a)(aT:e<=o.form.bars)(O:IU k z)(aD:k+(dK o.form q a e).length<=100000) :
  ay (λB:((List (Int×Int))×(Int×(List aF)))=>ab (ah B.2.1 e) (aa (aa (aQ (ay (λF:Int=>ab (ah F (o.form.aX.length:Int)) (aa (au o.form.aX F) λG=>ab (aA G.from_ B.2.1) (some (.inr (.inr F))) (ae (ai (F+1)) <|some (.inl (F+1)))) (some (.inr (.inl ())))) 0) λ(F:Unit)=>some (-1)) λ(F:Int)=>ab (ah F 0) (ae (ai ((an B.1 B.2.1 0)+1)) <|aa (aa (iF (o.form.ba,(⟨B.2.1,(an (aH B.1 B.2.1 ((an B.1 B.2.1 0)+1)) B.2.1 0)⟩:aF))) λG=>ab (!G) (ae (decide ((List.append B.2.2 ((⟨B.2.1,(an (aH B.1 B.2.1 ((an B.1 B.2.1 0)+1)) B.2.1 0)⟩:aF)::([]:List aF))).length*16<=140737488355328/\(List.append B.2.2 ((⟨B.2.1,(an (aH B.1 B.2.1 ((an B.1 B.2.1 0)+1)) B.2.1 0)⟩:aF)::([]:List aF))).length<=9223372036854775807)) <|some (List.append B.2.2 ((⟨B.2.1,(an (aH B.1 B.2.1 ((an B.1 B.2.1 0)+1)) B.2.1 0)⟩:aF)::([]:List aF)))) (some B.2.2)) λ(G:(List aF))=>some ((aH B.1 B.2.1 ((an B.1 B.2.1 0)+1)),(B.2.1,G))) (aa (au o.form.aX F) λG=>aa (some (q G)) λ(aM:Int)=>aa (ay (λM:(Int×((List (Int×Int))×(List aF)))=>ab (leI M.1 G.times) (aa (ay (λj:(Int×((List (Int×Int))×(List aF)))=>ab (ah j.1 G.aO) (aa (aa (iD (o,(j.1,M.1))) λZ=>ab (!Z) (ae (ai ((an j.2.1 j.1 0)+1)) <|aa (aa (iF (o.form.ba,(⟨j.1,(an (aH j.2.1 j.1 ((an j.2.1 j.1 0)+1)) j.1 0)⟩:aF))) λal=>ab (!al) (ae (decide ((List.append j.2.2 ((⟨j.1,(an (aH j.2.1 j.1 ((an j.2.1 j.1 0)+1)) j.1 0)⟩:aF)::([]:List aF))).length*16<=140737488355328/\(List.append j.2.2 ((⟨j.1,(an (aH j.2.1 j.1 ((an j.2.1 j.1 0)+1)) j.1 0)⟩:aF)::([]:List aF))).length<=9223372036854775807)) <|some (List.append j.2.2 ((⟨j.1,(an (aH j.2.1 j.1 ((an j.2.1 j.1 0)+1)) j.1 0)⟩:aF)::([]:List aF)))) (some j.2.2)) λ(al:(List aF))=>some ((aH j.2.1 j.1 ((an j.2.1 j.1 0)+1)),al)) (some (j.2.1,j.2.2))) λ(Z:((List (Int×Int))×(List aF)))=>ae (ai (j.1+1)) <|some (.inl ((j.1+1),(Z.1,Z.2)))) (some (.inr (j.2.1,j.2.2)))) (G.from_,(M.2.1,M.2.2))) λ(j:((List (Int×Int))×(List aF)))=>ae (ai (M.1+1)) <|some (.inl ((M.1+1),(j.1,j.2)))) (some (.inr (M.2.1,M.2.2)))) (aM,(B.1,B.2.2))) λ(M:((List (Int×Int))×(List aF)))=>ae (ai (G.aO-1)) <|some (M.1,((G.aO-1),M.2)))) λ(F:((List (Int×Int))×(Int×(List aF))))=>ae (ai (F.2.1+1)) <|some (.inl (F.1,((F.2.1+1),F.2.2)))) (some (.inr (B.2.2,B.1)))) (z.1,(a,z.2))=some ((List.foldl (gU o.form.ba) z (dK o.form q a e)).2,(List.foldl (gU o.form.ba) z (dK o.form q a e)).1):=by
 obtain⟨⟨aN,ao⟩,U,⟨aL,aG⟩,_⟩:=h
 refine(kT (ρ:=Empty) (λ(z:MV) b=>(z.1,(b,z.2))) e (l9 o.form q) (iZ o.form) (λz x=>.inl (gU o.form.ba z x)) (λz=>(z.2,z.1)) Empty.elim IU 100000 (qk o.form.ba) (λb=>0<=b) (λb ad _=>?_) (λk z b ad aJ O N=>?_) (λz b ad h=>by dsimp only;rw[aj (dk h)]) (e-a).toNat k z a aE (by omega) O aD).trans (by rw[kO];rfl)
 ·unfold iZ
  cases h:o.form.aX.find? λr=>decide (r.from_=b)with
  |none=>exact⟨by dsimp only;omega,by dsimp only;omega⟩
  |some r=>
   obtain⟨av,aw,ax,az,aB⟩:=U r (hE h)
   have aR:r.from_=b:=hD (k7 (p:=λr:Repeat=>decide (r.from_=b)) h)
   exact⟨by dsimp only;omega,by dsimp only;omega⟩
 dsimp only
 rw[ak (db aJ),Bf aL b,af,kO]
 unfold ux
 unfold l9 at N⊢
 unfold iZ
 cases h:o.form.aX.find? λr=>decide (r.from_=b)with
 |none=>
  rw[h]at N
  rw[yK h]
  have N:k+1<=100000:=N
  refine(ea (λq=>aa q _) ((ak (by decide)).trans (yN ag O (by omega) _))).trans ?_
  exact aC (n:=b+1) (by omega)
 |some r=>
  rw[h]at N
  have Y:=hE h
  obtain⟨aU,aq,ar,aP⟩:=vz h
  rw[aq]
  obtain⟨av,aw,ax,az,aB⟩:=U r Y
  refine(ea (λq=>aa q _) ((aj (dk (by omega))).trans ((aI (aS ar)).trans ((af _ _).trans ((aI (aax aG ag (U r Y) ao (aK r Y).1 O N)).trans (aC (n:=r.aO-1) (by omega))))))).trans ?_
  refine(aC (n:=r.aO-1+1) (by omega)).trans ?_
  rw[abf];rfl
def aay{o:Order}(Z:o.form.bz.length<=1048576)(Y:o.form.ba.length<=1048576){a u p:Int}{z:MV}{k:Nat}(U:0<=a)(ag:u<=1048576)(B:IU k z)(O:k+(fS o.form.bz a u p).length<=100000) :
  ay (λj:(Int×((List aF)×(List (Int×Int))))=>ab (ah j.1 u) (aa (aa (iD (o,(j.1,p))) λG=>ab (!G) (ae (ai ((an j.2.2 j.1 0)+1)) <|aa (aa (iF (o.form.ba,(⟨j.1,(an (aH j.2.2 j.1 ((an j.2.2 j.1 0)+1)) j.1 0)⟩:aF))) λN=>ab (!N) (ae (decide ((List.append j.2.1 ((⟨j.1,(an (aH j.2.2 j.1 ((an j.2.2 j.1 0)+1)) j.1 0)⟩:aF)::([]:List aF))).length*16<=140737488355328/\(List.append j.2.1 ((⟨j.1,(an (aH j.2.2 j.1 ((an j.2.2 j.1 0)+1)) j.1 0)⟩:aF)::([]:List aF))).length<=9223372036854775807)) <|some (List.append j.2.1 ((⟨j.1,(an (aH j.2.2 j.1 ((an j.2.2 j.1 0)+1)) j.1 0)⟩:aF)::([]:List aF)))) (some j.2.1)) λ(N:(List aF))=>some ((aH j.2.2 j.1 ((an j.2.2 j.1 0)+1)),N)) (some (j.2.2,j.2.1))) λ(G:((List (Int×Int))×(List aF)))=>ae (ai (j.1+1)) <|some (.inl ((j.1+1),(G.2,G.1)))) (some (.inr (j.2.1,j.2.2)))) (a,(z.2,z.1))=some ((List.foldl (gU o.form.ba) z (fS o.form.bz a u p)).2,(List.foldl (gU o.form.ba) z (fS o.form.bz a u p)).1):=by
 refine(kT (ρ:=Empty) (λ(z:MV) b=>(b,(z.2,z.1))) u (λi=>if iW o.form.bz i p then []else [i]) (λi=>i+1) (λz x=>.inl (gU o.form.ba z x)) (λz=>(z.2,z.1)) Empty.elim IU 100000 (qk o.form.ba) (λb=>0<=b) (λb M _=>⟨by omega,by omega⟩) (λk z b M ad B F=>?_) (λz b M h=>by dsimp only;rw[aj (dk h)]) (u-a).toNat k z a U (by omega) B O).trans (by rw[kO];rfl)
 dsimp only
 rw[ak (db ad),EC Z,af]
 by_cases h:iW o.form.bz b p=true
 ·rw[h,if_pos rfl]
  exact aC (by omega)
 rw[om]at h
 rw[h,if_neg (by decide)]
 rw[h,if_neg (by decide)]at F
 have F:k+1<=100000:=F
 refine(ea (λq=>aa q _) ((ak rfl).trans (yN Y B (by omega) _))).trans ?_
 exact aC (n:=b+1) (by omega)
theorem aaA{o:Order}(ad:o.form.bz.length<=1048576)(Y:o.form.ba.length<=1048576){r:Repeat}{p:Int}{z:MV}{k:Nat}(ag:pk o.form.bars r)(G:o.form.bars<=4000)(af:1<=p)(F:IU k z)(U:k+(jf o.form.bz r p).length<=100000) :
  ay (λB:(Int×((List aF)×(List (Int×Int))))=>ab (leI B.1 r.times) (aa (ay (λj:(Int×((List aF)×(List (Int×Int))))=>ab (ah j.1 r.aO) (aa (aa (iD (o,(j.1,B.1))) λM=>ab (!M) (ae (ai ((an j.2.2 j.1 0)+1)) <|aa (aa (iF (o.form.ba,(⟨j.1,(an (aH j.2.2 j.1 ((an j.2.2 j.1 0)+1)) j.1 0)⟩:aF))) λN=>ab (!N) (ae (decide ((List.append j.2.1 ((⟨j.1,(an (aH j.2.2 j.1 ((an j.2.2 j.1 0)+1)) j.1 0)⟩:aF)::([]:List aF))).length*16<=140737488355328/\(List.append j.2.1 ((⟨j.1,(an (aH j.2.2 j.1 ((an j.2.2 j.1 0)+1)) j.1 0)⟩:aF)::([]:List aF))).length<=9223372036854775807)) <|some (List.append j.2.1 ((⟨j.1,(an (aH j.2.2 j.1 ((an j.2.2 j.1 0)+1)) j.1 0)⟩:aF)::([]:List aF)))) (some j.2.1)) λ(N:(List aF))=>some ((aH j.2.2 j.1 ((an j.2.2 j.1 0)+1)),N)) (some (j.2.2,j.2.1))) λ(M:((List (Int×Int))×(List aF)))=>ae (ai (j.1+1)) <|some (.inl ((j.1+1),(M.2,M.1)))) (some (.inr (j.2.1,j.2.2)))) (r.from_,(B.2.1,B.2.2))) λ(j:((List aF)×(List (Int×Int))))=>ae (ai (B.1+1)) <|some (.inl ((B.1+1),(j.1,j.2)))) (some (.inr (B.2.1,B.2.2)))) (p,(z.2,z.1))=some ((List.foldl (gU o.form.ba) z (jf o.form.bz r p)).2,(List.foldl (gU o.form.ba) z (jf o.form.bz r p)).1):=by
 obtain⟨al,ao,aq,ar,O⟩:=ag
 refine(kT (ρ:=Empty) (λ(z:MV) b=>(b,(z.2,z.1))) (r.times+1) (λq=>fS o.form.bz r.from_ r.aO q) (λi=>i+1) (λz x=>.inl (gU o.form.ba z x)) (λz=>(z.2,z.1)) Empty.elim IU 100000 (qk o.form.ba) (λb=>1<=b) (λb G _=>⟨by omega,by omega⟩) (λk z b G au F Z=>?_) (λz b G h=>by dsimp only;rw[aj (dk (by omega))]) (r.times+1-p).toNat k z p af (by omega) F U).trans (by rw[kO];rfl)
 dsimp only
 rw[ak (db (by omega)),kO]
 refine(aI (aay ad Y O (by omega) F Z)).trans ?_
 exact aC (n:=b+1) (by omega)
theorem aaz{o:Order}(h:kN o.form)(ag:o.form.ba.length<=1048576)(q:Repeat->Int)(aK:∀r∈o.form.aX,1<=q r/\q r<=r.times){a e:Int}{z:MV}{k:Nat}(aE:0<=a)(aT:e<=o.form.bars)(O:IU k z)(aD:k+(dK o.form q a e).length<=100000) :
  ay (λB:((List aF)×((List (Int×Int))×Int))=>ab (ah B.2.2 e) (aa (aa (aQ (ay (λF:Int=>ab (ah F (o.form.aX.length:Int)) (aa (au o.form.aX F) λM=>ab (aA M.from_ B.2.2) (some (.inr (.inr F))) (ae (ai (F+1)) <|some (.inl (F+1)))) (some (.inr (.inl ())))) 0) λ(F:Unit)=>some (-1)) λ(F:Int)=>ab (ah F 0) (ae (ai ((an B.2.1 B.2.2 0)+1)) <|aa (aa (iF (o.form.ba,(⟨B.2.2,(an (aH B.2.1 B.2.2 ((an B.2.1 B.2.2 0)+1)) B.2.2 0)⟩:aF))) λM=>ab (!M) (ae (decide ((List.append B.1 ((⟨B.2.2,(an (aH B.2.1 B.2.2 ((an B.2.1 B.2.2 0)+1)) B.2.2 0)⟩:aF)::([]:List aF))).length*16<=140737488355328/\(List.append B.1 ((⟨B.2.2,(an (aH B.2.1 B.2.2 ((an B.2.1 B.2.2 0)+1)) B.2.2 0)⟩:aF)::([]:List aF))).length<=9223372036854775807)) <|some (List.append B.1 ((⟨B.2.2,(an (aH B.2.1 B.2.2 ((an B.2.1 B.2.2 0)+1)) B.2.2 0)⟩:aF)::([]:List aF)))) (some B.1)) λ(M:(List aF))=>some ((aH B.2.1 B.2.2 ((an B.2.1 B.2.2 0)+1)),(B.2.2,M))) (aa (au o.form.aX F) λM=>aa (some (q M)) λ(aM:Int)=>aa (ay (λG:(Int×((List aF)×(List (Int×Int))))=>ab (leI G.1 M.times) (aa (ay (λj:(Int×((List aF)×(List (Int×Int))))=>ab (ah j.1 M.aO) (aa (aa (iD (o,(j.1,G.1))) λZ=>ab (!Z) (ae (ai ((an j.2.2 j.1 0)+1)) <|aa (aa (iF (o.form.ba,(⟨j.1,(an (aH j.2.2 j.1 ((an j.2.2 j.1 0)+1)) j.1 0)⟩:aF))) λal=>ab (!al) (ae (decide ((List.append j.2.1 ((⟨j.1,(an (aH j.2.2 j.1 ((an j.2.2 j.1 0)+1)) j.1 0)⟩:aF)::([]:List aF))).length*16<=140737488355328/\(List.append j.2.1 ((⟨j.1,(an (aH j.2.2 j.1 ((an j.2.2 j.1 0)+1)) j.1 0)⟩:aF)::([]:List aF))).length<=9223372036854775807)) <|some (List.append j.2.1 ((⟨j.1,(an (aH j.2.2 j.1 ((an j.2.2 j.1 0)+1)) j.1 0)⟩:aF)::([]:List aF)))) (some j.2.1)) λ(al:(List aF))=>some ((aH j.2.2 j.1 ((an j.2.2 j.1 0)+1)),al)) (some (j.2.2,j.2.1))) λ(Z:((List (Int×Int))×(List aF)))=>ae (ai (j.1+1)) <|some (.inl ((j.1+1),(Z.2,Z.1)))) (some (.inr (j.2.1,j.2.2)))) (M.from_,(G.2.1,G.2.2))) λ(j:((List aF)×(List (Int×Int))))=>ae (ai (G.1+1)) <|some (.inl ((G.1+1),(j.1,j.2)))) (some (.inr (G.2.1,G.2.2)))) (aM,(B.1,B.2.1))) λ(G:((List aF)×(List (Int×Int))))=>ae (ai (M.aO-1)) <|some (G.2,((M.aO-1),G.1)))) λ(F:((List (Int×Int))×(Int×(List aF))))=>ae (ai (F.2.1+1)) <|some (.inl (F.2.2,(F.1,(F.2.1+1))))) (some (.inr B.1))) (z.2,(z.1,a))=some (List.foldl (gU o.form.ba) z (dK o.form q a e)).2:=by
 obtain⟨⟨aN,ao⟩,U,⟨aL,aG⟩,_⟩:=h
 refine(kT (ρ:=Empty) (λ(z:MV) b=>(z.2,(z.1,b))) e (l9 o.form q) (iZ o.form) (λz x=>.inl (gU o.form.ba z x)) (λz=>z.2) Empty.elim IU 100000 (qk o.form.ba) (λb=>0<=b) (λb ad _=>?_) (λk z b ad aJ O N=>?_) (λz b ad h=>by dsimp only;rw[aj (dk h)]) (e-a).toNat k z a aE (by omega) O aD).trans (by rw[kO];rfl)
 ·unfold iZ
  cases h:o.form.aX.find? λr=>decide (r.from_=b)with
  |none=>exact⟨by dsimp only;omega,by dsimp only;omega⟩
  |some r=>
   obtain⟨av,aw,ax,az,aB⟩:=U r (hE h)
   have aR:r.from_=b:=hD (k7 (p:=λr:Repeat=>decide (r.from_=b)) h)
   exact⟨by dsimp only;omega,by dsimp only;omega⟩
 dsimp only
 rw[ak (db aJ),Bf aL b,af,kO]
 unfold ux
 unfold l9 at N⊢
 unfold iZ
 cases h:o.form.aX.find? λr=>decide (r.from_=b)with
 |none=>
  rw[h]at N
  rw[yK h]
  have N:k+1<=100000:=N
  refine(ea (λq=>aa q _) ((ak (by decide)).trans (yN ag O (by omega) _))).trans ?_
  exact aC (n:=b+1) (by omega)
 |some r=>
  rw[h]at N
  have Y:=hE h
  obtain⟨aU,aq,ar,aP⟩:=vz h
  rw[aq]
  obtain⟨av,aw,ax,az,aB⟩:=U r Y
  refine(ea (λq=>aa q _) ((aj (dk (by omega))).trans ((aI (aS ar)).trans ((af _ _).trans ((aI (aaA aG ag (U r Y) ao (aK r Y).1 O N)).trans (aC (n:=r.aO-1) (by omega))))))).trans ?_
  refine(aC (n:=r.aO-1+1) (by omega)).trans ?_
  rw[abf];rfl
end Go.Proofs.YthhlipkkjippfaaGreatDoor
namespace Go.Proofs.YthhlipkkjippfaaGreatDoor
open Go Go.ag Go.Sy
attribute [local instance] bV cB
def ll(f:Form):Bool:=decide (1<=f.bars)&&(decide (f.bars<=4000)&&(nj f.bars f.aX&&(o8 f&&(mJ f&&(sF f&&decide ((gL f).length<=20000))))))
def pX(f:Form):Prop:=f.aX.length<=1048576/\f.bz.length<=1048576/\f.ba.length<=1048576
def CX{f:Form}(B:pX f)(F:1<=f.bars)(G:f.bars<=4000)(k:nj f.bars f.aX=true)(hj:mJ f=true):kN f:=by
 simp only[nj,dd]at k
 have M:=MH f.bars f.aX 0 (by omega) k.2
 have j:(f.jump.at_<=f.bars/\0<=f.jump.to/\f.jump.to<=f.bars/\f.jump.cW<=f.bars)/\(f.jump.at_=0->f.jump.cW<=f.jump.to):=by
  simp only[mJ,h6,dd,hC,nh,ek,hV]at hj
  rcases hj with hj|hj
  ·rw[hj];dsimp only;omega
  omega
 exact⟨⟨F,G⟩,M,⟨B.1,B.2.1⟩,j.1,j.2⟩
def Jq{f:Form}(j:pX f)(h:ll f=true):kN f:=by
 simp only[ll,dd,ek]at h
 exact CX j h.1 h.2.1 h.2.2.1 h.2.2.2.2.1
def Yl{f:Form}(F:pX f):Ag f=some (ll f):=by
 obtain⟨B,M,G⟩:=id F
 unfold Ag ll
 refine(aI (x:=decide (1<=f.bars)&&(decide (f.bars<=4000)&&(nj f.bars f.aX&&(o8 f&&(mJ f&&(sF f&&decide ((gL f).length<=20000))))))) ?_).trans rfl
 by_cases j:1<=f.bars
 ·by_cases k:f.bars<=4000
  ·refine(ak (db j)).trans ((ak (db k)).trans ?_)
   rw[db j,db k,o0,o0]
   refine(aI (Wp (o:=⟨f⟩) B)).trans ?_
   dsimp only
   cases N:nj f.bars f.aX
   ·rfl
   refine(ak rfl).trans ((aI (Wo (o:=⟨f⟩) B M)).trans ?_)
   dsimp only
   cases U:o8 f
   ·rfl
   refine(ak rfl).trans ((aI (Wz (o:=⟨f⟩) B)).trans ?_)
   dsimp only
   cases O:mJ f
   ·rfl
   refine(ak rfl).trans ((aI (Wn (o:=⟨f⟩) G)).trans ?_)
   dsimp only
   cases Y:sF f
   ·rfl
   refine(ak rfl).trans ((aI (WA (o:=⟨f⟩) (CX F j k N O))).trans ?_)
   rfl
  refine(ak (db j)).trans ((aj (dk k)).trans ?_)
  rw[dk k,xd,Qx]
 refine(aj (dk j)).trans ?_
 rw[dk j,xd]
def bN(f:Form):List aF:=((gL f).foldl (gU f.ba) ([],[])).2
def Mu{f:Form}(k:pX f):rA f=some (if ll f then(bN f,0)else([],1)):=by
 unfold rA
 refine(aI (Yl k)).trans ?_
 cases h:ll f
 ·rfl
 refine(aj rfl).trans ?_
 have j:=Jq k h
 have M:=G2 j
 obtain⟨⟨ab,ad⟩,G,_,⟨ae,N,af,O⟩,_⟩:=id j
 have Z:∀r∈f.aX,1<=(λ_=>1:Repeat->Int) r/\(λ_=>1:Repeat->Int) r<=r.times:=λr B=>⟨by simp,(G r B).2.2.1⟩
 have aa:∀r∈f.aX,1<=r.times/\r.times<=r.times:=λr B=>⟨(G r B).2.2.1,by simp⟩
 have e:bN f=((dK f Repeat.times f.jump.to f.jump.cW).foldl (gU f.ba) ((dK f (λ_=>1) 0 (lx f)).foldl (gU f.ba) ([],[]))).2:=by
  unfold bN;rw[G1 j,zv]
 rw[G1 j,e4]at M
 rw[if_pos rfl,e]
 have I0:IU 0 (([],[]):MV):=⟨by simp,λx=>by dsimp only;rw[oc];omega⟩
 have U:=aaw (o:=⟨f⟩) j k.2.2 (λ_=>1) Z (Int.le_refl 0) (Of j) I0 (by dsimp only;omega)
 have F:=yp (qk f.ba) (dK f (λ_=>1) 0 (lx f)) 0 _ _ I0 (kO (gU f.ba) _ _)
 rw[ia]at F
 have Y:=aaz (o:=⟨f⟩) j k.2.2 Repeat.times aa N O F (by dsimp only;omega)
 refine(aI (x:=((dK f Repeat.times f.jump.to f.jump.cW).foldl (gU f.ba) ((dK f (λ_=>1) 0 (lx f)).foldl (gU f.ba) ([],[]))).2) ?_).trans rfl
 refine(aI (BB f)).trans ?_
 refine(aI U).trans ?_
 exact Y
def X8{α:Type}[DecidableEq α](ok:α->Bool)(l:List α):∀(n:Nat),n<=l.length->((List.range n).any (λk=>(l[k]?).any λc=>!ok c||(l.take k).any (λx=>decide (x=c)))=true↔¬((∀c∈l.take n,ok c=true)/\(l.take n).Nodup)):=by
 intro n
 induction n with
 |zero=>intro _;simp
 |succ n Z=>
  intro aa
  have F:l[n]?=some l[n]:=c4 (by omega)
  rw[J3,List.any_append,h6,Z (by omega),T0,F]
  generalize l[n]=c at F
  simp only[h6,hC,List.any_cons,List.any_nil,Bool.or_false,F,Option.any_some,Option.toList_some,h5,p5,sx,hU,ek]
  constructor
  ·rintro(h|h| ⟨x,j,G⟩) ⟨B,M,_,N⟩
   ·exact h ⟨λc Y=>B c (.inl Y),M⟩
   ·have:=B c (.inr rfl);rw[h]at this;exact nomatch this
   exact N x j c (by simp) G
  intro h
  by_cases j:(∀c∈l.take n,ok c=true)/\(l.take n).Nodup
  ·right
   by_cases G:ok c=true
   ·right
    by_cases B:c∈l.take n
    ·exact⟨c,B,rfl⟩
    exact absurd ⟨λx F=>F.elim (j.1 x) (λe=>e▸G),j.2,by simp,λa O b U e=>by
     exact B (U▸e▸O)⟩ h
   left;simpa using G
  exact .inl j
def XQ{f:Form}(O:pX f):zZ f=some (ll f):=by
 obtain⟨M,ag,aw⟩:=id O
 unfold zZ ll
 by_cases F:1<=f.bars
 ·rw[db F,o0]
  by_cases G:f.bars<=4000
  ·rw[db G,o0]
   have U:∀(a b c:Bool)(l:Int),(ab (ah f.bars 1) (some true) (ab (ah 4000 f.bars) (some true) (aa (some a) λay=>ab (!ay) (some true) (aa (some b) λaz=>ab (!az) (some true) (aa (some c) λj=>ab (!j) (some true) (some (ah 100 l)))))))=some (!(a&&(b&&(c && !ah 100 l)))):=by
    intro a b c l
    refine(aj (dk (by omega))).trans ((aj (dk (by omega))).trans ?_)
    cases a<;>cases b<;>cases c<;>cases ah 100 l<;>rfl
   rw[XX M,XS M ag,XV M]
   refine(aI (U _ _ _ _)).trans ?_
   cases ao:nj f.bars f.aX
   ·rfl
   cases ax:o8 f
   ·rfl
   cases aq:mJ f
   ·rfl
   have al:=CX O F G ao aq
   unfold sF
   by_cases N:f.ba.length<=100
   ·rw[db N,o0]
    refine(aj (show(!(true&&(true&&(true && !ah 100 (f.ba.length:Int)))))=false by
     have:ah 100 (f.ba.length:Int)=false:=dk (by omega)
     rw[this];rfl)).trans ?_
    rw[pw f.ba.length (λk=>(f.ba[k]?).any λc=>!decide (iy f.bars c)||(f.ba.take k).any (λx=>decide (x=c))) false (λk an=>by
     have B:f.ba[k]?=some f.ba[k]:=c4 an
     generalize f.ba[k]=c at B
     rw[B,Option.any_some]
     have Y:∀(a m:Bool)(q:Unit⊕Bool)(i:Int)(hi:ai i=true),aa (aa (some a) λj=>ab (!j) (some true) (some m)) (λ(j:Bool)=>ab j (some (.inr q:Int⊕(Unit⊕Bool))) (ae (ai i) <|some (.inl i)))=some (if(!a||m)=true then .inr q else .inl i):=by
      intro a m q i hi
      cases a<;>cases m<;>first|rfl|exact cq hi
     have Z:aa (au f.ba (k:Int)) (λj=>aa (wu (f,j)) λaA=>ab (!aA) (some true) (ae ((leI 0 (k:Int))&&(leI (k:Int) (f.ba.length:Int))) <|aa (au f.ba (k:Int)) λar=>aa (wv ((List.take (Int.toNat (k:Int)) f.ba),ar)) λav=>some (leI 0 av)))=aa (some (decide (iy f.bars c))) λj=>ab (!j) (some true) (some ((f.ba.take k).any (λx=>decide (x=c)))):=by
      refine(aI (aS B)).trans ?_
      rw[XR,af,af]
      congr 1
      refine(cq (show(leI 0 (k:Int)&&leI (k:Int) (f.ba.length:Int))=true by rw[dd];exact⟨db (by omega),db (by omega)⟩)).trans ?_
      refine(aI (aS B)).trans ?_
      rw[Int.toNat_natCast]
      refine(aI (XT (by rw[fa];omega) c)).trans ?_
      exact ea some (Dw _ _)
     refine(ak (db (by omega))).trans ?_
     refine(ea (λq=>aa q _) Z).trans ?_
     exact Y _ _ _ _ (Dx (by omega))) (by rw[aj (dk (by omega))])]
    have ad:(List.range f.ba.length).any (λk=>(f.ba[k]?).any λc=>!decide (iy f.bars c)||(f.ba.take k).any (λx=>decide (x=c))) = !decide ((∀c∈f.ba,iy f.bars c)/\f.ba.Nodup):=by
     have:=X8 (λc=>decide (iy f.bars c)) f.ba f.ba.length (eb _)
     rw[List.take_length]at this
     rw[hI,this,hC,hV]
     simp only[ek]
    rw[ad]
    cases decide ((∀c∈f.ba,iy f.bars c)/\f.ba.Nodup)
    ·rfl
    refine(aI (XZ al)).trans ?_
    refine ea some ?_
    rw[hI]
    simp[leI]
    omega
   rw[dk N]
   refine(ak (show(!(true&&(true&&(true && !ah 100 (f.ba.length:Int)))))=true by
    have:ah 100 (f.ba.length:Int)=true:=db (by omega)
    rw[this];rfl)).trans ?_
   rfl
  rw[dk G,xd]
  refine(aI (x:=true) ((aj (dk (by omega))).trans (ak (db (by omega))))).trans rfl
 rw[dk F,xd]
 refine(aI (x:=true) (ak (db (by omega)))).trans rfl
end Go.Proofs.YthhlipkkjippfaaGreatDoor
namespace Go.Proofs.YthhlipkkjippfaaGreatDoor
open Go Go.ag Go.Sy
attribute [local instance] bV cB
def GU(f:Form):List aF:=((gL f).foldl (gU []) ([],[])).2
def JC(cs:List Cut):∀(l:List Int)(z w:MV),z.1=w.1->z.2=w.2.filter (λv=>!mN cs v)->(l.foldl (gU cs) z).1=(l.foldl (gU []) w).1/\(l.foldl (gU cs) z).2=(l.foldl (gU []) w).2.filter (λv=>!mN cs v)
 | [],z,w,h1,j=>⟨h1,j⟩
 |x::l,z,w,h1,j=>by
  refine JC cs l (gU cs z x) (gU [] w x) ?_ ?_
  ·unfold gU;rw[h1]
  unfold gU
  dsimp only
  rw[h1]
  have e:(if mN [] ⟨x,an w.1 x 0+1⟩=true then w.2 else w.2++[⟨x,an w.1 x 0+1⟩])=w.2++[⟨x,an w.1 x 0+1⟩]:=rfl
  rw[e,List.filter_append]
  cases k:mN cs ⟨x,an w.1 x 0+1⟩
  ·rw[if_neg (λh=>nomatch h),j];simp[k]
  rw[if_pos rfl,j];simp[k]
def aaB(f:Form):bN f=(GU f).filter (λv=>!mN f.ba v):=(JC f.ba (gL f) ([],[]) ([],[]) rfl rfl).2
def aaI(f:Form):(GU f).length<=(gL f).length:=by
 have:∀(l:List Int)(z:MV),(l.foldl (gU []) z).2.length<=z.2.length+l.length:=by
  intro l
  induction l with
  |nil=>intro z;simp
  |cons x l j=>
   intro z
   have:=j (gU [] z x)
   have e:(gU [] z x).2.length=z.2.length+1:=by
    unfold gU;dsimp only
    have e:mN [] ⟨x,an z.1 x 0+1⟩=false:=rfl
    rw[e];simp
   rw[List.foldl_cons,List.length_cons];omega
 have:=this (gL f) ([],[])
 simpa [GU]using this
end Go.Proofs.YthhlipkkjippfaaGreatDoor
namespace Go.Proofs.YthhlipkkjippfaaGreatDoor
open Go Go.ag Go.Sy
attribute [local instance] bV cB
def jz{α:Type}(key:α->Int)(m:List (Int×List α))(x:α):List (Int×List α):=aH m (key x) (an m (key x) []++[x])
def yA{α:Type}(key:α->Int)(k:Int):∀(l:List α)(m:List (Int×List α)),an (l.foldl (jz key) m) k []=an m k []++l.filter λx=>decide (key x=k)
 | [],m=>by simp
 |x::l,m=>by
  rw[List.foldl_cons,yA key k l,kB]
  unfold jz
  rw[mX]
  by_cases h:k=key x
  ·rw[if_pos h,h,if_pos (by simp)];simp
  rw[if_neg h,if_neg (by simp;exact λe=>h e.symm)]
def Dt{α:Type}(key:α->Int):∀(l:List α)(m:List (Int×List α))(n:Nat),(∀k,(an m k []).length<=n)->∀k,(an (l.foldl (jz key) m) k []).length<=n+l.length
 | [],m,n,h,k=>by simpa using h k
 |x::l,m,n,h,k=>by
  rw[List.foldl_cons,List.length_cons]
  have:=Dt key l (jz key m x) (n+1) (λk=>by
   unfold jz
   rw[mX]
   by_cases e:k=key x
   ·rw[if_pos e,e4]
    have:=h (key x)
    simp;omega
   rw[if_neg e];have:=h k;omega) k
  omega
def Uu{ns:List aq}(Y:ns.length<=1000000):ay (λB:(Int×(List (Int×(List aq))))=>ab (ah B.1 (ns.length:Int)) (aa (au ns B.1) λF=>ae (decide ((List.append (an B.2 F.az ([]:List aq)) (F::([]:List aq))).length*96<=140737488355328/\(List.append (an B.2 F.az ([]:List aq)) (F::([]:List aq))).length<=9223372036854775807)) <|ae (ai (B.1+1)) <|some (.inl ((B.1+1),(aH B.2 F.az (List.append (an B.2 F.az ([]:List aq)) (F::([]:List aq))))))) (some (.inr B.2))) (0,([]:List (Int×(List aq))))=some (ns.foldl (jz aq.az) []):=by
 refine(dm (st:=λ(z:List (Int×List aq)) k=>(k,z)) (l:=ns) (λz x=>.inl (jz aq.az z x)) (λz=>z) (λk z=>∀j,(an z j []).length<=k) (λk x z M G=>?_) (λk x z z' _ G N=>by
  cases N
  intro j
  have:=Dt aq.az [x] z k G j
  simpa using this) (λz _=>by dsimp only;rw[aj (by simp)]) [] (λj=>by rw[oc];simp)).trans (ea some (eS (jz aq.az) ns [] (λ_ _ _=>rfl)))
 have U:=bx M
 have O:=G x.az
 dsimp only
 have e:(List.append (an z x.az ([]:List aq)) (x::([]:List aq))).length=(an z x.az ([]:List aq)).length+1:=e4
 rw[ak (db (by omega)),aY (aS M),cq (db (by rw[e];omega)),aC (by omega)]
 rfl
def nr(t:Int)(n:aq):aw:=⟨n.part,dx (t+bp n.start),n.length,n.aR⟩
def gh(bars:List aM)(snd:aM->List aq):List aF->Int->List aw
 | [],_=>[]
 |v::vs,t=>match bars[v.az.toNat]? with
  |some b=>(snd b).map (nr t)++gh bars snd vs (t+bp b.length)
  |none=>gh bars snd vs t
def gP(bars:List aM)(snd:aM->List aq)(z:List aw×Int)(v:aF):List aw×Int:=match bars[v.az.toNat]? with
 |some b=>(z.1++(snd b).map (nr z.2),z.2+bp b.length)
 |none=>z
def JL(bars:List aM)(snd:aM->List aq):∀(vs:List aF)(z:List aw×Int),(vs.foldl (gP bars snd) z).1=z.1++gh bars snd vs z.2
 | [],z=>by simp[gh]
 |v::vs,z=>by
  rw[List.foldl_cons,JL bars snd vs]
  have j:gP bars snd z v=match bars[v.az.toNat]? with
   |some b=>(z.1++(snd b).map (nr z.2),z.2+bp b.length)
   |none=>z:=rfl
  have k:gh bars snd (v::vs) z.2=match bars[v.az.toNat]? with
   |some b=>(snd b).map (nr z.2)++gh bars snd vs (z.2+bp b.length)
   |none=>gh bars snd vs z.2:=rfl
  rw[j,k]
  cases bars[v.az.toNat]? with
  |none=>rfl
  |some b=>dsimp only;rw[j2]
theorem aah{ε:Type}{l:List aq}{tm:Rat}{t:Int}{ts:List aw}(E:(List aw×Int)->ε)(ag:tm=dx t)(O:0<=t)(ao:t<=900000000)(av:l.length<=1000000)(ad:∀n∈l,bI n.start/\bp n.start<=100000)(ht:ts.length<=1000000000000) :
  (ay (λB:(Int×(List aw))=>ab (ah B.1 (l.length:Int)) (aa (au l B.1) λj=>aa (fg (tm,j.start)) λF=>ab (!(aA F.2 0)) (some (.inr (.inr (E (B.2,F.2))))) (ae (decide ((List.append B.2 ((⟨j.part,F.1,j.length,j.aR⟩:aw)::([]:List aw))).length*64<=140737488355328/\(List.append B.2 ((⟨j.part,F.1,j.length,j.aR⟩:aw)::([]:List aw))).length<=9223372036854775807)) <|ae (ai (B.1+1)) <|some (.inl ((B.1+1),(List.append B.2 ((⟨j.part,F.1,j.length,j.aR⟩:aw)::([]:List aw))))))) (some (.inr (.inl B.2)))) (0,ts):Option (List aw⊕ε))=some (.inl (ts++l.map (nr t))):=by
 have G:=pU (t:=t) O (by omega)
 refine(dm (st:=λ(z:List aw) k=>(k,z)) (l:=l) (λz x=>.inl (z++[nr t x])) (λz=>.inl z) (λk z=>z.length<=ts.length+k) (λk x z M U=>?_) (λk x z z' _ U Z=>by cases Z;simp;omega) (λz _=>by dsimp only;rw[aj (by simp)]) ts (by simp)).trans (ea some ((eS (λz x=>z++[nr t x]) l ts (λ_ _ _=>rfl)).trans (ea Sum.inl (foldl_map' (nr t) l ts))))
 have ar:=bx M
 obtain⟨N,al⟩:=ad x (dn M)
 have an:=p8 N
 dsimp only
 have e:(List.append z (nr t x::([]:List aw))).length=z.length+1:=e4
 have Y:fg (tm,x.start)=some (dx (t+bp x.start),0):=by
  rw[ag,wU G.1 N (by rw[G.2];omega),G.2]
 rw[ak (db (by omega)),aY (aS M),Y,af]
 refine(aj rfl).trans ?_
 refine(cq (db (by rw[show(List.append z ((⟨x.part,(dx (t+bp x.start),(0:Int)).1,x.length,x.aR⟩:aw)::([]:List aw))).length=z.length+1 from e];omega))).trans ?_
 exact aC (by omega)
def FG:dx 0=⟨0,1⟩:=by decide +kernel
def Xg{bars:List aM}(ag:∀b∈bars,e9 b){vs:List aF}(ao:vs.length<=20000/\∀v∈vs,0<=v.az/\v.az<(bars.length:Int))(mp:List (Int×List aq))(al:∀b∈bars,(an mp b.id []).length<=20000/\∀n∈an mp b.id [],bI n.start/\bp n.start<=100000){ts:List aw}(ht:ts.length<=100000000000) :
  (ay (λF:(Int×((List aw)×(Int×Int)))=>ab (ah F.1 (vs.length:Int)) (aa (au vs F.1) λaN=>aa (au bars aN.az) λad=>aQ (ay (λB:(Int×(List aw))=>ab (ah B.1 ((an mp ad.id ([]:List aq)).length:Int)) (aa (au (an mp ad.id ([]:List aq)) B.1) λj=>aa (fg ((⟨F.2.2.1,F.2.2.2⟩:Rat),j.start)) λO=>ab (!(aA O.2 0)) (some (.inr (.inr (.inr (.inr (B.2,O.2)))))) (ae (decide ((List.append B.2 ((⟨j.part,O.1,j.length,j.aR⟩:aw)::([]:List aw))).length*64<=140737488355328/\(List.append B.2 ((⟨j.part,O.1,j.length,j.aR⟩:aw)::([]:List aw))).length<=9223372036854775807)) <|ae (ai (B.1+1)) <|some (.inl ((B.1+1),(List.append B.2 ((⟨j.part,O.1,j.length,j.aR⟩:aw)::([]:List aw))))))) (some (.inr (.inl B.2)))) (0,F.2.1)) λ(B:(List aw))=>aa (fg ((⟨F.2.2.1,F.2.2.2⟩:Rat),ad.length)) λj=>ae (ai (F.1+1)) <|some (.inl ((F.1+1),(B,(j.1.n,j.1.d))))) (some (.inr (.inl F.2.1)))) (0,(ts,(0,1))):Option (List aw⊕(List aw×Int)))=some (.inl (ts++gh bars (λb=>an mp b.id []) vs 0)):=by
 have ax:((0:Int),(ts,((0:Int),(1:Int))))=(0,(ts,((dx 0).n,(dx 0).d))):=by rw[FG]
 refine(ea (ay _) ax).trans ?_
 refine(dm (σ:=List aw×Int) (st:=λz k=>(k,(z.1,((dx z.2).n,(dx z.2).d)))) (l:=vs) (λz v=>(Sum.inl (gP bars (λb=>an mp b.id []) z v):(List aw×Int)⊕(List aw⊕(List aw×Int)))) (λz=>(Sum.inl z.1:List aw⊕(List aw×Int))) (λk z=>(0<=z.2/\z.2<=40320*(k:Int))/\z.1.length<=ts.length+20000*k) (λk v z M U=>?_) (λk v z z' M U aE=>?_) (λz _=>by dsimp only;rw[aj (by simp)]) (ts,0) ⟨by dsimp only;omega,by simp⟩).trans (ea some ((eS (gP bars (λb=>an mp b.id [])) vs (ts,0) (λ_ _ _=>rfl)).trans (ea Sum.inl (JL bars (λb=>an mp b.id []) vs (ts,0)))))
 ·have aG:=bx M
  obtain⟨aL,aO⟩:=ao.2 v (dn M)
  obtain⟨⟨Z,aH⟩,aJ⟩:=U
  have G:bars[v.az.toNat]?=some bars[v.az.toNat]:=c4 (by omega)
  unfold gP
  rw[G]
  generalize bars[v.az.toNat]=b at G
  have N:=dn G
  obtain⟨_,af,av,_⟩:=ag b N
  obtain⟨aK,ar⟩:=al b N
  have aD:au bars v.az=some b:=by
   have:=aS G
   rwa [show((v.az.toNat:Nat):Int)=v.az by omega]at this
  dsimp only
  rw[ak (db (by omega)),aY (aS M),aY aD]
  refine(fN (aah (tm:=⟨(dx z.2).n,(dx z.2).d⟩) (ts:=z.1) (ε:=(Int×(List aw×(Int×Int)))⊕(List aw⊕(List aw×Int))) (λx=>.inr (.inr x)) rfl Z (by omega) (by omega) ar (by omega))).trans ?_
  have Y:=pU (t:=z.2) Z (by omega)
  have aB:fg (dx z.2,b.length)=some (dx (z.2+bp b.length),0):=by
   rw[wU Y.1 af (by rw[Y.2];omega),Y.2]
  refine(aI aB).trans ?_
  exact aC (by omega)
 cases aE
 have aG:=bx M
 obtain⟨aL,aO⟩:=ao.2 v (dn M)
 obtain⟨⟨Z,aH⟩,aJ⟩:=U
 have G:bars[v.az.toNat]?=some bars[v.az.toNat]:=c4 (by omega)
 unfold gP
 rw[G]
 generalize bars[v.az.toNat]=b at G
 have N:=dn G
 obtain⟨_,af,av,_⟩:=ag b N
 obtain⟨aK,ar⟩:=al b N
 dsimp only
 refine⟨by omega,?_⟩
 rw[e4,hM];omega
def LU{bars:List aM}(O:∀b∈bars,e9 b){vs:List aF}(Y:vs.length<=20000/\∀v∈vs,0<=v.az/\v.az<(bars.length:Int)){ns:List aq}(N:ns.length<=20000/\∀n∈ns,bI n.start/\bp n.start<=100000){ts:List aw}(ht:ts.length<=100000000000) :
  ((aa (ay (λB:(Int×(List (Int×(List aq))))=>ab (ah B.1 (ns.length:Int)) (aa (au ns B.1) λj=>ae (decide ((List.append (an B.2 j.az ([]:List aq)) (j::([]:List aq))).length*96<=140737488355328/\(List.append (an B.2 j.az ([]:List aq)) (j::([]:List aq))).length<=9223372036854775807)) <|ae (ai (B.1+1)) <|some (.inl ((B.1+1),(aH B.2 j.az (List.append (an B.2 j.az ([]:List aq)) (j::([]:List aq))))))) (some (.inr B.2))) (0,([]:List (Int×(List aq))))) λ(B:(List (Int×(List aq))))=>aQ (ay (λj:(Int×((List aw)×(Int×Int)))=>ab (ah j.1 (vs.length:Int)) (aa (au vs j.1) λZ=>aa (au bars Z.az) λM=>aQ (ay (λF:(Int×(List aw))=>ab (ah F.1 ((an B M.id ([]:List aq)).length:Int)) (aa (au (an B M.id ([]:List aq)) F.1) λk=>aa (fg ((⟨j.2.2.1,j.2.2.2⟩:Rat),k.start)) λG=>ab (!(aA G.2 0)) (some (.inr (.inr (.inr (.inr (F.2,G.2)))))) (ae (decide ((List.append F.2 ((⟨k.part,G.1,k.length,k.aR⟩:aw)::([]:List aw))).length*64<=140737488355328/\(List.append F.2 ((⟨k.part,G.1,k.length,k.aR⟩:aw)::([]:List aw))).length<=9223372036854775807)) <|ae (ai (F.1+1)) <|some (.inl ((F.1+1),(List.append F.2 ((⟨k.part,G.1,k.length,k.aR⟩:aw)::([]:List aw))))))) (some (.inr (.inl F.2)))) (0,j.2.1)) λ(F:(List aw))=>aa (fg ((⟨j.2.2.1,j.2.2.2⟩:Rat),M.length)) λk=>ae (ai (j.1+1)) <|some (.inl ((j.1+1),(F,(k.1.n,k.1.d))))) (some (.inr (.inl j.2.1)))) (0,(ts,(0,1)))) λ(j:(List aw))=>some (j,0)):Option (List aw×Int))=some (ts++gh bars (λb=>ns.filter λn=>decide (n.az=b.id)) vs 0,0):=by
 refine(aI (Uu (by omega))).trans ?_
 have e:(λb:aM=>an (ns.foldl (jz aq.az) []) b.id [])=λb=>ns.filter λn=>decide (n.az=b.id):=by
  funext b
  rw[yA,oc,List.nil_append]
 have:=Xg O Y (ns.foldl (jz aq.az) []) (λb ad=>by
  rw[yA,oc,List.nil_append]
  exact⟨hF (j4 _ _) N.1,λn U=>N.2 n (hN.1 U).1⟩) ht
 rw[e]at this
 exact fN this
end Go.Proofs.YthhlipkkjippfaaGreatDoor
namespace Go.Proofs.YthhlipkkjippfaaGreatDoor
open Go Go.ag Go.Sy
attribute [local instance] bV cB
theorem AQ{bars:List aM}{f g:aM->List aq}(h:∀b∈bars,f b=g b):∀(vs:List aF)(t:Int),gh bars f vs t=gh bars g vs t
 | [],t=>rfl
 |v::vs,t=>by
  unfold gh
  cases j:bars[v.az.toNat]? with
  |none=>exact AQ h vs t
  |some b=>
   dsimp only
   rw[h b (dn j),AQ h vs]
def gl(bars:List aM):List aF->Int
 | []=>0
 |v::vs=>match bars[v.az.toNat]? with
  |some b=>bp b.length+gl bars vs
  |none=>gl bars vs
def Bm{bars:List aM}(j:∀b∈bars,e9 b):∀(vs:List aF),0<=gl bars vs/\gl bars vs<=40320*(vs.length:Int)
 | []=>by simp[gl]
 |v::vs=>by
  have B:=Bm j vs
  unfold gl
  cases h:bars[v.az.toNat]? with
  |none=>simp only[List.length_cons];omega
  |some b=>
   obtain⟨_,_,k,_⟩:=j b (dn h)
   simp only[List.length_cons];omega
def FA{bars:List aM}(j:∀b∈bars,e9 b){snd:aM->List aq}{x:aw}:∀(vs:List aF)(t:Int),x∈gh bars snd vs t->∃t' b n,t<=t'/\t'+bp b.length<=t+gl bars vs/\b∈bars/\n∈snd b/\x=nr t' n
 | [],t,h=>absurd h (by simp[gh])
 |v::vs,t,h=>by
  have U:=Bm j vs
  unfold gh at h
  unfold gl
  cases k:bars[v.az.toNat]? with
  |none=>rw[k]at h;exact FA j vs t h
  |some b=>
   rw[k]at h
   obtain⟨_,_,M,_⟩:=j b (dn k)
   dsimp only at h⊢
   rcases h5.1 h with h|h
   ·obtain⟨n,G,rfl⟩:=hz.1 h
    exact⟨t,b,n,by omega,by omega,dn k,G,rfl⟩
   obtain⟨t',B,n,N,O,F⟩:=FA j vs _ h
   exact⟨t',B,n,by omega,by omega,F⟩
theorem ue{bars:List aM}{snd:aM->List aq}{m:Nat}(h:∀b∈bars,(snd b).length<=m):∀(vs:List aF)(t:Int),(gh bars snd vs t).length<=m*vs.length
 | [],t=>by simp[gh]
 |v::vs,t=>by
  unfold gh
  cases j:bars[v.az.toNat]? with
  |none=>
   have:=ue h vs t
   dsimp only
   rw[List.length_cons,Nat.mul_succ];omega
  |some b=>
   have:=ue h vs (t+bp b.length)
   have:=h b (dn j)
   dsimp only
   rw[e4,hM,List.length_cons,Nat.mul_succ];omega
def Xe{p q:aP}(F:bR p)(G:bR q)(k:num p=num q)(B:p.step=q.step):p=q:=by
 obtain⟨s,a,o⟩:=p
 obtain⟨s',j,o'⟩:=q
 obtain⟨_,M,_⟩:=F
 obtain⟨_,N,_⟩:=G
 unfold num at k
 dsimp only at *
 subst B
 have:o=o':=by omega
 subst this
 have:a=j:=by omega
 rw[this]
theorem aai{a b:aw}(j:ku a)(k:ku b)(h:tK a=tK b):a=b:=by
 obtain⟨ag,B,F,G⟩:=a
 obtain⟨ah,M,N,O⟩:=b
 unfold tK at h
 simp only[q6]at h
 obtain⟨aa,ab,ad,ae,af,_⟩:=h
 have U:B=M:=(uU j.1).trans ((ea dx aa).trans (uU k.1).symm)
 have Y:F=N:=(uU j.2.2.2).trans ((ea dx af).trans (uU k.2.2.2).symm)
 have Z:G=O:=Xe j.2.2.1 k.2.2.1 ad ae
 rw[U,Y,Z,ab]
theorem Gu(t:aw):(tK t).length=tS.length:=rfl
def N4{l:List aw}(h:∀t∈l,ku t):gr (ju tS tK) l:=by
 intro a B b F j k
 rw[x7 Gu]at j k
 exact aai (h a B) (h b F) (Cp (K:=tK) (n:=5) (λ_=>rfl) j k)
noncomputable def eM(l:List aw):List aw:=fX (ju tS tK) l
def Np{l:List aw}(h:∀t∈l,ku t)(j:l.length<=1000000000000):rD (l,())=some (eM l):=by
 unfold rD rU
 rw[if_pos ⟨h,N4 h,by dsimp only;omega⟩];rfl
variable {s:Score}{p:Part}{c:List Int}
def xa(B:cN s)(Y:p∈s.parts){b:aM}(M:b∈s.bars){n:aq}(U:n∈fW s p c b):n.az=b.id/\n.part=p.id/\bI n.start/\bI n.length/\bp n.start+bp n.length<=bp b.length/\bR n.aR:=by
 have Z:=B.2.2.1.2.1 p Y
 obtain⟨m,O,rfl⟩:=hz.1 U
 obtain⟨F,j,G,aa⟩:=Ca B M (hN.1 O).1
 have hi:=(sY Z F j.2.2.2.2.2.2.2.2).1
 have k:=Hf (x:=(gK p b m).aR) (i:=cM (jC p b.key)) (by
  have:(jA p b (gK p b m)).2=0:=by rw[hi]
  exact this)
 have N:(eK (gK p b m).aR (cM (jC p b.key))).1=mY m.aR p.aZ:=by
  have:(jA p b (gK p b m)).1=mY m.aR p.aZ:=by rw[hi]
  exact this
 rw[N]at k
 exact⟨G,rfl,j.1,j.2.1,j.2.2.2.1,k.2.2⟩
def Be(j:cN s)(b:aM):(fW s p c b).length<=20000:=by
 have:=j.2.2.2.1.2.1
 unfold fW oV kg
 rw[hM]
 exact hF (j4 _ _) (hF (j4 _ _) (hF (j4 _ _) this))
def Nj(j:cN s)(k:p∈s.parts):(s.bars.flatMap (fW s p c)).length<=20000:=by
 have h:=(r8 (pj j k) (λm w=>decide (w.bF=nf c m.notes))).2.2.2.1
 have F:=ea Prod.fst (Gg j k c)
 have B:gJ s (lV (ct s p) c):=r8 (pj j k) _
 have e:(iG s (lV (ct s p) c)).length=(s.bars.flatMap (fW s p c)).length:=by
  rw[Fv j,Kn,Kn]
  congr 1
  refine hP λb _=>?_
  unfold fW
  rw[hM,hM]
 rw[<-e,LI B.2.1]
 exact h
def Nk(k:cN s)(B:p∈s.parts){b:aM}(G:b∈s.bars):(s.bars.flatMap (fW s p c)).filter (λn=>decide (n.az=b.id))=fW s p c b:=by
 rw[K2]
 refine Eq.trans ?_ (sM aM.id (fW s p c) k.2.1.2.2 G)
 unfold List.flatMap
 congr 1
 refine hP λy F=>?_
 by_cases h:y.id=b.id
 ·rw[if_pos h,q8]
  intro n j
  have:=(xa k B F j).1
  simp[this,h]
 rw[if_neg h,k3]
 intro n j
 have:=(xa k B F j).1
 simp[this,h]
def fR(s:Score)(c:List Int)(vs:List aF)(p:Part):List aw:=gh s.bars (fW s p c) vs 0
def eh(s:Score)(c:List Int)(vs:List aF):List aw:=s.parts.flatMap (fR s c vs)
def AM(k:cN s)(M:p∈s.parts){vs:List aF}(aj:vs.length<=20000){x:aw}(ab:x∈fR s c vs p):ku x/\x.part=p.id/\∃t',0<=t'/\bp x.start+bp x.length<=t'/\t'<=gl s.bars vs:=by
 have j:∀b∈s.bars,e9 b:=λb Z=>mw k Z
 obtain⟨t',b,n,ag,ah,F,Y,rfl⟩:=FA j vs 0 ab
 obtain⟨ad,N,O,B,ae,U⟩:=xa k M F Y
 have aa:=k.2.2.1.2.1 p M
 have ht:=Bm j vs
 have ai:=((lg p).1 aa).1.1
 have ak:=p8 O
 have al:=p8 B
 have G:=pU (t:=t'+bp n.start) (by omega) (by omega)
 refine⟨⟨G.1,?_,U,B⟩,N,t'+bp b.length,?_,?_,by omega⟩
 ·show 0<=n.part/\n.part<=1000000
  omega
 ·obtain⟨_,_,af,_⟩:=j b F
  omega
 show bp (dx (t'+bp n.start))+bp n.length<=t'+bp b.length
 rw[G.2];omega
theorem rM(k:cN s){vs:List aF}(F:vs.length<=20000):(∀x∈eh s c vs,ku x)/\(eh s c vs).length<=400000000*s.parts.length:=by
 constructor
 ·intro x j
  obtain⟨p,B,j⟩:=j1.1 j
  exact(AM k B F j).1
 unfold eh
 have:∀(l:List Part),(l.flatMap (fR s c vs)).length<=400000000*l.length:=by
  intro l
  induction l with
  |nil=>simp
  |cons p l G=>
   have:=ue (bars:=s.bars) (snd:=fW s p c) (m:=20000) (λb _=>Be k b) vs 0
   have e:(fR s c vs p).length<=20000*vs.length:=this
   rw[h8,e4,List.length_cons,Nat.mul_succ]
   omega
 exact this s.parts
end Go.Proofs.YthhlipkkjippfaaGreatDoor
namespace Go.Proofs.YthhlipkkjippfaaGreatDoor
open Go Go.ag Go.Sy
attribute [local instance] bV cB
def lM(w:dB)(r:Room):Prop:=cN w.score/\r.version=w.score.version/\ll r.form=true/\r.form.bars=(w.score.bars.length:Int)/\o4 r.bA=true
noncomputable instance (w:dB) (r:Room):Decidable (lM w r):=inferInstanceAs (Decidable (_/\_/\_/\_/\_))
def np(w:dB)(r:Room):Prop:=w.score.bars.length<=1048576/\pX r.form/\r.bA.length<=1048576
def X3{w:dB}{r:Room}(h:np w r):Ae (w,r)=some (decide (lM w r)):=by
 obtain⟨M,B,F⟩:=h
 unfold Ae
 dsimp only
 rw[XM,XQ B,X1 F]
 have e:∀(a b c d f:Bool),(aa (aa (some a) λk=>ab (!k) (some true) (some (!b))) λ(k:Bool)=>ab k (some false) (aa (aa (some c) λj=>ab j (ab d (aa (some f) λG=>some G) (some false)) (some false)) λ(j:Bool)=>some j))=some (a&&(b&&(c&&(d&&f)))):=by
  intro a b c d f
  cases a<;>cases b<;>cases c<;>cases d<;>cases f<;>rfl
 refine(e _ _ _ _ _).trans (ea some ?_)
 unfold aA
 rw[hI]
 simp only[dd,ek]
 rfl
def aaG:iK zeroV:=⟨by simp[zeroV],by simp[zeroV,cP],λm j=>absurd j (by simp[zeroV])⟩
def WO{c:List Int}(k:c.length<=1048576):lY (zeroV,c)=some (if o4 c=true then(zeroV,0)else(zeroV,1)):=by
 rw[CE (by simp[zeroV]) (by simp[zeroV,cP]) k]
 by_cases h:o4 c=true
 ·rw[if_pos h,if_pos ⟨h,aaG⟩];rfl
 rw[if_neg h,if_neg (λj=>h j.1)]
def xm{f:Form}(M:pX f)(h:ll f=true):(bN f).length<=20000/\∀v∈bN f,0<=v.az/\v.az<f.bars:=by
 have F:=Jq M h
 have G:(gL f).length<=20000:=by
  simp only[ll,dd,ek]at h
  exact h.2.2.2.2.2.2
 have B:=aaQ F
 rw[aaB]
 refine⟨hF (j4 _ _) (hF (aaI f) G),λv hv=>?_⟩
 have hv:=(hN.1 hv).1
 have key:∀(l:List Int)(z:MV),(∀x∈l,0<=x/\x<f.bars)->(∀v∈z.2,0<=v.az/\v.az<f.bars)->∀v∈(l.foldl (gU []) z).2,0<=v.az/\v.az<f.bars:=by
  intro l
  induction l with
  |nil=>intro z _ j;exact j
  |cons x l O=>
   intro z k j
   refine O (gU [] z x) (λy N=>k y (by simp[N])) λv hv=>?_
   have e:(gU [] z x).2=z.2++[⟨x,an z.1 x 0+1⟩]:=rfl
   rw[e,h5]at hv
   rcases hv with hv|hv
   ·exact j v hv
   rw[p5]at hv
   rw[hv];exact k x (by simp)
 exact key (gL f) ([],[]) B (by simp) v hv
def KZ{w:dB}{r:Room}(h:np w r){U:Type}(A:Option U)(B:(List aF)->Option U):(aa (rA r.form) λN=>aa (lY ((⟨0,([]:List aL)⟩:View),r.bA)) λan=>aa (ab (!(aA N.2 0)) (some true) (ab (!(aA an.2 0)) (some true) (aa (ox w.score) λO=>ab (!O) (some true) (ab (!(aA r.version w.score.version)) (some true) (some (!(aA r.form.bars (w.score.bars.length:Int)))))))) λ(O:Bool)=>ab O A (B N.1))=if lM w r then B (bN r.form)else A:=by
 obtain⟨ah,ai,al⟩:=h
 refine(aI (Mu ai)).trans ?_
 refine(aI (WO al)).trans ?_
 rw[A8 ah]
 by_cases j:lM w r
 ·obtain⟨Y,Z,ad,ae,ag⟩:=id j
  rw[if_pos j,ad,ag,if_pos rfl,if_pos rfl]
  refine(aI (x:=false) ?_).trans rfl
  refine(aj rfl).trans ((aj rfl).trans ?_)
  rw[af,aj (by simp[Y]),aj (by simp[Z])]
  exact ea some (by simp[ae])
 rw[if_neg j]
 refine(aI (x:=true) ?_).trans rfl
 by_cases G:ll r.form=true
 ·rw[if_pos G]
  refine(aj rfl).trans ?_
  by_cases M:o4 r.bA=true
  ·rw[if_pos M]
   refine(aj rfl).trans ?_
   rw[af]
   by_cases k:cN w.score
   ·rw[aj (by simp[k])]
    by_cases F:r.version=w.score.version
    ·rw[aj (by simp[F])]
     refine ea some ?_
     have:r.form.bars≠(w.score.bars.length:Int):=λe=>j ⟨k,F,G,e,M⟩
     simp[this]
    exact ak (by simp[F])
   exact ak (by simp[k])
  rw[if_neg M];rfl
 rw[if_neg G];rfl
def uk{w:dB}{r:Room}(h:np w r):lf (w,r)=some (if lM w r then(eM (eh w.score r.bA (bN r.form)),0)else([],1)):=by
 unfold lf
 refine(KZ h (some (([]:List aw),1)) (λvs=>(aQ (ay (λN:(Int×(List aw))=>ab (ah N.1 (w.score.parts.length:Int)) (aa (au w.score.parts N.1) λax=>aa (rF (w.score,ax.id)) λaB=>aa (ab (aA aB.2 0) (aa (aa (lY (aB.1,r.bA)) λO=>ab (!(aA O.2 0)) (some (N.2,O.2)) (aa (rG (w.score,O.1)) λao=>ab (!(aA ao.2 0)) (some (N.2,ao.2)) (aa (ay (λG:(Int×(List (Int×(List aq))))=>ab (ah G.1 (ao.1.length:Int)) (aa (au ao.1 G.1) λj=>ae (decide ((List.append (an G.2 j.az ([]:List aq)) (j::([]:List aq))).length*96<=140737488355328/\(List.append (an G.2 j.az ([]:List aq)) (j::([]:List aq))).length<=9223372036854775807)) <|ae (ai (G.1+1)) <|some (.inl ((G.1+1),(aH G.2 j.az (List.append (an G.2 j.az ([]:List aq)) (j::([]:List aq))))))) (some (.inr G.2))) (0,([]:List (Int×(List aq))))) λ(G:(List (Int×(List aq))))=>aQ (ay (λj:(Int×((List aw)×(Int×Int)))=>ab (ah j.1 (vs.length:Int)) (aa (au vs j.1) λaZ=>aa (au w.score.bars aZ.az) λav=>aQ (ay (λM:(Int×(List aw))=>ab (ah M.1 ((an G av.id ([]:List aq)).length:Int)) (aa (au (an G av.id ([]:List aq)) M.1) λB=>aa (fg ((⟨j.2.2.1,j.2.2.2⟩:Rat),B.start)) λag=>ab (!(aA ag.2 0)) (some (.inr (.inr (.inr (.inr (M.2,ag.2)))))) (ae (decide ((List.append M.2 ((⟨B.part,ag.1,B.length,B.aR⟩:aw)::([]:List aw))).length*64<=140737488355328/\(List.append M.2 ((⟨B.part,ag.1,B.length,B.aR⟩:aw)::([]:List aw))).length<=9223372036854775807)) <|ae (ai (M.1+1)) <|some (.inl ((M.1+1),(List.append M.2 ((⟨B.part,ag.1,B.length,B.aR⟩:aw)::([]:List aw))))))) (some (.inr (.inl M.2)))) (0,j.2.1)) λ(M:(List aw))=>aa (fg ((⟨j.2.2.1,j.2.2.2⟩:Rat),av.length)) λB=>ae (ai (j.1+1)) <|some (.inl ((j.1+1),(M,(B.1.n,B.1.d))))) (some (.inr (.inl j.2.1)))) (0,(N.2,(0,1)))) λ(j:(List aw))=>some (j,0)))) λ(O:((List aw)×Int))=>some (O.2,O.1)) (some (aB.2,N.2))) λ(O:(Int×(List aw)))=>ab (!(aA O.1 0)) (some (.inr (.inr (([]:List aw),O.1)))) (ae (ai (N.1+1)) <|some (.inl ((N.1+1),O.2)))) (some (.inr (.inl N.2)))) (0,([]:List aw))) λ(N:(List aw))=>aa (rD (N,())) λax=>some (ax,0)))).trans ?_
 by_cases ad:lM w r
 ·rw[if_pos ad,if_pos ad]
  obtain⟨F,a6,aK,a7,aL⟩:=id ad
  obtain⟨aM,aN,aO⟩:=h
  obtain⟨aF,aX⟩:=xm aN aK
  have a8:=F.2.1.1.2
  have bc:=F.2.2.1.1.2
  have aD:∀b∈w.score.bars,e9 b:=λb U=>mw F U
  refine(fN (x:=.inl (eh w.score r.bA (bN r.form))) ?_).trans ?_
  ·refine(dm (st:=λ(z:List aw) k=>(k,z)) (l:=w.score.parts) (λz p=>(Sum.inl (z++fR w.score r.bA (bN r.form) p):List aw⊕(List aw⊕(List aw×Int)))) (λz=>Sum.inl z) (λk z=>z.length<=400000000*k) (λk p z al aP=>?_) (λk p z z' al aP aT=>?_) (λz _=>by dsimp only;rw[aj (by simp)]) [] (by simp)).trans ?_
   ·have ba:=bx al
    have Y:=dn al
    have aU:partOf w.score p.id=some p:=mE F.2.2.1.2.2.1 Y
    have Z:=pj F Y
    have bf:=Z.2.1
    have bd:=Z.2.2.2.1
    have aE:=r8 Z (λm w=>decide (w.bF=nf r.bA m.notes))
    rw[<-EE]at aE
    have bb:=aE.2.2.2.1
    dsimp only
    rw[ak (db (by omega)),aY (aS al),get_eq F aU,af]
    refine(aI (x:=(0,z++fR w.score r.bA (bN r.form) p)) ?_).trans ?_
    ·refine(ak rfl).trans ?_
     refine(aI (x:=(z++fR w.score r.bA (bN r.form) p,0)) ?_).trans rfl
     refine(aI (CE (v:=ct w.score p) (by omega) (by omega) aO)).trans ?_
     rw[if_pos ⟨aL,BD Z⟩]
     refine(aj rfl).trans ?_
     refine(aI (Nv (s:=w.score) (v:=lV (ct w.score p) r.bA) aM (by omega))).trans ?_
     rw[Gg F Y]
     refine(aj rfl).trans ?_
     refine(LU aD ⟨aF,λv Z=>by have:=aX v Z;omega⟩ (ns:=w.score.bars.flatMap (fW w.score p r.bA)) ⟨Nj F Y,λn ar=>?_⟩ (by omega)).trans ?_
     ·obtain⟨b,U,ar⟩:=j1.1 ar
      obtain⟨_,_,aG,aJ,a1,_⟩:=xa F Y U ar
      have:=(aD b U).2.2.1
      have:=p8 aJ
      exact⟨aG,by omega⟩
     rw[AQ (g:=fW w.score p r.bA) (λb U=>Nk F Y U)];rfl
    refine(aj rfl).trans ?_
    exact aC (by omega)
   ·cases aT
    have:=ue (bars:=w.score.bars) (snd:=fW w.score p r.bA) (m:=20000) (λb _=>Be F b) (bN r.form) 0
    have e:(fR w.score r.bA (bN r.form) p).length<=20000*(bN r.form).length:=this
    rw[e4];omega
   refine ea some ((eS (λz p=>z++fR w.score r.bA (bN r.form) p) w.score.parts [] (λ_ _ _=>rfl)).trans (ea Sum.inl ?_))
   have:∀(l:List Part)(z:List aw),l.foldl (λz p=>z++fR w.score r.bA (bN r.form) p) z=z++l.flatMap (fR w.score r.bA (bN r.form)):=by
    intro l
    induction l with
    |nil=>intro z;simp
    |cons p l aV=>intro z;rw[List.foldl_cons,aV];simp
   rw[this];rfl
  obtain⟨aW,bg⟩:=rM (c:=r.bA) F aF
  exact aI (Np aW (by omega))
 rw[if_neg ad,if_neg ad]
end Go.Proofs.YthhlipkkjippfaaGreatDoor
namespace Go.Proofs.YthhlipkkjippfaaGreatDoor
open Go Go.ag Go.Sy
attribute [local instance] bV cB
abbrev MW:=List (Int×Written)
def KP{α:Type}(k:Int)(d:α):∀(m:List (Int×α)),dq m k=true->∃p∈m,p.1=k/\an m k d=p.2
 | [],h=>by exact nomatch h
 |p::m,h=>by
  rw[pB,h6,ek]at h
  rw[qX]
  by_cases e:p.1=k
  ·rw[if_pos e];exact⟨p,by simp,e,rfl⟩
  rw[if_neg e]
  obtain⟨q,j,B⟩:=KP k d m (h.resolve_left e)
  exact⟨q,by simp[j],B⟩
def KV{α:Type}{k:Int}{v:α}{q:Int×α}:∀{m:List (Int×α)},q∈aH m k v->q=(k,v)\/q∈m
 | [],h=>by
  have:q∈[(k,v)]:=h
  rw[p5]at this;exact .inl this
 |p::m,h=>by
  rw[pD]at h
  by_cases e:p.1=k
  ·rw[if_pos e,fb]at h
   rcases h with h|h
   ·exact .inl h
   exact .inr (by simp[h])
  rw[if_neg e,fb]at h
  rcases h with h|h
  ·exact .inr (by simp[h])
  rcases KV h with h|h
  ·exact .inl h
  exact .inr (by simp[h])
def Es{α:Type}(k:Int)(v:α):∀(m:List (Int×α)),(k,v)∈aH m k v
 | []=>by show(k,v)∈[(k,v)];simp
 |p::m=>by
  rw[pD]
  by_cases e:p.1=k
  ·rw[if_pos e];simp
  rw[if_neg e];simp[Es k v m]
def KU{α:Type}{k:Int}{v:α}{q:Int×α}:∀{m:List (Int×α)},q∈m->q.1≠k->q∈aH m k v
 |p::m,h,hk=>by
  rw[pD]
  by_cases e:p.1=k
  ·rw[if_pos e]
   rcases fb.1 h with rfl|h
   ·exact absurd e hk
   simp[h]
  rw[if_neg e]
  rcases fb.1 h with rfl|h
  ·simp
  simp[KU h hk]
def IJ(ns:List Written)(z:MW):Prop:=(ef z).Nodup/\∀p∈z,p.1=p.2.id/\p.2∈ns
def kl(z:MW)(w:Written):MW:=aH z w.id w
def BJ{ns:List Written}{z:MW}(h:IJ ns z){w:Written}(j:w∈ns):IJ ns (kl z w):=by
 refine⟨Er _ _ h.1,λp hp=>?_⟩
 rcases KV hp with rfl|hp
 ·exact⟨rfl,j⟩
 exact h.2 p hp
def BK{ns:List Written}:∀(l:List Written){z:MW},IJ ns z->(∀w∈l,w∈ns)->IJ ns (l.foldl kl z)
 | [],z,h,_=>h
 |w::l,z,h,j=>BK l (BJ h (j w (by simp))) λx k=>j x (by simp[k])
def L1{ns:List Written}(k:(ns.map Written.id).Nodup):∀(l:List Written){z:MW},IJ ns z->(∀w∈l,w∈ns)->∀x,(x∈z.map (·.2)\/x∈l)->x∈(l.foldl kl z).map (·.2)
 | [],z,_,_,x,hx=>hx.resolve_right (by simp)
 |w::l,z,h,j,x,hx=>by
  have F:=j w (by simp)
  refine L1 k l (BJ h F) (λy N=>j y (by simp[N])) x ?_
  rcases hx with hx|hx
  ·left
   obtain⟨p,B,rfl⟩:=hz.1 hx
   by_cases e:p.1=w.id
   ·obtain⟨G,M⟩:=h.2 p B
    have:p.2=w:=nQ (f:=Written.id) k M F (G.symm.trans e)
    rw[this]
    exact hz.2 ⟨(w.id,w),Es _ _ _,rfl⟩
   exact hz.2 ⟨p,KU B e,rfl⟩
  rcases fb.1 hx with rfl|hx
  ·exact .inl (hz.2 ⟨(x.id,x),Es _ _ _,rfl⟩)
  exact .inr hx
def OB{ns:List Written}(B:(ns.map Written.id).Nodup){z:MW}(h:IJ ns z):(z.map (·.2)).Nodup:=by
 have:((z.map (·.2)).map Written.id)=ef z:=by
  rw[k6]
  exact hP λp k=>(h.2 p k).1.symm
 have j:((z.map (·.2)).map Written.id).Nodup:=by rw[this];exact h.1
 exact zx (λh e=>h (ea Written.id e)) (q4.1 j)
def UZ{ω:Type}{ns:List Written}(al:(ns.map Written.id).Nodup){l:List Written}(av:l.length<=1000000)(M:∀w∈l,w∈ns){z:MW}(h:IJ ns z)(N:ω) :
  (ay (λj:(Int×(List (Int×Written)))=>ab (ah j.1 (l.length:Int)) (aa (au l j.1) λF=>aa (ab (dq j.2 F.id) (some (!(sw (an j.2 F.id (⟨0,0,0,(⟨0,0⟩:Rat),(⟨0,0⟩:Rat),(⟨0,0,0⟩:aP)⟩:Written)) F))) (some false)) λ(aq:Bool)=>ab aq (some (.inr (.inr N))) (ae (ai (j.1+1)) <|some (.inl ((j.1+1),(aH j.2 F.id F))))) (some (.inr (.inl j.2)))) (0,z):Option (MW⊕ω))=some (.inl (l.foldl kl z)):=by
 refine(dm (st:=λ(z:MW) k=>(k,z)) (l:=l) (λz x=>.inl (kl z x)) (λz=>.inl z) (λ_ z=>IJ ns z) (λk x z B G=>?_) (λk x z z' B G af=>by cases af;exact BJ G (M x (dn B))) (λz _=>by dsimp only;rw[aj (by simp)]) z h).trans (ea some (eS kl l z (λ_ _ _=>rfl)))
 have ar:=bx B
 have ao:=M x (dn B)
 dsimp only
 rw[ak (db (by omega)),aY (aS B)]
 have e:ab (dq z x.id) (some (!(sw (an z x.id (⟨0,0,0,(⟨0,0⟩:Rat),(⟨0,0⟩:Rat),(⟨0,0,0⟩:aP)⟩:Written)) x))) (some false)=some false:=by
  cases ag:dq z x.id with
  |false=>rfl
  |true=>
   obtain⟨p,Y,Z,ad⟩:=KP x.id (⟨0,0,0,(⟨0,0⟩:Rat),(⟨0,0⟩:Rat),(⟨0,0,0⟩:aP)⟩:Written) z ag
   obtain⟨O,U⟩:=G.2 p Y
   have:p.2=x:=nQ (f:=Written.id) al U ao (O.symm.trans Z)
   rw[ad,this,RG,db rfl];rfl
 refine(aI e).trans ((aj rfl).trans ((aC (n:=(k:Int)+1) (by omega)).trans ?_))
 rfl
def U0{ω:Type}{ns:List Written}(ao:(ns.map Written.id).Nodup){i:Nat}{vs:List View}(av:vs.length<=1000000){g:View->List Written}(Y:∀v∈vs,∃m,v.bh[i]?=some m/\m.notes=g v/\(g v).length<=1000000/\∀w∈g v,w∈ns)(U:ω) :
  (ay (λB:(Int×(List (Int×Written)))=>ab (ah B.1 (vs.length:Int)) (aQ (aa (au vs B.1) λO=>aa (au O.bh (i:Int)) λZ=>ay (λj:(Int×(List (Int×Written)))=>ab (ah j.1 (Z.notes.length:Int)) (aa (au Z.notes j.1) λG=>aa (ab (dq j.2 G.id) (some (!(sw (an j.2 G.id (⟨0,0,0,(⟨0,0⟩:Rat),(⟨0,0⟩:Rat),(⟨0,0,0⟩:aP)⟩:Written)) G))) (some false)) λ(aq:Bool)=>ab aq (some (.inr (.inr (.inr (.inr U))))) (ae (ai (j.1+1)) <|some (.inl ((j.1+1),(aH j.2 G.id G))))) (some (.inr (.inl j.2)))) (0,B.2)) λ(O:(List (Int×Written)))=>ae (ai (B.1+1)) <|some (.inl ((B.1+1),O))) (some (.inr (.inl B.2)))) (0,([]:MW)):Option (MW⊕ω))=some (.inl ((vs.flatMap g).foldl kl [])):=by
 refine(dm (st:=λ(z:MW) k=>(k,z)) (l:=vs) (λz v=>.inl ((g v).foldl kl z)) (λz=>.inl z) (λ_ z=>IJ ns z) (λk v z F N=>?_) (λk v z z' F N al=>by
  cases al
  obtain⟨m,_,_,_,M⟩:=Y v (dn F)
  exact BK _ N M) (λz _=>by dsimp only;rw[aj (by simp)]) [] ⟨by simp,by simp⟩).trans (ea some ((eS (λz v=>(g v).foldl kl z) vs [] (λ_ _ _=>rfl)).trans (ea Sum.inl List.foldl_flatMap.symm)))
 have ar:=bx F
 obtain⟨m,ad,af,ag,M⟩:=Y v (dn F)
 dsimp only
 rw[ak (db (by omega)),aY (aS F),aY (aS ad),af]
 rw[UZ ao ag M N (ω:=(Int×MW)⊕(MW⊕ω)) (.inr (.inr U)),eT,aC (by omega)]
 rfl
end Go.Proofs.YthhlipkkjippfaaGreatDoor
namespace Go.Proofs.YthhlipkkjippfaaGreatDoor
open Go Go.ag Go.Sy
attribute [local instance] bV cB
theorem G5(w:Written):(nv w).length=uE.length:=rfl
def On{len:Rat}{w:Written}(h:ig len w):wK w=nv w:=by
 obtain⟨_,_,_,j,k,_⟩:=h
 unfold wK nv tk ht
 rw[if_pos j,if_pos k]
def aaW{len:Rat}{w:Written}(h:ig len w):mg w:=by
 obtain⟨_,j,_,k,B,_⟩:=h
 exact⟨B,⟨j.1,by omega⟩,k⟩
def aaV{l:List Written}(h:(l.map Written.id).Nodup):gr (ju uE nv) l:=by
 intro a B b F j k
 rw[x7 G5]at j k
 have:=Cp (K:=nv) (n:=4) (λ_=>rfl) j k
 unfold nv at this
 simp only[q6]at this
 exact nQ (f:=Written.id) h B F this.2.2.2.1
def KK(m:aL):Prop:=(∀w∈m.notes,ig m.length w)/\(m.notes.Pairwise λa b=>¬cr wK b a<0)/\(m.notes.map Written.id).Nodup/\m.notes.length<=20000
def Ld{m:aL}:∀{l:List aL},m∈l->m.notes.Sublist (l.flatMap aL.notes)
 |x::l,h=>by
  rw[h8]
  rcases fb.1 h with rfl|h
  ·exact List.sublist_append_left _ _
  exact(Ld h).trans (List.sublist_append_right _ _)
def KL{s:Score}{v:View}(N:gJ s v){m:aL}(j:m∈v.bh):KK m:=by
 obtain⟨aa,Y,⟨p,Z,M⟩,F,G⟩:=N
 obtain⟨k,B⟩:=vc j
 have U:=bx B
 have O:(v.bh.zip s.bars)[k]?=some (m,s.bars[k]'(by omega)):=by
  rw[v8];exact⟨B,c4 (by omega)⟩
 have h:=dT.1 M _ (dn O)
 unfold iA at h
 simp only[dd,ek,dT]at h
 refine⟨h.2,Il h.1.2,?_,hF (mO j) F⟩
 exact G.sublist (List.Sublist.map _ (Ld j))
theorem Zb{m:aL}(ab:KK m){L:List Written}(M:∀w∈L,w∈m.notes)(U:∀w∈m.notes,w∈L):rE (L.foldl kl [],())=some m.notes:=by
 obtain⟨G,af,k,ag⟩:=ab
 have N:IJ m.notes ([]:MW):=⟨by simp,by simp⟩
 have B:=BK L N M
 have ae:=OB k B
 have ad:m.notes.Nodup:=zx (λh e=>h (ea Written.id e)) (q4.1 k)
 have j:((L.foldl kl []).map (·.2)).Perm m.notes:=by
  refine(vf ae ad).2 λx=>⟨λF=>?_,λF=>L1 k L N M x (.inr (U x F))⟩
  obtain⟨p,j,rfl⟩:=hz.1 F
  exact(B.2 p j).2
 have O:=(aaV k).perm j.symm
 have aa:(L.foldl kl []).length<=1000000000:=by
  have:=j.length_eq
  rw[hM]at this
  omega
 unfold rE
 rw[if_pos ⟨λp j=>aaW (G _ (B.2 p j).2),O,aa⟩]
 refine ea some ?_
 refine xb (nq (pZ G5) _) ?_ ((jM _ _).trans j) (O.perm (jM _ _).symm)
 refine tc (λ{a b} Y Z h=>?_) af
 rw[x7 G5]
 unfold cr at h⊢
 rw[<-On (G a Y),<-On (G b Z)]
 exact h
def oU(i:Nat)(v:View):List Written:=((v.bh[i]?).map aL.notes).getD []
def U4{s:Score}{v:View}(af:gJ s v){U:List (aL->Written->Bool)}(aX:U.length<=100)(aB:∀m∈v.bh,∀w∈m.notes,∃q∈U,q m w=true)(O:aL->Written->Bool) :
  (ay (λj:(Int×(Int×(List aL)))=>ab (ah j.2.1 ((v.bh.map (fJ O)).length:Int)) (aa (au (v.bh.map (fJ O)) j.2.1) λB=>aQ (ay (λM:(Int×(List (Int×Written)))=>ab (ah M.1 ((U.map (λq=>di q v)).length:Int)) (aQ (aa (au (U.map (λq=>di q v)) M.1) λad=>aa (au ad.bh j.2.1) λN=>ay (λG:(Int×(List (Int×Written)))=>ab (ah G.1 (N.notes.length:Int)) (aa (au N.notes G.1) λZ=>aa (ab (dq G.2 Z.id) (some (!(sw (an G.2 Z.id (⟨0,0,0,(⟨0,0⟩:Rat),(⟨0,0⟩:Rat),(⟨0,0,0⟩:aP)⟩:Written)) Z))) (some false)) λ(aV:Bool)=>ab aV (some (.inr (.inr (.inr (.inr (.inr (.inr ((⟨0,([]:List aL)⟩:View),5)))))))) (ae (ai (G.1+1)) <|some (.inl ((G.1+1),(aH G.2 Z.id Z))))) (some (.inr (.inl G.2)))) (0,M.2)) λ(ad:(List (Int×Written)))=>ae (ai (M.1+1)) <|some (.inl ((M.1+1),ad))) (some (.inr (.inl M.2)))) (0,([]:List (Int×Written)))) λ(M:(List (Int×Written)))=>aa (ET M) λad=>aa (rE (ad,())) λN=>ae (ai (j.1+(N.length:Int))) <|ae (decide ((List.append j.2.2 ((⟨B.az,B.key,B.length,N⟩:aL)::([]:List aL))).length*56<=140737488355328/\(List.append j.2.2 ((⟨B.az,B.key,B.length,N⟩:aL)::([]:List aL))).length<=9223372036854775807)) <|ae (ai (j.2.1+1)) <|some (.inl ((j.1+(N.length:Int)),((j.2.1+1),(List.append j.2.2 ((⟨B.az,B.key,B.length,N⟩:aL)::([]:List aL))))))) (some (.inr (.inl (j.1,j.2.2))))) (0,(0,([]:List aL))):Option ((Int×List aL)⊕(View×Int)))=some (.inl (((cP v).length:Int),v.bh)):=by
 have aW:=af.1.2.1.1.2
 have aZ:=af.2.1
 refine(dm (σ:=Int×List aL) (st:=λz k=>(z.1,(k,z.2))) (l:=v.bh) (λz m=>(Sum.inl (z.1+(m.notes.length:Int),z.2++[m]):(Int×List aL)⊕((Int×List aL)⊕(View×Int)))) (λz=>Sum.inl (z.1,z.2)) (λk z=>z.2.length=k/\0<=z.1/\z.1<=20000*(k:Int)) (λk m z F ag=>?_) (λk m z z' F ag aD=>?_) (λz _=>by dsimp only;rw[aj (by simp)]) (0,[]) ⟨rfl,by dsimp only;omega,by dsimp only;omega⟩).trans ?_
 ·have aE:=bx F
  have aq:=dn F
  have al:=KL af aq
  obtain⟨aO,aR,aT⟩:=ag
  have aF:=al.2.2.2
  have aA:(v.bh.map (fJ O))[k]?=some (fJ O m):=by rw[e0,F];rfl
  have ao:∀x∈U.map (λq=>di q v),∃m',x.bh[k]?=some m'/\m'.notes=oU k x/\(oU k x).length<=1000000/\∀w∈oU k x,w∈m.notes:=by
   intro x aN
   obtain⟨q,_,rfl⟩:=hz.1 aN
   have e:(di q v).bh[k]?=some (fJ q m):=by
    show(v.bh.map (fJ q))[k]?=_
    rw[e0,F];rfl
   have ar:oU k (di q v)=m.notes.filter (q m):=by unfold oU;rw[e];rfl
   rw[ar]
   exact⟨fJ q m,e,rfl,hF (j4 _ _) (by omega),λw Y=>(hN.1 Y).1⟩
  dsimp only
  rw[ak (db (by rw[hM];omega)),aY (aS aA)]
  rw[U0 al.2.2.1 (by rw[hM];omega) ao (ω:=(Int×(Int×List aL))⊕((Int×List aL)⊕(View×Int))) (.inr (.inr ((⟨0,([]:List aL)⟩:View),5))),eT]
  have ax:=Zb al (L:=(U.map (λq=>di q v)).flatMap (oU k)) (λw Y=>by
   obtain⟨x,aK,aM⟩:=j1.1 Y
   obtain⟨_,_,_,_,aw⟩:=ao x aK
   exact aw w aM) (λw Y=>by
   obtain⟨q,aG,aJ⟩:=aB m aq w Y
   refine j1.2 ⟨di q v,hz.2 ⟨q,aG,rfl⟩,?_⟩
   have e:(di q v).bh[k]?=some (fJ q m):=by
    show(v.bh.map (fJ q))[k]?=_
    rw[e0,F];rfl
   unfold oU;rw[e]
   exact hN.2 ⟨Y,aJ⟩)
  refine(aI (x:=((U.map (λq=>di q v)).flatMap (oU k)).foldl kl []) rfl).trans ?_
  refine(aI ax).trans ?_
  have av:(List.append z.2 ((⟨(fJ O m).az,(fJ O m).key,(fJ O m).length,m.notes⟩:aL)::([]:List aL))).length=z.2.length+1:=e4
  rw[aC (by omega),cq (db (by rw[av];omega)),aC (by omega)]
  rfl
 ·cases aD
  have aE:=bx F
  have aF:=(KL af (dn F)).2.2.2
  obtain⟨aO,aR,aT⟩:=ag
  dsimp only
  rw[e4]
  refine⟨by simp;omega,by omega,by omega⟩
 refine ea some ((eS (λz m=>(z.1+(m.notes.length:Int),z.2++[m])) v.bh (0,[]) (λ_ _ _=>rfl)).trans (ea Sum.inl ?_))
 have key:∀(l:List aL)(z:Int×List aL),l.foldl (λz m=>(z.1+(m.notes.length:Int),z.2++[m])) z=(z.1+((l.flatMap aL.notes).length:Int),z.2++l):=by
  intro l
  induction l with
  |nil=>intro z;simp
  |cons m l aU=>
   intro z
   rw[List.foldl_cons,aU,h8,e4]
   refine Prod.ext ?_ ?_
   ·dsimp only;rw[Int.natCast_add];omega
   dsimp only;simp
 rw[key]
 dsimp only
 rw[abm,List.nil_append];rfl
end Go.Proofs.YthhlipkkjippfaaGreatDoor
namespace Go.Proofs.YthhlipkkjippfaaGreatDoor
open Go Go.ag Go.Sy
attribute [local instance] bV cB
def Sx{l:List View}(G:l.length<=1000000)(F:∀v∈l,v.bh.length<=1000000/\(cP v).length<=1000000):AA (l,())=some (l.any λv=>!decide (iK v)):=by
 unfold AA Fo
 dsimp only
 rw[lE (l:=l) (λv=>!decide (iK v)) (λk x j=>by
  have B:=bx j
  obtain⟨s1,s2⟩:=F x (dn j)
  unfold EI
  rw[ak (by simpa using B),aY (aS j),x9 s1 s2,af,af]
  cases decide (iK x)
  ·rfl
  show ab false _ _=_
  rw[gA,aC (by omega)];rfl) (by rw[aj (by simp)])]
def T4(q j:aL->Written->Bool){v:View}(Y:v.bh.length<=1000000):zq (di q v,di j v)=some true:=by
 unfold zq
 dsimp only
 refine(aI (x:=true) ?_).trans rfl
 refine(ak (db rfl)).trans ?_
 refine(aI (x:=true) ?_).trans rfl
 unfold Ff
 dsimp only
 have F:(di q v).bh.length=v.bh.length:=hM _
 have G:(di j v).bh.length=v.bh.length:=hM _
 rw[aj (by simp[F,G]),pw (di q v).bh.length (λ_=>false) false (λk U=>by
  have B:v.bh[k]?=some v.bh[k]:=c4 (by omega)
  generalize v.bh[k]=m at B
  have M:(di q v).bh[k]?=some (fJ q m):=by
   show(v.bh.map (fJ q))[k]?=_
   rw[e0,B];rfl
  have N:(di j v).bh[k]?=some (fJ j m):=by
   show(v.bh.map (fJ j))[k]?=_
   rw[e0,B];rfl
  rw[ak (db (by omega)),aY (aS M),aY (aS N)]
  have O:zr (fJ q m,fJ j m)=some true:=by
   unfold zr
   dsimp only
   refine(aI (x:=true) ?_).trans rfl
   refine(ak (db rfl)).trans ((ak (db rfl)).trans (ea some ?_))
   exact(H4 _ _).trans (db rfl)
  rw[O,af]
  refine(aj rfl).trans ?_
  rw[aC (by omega)];rfl) (by rw[aj (by simp)])]
 have:(List.range (di q v).bh.length).any (λ_=>false)=false:=by simp
 rw[this];rfl
def UX{s:Score}{v:View}(G:gJ s v){B:List (aL->Written->Bool)}(U:B≠[])(ab:B.length<=100)(Z:∀m∈v.bh,∀w∈m.notes,∃q∈B,q m w=true):vY (B.map λq=>di q v)=some (v,0):=by
 have ag:=G.1.2.1.1.2
 have al:=G.2.1
 have ai:=G.2.2.2.1
 have aa:(B.map λq=>di q v).length=B.length:=hM _
 have O:∀x∈B.map (λq=>di q v),iK x/\x.bh.length<=1000000/\(cP x).length<=1000000:=λx j=>by
  obtain⟨q,_,rfl⟩:=hz.1 j
  have N:=r8 G q
  have ad:=N.2.1
  have ae:=N.2.2.2.1
  exact⟨BD N,by omega,by omega⟩
 obtain⟨F,M,rfl⟩:∃q M,B=q::M:=by
  cases B with
  |nil=>exact absurd rfl U
  |cons q l=>exact⟨q,l,rfl⟩
 have Y:((F::M).map λq=>di q v)[0]?=some (di F v):=rfl
 have mr:au ((F::M).map λq=>di q v) 0=some (di F v):=aS Y
 unfold vY
 refine(aI (x:=false) ?_).trans ?_
 ·refine(aj (dk (by rw[aa,List.length_cons];omega))).trans ((aj (dk (by omega))).trans ?_)
  rw[Sx (by omega) (λx j=>(O x j).2)]
  refine ea some ?_
  rw[mb]
  intro x j
  simp[(O x j).1]
 refine(aj rfl).trans ?_
 refine(aI (x:=false) ?_).trans ?_
 ·unfold Fe Fp
  dsimp only
  rw[lE (l:=(F::M).map λq=>di q v) (λ_=>false) (λk x j=>by
   have ah:=bx j
   obtain⟨q,_,rfl⟩:=hz.1 (dn j)
   unfold EJ
   dsimp only
   rw[ak (db (by omega)),aY (aS j),mr,af,T4 F q (by omega),af,af]
   refine(aj rfl).trans ?_
   rw[aC (by omega)];rfl) (by rw[aj (by simp)])]
  refine ea some ?_
  rw[mb]
  intro x j
  simp
 refine(aj rfl).trans ((aI mr).trans ?_)
 refine(fN (x:=.inl (((cP v).length:Int),v.bh)) ?_).trans ?_
 ·refine(aI mr).trans ?_
  exact U4 G ab Z F
 refine(aj (dk (by dsimp only;omega))).trans ?_
 obtain⟨a,b⟩:=v
 rfl
end Go.Proofs.YthhlipkkjippfaaGreatDoor
namespace Go.Proofs.YthhlipkkjippfaaGreatDoor
open Go Go.ag Go.Sy
attribute [local instance] bV cB
def WT{l:List View}(Y:l.length<=1000000):ay (λB:(Int×(List (Int×(List View))))=>ab (ah B.1 (l.length:Int)) (aa (au l B.1) λF=>ae (decide ((List.append (an B.2 F.part ([]:List View)) (F::([]:List View))).length*32<=140737488355328/\(List.append (an B.2 F.part ([]:List View)) (F::([]:List View))).length<=9223372036854775807)) <|ae (ai (B.1+1)) <|some (.inl ((B.1+1),(aH B.2 F.part (List.append (an B.2 F.part ([]:List View)) (F::([]:List View))))))) (some (.inr B.2))) (0,([]:List (Int×(List View))))=some (l.foldl (jz View.part) []):=by
 refine(dm (st:=λ(z:List (Int×List View)) k=>(k,z)) (l:=l) (λz x=>.inl (jz View.part z x)) (λz=>z) (λk z=>∀j,(an z j []).length<=k) (λk x z M G=>?_) (λk x z z' _ G N=>by
  cases N
  intro j
  have:=Dt View.part [x] z k G j
  simpa using this) (λz _=>by dsimp only;rw[aj (by simp)]) [] (λj=>by rw[oc];simp)).trans (ea some (eS (jz View.part) l [] (λ_ _ _=>rfl)))
 have U:=bx M
 have O:=G x.part
 dsimp only
 have e:(List.append (an z x.part ([]:List View)) (x::([]:List View))).length=(an z x.part ([]:List View)).length+1:=e4
 rw[ak (db (by omega)),aY (aS M),cq (db (by rw[e];omega)),aC (by omega)]
 rfl
theorem SB{s:Score}{w:dB}(G:w.score.bars.length<=1048576){l:List View}(O:l.length<=1000000)(F:∀v∈l,gJ w.score v):wz (l,w)=some false:=by
 unfold wz Fq
 dsimp only
 rw[lE (l:=l) (λ_=>false) (λk x j=>by
  have N:=bx j
  have B:=F x (dn j)
  have M:=B.2.2.2.1
  unfold Fs
  dsimp only
  rw[ak (db (by omega)),aY (aS j),(Oh G (by omega)).trans (show _=some true by simp[B]),af,af]
  refine(aj rfl).trans ?_
  rw[aC (by omega)];rfl) (by rw[aj (by simp)])]
 refine ea some ?_
 rw[mb]
 intro x j
 simp
def BL(s:Score)(l:List View)(p:Part):Prop:=∃j:List (aL->Written->Bool),l.filter (λv=>decide (v.part=p.id))=j.map (λq=>di q (ct s p))/\(j≠[]->j.length<=100/\∀m∈(ct s p).bh,∀w∈m.notes,∃q∈j,q m w=true)
def dW(s:Score)(c:List Int)(vs:List aF)(l:List View)(p:Part):List aw:=if(l.any λv=>decide (v.part=p.id))=true then fR s c vs p else []
theorem WQ{s:Score}{c:List Int}(k:cN s){vs:List aF}(F:vs.length<=20000)(l:List View):(∀x∈s.parts.flatMap (dW s c vs l),ku x)/\(s.parts.flatMap (dW s c vs l)).length<=400000000*s.parts.length:=by
 constructor
 ·intro x j
  obtain⟨p,B,j⟩:=j1.1 j
  unfold dW at j
  split at j
  ·exact(AM k B F j).1
  exact absurd j (by simp)
 have:∀(ps:List Part),(ps.flatMap (dW s c vs l)).length<=400000000*ps.length:=by
  intro ps
  induction ps with
  |nil=>simp
  |cons p ps M=>
   have:=ue (bars:=s.bars) (snd:=fW s p c) (m:=20000) (λb _=>Be k b) vs 0
   have e:(fR s c vs p).length<=20000*vs.length:=this
   have G:(dW s c vs l p).length<=(fR s c vs p).length:=by
    unfold dW
    split
    ·exact eb _
    simp
   rw[h8,e4,List.length_cons,Nat.mul_succ]
   omega
 exact this s.parts
def GS{w:dB}{r:Room}(h:np w r)(aJ:lM w r){l:List View}(bo:l.length<=2400)(a8:∀v∈l,gJ w.score v)(a7:∀p∈w.score.parts,BL w.score l p):oy (w,(r,l))=some (eM (w.score.parts.flatMap (dW w.score r.bA (bN r.form) l)),0):=by
 unfold oy
 refine(aj (dk (by omega))).trans ?_
 refine(KZ h (some (([]:List aw),1)) (λvs=>(aa (wz (l,w)) λbg=>ab bg (some (([]:List aw),1)) (aa (ay (λM:(Int×(List (Int×(List View))))=>ab (ah M.1 (l.length:Int)) (aa (au l M.1) λB=>ae (decide ((List.append (an M.2 B.part ([]:List View)) (B::([]:List View))).length*32<=140737488355328/\(List.append (an M.2 B.part ([]:List View)) (B::([]:List View))).length<=9223372036854775807)) <|ae (ai (M.1+1)) <|some (.inl ((M.1+1),(aH M.2 B.part (List.append (an M.2 B.part ([]:List View)) (B::([]:List View))))))) (some (.inr M.2))) (0,([]:List (Int×(List View))))) λ(M:(List (Int×(List View))))=>aQ (ay (λB:(Int×(List aw))=>ab (ah B.1 (w.score.parts.length:Int)) (aQ (aa (au w.score.parts B.1) λao=>ab (aA ((an M ao.id ([]:List View)).length:Int) 0) (some (.inl B.2)) (aa (vY (an M ao.id ([]:List View))) λaD=>aa (ab (aA aD.2 0) (aa (aa (lY (aD.1,r.bA)) λU=>ab (!(aA U.2 0)) (some (B.2,U.2)) (aa (rG (w.score,U.1)) λaB=>ab (!(aA aB.2 0)) (some (B.2,aB.2)) (aa (ay (λG:(Int×(List (Int×(List aq))))=>ab (ah G.1 (aB.1.length:Int)) (aa (au aB.1 G.1) λj=>ae (decide ((List.append (an G.2 j.az ([]:List aq)) (j::([]:List aq))).length*96<=140737488355328/\(List.append (an G.2 j.az ([]:List aq)) (j::([]:List aq))).length<=9223372036854775807)) <|ae (ai (G.1+1)) <|some (.inl ((G.1+1),(aH G.2 j.az (List.append (an G.2 j.az ([]:List aq)) (j::([]:List aq))))))) (some (.inr G.2))) (0,([]:List (Int×(List aq))))) λ(G:(List (Int×(List aq))))=>aQ (ay (λj:(Int×((List aw)×(Int×Int)))=>ab (ah j.1 (vs.length:Int)) (aa (au vs j.1) λbf=>aa (au w.score.bars bf.az) λaE=>aQ (ay (λO:(Int×(List aw))=>ab (ah O.1 ((an G aE.id ([]:List aq)).length:Int)) (aa (au (an G aE.id ([]:List aq)) O.1) λF=>aa (fg ((⟨j.2.2.1,j.2.2.2⟩:Rat),F.start)) λav=>ab (!(aA av.2 0)) (some (.inr (.inr (.inr (.inr (O.2,av.2)))))) (ae (decide ((List.append O.2 ((⟨F.part,av.1,F.length,F.aR⟩:aw)::([]:List aw))).length*64<=140737488355328/\(List.append O.2 ((⟨F.part,av.1,F.length,F.aR⟩:aw)::([]:List aw))).length<=9223372036854775807)) <|ae (ai (O.1+1)) <|some (.inl ((O.1+1),(List.append O.2 ((⟨F.part,av.1,F.length,F.aR⟩:aw)::([]:List aw))))))) (some (.inr (.inl O.2)))) (0,j.2.1)) λ(O:(List aw))=>aa (fg ((⟨j.2.2.1,j.2.2.2⟩:Rat),aE.length)) λF=>ae (ai (j.1+1)) <|some (.inl ((j.1+1),(O,(F.1.n,F.1.d))))) (some (.inr (.inl j.2.1)))) (0,(B.2,(0,1)))) λ(j:(List aw))=>some (j,0)))) λ(U:((List aw)×Int))=>some (U.2,U.1)) (some (aD.2,B.2))) λ(U:(Int×(List aw)))=>ab (!(aA U.1 0)) (some (.inr (.inr (.inr (([]:List aw),U.1))))) (some (.inl U.2)))) λ(ao:(List aw))=>ae (ai (B.1+1)) <|some (.inl ((B.1+1),ao))) (some (.inr (.inl B.2)))) (0,([]:List aw))) λ(B:(List aw))=>aa (rD (B,())) λao=>some (ao,0))))).trans ?_
 rw[if_pos aJ]
 obtain⟨N,bj,aU,bl,aV⟩:=id aJ
 obtain⟨aF,aW,aX⟩:=h
 obtain⟨aM,bd⟩:=xm aW aU
 have bm:=N.2.1.1.2
 have br:=N.2.2.1.1.2
 have aG:∀b∈w.score.bars,e9 b:=λb af=>mw N af
 refine(aI (SB (s:=w.score) aF (by omega) a8)).trans ((aj rfl).trans ?_)
 refine(aI (WT (by omega))).trans ?_
 have a6:∀k,an (l.foldl (jz View.part) []) k []=l.filter λv=>decide (v.part=k):=λk=>by
  rw[yA,oc,List.nil_append]
 refine(fN (x:=.inl (w.score.parts.flatMap (dW w.score r.bA (bN r.form) l))) ?_).trans ?_
 ·refine(
      dm (st:=λ(z:List aw) k=>(k,z)) (l:=w.score.parts) (λz p=>(Sum.inl (z++dW w.score r.bA (bN r.form) l p):List aw⊕(List aw⊕(List aw×Int)))) (λz=>Sum.inl z) (λk z=>z.length<=400000000*k) (λk p z Y aY=>?_) (λk p z z' Y aY a1=>?_) (λz _=>by dsimp only;rw[aj (by simp)]) [] (by simp)).trans ?_
  ·have bn:=bx Y
   have Z:=dn Y
   have bs:partOf w.score p.id=some p:=mE N.2.2.1.2.2.1 Z
   have ad:=pj N Z
   have bu:=ad.2.1
   have bt:=ad.2.2.2.1
   have aK:=r8 ad (λm w=>decide (w.bF=nf r.bA m.notes))
   rw[<-EE]at aK
   have bq:=aK.2.2.2.1
   obtain⟨aL,al,bb⟩:=a7 p Z
   dsimp only
   rw[ak (db (by omega))]
   refine(fN (x:=.inl (z++dW w.score r.bA (bN r.form) l p)) ?_).trans (by rw[Sum.elim_inl,aC (by omega)];rfl)
   refine(aI (aS Y)).trans ?_
   rw[a6]
   by_cases ag:aL=[]
   ·have e:(l.any λv=>decide (v.part=p.id))=false:=by
     rw[ag]at al
     rw[mb]
     exact λx Y=>k3.1 al x Y
    have ax:dW w.score r.bA (bN r.form) l p=[]:=by unfold dW;rw[e];rfl
    rw[ax,nb,al,ag]
    exact ak rfl
   obtain⟨aP,aT⟩:=bb ag
   have e:(l.any λv=>decide (v.part=p.id))=true:=by
    refine hB λar=>ag ?_
    have:l.filter (λv=>decide (v.part=p.id))=[]:=by
     rw[k3]
     intro x Y aZ
     exact ar (hU.2 ⟨x,Y,aZ⟩)
    rw[this]at al
    exact List.map_eq_nil_iff.1 al.symm
   have ax:dW w.score r.bA (bN r.form) l p=fR w.score r.bA (bN r.form) p:=by unfold dW;rw[if_pos e]
   rw[ax,al]
   have bp:0<aL.length:=List.length_pos_iff.2 ag
   refine(aj (dk (by rw[hM];omega))).trans ?_
   refine(aI (UX ad ag aP aT)).trans ?_
   refine(aI (x:=(0,z++fR w.score r.bA (bN r.form) p)) ?_).trans ?_
   ·refine(ak rfl).trans ?_
    refine(aI (x:=(z++fR w.score r.bA (bN r.form) p,0)) ?_).trans rfl
    refine(aI (CE (v:=ct w.score p) (by omega) (by omega) aX)).trans ?_
    rw[if_pos ⟨aV,BD ad⟩]
    refine(aj rfl).trans ?_
    refine(aI (Nv (s:=w.score) (v:=lV (ct w.score p) r.bA) aF (by omega))).trans ?_
    rw[Gg N Z]
    refine(aj rfl).trans ?_
    refine(LU aG ⟨aM,λv ad=>by have:=bd v ad;omega⟩ (ns:=w.score.bars.flatMap (fW w.score p r.bA)) ⟨Nj N Z,λn ar=>?_⟩ (by omega)).trans ?_
    ·obtain⟨b,af,ar⟩:=j1.1 ar
     obtain⟨_,_,aN,aO,bh,_⟩:=xa N Z af ar
     have:=(aG b af).2.2.1
     have:=p8 aO
     exact⟨aN,by omega⟩
    rw[AQ (g:=fW w.score p r.bA) (λb af=>Nk N Z af)];rfl
   refine(aj rfl).trans ?_
   rfl
  ·cases a1
   have:=ue (bars:=w.score.bars) (snd:=fW w.score p r.bA) (m:=20000) (λb _=>Be N b) (bN r.form) 0
   have e:(fR w.score r.bA (bN r.form) p).length<=20000*(bN r.form).length:=this
   have ax:(dW w.score r.bA (bN r.form) l p).length<=(fR w.score r.bA (bN r.form) p).length:=by
    unfold dW
    split
    ·exact eb _
    simp
   rw[e4];omega
  refine ea some ((eS (λz p=>z++dW w.score r.bA (bN r.form) l p) w.score.parts [] (λ_ _ _=>rfl)).trans (ea Sum.inl ?_))
  have:∀(ps:List Part)(z:List aw),ps.foldl (λz p=>z++dW w.score r.bA (bN r.form) l p) z=z++ps.flatMap (dW w.score r.bA (bN r.form) l):=by
   intro ps
   induction ps with
   |nil=>intro z;simp
   |cons p ps ba=>intro z;rw[List.foldl_cons,ba];simp
  rw[this];rfl
 obtain⟨bc,bw⟩:=WQ (c:=r.bA) N aM l
 exact aI (Np bc (by omega))
end Go.Proofs.YthhlipkkjippfaaGreatDoor
namespace Go.Proofs.YthhlipkkjippfaaGreatDoor
open Go Go.ag Go.Sy
attribute [local instance] bV cB
def XP(f:Form):∃b,zY f=some b:=by
 unfold zY
 have e:∀a b c d:Bool,(aa (ab a (ab b (ab c (some d) (some false)) (some false)) (some false)) λ(j:Bool)=>some j)=some (a&&(b&&(c&&d))):=λa b c d=>by cases a<;>cases b<;>cases c<;>rfl
 exact⟨_,e _ _ _ _⟩
def TS(w:dB)(r:Room):∃b,Ad (w,r)=some b:=by
 obtain⟨q,F⟩:=XP r.form
 unfold Ad
 dsimp only
 rw[F]
 have e:∀(a b c d f:Bool),ab a (some true) (ab b (some true) (ab c (some true) (aa (some d) λM=>ab (!M) (some true) (some f))))=some (a||(b||(c||(!d||f)))):=λa b c d f=>by cases a<;>cases b<;>cases c<;>cases d<;>rfl
 rw[e,af]
 by_cases G:w.score.parts.length<=8
 ·rw[nX (l:=w.score.parts) (λp=>decide (6<p.ed)) false (λk x j=>by
   have B:=bx j
   rw[ak (by simpa using B),aY (aS j)]
   show ab (decide (6<x.ed)) _ _=_
   cases decide (6<x.ed)
   ·rw[gA,aC (by omega)];rfl
   rfl) (by rw[aj (by simp)])]
  cases (ah 12 (w.score.bars.length:Int)||(ah 8 (w.score.parts.length:Int)||(ah 30 (w.score.notes.length:Int)||(!q||ah 40 (r.bA.length:Int)))))
  ·cases (w.score.parts.any λp=>decide (6<p.ed))
   ·exact⟨true,rfl⟩
   exact⟨false,rfl⟩
  exact⟨false,rfl⟩
 have:ah 8 (w.score.parts.length:Int)=true:=db (by omega)
 rw[this]
 refine⟨false,?_⟩
 exact ak (by simp)
def GQ{w:dB}{r:Room}(h:np w r):∃b:Bool,tM (w,r)=some b/\(b=true->lM w r):=by
 obtain⟨q,j⟩:=TS w r
 unfold tM
 dsimp only
 rw[j,X3 h]
 cases q with
 |false=>exact⟨false,rfl,λh=>nomatch h⟩
 |true=>exact⟨decide (lM w r),rfl,λh=>hD h⟩
def aaj{b:aM}(B:e9 b):zF [b]=some (b.length,0):=by
 have j:=pU (t:=0) (by omega) (by omega)
 obtain⟨_,k,M,_⟩:=id B
 have G:gv [b]:=⟨by simp,by simpa using B,by simp⟩
 unfold zF EU
 rw[D9 (by simp),af,db G]
 refine(aj rfl).trans ?_
 refine(aI (x:=b.length) ?_).trans rfl
 dsimp only
 have F:fg ((⟨0,1⟩:Rat),b.length)=some (b.length,0):=by
  rw[<-FG,wU j.1 k (by rw[j.2];omega),j.2,abm,<-uU k]
 refine(aI (x:=[b]) rfl).trans ?_
 refine(aI (x:=(⟨0,1⟩:Rat)) rfl).trans ?_
 refine(fN (x:=.inl (b.length.n,b.length.d)) ?_).trans rfl
 refine(kU (z':=(1,(b.length.n,b.length.d))) ?_).trans (gC ?_)
 ·refine(ak rfl).trans ((aI (x:=b) rfl).trans ((aj rfl).trans ?_))
  refine(aI F).trans ?_
  exact aC (by decide)
 exact aj rfl
def Rx{l:List aM}{k:Nat}{b:aM}(h:l[k]?=some b):(l.take (k+1)).drop k=[b]:=by
 rw[T0,h,Kd (by rw[fa];have:=bx h;omega)]
 simp
def Vl{w:dB}{r:Room}(h:np w r)(ax:ot ()=some true):zC (w,r)=some true:=by
 obtain⟨u,aD,N⟩:=GQ h
 unfold zC
 dsimp only
 refine(aI ax).trans ((aI aD).trans ?_)
 cases u with
 |false=>exact ak rfl
 |true=>
  have N:=N rfl
  obtain⟨M,aN,ad,aO,aP⟩:=id N
  obtain⟨aQ,ae,aR⟩:=id h
  obtain⟨al,an⟩:=xm ae ad
  have O:∀b∈w.score.bars,e9 b:=λb au=>mw M au
  have aT:=M.2.1.1.2
  have aV:=M.2.2.1.1.2
  refine(aj rfl).trans ?_
  rw[uk h,Mu ae,if_pos N,if_pos ad,af,af]
  refine(aI (x:=false) rfl).trans ((aj rfl).trans ?_)
  refine(aI (x:=(⟨0,1⟩:Rat)) rfl).trans ?_
  have aB:=Bm O (bN r.form)
  have Y:=pU (t:=gl w.score.bars (bN r.form)) aB.1 (by omega)
  refine(aI (x:=(true,((dx (gl w.score.bars (bN r.form))).n,(dx (gl w.score.bars (bN r.form))).d))) ?_).trans ?_
  ·have aq:(true,((0:Int),((0:Int),(1:Int))))=(true,(0,((dx 0).n,(dx 0).d))):=by rw[FG]
   refine(ea (ay _) aq).trans ?_
   refine(dm (σ:=Int) (st:=λz k=>(true,(k,((dx z).n,(dx z).d)))) (l:=bN r.form) (λz v=>(Sum.inl (match w.score.bars[v.az.toNat]? with|some b=>z+bp b.length|none=>z):Int⊕(Bool×(Int×Int)))) (λz=>(true,((dx z).n,(dx z).d))) (λk z=>0<=z/\z<=40320*(k:Int)) (λk v z j G=>?_) (λk v z z' j G U=>?_) (λz _=>by dsimp only;rw[aj (by simp)]) 0 ⟨by omega,by omega⟩).trans ?_
   ·have ah:=bx j
    obtain⟨aH,aJ⟩:=an v (dn j)
    have B:w.score.bars[v.az.toNat]?=some w.score.bars[v.az.toNat]:=c4 (by omega)
    rw[B]
    generalize w.score.bars[v.az.toNat]=b at B
    have ag:=O b (dn B)
    obtain⟨_,ab,ao,_⟩:=id ag
    have F:=pU (t:=z) G.1 (by omega)
    have ar:fg (dx z,b.length)=some (dx (z+bp b.length),0):=by
     rw[wU F.1 ab (by rw[F.2];omega),F.2]
    have av:List.drop (Int.toNat v.az) (List.take (Int.toNat (v.az+1)) w.score.bars)=[b]:=by
     rw[show Int.toNat (v.az+1)=Int.toNat v.az+1 by omega];exact Rx B
    dsimp only
    refine(ak (db (by omega))).trans ((aI (aS j)).trans ?_)
    refine(aC (by omega)).trans ?_
    refine(cq (show(leI 0 v.az&&(leI v.az (v.az+1)&&leI (v.az+1) (w.score.bars.length:Int)))=true by rw[dd,dd];exact⟨db (by omega),db (by omega),db (by omega)⟩)).trans ?_
    rw[av,aaj ag,af]
    refine(aI ar).trans ?_
    refine(aI (x:=true) rfl).trans ?_
    exact aC (by omega)
   ·cases U
    have ah:=bx j
    obtain⟨aH,aJ⟩:=an v (dn j)
    have B:w.score.bars[v.az.toNat]?=some w.score.bars[v.az.toNat]:=c4 (by omega)
    rw[B]
    obtain⟨_,ab,ao,_⟩:=O _ (dn B)
    dsimp only
    omega
   refine ea some ((eS (λz v=>match w.score.bars[v.az.toNat]? with|some b=>z+bp b.length|none=>z) (bN r.form) 0 (λ_ _ _=>rfl)).trans ?_)
   have key:∀(l:List aF)(z:Int),l.foldl (λ(z:Int)(v:aF)=>match w.score.bars[v.az.toNat]? with|some b=>z+bp b.length|none=>z) z=z+gl w.score.bars l:=by
    intro l
    induction l with
    |nil=>intro z;simp[gl]
    |cons v l Z=>
     intro z
     rw[List.foldl_cons,Z]
     have e:gl w.score.bars (v::l)=match w.score.bars[v.az.toNat]? with|some b=>bp b.length+gl w.score.bars l|none=>gl w.score.bars l:=rfl
     rw[e]
     cases w.score.bars[v.az.toNat]? with
     |none=>rfl
     |some b=>
      show z+bp b.length+gl w.score.bars l=z+(bp b.length+gl w.score.bars l)
      exact Int.add_assoc _ _ _
   rw[key,abm]
  refine(aI (x:=true) ?_).trans rfl
  refine(dm (st:=λ(z:Bool) k=>(z,k)) (l:=eM (eh w.score r.bA (bN r.form))) (λz x=>(Sum.inl z:Bool⊕Bool)) (λz=>z) (λ_ z=>z=true) (λk x z j G=>?_) (λk x z z' j G U=>by cases U;exact G) (λz _=>by dsimp only;rw[aj (by simp)]) true rfl).trans ?_
  ·subst G
   have ah:=bx j
   have aE:x∈eh w.score r.bA (bN r.form):=(jM _ _).subset (dn j)
   have aU:(eM (eh w.score r.bA (bN r.form))).length=(eh w.score r.bA (bN r.form)).length:=(jM _ _).length_eq
   have aW:=(rM (c:=r.bA) M al).2
   obtain⟨p,aA,aG⟩:=j1.1 aE
   obtain⟨⟨aa,_,_,ai⟩,_,t',aK,aL,aM⟩:=AM M aA al aG
   have n1:=p8 aa
   have aX:=p8 ai
   have F:=pU (t:=bp x.start+bp x.length) (by omega) (by omega)
   dsimp only
   refine(ak (db (by omega))).trans ?_
   refine(aI (x:=true) ((aI (aS j)).trans ?_)).trans (aC (by omega))
   refine(aI (wU aa ai (by omega))).trans ?_
   refine(aI (wV F.1.1 Y.1.1)).trans ?_
   refine(ak rfl).trans ((ak rfl).trans ((ak rfl).trans ((ak (db ?_)).trans (ea some (db aa.2.1)))))
   dsimp only
   rw[x8 F.1 Y.1,F.2,Y.2]
   unfold oE
   split
   ·omega
   rw[if_neg (by omega)];omega
  refine ea some ((eS (σ:=Bool) (ρ:=Bool) (fin:=λz=>z) (λz(_:aw)=>z) (eM (eh w.score r.bA (bN r.form))) true (λ_ _ _=>rfl)).trans ?_)
  have key:∀(l:List aw)(z:Bool),l.foldl (λz _=>z) z=z:=by
   intro l
   induction l with
   |nil=>intro z;rfl
   |cons x l Z=>intro z;exact Z z
  exact key _ _
end Go.Proofs.YthhlipkkjippfaaGreatDoor
namespace Go.Proofs.YthhlipkkjippfaaGreatDoor
open Go Go.ag Go.Sy
attribute [local instance] bV cB
theorem S2{ω:Type}{v:View}(M:v.bh.length<=1000000)(N:(cP v).length<=1000000)(ad:iK v){l:List Int}(an:l.length<=1000)(Y:∀n∈l,0<=n/\n<=9){out:List View}(ao:out.length<=1000000)(G:(List View×Int)->ω) :
  (ay (λj:(Int×(List View))=>ab (ah j.1 (l.length:Int)) (aa (au l j.1) λag=>aa (vX (v,ag)) λB=>ab (!(aA B.2 0)) (some (.inr (.inr (G (([]:List View),B.2))))) (ae (decide ((List.append j.2 (B.1::([]:List View))).length*32<=140737488355328/\(List.append j.2 (B.1::([]:List View))).length<=9223372036854775807)) <|ae (ai (j.1+1)) <|some (.inl ((j.1+1),(List.append j.2 (B.1::([]:List View))))))) (some (.inr (.inl j.2)))) (0,out):Option (List View⊕ω))=some (.inl (out++l.map (nJ v))):=by
 refine(dm (st:=λ(z:List View) k=>(k,z)) (l:=l) (λz n=>.inl (z++[nJ v n])) (λz=>.inl z) (λk z=>z.length<=out.length+k) (λk n z F O=>?_) (λk x z z' _ O U=>by cases U;simp;omega) (λz _=>by dsimp only;rw[aj (by simp)]) out (by simp)).trans (ea some ((eS (λz n=>z++[nJ v n]) l out (λ_ _ _=>rfl)).trans (ea Sum.inl (foldl_map' (nJ v) l out))))
 have al:=bx F
 have Z:=Y n (dn F)
 dsimp only
 have e:(List.append z (nJ v n::([]:List View))).length=z.length+1:=e4
 rw[ak (db (by omega)),aY (aS F),S3 M N n,if_pos ⟨ad,Z⟩,af]
 refine(aj rfl).trans ?_
 rw[cq (db (by rw[show(List.append z ((nJ v n,(0:Int)).1::([]:List View))).length=z.length+1 from e];omega)),aC (by omega)]
 rfl
noncomputable def ec(s:Score)(p:Part):List View:=(iq (fZ (ct s p)) p.ed.toNat).map (nJ (ct s p))
noncomputable def jc(s:Score)(p:Part):Bool:=decide (p.ed.toNat<(fZ (ct s p)).length)
def aaK(v:View):(fZ v).length<=(cP v).length:=by
 have k:=Ei (ky v)
 have j:=FC (cP v) []
 unfold fZ ji
 rw[(vt _ _).length_eq,hM]
 unfold ky at *
 simp at j
 omega
def wJ{s:Score}(k:cN s){p:Part}(j:p∈s.parts):1<=p.ed/\p.ed<=40:=((lg p).1 (k.2.2.1.2.1 p j)).1.2.2.2.2
theorem IK{w:dB}(h:w.score.bars.length<=1048576)(j:cN w.score):tZ w=some (if(w.score.parts.all λp=>!jc w.score p)=true then(w.score.parts.flatMap (ec w.score),0)else([],6)):=by
 have ao:=j.2.2.1.1.2
 have al:=j.2.1.1.2
 unfold tZ
 rw[A8 h]
 refine(aI (x:=true) (ea some (by simp[j]))).trans ((aj rfl).trans ?_)
 refine(fN (x:=if(w.score.parts.all λp=>!jc w.score p)=true then .inl (w.score.parts.flatMap (ec w.score))else .inr ([],6)) ?_).trans ?_
 ·refine(dm (st:=λ(z:List View) k=>(k,z)) (l:=w.score.parts) (λz p=>if(!jc w.score p)=true then .inl (z++ec w.score p)else(.inr (.inr (([]:List View),(6:Int))):List View⊕(List View⊕(List View×Int)))) (λz=>Sum.inl z) (λk z=>z.length<=40*k) (λk p z F ab=>?_) (λk p z z' F ab G=>?_) (λz _=>by dsimp only;rw[aj (by simp)]) [] (by simp)).trans ?_
  ·have an:=bx F
   have M:=dn F
   have ae:partOf w.score p.id=some p:=mE j.2.2.1.2.2.1 M
   have N:=pj j M
   have ar:=N.2.1
   have aq:=N.2.2.2.1
   have O:=BD N
   obtain⟨Y,Z⟩:=wJ j M
   have au:=aaK (ct w.score p)
   have aa:((p.ed.toNat:Nat):Int)=p.ed:=by omega
   have U:=OU (v:=ct w.score p) (by omega) (by omega) O (D:=p.ed.toNat) ⟨by omega,by omega⟩ (by omega)
   rw[aa]at U
   dsimp only
   rw[ak (db (by omega)),aY (aS F),get_eq j ae,af,U,af]
   unfold jc
   by_cases B:p.ed.toNat<(fZ (ct w.score p)).length
   ·rw[if_pos B,if_neg (by simp[B])]
    exact ea (λq=>aQ q _) (ak rfl)
   rw[if_neg B,if_pos (by simp[B])]
   refine(fN (x:=.inl (z++ec w.score p)) ?_).trans (by rw[Sum.elim_inl,aC (by omega)];rfl)
   refine(aj rfl).trans ?_
   refine S2 (v:=ct w.score p) (by omega) (by omega) O (l:=iq (fZ (ct w.score p)) p.ed.toNat) (by simp[iq];omega) (λn hn=>?_) (by omega) (ω:=(Int×List View)⊕(List View⊕(List View×Int))) (λx=>.inr (.inr x))
   rcases OS hn with rfl|hn
   ·omega
   obtain⟨_,w,ag,rfl⟩:=(GV _ _).1 hn
   obtain⟨m,ad,ah⟩:=j1.1 ag
   exact(O.2.2 m ad w ah).1
  ·by_cases B:(!jc w.score p)=true
   ·rw[if_pos B]at G
    cases G
    obtain⟨Y,Z⟩:=wJ j (dn F)
    have:(ec w.score p).length=p.ed.toNat:=by simp[ec,iq]
    rw[e4];omega
   rw[if_neg B]at G;cases G
  refine ea some ((vl (λp=>!jc w.score p) (λz p=>z++ec w.score p) (([]:List View),(6:Int)) w.score.parts []).trans ?_)
  have:∀(ps:List Part)(z:List View),ps.foldl (λz p=>z++ec w.score p) z=z++ps.flatMap (ec w.score):=by
   intro ps
   induction ps with
   |nil=>intro z;simp
   |cons p ps ai=>intro z;rw[List.foldl_cons,ai];simp
  rw[this];rfl
 cases (w.score.parts.all λp=>!jc w.score p)<;>rfl
end Go.Proofs.YthhlipkkjippfaaGreatDoor
namespace Go.Proofs.YthhlipkkjippfaaGreatDoor
open Go Go.ag Go.Sy
attribute [local instance] bV cB
def RF(a b:aw):H5 a b=decide (a=b):=by
 obtain⟨j,⟨k,B⟩,⟨F,G⟩,⟨M,N,O⟩⟩:=a
 obtain⟨U,⟨Y,Z⟩,⟨aa,ab⟩,⟨ad,ae,af⟩⟩:=b
 rw[hI,ek]
 simp only[aw.mk.injEq,Rat.mk.injEq,aP.mk.injEq]
 show cV [.int .i64 j,.int .i64 k,.int .i64 B,.int .i64 F,.int .i64 G,.int .i64 M,.int .i64 N,.int .i64 O] [.int .i64 U,.int .i64 Y,.int .i64 Z,.int .i64 aa,.int .i64 ab,.int .i64 ad,.int .i64 ae,.int .i64 af]=true↔_
 simp[cV,ga,n3]
theorem A9{a b:List aw}(N:a.length<=1000000000000):l4 (a,b)=some (decide (a=b)):=by
 unfold l4
 dsimp only
 by_cases B:a.length=b.length
 ·rw[aj (by simp[B]),KA B (λk x y F G=>by
   have M:=bx F
   rw[ak (by simpa using M),aY (aS F),aY (aS G),RF]
   by_cases j:x=y
   ·rw[aj (by simp[j]),aC (by omega),if_pos j];rfl
   rw[ak (by simp[j]),if_neg j]) (by rw[aj (by simp)])]
  by_cases j:a=b
  ·rw[if_pos j,db j];rfl
  rw[if_neg j,dk j];rfl
 rw[ak (by simp;omega),dk (λe=>B (by rw[e]))]
def Nq(l:List aw):(eM l).length=l.length:=(jM _ _).length_eq
def CD{s:Score}{p:Part}{v:View}(h:v∈ec s p):v.part=p.id:=by
 obtain⟨n,_,rfl⟩:=hz.1 h
 rfl
def S1{s:Score}(B:cN s){p:Part}(k:p∈s.parts):(s.parts.flatMap (ec s)).filter (λv=>decide (v.part=p.id))=ec s p:=by
 rw[K2]
 refine Eq.trans ?_ (sM Part.id (ec s) B.2.2.1.2.2.1 k)
 unfold List.flatMap
 congr 1
 refine hP λy F=>?_
 by_cases h:y.id=p.id
 ·rw[if_pos h,q8]
  intro v j
  simp[CD j,h]
 rw[if_neg h,k3]
 intro v j
 simp[CD j,h]
def II{s:Score}(k:cN s){v:View}(h:v∈s.parts.flatMap (ec s)):gJ s v:=by
 obtain⟨p,j,h⟩:=j1.1 h
 obtain⟨n,_,rfl⟩:=hz.1 h
 exact r8 (pj k j) _
def IH{s:Score}(F:cN s)(j:(s.parts.all λp=>!jc s p)=true){p:Part}(k:p∈s.parts):BL s (s.parts.flatMap (ec s)) p:=by
 have j:=dT.1 j p k
 unfold jc at j
 simp only[hC,hV]at j
 obtain⟨U,Y⟩:=wJ F k
 refine⟨(iq (fZ (ct s p)) p.ed.toNat).map λn=>λ_ w=>decide (w.bc=0)||decide (w.bc=n),?_,λ_=>⟨by simp[iq];omega,λm M w O=>?_⟩⟩
 ·rw[S1 F k,k6];rfl
 by_cases B:w.bc=0
 ·have G:0<(iq (fZ (ct s p)) p.ed.toNat).length:=by simp[iq];omega
  refine⟨_,hz.2 ⟨_,hT G,rfl⟩,?_⟩
  simp[B]
 have N:w.bc∈fZ (ct s p):=(GV _ _).2 ⟨B,w,j1.2 ⟨m,M,O⟩,rfl⟩
 exact⟨_,hz.2 ⟨w.bc,OR (by omega) (by omega) N,rfl⟩,by simp⟩
def IG{s:Score}(j:cN s):(s.parts.flatMap (ec s)).length<=2400:=by
 have M:=j.2.2.1.1.2
 have:∀(ps:List Part),(∀p∈ps,p∈s.parts)->(ps.flatMap (ec s)).length<=40*ps.length:=by
  intro ps
  induction ps with
  |nil=>intro _;simp
  |cons p ps B=>
   intro h
   have:=B λq k=>h q (by simp[k])
   obtain⟨F,G⟩:=wJ j (h p (by simp))
   have e:(ec s p).length=p.ed.toNat:=by simp[ec,iq]
   rw[h8,e4,List.length_cons];omega
 have:=this s.parts λ_ h=>h
 omega
def Vm{w:dB}{r:Room}(h:np w r)(Y:ot ()=some true):zD (w,r)=some true:=by
 obtain⟨u,Z,k⟩:=GQ h
 unfold zD
 dsimp only
 refine(aI Y).trans ((aI Z).trans ?_)
 cases u with
 |false=>exact ak rfl
 |true=>
  have k:=k rfl
  obtain⟨j,af,N,ag,ah⟩:=id k
  obtain⟨O,U,ai⟩:=id h
  obtain⟨ab,an⟩:=xm U N
  have al:=j.2.2.1.1.2
  refine(aj rfl).trans ((aI (IK O j)).trans ?_)
  by_cases G:(w.score.parts.all λp=>!jc w.score p)=true
  ·rw[if_pos G]
   refine(aj rfl).trans ?_
   refine(aI (GS h k (IG j) (λv aa=>II j aa) (λp B=>IH j G B))).trans ?_
   rw[uk h,if_pos k]
   have e:w.score.parts.flatMap (dW w.score r.bA (bN r.form) (w.score.parts.flatMap (ec w.score)))=eh w.score r.bA (bN r.form):=by
    unfold eh List.flatMap
    congr 1
    refine hP λp B=>?_
    obtain⟨ad,ae⟩:=wJ j B
    unfold dW
    refine if_pos ?_
    have F:0<(ec w.score p).length:=by simp[ec,iq];omega
    exact hU.2 ⟨_,j1.2 ⟨p,B,hT F⟩,by simp[CD (hT F)]⟩
   have F:=(rM (c:=r.bA) j ab).2
   have M:=A9 (a:=eM (eh w.score r.bA (bN r.form))) (b:=eM (eh w.score r.bA (bN r.form))) (by rw[Nq];omega)
   rw[db rfl]at M
   rw[e]
   refine(aI (x:=(eM (eh w.score r.bA (bN r.form)),0)) rfl).trans ?_
   refine(aI (x:=true) ?_).trans rfl
   refine(ak rfl).trans ((ak rfl).trans ((ak rfl).trans ?_))
   exact aI M
  rw[if_neg G];rfl
end Go.Proofs.YthhlipkkjippfaaGreatDoor
namespace Go.Proofs.YthhlipkkjippfaaGreatDoor
open Go Go.ag Go.Sy
attribute [local instance] bV cB
def Tq:aM:=⟨1,⟨4,1⟩,0⟩
def u7:Part:=⟨1,0,0,0,2,⟨0,0⟩,⟨0,0,0⟩,⟨0,0,8⟩⟩
def u9:Part:=⟨2,0,1,1,1,⟨0,0⟩,⟨0,0,0⟩,⟨0,0,8⟩⟩
def I9:aq:=⟨5,1,1,0,0,⟨0,1⟩,⟨1,1⟩,⟨0,0,4⟩⟩
def eC:Score:=⟨3,[Tq],[u7,u9],[I9]⟩
def jw:dB:=⟨eC,⟨0,[],[],⟨0,0,0⟩,[]⟩,[]⟩
def sI(cs:List Cut):Form:=⟨1,[⟨0,1,2⟩],[],⟨0,0,0⟩,cs⟩
def mB(BC:Int)(cs:List Cut):Room:=⟨BC,sI cs,[]⟩
def uY:List Cut:=[⟨0,1,1⟩]
def gy(part start j:Int):aw:=⟨part,⟨start,1⟩,⟨1,1⟩,⟨0,0,j⟩⟩
theorem TH:ES ()=some (jw,mB 3 []):=rfl
theorem pg:cN eC:=⟨by decide +kernel,by decide +kernel,by decide +kernel,by decide +kernel,by decide +kernel,(No (m:=[I9]) (List.pairwise_singleton _ _) (.refl _) (by decide +kernel)).symm⟩
def yl(BC:Int)(cs:List Cut)(h:cs.length<=10):np jw (mB BC cs):=⟨by decide,⟨by show 1<=1048576;omega,by show 0<=1048576;omega,by show cs.length<=1048576;omega⟩,by show 0<=1048576;omega⟩
def Ja:lM jw (mB 3 []):=⟨pg,rfl,by decide +kernel,rfl,by decide +kernel⟩
def Tu:lM jw (mB 3 uY):=⟨pg,rfl,by decide +kernel,rfl,by decide +kernel⟩
def Jd:bN (sI [])=[⟨0,1⟩,⟨0,2⟩]:=by decide +kernel
def TC:bN (sI uY)=[⟨0,2⟩]:=by decide +kernel
def Gf{l m:List aw}(k:m.Perm l)(j:∀t∈l,ku t)(B:m.Pairwise λa b=>¬ju tS tK b a<0):eM l=m:=
 xb (nq (pZ Gu) l) B ((jM _ _).trans k.symm) ((N4 j).perm (jM _ _).symm)
def uZ:List aw:=[gy 1 0 4,gy 2 0 5,gy 1 4 4,gy 2 4 5]
def Tv:eh eC [] [⟨0,1⟩,⟨0,2⟩]=[gy 1 0 4,gy 1 4 4,gy 2 0 5,gy 2 4 5]:=by decide +kernel
def Tw:eh eC [] [⟨0,2⟩]=[gy 1 0 4,gy 2 0 5]:=by decide +kernel
def Jc:eM (eh eC [] [⟨0,1⟩,⟨0,2⟩])=uZ:=
 Gf (by rw[Tv];exact .cons _ (.swap _ _ _)) (rM pg (by decide)).1 (by decide +kernel)
def TB:eM (eh eC [] [⟨0,2⟩])=[gy 1 0 4,gy 2 0 5]:=
 Gf (by rw[Tw]) (rM pg (by decide)).1 (by decide +kernel)
def Tx:lf (jw,mB 3 [])=some (uZ,0):=by
 rw[uk (yl 3 [] (by decide)),if_pos Ja]
 show some (eM (eh eC [] (bN (sI []))),0)=_
 rw[Jd,Jc]
def Tz:lf (jw,mB 3 uY)=some ([gy 1 0 4,gy 2 0 5],0):=by
 rw[uk (yl 3 uY (by decide)),if_pos Tu]
 show some (eM (eh eC [] (bN (sI uY))),0)=_
 rw[TC,TB]
def TA:lf (jw,mB 2 [])=some ([],1):=by
 rw[uk (yl 2 [] (by decide)),if_neg (λh=>absurd h.2.1 (by decide))]
def Je(p:Part)(h:∀w∈cP (ct eC p),w.bc=0):fZ (ct eC p)=[]:=by
 rw[ti]
 intro a k
 obtain⟨j,w,B,rfl⟩:=(GV _ _).1 k
 exact j (h w B)
def TE:fZ (ct eC u7)=[]:=Je _ (by decide +kernel)
def TF:fZ (ct eC u9)=[]:=Je _ (by decide +kernel)
def Jb:(eC.parts.all λp=>!jc eC p)=true:=by
 show(!jc eC u7&&(!jc eC u9&&true))=true
 unfold jc
 rw[TE,TF];rfl
theorem Ts:tZ jw=some (eC.parts.flatMap (ec eC),0):=(IK (w:=jw) (by decide) pg).trans (by rw[if_pos (show(jw.score.parts.all λp=>!jc jw.score p)=true from Jb)];rfl)
def Tt:(eC.parts.flatMap (ec eC)).length=3:=by
 show(ec eC u7++(ec eC u9++[])).length=3
 simp[ec,iq,u7,u9]
def TG:oy (jw,(mB 3 [],eC.parts.flatMap (ec eC)))=some (uZ,0):=by
 rw[GS (yl 3 [] (by decide)) Ja (IG pg) (λv k=>II pg k) (λp j=>IH pg Jb j)]
 have e:jw.score.parts.flatMap (dW jw.score (mB 3 []).bA (bN (mB 3 []).form) (eC.parts.flatMap (ec eC)))=eh eC [] (bN (sI [])):=by
  unfold eh List.flatMap
  congr 1
 rw[e,Jd,Jc]
def head_eq:ot ()=some true:=by
 unfold ot
 refine(aI TH).trans ?_
 refine(aI Tx).trans ((aI Ts).trans ((aI TG).trans ((aI Tz).trans ((aI TA).trans ?_))))
 refine(aI (x:=true) ?_).trans ?_
 ·refine(ak rfl).trans ((ak rfl).trans ((ak rfl).trans ((ak rfl).trans ((ak rfl).trans (ea some (db ?_))))))
  exact ea Int.ofNat Tt
 have s0:l4 (uZ,uZ)=some true:=(A9 (by decide)).trans (ea some (db rfl))
 have s1:l4 ([gy 1 0 4,gy 2 0 5],[gy 1 0 4,gy 2 0 5])=some true:=(A9 (by decide)).trans (ea some (db rfl))
 refine(aI (x:=(⟨0,1⟩:Rat)) rfl).trans ((aI (x:=(⟨1,1⟩:Rat)) rfl).trans ((aI (x:=(⟨0,1⟩:Rat)) rfl).trans ((aI (x:=(⟨1,1⟩:Rat)) rfl).trans ((aI (x:=(⟨4,1⟩:Rat)) rfl).trans ((aI (x:=(⟨1,1⟩:Rat)) rfl).trans ((aI (x:=(⟨4,1⟩:Rat)) rfl).trans ((aI (x:=(⟨1,1⟩:Rat)) rfl).trans ?_)))))))
 refine(aI (x:=true) ?_).trans rfl
 refine(ak rfl).trans ((aI s0).trans ((ak rfl).trans ((aI s0).trans ((ak rfl).trans ((cq (by decide)).trans (aI s1))))))
end Go.Proofs.YthhlipkkjippfaaGreatDoor
namespace Go.Proofs.YthhlipkkjippfaaGreatDoor
open Go Go.ag Go.Sy
attribute [local instance] bV cB
def aaY(f:Nat)(t:Ty)(x:t.den):1<=bT (f+1) t x:=by cases t<;>simp[bT]
def xp(f:Nat)(t:Ty)(xs:List t.den):xs.length+1<=bT (f+2) (.list t) xs:=by
 show xs.length+1<=(List.map (λx=>bT (f+1) t x) xs).sum+1
 have:∀l:List t.den,l.length<=(List.map (λx=>bT (f+1) t x) l).sum:=λl=>by
  induction l with
  |nil=>exact j5 _
  |cons x l j=>have:=aaY f t x;simp only[List.length_cons,fv,List.sum_cons];omega
 have:=this xs
 omega
theorem wtS{s:Score}{f:Nat}:s.bars.length<=bT (f+4) (.st 6) s:=by
 have e:bT (f+4) (.st 6) s=1+(bT (f+3) (.list (.st 1)) s.bars+(bT (f+3) (.list (.st 4)) s.parts+bT (f+3) (.list (.st 5)) s.notes))+1:=rfl
 have j:s.bars.length+1<=bT (f+3) (.list (.st 1)) s.bars:=xp (f+1) (.st 1) s.bars
 omega
theorem wtF{x:Form}{f:Nat}(h:bT (f+4) (.st 11) x<=1048576):pX x:=by
 have e:bT (f+4) (.st 11) x=1+(bT (f+3) (.list (.st 8)) x.aX+(bT (f+3) (.list (.st 9)) x.bz+(bT (f+3) (.st 7) x.jump+bT (f+3) (.list (.st 10)) x.ba)))+1:=rfl
 have j:x.aX.length+1<=bT (f+3) (.list (.st 8)) x.aX:=xp (f+1) (.st 8) x.aX
 have k:x.bz.length+1<=bT (f+3) (.list (.st 9)) x.bz:=xp (f+1) (.st 9) x.bz
 have B:x.ba.length+1<=bT (f+3) (.list (.st 10)) x.ba:=xp (f+1) (.st 10) x.ba
 exact⟨by omega,by omega,by omega⟩
def Gc{w:dB}{r:Room}(M:bT 9 (.st 13) w<=1048576)(N:bT 9 (.st 14) r<=1048576):np w r:=by
 have F:bT 9 (.st 13) w=bT 8 (.st 6) w.score+(bT 8 (.st 11) w.form+bT 8 (.list (.st 12)) w.Gw)+1:=rfl
 have G:bT 9 (.st 14) r=1+(bT 8 (.st 11) r.form+bT 8 (.list (.int .i64)) r.bA)+1:=rfl
 have k:w.score.bars.length<=bT 8 (.st 6) w.score:=wtS (f:=4)
 have B:r.bA.length+1<=bT 8 (.list (.int .i64)) r.bA:=xp 6 (.int .i64) r.bA
 have j:bT 8 (.st 11) r.form<=1048576:=by omega
 exact⟨by omega,wtF (f:=4) j,by omega⟩
def Vo(j:Ty.den (.st 13))(B:bT 9 (.st 13) j<=1048576)(G:ff 9 (.st 13) j)(k:Ty.den (.st 14))(F:bT 9 (.st 14) k<=1048576)(M:ff 9 (.st 14) k):zC (j,k)=some true:=Vl (Gc B F) head_eq
def Vp(j:Ty.den (.st 13))(B:bT 9 (.st 13) j<=1048576)(G:ff 9 (.st 13) j)(k:Ty.den (.st 14))(F:bT 9 (.st 14) k<=1048576)(M:ff 9 (.st 14) k):zD (j,k)=some true:=Vm (Gc B F) head_eq
end Go.Proofs.YthhlipkkjippfaaGreatDoor
namespace Go.Proofs.YthhlipkkjippfaaGreatDoor
open Go Go.ag Go.Sy
attribute [local instance] bV cB
def vA(k:Int)(i:Nat):Bool:= !aA (qp .u8 (pW .u8 k (i:Int)) 1) 0
noncomputable def mc(s:Score)(k:Int)(z:Nat×(List View×List (Int×Bool)))(p:Part):Nat×(List View×List (Int×Bool)):=if vA k z.1=true then(z.1+1,(z.2.1++[ct s p],aH z.2.2 p.id true))else(z.1+1,z.2)
def kS(K:List Part)(m:List (Int×Bool)):List (Int×Bool):=K.foldl (λm x=>aH m (Part.id x) true) m
def Gk(s:Score)(k:Int):∀(ps:List Part)(i:Nat)(l:List View)(m:List (Int×Bool)),∃K,K.Sublist ps/\(ps.foldl (mc s k) (i,(l,m))).2=(l++K.map (ct s),kS K m)
 | [],i,l,m=>⟨[],.slnil,by simp[kS]⟩
 |p::ps,i,l,m=>by
  rw[List.foldl_cons]
  unfold mc
  by_cases F:vA k i=true
  ·rw[if_pos F]
   obtain⟨K,B,j⟩:=Gk s k ps (i+1) (l++[ct s p]) (aH m p.id true)
   exact⟨p::K,B.cons₂ p,by unfold mc at j;rw[j,j2];rfl⟩
  rw[if_neg F]
  obtain⟨K,B,j⟩:=Gk s k ps (i+1) l m
  exact⟨K,B.cons p,by unfold mc at j;rw[j]⟩
def Vd{s:Score}(G:cN s)(k:Int):∃K,K.Sublist s.parts/\zE (s,k)=some (K.map (ct s),(kS K [],true)):=by
 have ae:=G.2.2.1.1.2
 obtain⟨K,aa,ab⟩:=Gk s k s.parts 0 [] []
 refine⟨K,aa,?_⟩
 unfold zE
 dsimp only
 refine(fN (x:=.inl (K.map (ct s),kS K [])) ?_).trans rfl
 refine(dm (σ:=Nat×(List View×List (Int×Bool))) (st:=λz k=>(k,z.2)) (l:=s.parts) (λz p=>(Sum.inl (mc s k z p):_⊕((List View×List (Int×Bool))⊕(List View×(List (Int×Bool)×Bool))))) (λz=>Sum.inl z.2) (λk z=>z.1=k/\z.2.1.length<=k) (λi p z B F=>?_) (λi p z z' B F O=>?_) (λz _=>by dsimp only;rw[aj (by simp)]) (0,([],[])) ⟨rfl,eb _⟩).trans ?_
 ·have ad:=bx B
  have U:=dn B
  have Y:partOf s p.id=some p:=mE G.2.2.1.2.2.1 U
  obtain⟨M,Z⟩:=F
  subst M
  obtain⟨n,L,N⟩:=z
  dsimp only at *
  rw[ak (db (by omega))]
  refine(fN (x:=.inl (mc s k (n,(L,N)) p).2) ?_).trans ?_
  ·refine(aI (aS B)).trans ?_
   refine(cq (db (by omega))).trans ?_
   unfold mc
   cases j:vA k n with
   |false=>
    refine(ak ?_).trans rfl
    unfold vA at j
    simpa using j
   |true=>
    refine(aj (by unfold vA at j;simpa using j)).trans ?_
    refine(aI (get_eq G Y)).trans ((aj rfl).trans ?_)
    refine(cq (db ?_)).trans rfl
    have e:(List.append L ((ct s p,(0:Int)).1::([]:List View))).length=L.length+1:=e4
    rw[e];omega
  have e:(mc s k (n,(L,N)) p).1=n+1:=by unfold mc;split<;>rfl
  rw[Sum.elim_inl,aC (by omega)];rfl
 ·cases O
  obtain⟨M,Z⟩:=F
  subst M
  unfold mc
  split
  ·exact⟨rfl,by simp;omega⟩
  exact⟨rfl,by dsimp only;omega⟩
 refine ea some ((eS (mc s k) s.parts (0,([],[])) (λ_ _ _=>rfl)).trans (ea Sum.inl ?_))
 rw[ab,List.nil_append]
def SF(v:View):di (λ_ _=>true) v=v:=by
 obtain⟨p,k⟩:=v
 unfold di fJ
 have:∀l:List aL,l.map (λm=>(⟨m.az,m.key,m.length,m.notes.filter λ_=>true⟩:aL))=l:=λl=>by
  induction l with
  |nil=>rfl
  |cons m l j=>rw[fv,j,q8.2 λ_ _=>rfl]
 exact ea _ (this k)
def WR{s:Score}(k:cN s){l:List View}(M:l.length<=100)(h:∀v∈l,∃p∈s.parts,v=ct s p){p:Part}(O:p∈s.parts):BL s l p:=by
 refine⟨List.replicate (l.filter λv=>decide (v.part=p.id)).length λ_ _=>true,?_,λN=>⟨?_,λm _ w _=>?_⟩⟩
 ·rw[List.map_replicate,SF,List.eq_replicate_iff]
  refine⟨rfl,λv Y=>?_⟩
  obtain⟨Z,aa⟩:=hN.1 Y
  obtain⟨q,U,rfl⟩:=h v Z
  have G:q.id=p.id:=hD aa
  have B:=mE k.2.2.1.2.2.1 O
  have j:=mE k.2.2.1.2.2.1 U
  rw[G,B]at j
  rw[kA j]
 ·rw[sk]
  exact hF (j4 _ _) M
 refine⟨λ_ _=>true,?_,rfl⟩
 rw[List.mem_replicate]
 exact⟨λF=>N (by rw[F];rfl),rfl⟩
def WV{s:Score}{c:List Int}{vs:List aF}{l m:List View}(h:∀v,v∈l↔v∈m)(p:Part):dW s c vs l p=dW s c vs m p:=by
 unfold dW
 have:(l.any λv=>decide (v.part=p.id))=m.any λv=>decide (v.part=p.id):=by
  rw[hI,hU,hU]
  exact⟨λ⟨v,j,k⟩=>⟨v,(h v).1 j,k⟩,λ⟨v,j,k⟩=>⟨v,(h v).2 j,k⟩⟩
 rw[this]
def Mk{s:Score}(N:cN s){c:List Int}{vs:List aF}(O:vs.length<=20000)(K:List Part):s.parts.flatMap (dW s c vs (K.map (ct s)))=(eh s c vs).filter λt=>an (kS K []) t.part false:=by
 have G:∀k,an (kS K []) k false=K.any λx=>decide (x.id=k):=λk=>by
  unfold kS;rw[JE,oc,q9]
 unfold eh
 rw[K2]
 unfold List.flatMap
 congr 1
 refine hP λp M=>?_
 unfold dW
 have e:((K.map (ct s)).any λv=>decide (v.part=p.id))=K.any λx=>decide (x.id=p.id):=by rw[List.any_map];rfl
 rw[e]
 have F:∀x∈fR s c vs p,an (kS K []) x.part false=K.any λx=>decide (x.id=p.id):=λx j=>by rw[G,(AM N M O j).2.1]
 cases B:K.any λx=>decide (x.id=p.id)with
 |true=>exact(q8.2 λx j=>(F x j).trans B).symm
 |false=>exact(k3.2 λx j=>by rw[F x j,B];exact Bool.false_ne_true).symm
def Nt{l:List aw}(h:∀t∈l,ku t)(q:aw->Bool):eM (l.filter q)=(eM l).filter q:=
 Gf ((jM _ _).filter q) (λt ht=>h t (hN.1 ht).1) (List.Pairwise.sublist l2 (nq (pZ Gu) l))
def Y4{T:List aw}(U:T.length<=1000000000000)(q:Int->Bool)(m:List (Int×Bool))(N:∀k,an m k false=q k):ay (λj:(Int×(List aw))=>ab (ah j.1 (T.length:Int)) (aa (aa (au T j.1) λB=>ab (an m B.part false) (ae (decide ((List.append j.2 (B::([]:List aw))).length*64<=140737488355328/\(List.append j.2 (B::([]:List aw))).length<=9223372036854775807)) <|some (List.append j.2 (B::([]:List aw)))) (some j.2)) λ(B:(List aw))=>ae (ai (j.1+1)) <|some (.inl ((j.1+1),B))) (some (.inr j.2))) (0,([]:List aw))=some (T.filter λt=>q t.part):=by
 refine(dm (st:=λ(z:List aw) k=>(k,z)) (l:=T) (λz x=>(Sum.inl (if q x.part=true then z++[x]else z):List aw⊕List aw)) (λz=>z) (λk z=>z.length<=k) (λk x z G F=>?_) (λk x z z' G F M=>?_) (λz _=>by dsimp only;rw[aj (by simp)]) [] (eb _)).trans ?_
 ·have Y:=bx G
  dsimp only
  rw[ak (db (by omega))]
  refine(aI (x:=if q x.part=true then z++[x]else z) ((aI (aS G)).trans ?_)).trans (aC (by omega))
  rw[N]
  cases q x.part with
  |false=>rfl
  |true=>
   refine(ak rfl).trans ((cq (db ?_)).trans rfl)
   have e:(List.append z (x::([]:List aw))).length=z.length+1:=e4
   rw[e];omega
 ·cases M
  split
  ·rw[e4];exact Nat.succ_le_succ F
  exact Nat.le_succ_of_le F
 refine ea some ((eS (λz x=>if q x.part=true then z++[x]else z) T [] (λ_ _ _=>rfl)).trans ?_)
 have key:∀(l:List aw)(z:List aw),l.foldl (λz x=>if q x.part=true then z++[x]else z) z=z++l.filter λt=>q t.part:=by
  intro l
  induction l with
  |nil=>intro z;simp
  |cons x l O=>
   intro z
   rw[List.foldl_cons,O,kB]
   split
   ·rw[j2];rfl
   rfl
 rw[key,List.nil_append]
theorem Rw{L:List View}(U:L.length<=1000000):ay (λj:(Int×(List View))=>ab (ah j.1 (L.length:Int)) (ae (ai ((L.length:Int)-1)) <|ae (ai (((L.length:Int)-1)-j.1)) <|aa (au L (((L.length:Int)-1)-j.1)) λF=>ae (decide ((List.append j.2 (F::([]:List View))).length*32<=140737488355328/\(List.append j.2 (F::([]:List View))).length<=9223372036854775807)) <|ae (ai (j.1+1)) <|some (.inl ((j.1+1),(List.append j.2 (F::([]:List View)))))) (some (.inr j.2))) (0,([]:List View))=some L.reverse:=by
 refine(dm (st:=λ(z:List View) k=>(k,z)) (l:=L.reverse) (λz x=>(Sum.inl (z++[x]):List View⊕List View)) (λz=>z) (λk z=>z.length<=k) (λk x z B G=>?_) (λk x z z' B G N=>by cases N;rw[e4];exact Nat.succ_le_succ G) (λz _=>by dsimp only;rw[aj (by simp)]) [] (eb _)).trans (ea some ((eS (λz x=>z++[x]) L.reverse [] (λ_ _ _=>rfl)).trans ?_))
 ·have M:=bx B
  rw[LB]at M
  rw[List.getElem?_reverse M]at B
  have hi:((L.length:Int)-1)-(k:Int)=((L.length-1-k:Nat):Int):=by omega
  dsimp only
  rw[ak (db (by omega)),aC (by omega),aC (by omega),hi]
  refine(aI (aS B)).trans ?_
  have e:(List.append z (x::([]:List View))).length=z.length+1:=e4
  exact(cq (db (by rw[e];omega))).trans (aC (by omega))
 have key:∀(l:List View)(z:List View),l.foldl (λz x=>z++[x]) z=z++l:=by
  intro l
  induction l with
  |nil=>intro z;simp
  |cons x l O=>intro z;rw[List.foldl_cons,O,j2];rfl
 exact key _ _
def Vk{w:dB}{r:Room}(h:np w r)(aC:ot ()=some true)(k t:Int)(ht:0<=t/\t<=255):zB (w,(r,(k,t)))=some true:=by
 obtain⟨u,aF,G⟩:=GQ h
 unfold zB
 dsimp only
 refine(aI aC).trans ((aI aF).trans ?_)
 cases u with
 |false=>exact ak rfl
 |true=>
  have G:=G rfl
  obtain⟨F,aK,ax,aL,aM⟩:=id G
  obtain⟨aO,ay,aP⟩:=id h
  obtain⟨N,aW⟩:=xm ay ax
  have aU:=F.2.2.1.1.2
  obtain⟨K,aq,aJ⟩:=Vd F k
  have aQ:=aq.length_le
  have ad:∀v∈K.map (ct w.score),∃p∈w.score.parts,v=ct w.score p:=λv j=>by
   obtain⟨p,M,rfl⟩:=hz.1 j
   exact⟨p,aq.subset M,rfl⟩
  have ar:∀l:List View,l.length<=100->(∀v∈l,v∈K.map (ct w.score))->oy (w,(r,l))=some (eM (w.score.parts.flatMap (dW w.score r.bA (bN r.form) l)),0):=λl aD al=>
   GS h G (by omega) (λv j=>by
    obtain⟨p,M,rfl⟩:=ad v (al v j)
    exact pj F M) λp M=>WR F aD (λv j=>ad v (al v j)) M
  refine(aj rfl).trans ((aI aJ).trans ((aj rfl).trans ?_))
  have aV:=(rM (c:=r.bA) F N).2
  have ao:=(rM (c:=r.bA) F N).1
  have ag:=ar (K.map (ct w.score)) (by rw[hM];omega) λv j=>j
  rw[Mk F N,Nt ao]at ag
  refine(aI ag).trans ?_
  rw[uk h,if_pos G]
  refine(aI (x:=(eM (eh w.score r.bA (bN r.form)),0)) rfl).trans ?_
  have af:(eM (eh w.score r.bA (bN r.form))).length<=1000000000000:=by rw[Nq];omega
  refine(aI (Y4 af (λk=>an (kS K []) k false) (kS K []) λ_=>rfl)).trans ?_
  refine(aI (Rw (L:=K.map (ct w.score)) (by rw[hM];omega))).trans ?_
  have aR:(K.map (ct w.score)).length<=60:=by rw[hM];omega
  generalize az:K.map (ct w.score)=L at *
  have aB:∃B:List View,(ab (ah 0 (L.length:Int)) (ae (!(aA (L.length:Int) 0)) <|aa (au L (Int.tmod (IntKind.wrap .i64 t) (L.length:Int))) λU=>ae (decide ((List.append L.reverse (U::([]:List View))).length*32<=140737488355328/\(List.append L.reverse (U::([]:List View))).length<=9223372036854775807)) <|some (List.append L.reverse (U::([]:List View)))) (some L.reverse))=some B/\B.length<=100/\∀v,v∈B↔v∈L:=by
   by_cases aN:L.length=0
   ·exact⟨L.reverse,aj (dk (by omega)),by rw[LB];omega,λv=>List.mem_reverse⟩
   have aG:IntKind.wrap .i64 t=t:=by
    unfold IntKind.wrap
    simp[IntKind.bits,IntKind.signed]
    omega
   have aE:=Int.emod_nonneg t (b:=(L.length:Int)) (by omega)
   have aT:=Int.emod_lt_of_pos t (b:=(L.length:Int)) (by omega)
   have hi:Int.tmod t (L.length:Int)=((t%(L.length:Int)).toNat:Int):=by
    rw[o1 ht.1,Int.toNat_of_nonneg aE]
   have ai:(t%(L.length:Int)).toNat<L.length:=by omega
   have aH:L[(t%(L.length:Int)).toNat]?=some L[(t%(L.length:Int)).toNat]:=c4 ai
   refine⟨L.reverse++[L[(t%(L.length:Int)).toNat]],?_,by simp;omega,λv=>?_⟩
   ·refine(ak (db (by omega))).trans ((cq ?_).trans ?_)
    ·simp only[hC,aA,hV];omega
    rw[aG,hi]
    refine(aI (aS aH)).trans ((cq (db ?_)).trans rfl)
    have e:(List.append L.reverse (L[(t%(L.length:Int)).toNat]::([]:List View))).length=L.reverse.length+1:=e4
    rw[e,LB];omega
   rw[h5,List.mem_reverse,p5]
   refine⟨λh=>?_,.inl⟩
   rcases h with h|rfl
   ·exact h
   exact hT ai
  obtain⟨B,av,aw,Y⟩:=aB
  refine(aI av).trans ?_
  have Z:=ar B aw λv j=>(Y v).1 j
  have e:w.score.parts.flatMap (dW w.score r.bA (bN r.form) B)=w.score.parts.flatMap (dW w.score r.bA (bN r.form) L):=ea (λf=>List.flatMap f w.score.parts) (funext (WV Y))
  rw[e,<-az,Mk F N,Nt ao]at Z
  refine(aI Z).trans ?_
  have O:=A9 (a:=(eM (eh w.score r.bA (bN r.form))).filter λt=>an (kS K []) t.part false) (b:=(eM (eh w.score r.bA (bN r.form))).filter λt=>an (kS K []) t.part false) (hF (j4 _ _) af)
  rw[db rfl]at O
  refine(aI (x:=true) ?_).trans rfl
  refine(ak rfl).trans ((ak rfl).trans ((ak rfl).trans ((ak rfl).trans ?_)))
  exact(aI O).trans ((ak rfl).trans (aI O))
end Go.Proofs.YthhlipkkjippfaaGreatDoor
namespace Go.Proofs.YthhlipkkjippfaaGreatDoor
open Go Go.ag Go.Sy
attribute [local instance] bV cB
def aap(n:Int)(h:(Lit.int .u8 n).wf=true):0<=n/\n<=255:=by
 have h:=Bool.and_eq_true_iff.1 (show(decide (IntKind.u8.min<=n)&&decide (n<=IntKind.u8.max))=true from h)
 exact⟨hD h.1,hD h.2⟩
def Vn(B:Ty.den (.st 13))(G:bT 9 (.st 13) B<=1048576)(Y:ff 9 (.st 13) B)(F:Ty.den (.st 14))(M:bT 9 (.st 14) F<=1048576)(Z:ff 9 (.st 14) F)(k:Ty.den (.int .u8))(O:bT 9 (.int .u8) k<=1048576)(aa:ff 9 (.int .u8) k)(j:Ty.den (.int .u8))(U:bT 9 (.int .u8) j<=1048576)(N:ff 9 (.int .u8) j):zB (B,(F,(k,j)))=some true:=Vk (Gc G M) head_eq k j (aap j N)
end Go.Proofs.YthhlipkkjippfaaGreatDoor
