import Derived.Test.YthhlipkkjippfaaGreatDoorX8
set_option linter.all false
namespace Go.Proofs.YthhlipkkjippfaaGreatDoor
open Go Go.ag Go.Sy
attribute [local instance] ch cF
def S8(q:Rat):z7 q=some (decide (bQ q)):=by
 unfold z7
 rw[si,af]
 by_cases j:jD q
 ·have B:q.d≠0:=by have:=j.1;omega
  rw[an (by simp[j]),cr (by simp[B])]
  by_cases k:0<=q.n
  ·rw[an (by simp[k]),af]
   exact dn some (by rw[hC];simp[bQ,j,k])
  rw[aj (by simp;omega),af,dd (λh=>k h.2.1)]
 rw[aj (by simp[j]),af,dd (λh=>j h.1)]
def iV(w:aw):Prop:=(0<=w.bp/\w.bp<=9)/\(0<=w.bO/\w.bO<=20)/\bQ w.start/\cd w.aU
instance (w:aw):Decidable (iV w):=inferInstanceAs (Decidable (_/\_/\_/\_))
def Pc(a b c d e f:Bool):ab a (ab b (ab c (ab d (aa (some e) λj=>ab j (aa (some f) λk=>some k) (some false)) (some false)) (some false)) (some false)) (some false)=some (a&&b&&c&&d&&e&&f):=by cases a<;>cases b<;>cases c<;>cases d<;>cases e<;>cases f<;>rfl
def S7(w:aw):z6 w=some (decide (iV w)):=by
 unfold z6
 rw[S8,mA,Pc,af]
 exact kg (by simp[iV,mo])
def S1{l:List aw}(F:l.length<=1000000000):A7 (l,())=some (l.any λw=>!decide (iV w)):=by
 unfold A7
 dsimp only
 rw[ma (l:=l) (λw=>!decide (iV w)) (λk x j=>by
  have B:=bG j
  unfold E9
  rw[an (by simpa using B),bh (aW j),S7,af,af]
  cases decide (iV x)
  ·rfl
  show ab false _ _=_
  rw[gV,aE (by omega)];rfl) (by rw[aj (by simp)])]
def jg(v:aJ):Prop:=v.bu.length<=4000/\(de v).length<=20000/\∀m∈v.bu,∀w∈m.aK,iV w
instance (v:aJ):Decidable (jg v):=inferInstanceAs (Decidable (_/\_/\_))
def JW{ρ:Type}(r:ρ):∀(l:List aR)(z:Int),ed (λ(z:Int)(m:aR)=>if(m.aK.any λw=>!decide (iV w))=true then(.inr (.inr r):Int⊕(Int⊕ρ))else .inl (z+(m.aK.length:Int))) (λz=>.inl z) l z=if(∀m∈l,∀w∈m.aK,iV w)then .inl (z+((l.flatMap aR.aK).length:Int))else .inr r
 | [],z=>by simp[ed]
 |m::l,z=>by
  simp only[ed]
  by_cases j:∀w∈m.aK,iV w
  ·have e:(m.aK.any λw=>!decide (iV w))=false:=by
    rw[k7];intro w k;simp[j w k]
   rw[e,if_neg (by decide)]
   dsimp only
   rw[JW r l]
   rw[hM,e3,Int.natCast_add,abn]
   refine Ku ?_
   simp only[fb,forall_eq_or_imp]
   exact⟨λh=>⟨j,h⟩,λh=>h.2⟩
  have e:(m.aK.any λw=>!decide (iV w))=true:=by
   rw[h5]
   refine hf λB=>j λw k=>?_
   refine hf λF=>B ⟨w,k,by simp[F]⟩
  rw[e,if_pos rfl,if_neg (λh=>j (h m (by simp)))]
def yB{v:aJ}(U:v.bu.length<=1000000)(Y:(de v).length<=1000000):rU v=some (decide (jg v)):=by
 unfold rU
 rw[dU (σ:=Int) (st:=λz k=>(z,k)) (l:=v.bu) (λ(z:Int)(m:aR)=>if(m.aK.any λw=>!decide (iV w))=true then .inr (.inr false)else .inl (z+(m.aK.length:Int))) (λz=>.inl z) (λk z=>0<=z/\z<=k*1000000) (λk x z j O=>by
  have M:=bG j
  have N:=nr (dk j)
  dsimp only
  rw[an (by simpa using M),bh (aW j),aE (by omega),S1 (by omega),af]
  cases (x.aK.any λw=>!decide (iV w))
  ·rw[gV,aE (by omega)];rfl
  ·rfl) (λk x z z' j O B=>by
  have N:=nr (dk j)
  by_cases F:(x.aK.any λw=>!decide (iV w))=true
  ·rw[if_pos F]at B;cases B
  rw[if_neg F]at B;cases B;omega) (λz _=>by dsimp only;rw[aj (by simp)]) 0 (by omega),JW]
 by_cases h:∀m∈v.bu,∀w∈m.aK,iV w
 ·rw[if_pos h,fk]
  have e:(v.bu.flatMap aR.aK)=de v:=rfl
  rw[e,abv,iB,af]
  refine dn some ?_
  unfold leI
  rw[hC,db,ea,ea,ea]
  constructor
  ·rintro⟨a,b⟩;exact⟨by omega,by omega,h⟩
  rintro⟨a,b,_⟩;exact⟨by omega,by omega⟩
 rw[if_neg h,fQ,dd (λG=>h G.2.2)]
def B6{s:bI}{v:aJ}(h:ic s v):jg v:=by
 obtain⟨Y,ae,⟨p,af,O⟩,N,_⟩:=h
 have ab:=Y.2.1.1.2
 refine⟨by omega,N,λm U w Z=>?_⟩
 obtain⟨k,j⟩:=u4 U
 have ad:=bG j
 have aa:(v.bu.zip s.bars)[k]?=some (m,s.bars[k]'(by omega)):=by rw[vf];exact⟨j,c3 (by omega)⟩
 have:=dT.1 O _ (dk aa)
 unfold iT at this
 simp only[db,dT,ea]at this
 obtain⟨_,B,F,G,M,_⟩:=this.2 w Z
 exact⟨B,F,M,G⟩
theorem KF{α:Type}(cM:α->Bool){step:Int×(Int×List α)->Option ((Int×(Int×List α))⊕(Int×List α))}(ae:∀(i j:Nat)(l:List α)(x:α),l[j]?=some x->i<j->l.length<=1000000000->step ((i:Int),((j:Int),l))=some (.inl (if cM x=true then(((i+1:Nat):Int),(((j+1:Nat):Int),l.set i x))else((i:Int),(((j+1:Nat):Int),l)))))(ab:∀(i:Nat)(l:List α),step ((i:Int),((l.length:Int),l))=some (.inr ((i:Int),l))) :
  ∀(n i j:Nat)(l:List α),j+n=l.length->i<j->l.length<=1000000000->∃l',aB step ((i:Int),((j:Int),l))=some (((i+((l.drop j).filter cM).length:Nat):Int),l')/\l'.length=l.length/\l'.take (i+((l.drop j).filter cM).length)=l.take i++(l.drop j).filter cM:=by
 intro n
 induction n with
 |zero=>
  intro i j l ad O N
  have:j=l.length:=by omega
  subst this
  refine⟨l,?_,rfl,?_⟩
  ·rw[zz];exact iE (ab i l)
  rw[zz];simp
 |succ n Z=>
  intro i j l ad O N
  have U:j<l.length:=by omega
  have Y:l[j]?=some l[j]:=c3 U
  rw[hT U]
  generalize l[j]=x at Y
  have M:=ae i j l x Y O N
  cases k:cM x with
  |true=>
   rw[k,if_pos rfl]at M
   have aa:(l.set i x).drop (j+1)=l.drop (j+1):=by rw[List.drop_set_of_lt (by omega)]
   obtain⟨l',B,F,G⟩:=Z (i+1) (j+1) (l.set i x) (by rw[o2];omega) (by omega) (by rw[o2];omega)
   rw[aa]at B G
   rw[o2]at F
   have ht:(l.set i x).take (i+1)=l.take i++[x]:=by rw[List.take_succ,List.getElem?_set_self (by omega),List.take_set_of_le (eb _)];rfl
   refine⟨l',?_,F,?_⟩
   ·rw[mr M,B]
    simp[k0,k];omega
   rw[k0,if_pos k,List.length_cons,show i+(((l.drop (j+1)).filter cM).length+1)=i+1+((l.drop (j+1)).filter cM).length by omega,G,ht]
   simp
  |false=>
   rw[k,if_neg (by decide)]at M
   obtain⟨l',B,F,G⟩:=Z i (j+1) l (by omega) (by omega) N
   refine⟨l',?_,F,?_⟩
   ·rw[mr M,B]
    simp[k0,k]
   rw[k0,if_neg (by simp[k])];exact G
def Dh{α:Type}(cM:α->Bool):∀(l:List α),match l.findIdx? (λx=>!cM x)with
  |some i=>i<l.length/\l.filter cM=l.take i++(l.drop (i+1)).filter cM
  |none=>l.filter cM=l
 | []=>rfl
 |x::l=>by
  have j:=Dh cM l
  rw[p4]
  cases k:cM x with
  |true=>
   rw[if_neg (by simp)]
   cases B:l.findIdx? (λx=>!cM x)with
   |none=>
    rw[B]at j
    dsimp only at j
    show(x::l).filter cM=x::l
    rw[k0,if_pos k,j]
   |some i=>
    rw[B]at j
    dsimp only at j
    show i+1<(x::l).length/\(x::l).filter cM=(x::l).take (i+1)++((x::l).drop (i+1+1)).filter cM
    refine⟨by simp;omega,?_⟩
    rw[k0,if_pos k,j.2];rfl
  |false=>
   rw[if_pos (by simp)]
   show 0<(x::l).length/\(x::l).filter cM=(x::l).take 0++((x::l).drop (0+1)).filter cM
   refine⟨by simp,?_⟩
   rw[k0,if_neg (by simp[k])];rfl
def Tj{l:List aw}(ag:l.length<=1000000)(o:Int):(aa (aZ (aB (λF:Int=>ab (ah F (l.length:Int)) (ae ((leI 0 F)&&(ah F (l.length:Int))) <|aa (au l F) λB=>ab (!(aF B.bO o)) (some (.inr (.inr F))) (ae (ai (F+1)) <|some (.inl (F+1)))) (some (.inr (.inl ())))) 0) λ(F:Unit)=>some (-1)) λ(F:Int)=>ab (aF F (-1)) (some l) (aa (ae (ai (F+1)) <|aB (λB:(Int×(Int×(List aw)))=>ab (ah B.2.1 (B.2.2.length:Int)) (aa (ae ((leI 0 B.2.1)&&(ah B.2.1 (B.2.2.length:Int))) <|aa (au B.2.2 B.2.1) λG=>ab (!(!(aF G.bO o))) (ae ((leI 0 B.1)&&(ah B.1 (B.2.2.length:Int))) <|aa (au B.2.2 B.1) λao=>ae (ai (B.1+1)) <|some ((B.1+1),(List.set B.2.2 (Int.toNat B.1) G))) (some (B.1,B.2.2))) λ(G:(Int×(List aw)))=>ae (ai (B.2.1+1)) <|some (.inl (G.1,((B.2.1+1),G.2)))) (some (.inr (B.1,B.2.2)))) (F,((F+1),l))) λ(B:(Int×(List aw)))=>ae ((leI 0 B.1)&&(leI B.1 (B.2.length:Int))) <|ae ((leI 0 B.1)&&(leI B.1 ((List.append (List.take (Int.toNat B.1) B.2) (List.replicate (Int.toNat ((B.2.length:Int)-B.1)) ((⟨0,0,0,(⟨0,0⟩:Rat),(⟨0,0⟩:Rat),(⟨0,0,0⟩:aV)⟩:aw):aw))).length:Int))) <|some (List.take (Int.toNat B.1) (List.append (List.take (Int.toNat B.1) B.2) (List.replicate (Int.toNat ((B.2.length:Int)-B.1)) ((⟨0,0,0,(⟨0,0⟩:Rat),(⟨0,0⟩:Rat),(⟨0,0,0⟩:aV)⟩:aw):aw))))))=some (l.filter λw=>decide (w.bO=o)):=by
 have af:=KF (α:=aw) (λw=>decide (w.bO=o)) (step:=(λB:(Int×(Int×(List aw)))=>ab (ah B.2.1 (B.2.2.length:Int)) (aa (ae ((leI 0 B.2.1)&&(ah B.2.1 (B.2.2.length:Int))) <|aa (au B.2.2 B.2.1) λG=>ab (!(!(aF G.bO o))) (ae ((leI 0 B.1)&&(ah B.1 (B.2.2.length:Int))) <|aa (au B.2.2 B.1) λao=>ae (ai (B.1+1)) <|some ((B.1+1),(List.set B.2.2 (Int.toNat B.1) G))) (some (B.1,B.2.2))) λ(G:(Int×(List aw)))=>ae (ai (B.2.1+1)) <|some (.inl (G.1,((B.2.1+1),G.2)))) (some (.inr (B.1,B.2.2))))) (λi j l x N ar ag=>by
  have av:=bG N
  obtain⟨y,al⟩:∃y,l[i]?=some y:=⟨_,c3 (by omega)⟩
  dsimp only
  rw[an (da (by omega)),cr (show(leI 0 (j:Int)&&ah (j:Int) (l.length:Int))=true by rw[db];exact⟨da (by omega),da (by omega)⟩),bh (aW N)]
  show aa (ab (!(!(decide (x.bO=o)))) _ _) _=_
  cases decide (x.bO=o)
  ·rw[if_neg (by decide)]
   refine(aO (x:=((i:Int),l)) rfl).trans ?_
   exact aE (n:=(j:Int)+1) (by omega)
  rw[if_pos rfl]
  refine(aO (x:=((i:Int)+1,l.set i x)) ?_).trans ?_
  ·refine(an rfl).trans ?_
   rw[cr (show(leI 0 (i:Int)&&ah (i:Int) (l.length:Int))=true by rw[db];exact⟨da (by omega),da (by omega)⟩),bh (aW al),aE (by omega),Int.toNat_natCast]
  exact aE (n:=(j:Int)+1) (by omega)) (λi l=>by dsimp only;rw[aj (by simp)])
 rw[nw (l:=l) (λw=>!(decide (w.bO=o))) (λk x N=>by
  have ad:=bG N
  rw[an (by simpa using ad),cr (show(leI 0 (k:Int)&&ah (k:Int) (l.length:Int))=true by rw[db];exact⟨da (by omega),da (by omega)⟩),bh (aW N)]
  show ab (!(decide (x.bO=o))) _ _=_
  cases decide (x.bO=o)
  ·rfl
  show ab false _ _=_
  rw[gV,aE (by omega)];rfl) (by rw[aj (by simp)])]
 have M:=Dh (λw=>decide (w.bO=o)) l
 cases Y:l.findIdx? (λw=>!(decide (w.bO=o)))with
 |none=>
  rw[Y]at M
  dsimp only at M
  rw[M];rfl
 |some i=>
  rw[Y]at M
  dsimp only at M
  obtain⟨hi,M⟩:=M
  obtain⟨l',U,aq,O⟩:=af (l.length-(i+1)) i (i+1) l (by omega) (by omega) (by omega)
  rw[<-M]at O
  have ak:i+((l.drop (i+1)).filter λw=>decide (w.bO=o)).length=(l.filter λw=>decide (w.bO=o)).length:=by rw[M,e3,e8,o1 (by omega)]
  have ax:=kA (λw=>decide (w.bO=o)) l
  rw[ak]at U O
  refine(aO (x:=(i:Int)) rfl).trans ?_
  refine(aj (dd (by omega))).trans ?_
  refine(aO (x:=(((l.filter λw=>decide (w.bO=o)).length:Int),l')) ((aE (by omega)).trans U)).trans ?_
  generalize ay:(l.filter λw=>decide (w.bO=o))=r at *
  have Z:(List.append (List.take (Int.toNat (r.length:Int)) l') (List.replicate (Int.toNat ((l'.length:Int)-(r.length:Int))) ((⟨0,0,0,(⟨0,0⟩:Rat),(⟨0,0⟩:Rat),(⟨0,0,0⟩:aV)⟩:aw):aw)))=r++List.replicate (l'.length-r.length) (⟨0,0,0,⟨0,0⟩,⟨0,0⟩,⟨0,0,0⟩⟩:aw):=by rw[Int.toNat_natCast,O,show Int.toNat ((l'.length:Int)-(r.length:Int))=l'.length-r.length by omega];rfl
  dsimp only
  rw[Z]
  refine(cr (show(leI 0 (r.length:Int)&&leI (r.length:Int) (l'.length:Int))=true by rw[db];exact⟨da (by omega),da (by omega)⟩)).trans ?_
  refine(cr (show(leI 0 (r.length:Int)&&leI (r.length:Int) ((r++List.replicate (l'.length-r.length) (⟨0,0,0,⟨0,0⟩,⟨0,0⟩,⟨0,0,0⟩⟩:aw)).length:Int))=true by rw[db,e3];exact⟨da (by omega),da (by omega)⟩)).trans ?_
  rw[Int.toNat_natCast]
  simp
def Ti{l:List aw}(ak:l.length<=1000000)(o:Int):(aa (aZ (aB (λG:Int=>ab (ah G (l.length:Int)) (ae ((leI 0 G)&&(ah G (l.length:Int))) <|aa (au l G) λB=>aa (ab (aF B.bp 0) (some true) (some (aF B.bp o))) λ(F:Bool)=>ab (!F) (some (.inr (.inr G))) (ae (ai (G+1)) <|some (.inl (G+1)))) (some (.inr (.inl ())))) 0) λ(G:Unit)=>some (-1)) λ(G:Int)=>ab (aF G (-1)) (some l) (aa (ae (ai (G+1)) <|aB (λB:(Int×(Int×(List aw)))=>ab (ah B.2.1 (B.2.2.length:Int)) (aa (ae ((leI 0 B.2.1)&&(ah B.2.1 (B.2.2.length:Int))) <|aa (au B.2.2 B.2.1) λF=>aa (ab (aF F.bp 0) (some true) (some (aF F.bp o))) λ(aq:Bool)=>ab (!(!aq)) (ae ((leI 0 B.1)&&(ah B.1 (B.2.2.length:Int))) <|aa (au B.2.2 B.1) λar=>ae (ai (B.1+1)) <|some ((B.1+1),(List.set B.2.2 (Int.toNat B.1) F))) (some (B.1,B.2.2))) λ(F:(Int×(List aw)))=>ae (ai (B.2.1+1)) <|some (.inl (F.1,((B.2.1+1),F.2)))) (some (.inr (B.1,B.2.2)))) (G,((G+1),l))) λ(B:(Int×(List aw)))=>ae ((leI 0 B.1)&&(leI B.1 (B.2.length:Int))) <|ae ((leI 0 B.1)&&(leI B.1 ((List.append (List.take (Int.toNat B.1) B.2) (List.replicate (Int.toNat ((B.2.length:Int)-B.1)) ((⟨0,0,0,(⟨0,0⟩:Rat),(⟨0,0⟩:Rat),(⟨0,0,0⟩:aV)⟩:aw):aw))).length:Int))) <|some (List.take (Int.toNat B.1) (List.append (List.take (Int.toNat B.1) B.2) (List.replicate (Int.toNat ((B.2.length:Int)-B.1)) ((⟨0,0,0,(⟨0,0⟩:Rat),(⟨0,0⟩:Rat),(⟨0,0,0⟩:aV)⟩:aw):aw))))))=some (l.filter λw=>decide (w.bp=0)||decide (w.bp=o)):=by
 have ag:=KF (α:=aw) (λw=>decide (w.bp=0)||decide (w.bp=o)) (step:=(λB:(Int×(Int×(List aw)))=>ab (ah B.2.1 (B.2.2.length:Int)) (aa (ae ((leI 0 B.2.1)&&(ah B.2.1 (B.2.2.length:Int))) <|aa (au B.2.2 B.2.1) λF=>aa (ab (aF F.bp 0) (some true) (some (aF F.bp o))) λ(aq:Bool)=>ab (!(!aq)) (ae ((leI 0 B.1)&&(ah B.1 (B.2.2.length:Int))) <|aa (au B.2.2 B.1) λar=>ae (ai (B.1+1)) <|some ((B.1+1),(List.set B.2.2 (Int.toNat B.1) F))) (some (B.1,B.2.2))) λ(F:(Int×(List aw)))=>ae (ai (B.2.1+1)) <|some (.inl (F.1,((B.2.1+1),F.2)))) (some (.inr (B.1,B.2.2))))) (λi j l x N ax ak=>by
  have ay:=bG N
  obtain⟨y,ao⟩:∃y,l[i]?=some y:=⟨_,c3 (by omega)⟩
  dsimp only
  rw[an (da (by omega)),cr (show(leI 0 (j:Int)&&ah (j:Int) (l.length:Int))=true by rw[db];exact⟨da (by omega),da (by omega)⟩),bh (aW N),tH,af]
  show aa (ab (!(!(decide (x.bp=0)||decide (x.bp=o)))) _ _) _=_
  cases decide (x.bp=0)||decide (x.bp=o)
  ·rw[if_neg (by decide)]
   refine(aO (x:=((i:Int),l)) rfl).trans ?_
   exact aE (n:=(j:Int)+1) (by omega)
  rw[if_pos rfl]
  refine(aO (x:=((i:Int)+1,l.set i x)) ?_).trans ?_
  ·refine(an rfl).trans ?_
   rw[cr (show(leI 0 (i:Int)&&ah (i:Int) (l.length:Int))=true by rw[db];exact⟨da (by omega),da (by omega)⟩),bh (aW ao),aE (by omega),Int.toNat_natCast]
  exact aE (n:=(j:Int)+1) (by omega)) (λi l=>by dsimp only;rw[aj (by simp)])
 rw[nw (l:=l) (λw=>!(decide (w.bp=0)||decide (w.bp=o))) (λk x N=>by
  have ad:=bG N
  rw[an (by simpa using ad),cr (show(leI 0 (k:Int)&&ah (k:Int) (l.length:Int))=true by rw[db];exact⟨da (by omega),da (by omega)⟩),bh (aW N),tH,af]
  show ab (!(decide (x.bp=0)||decide (x.bp=o))) _ _=_
  cases decide (x.bp=0)||decide (x.bp=o)
  ·rfl
  show ab false _ _=_
  rw[gV,aE (by omega)];rfl) (by rw[aj (by simp)])]
 have M:=Dh (λw=>decide (w.bp=0)||decide (w.bp=o)) l
 cases Y:l.findIdx? (λw=>!(decide (w.bp=0)||decide (w.bp=o)))with
 |none=>
  rw[Y]at M
  dsimp only at M
  rw[M];rfl
 |some i=>
  rw[Y]at M
  dsimp only at M
  obtain⟨hi,M⟩:=M
  obtain⟨l',U,av,O⟩:=ag (l.length-(i+1)) i (i+1) l (by omega) (by omega) (by omega)
  rw[<-M]at O
  have al:i+((l.drop (i+1)).filter λw=>decide (w.bp=0)||decide (w.bp=o)).length=(l.filter λw=>decide (w.bp=0)||decide (w.bp=o)).length:=by rw[M,e3,e8,o1 (by omega)]
  have az:=kA (λw=>decide (w.bp=0)||decide (w.bp=o)) l
  rw[al]at U O
  refine(aO (x:=(i:Int)) rfl).trans ?_
  refine(aj (dd (by omega))).trans ?_
  refine(aO (x:=(((l.filter λw=>decide (w.bp=0)||decide (w.bp=o)).length:Int),l')) ((aE (by omega)).trans U)).trans ?_
  generalize aA:(l.filter λw=>decide (w.bp=0)||decide (w.bp=o))=r at *
  have Z:(List.append (List.take (Int.toNat (r.length:Int)) l') (List.replicate (Int.toNat ((l'.length:Int)-(r.length:Int))) ((⟨0,0,0,(⟨0,0⟩:Rat),(⟨0,0⟩:Rat),(⟨0,0,0⟩:aV)⟩:aw):aw)))=r++List.replicate (l'.length-r.length) (⟨0,0,0,⟨0,0⟩,⟨0,0⟩,⟨0,0,0⟩⟩:aw):=by rw[Int.toNat_natCast,O,show Int.toNat ((l'.length:Int)-(r.length:Int))=l'.length-r.length by omega];rfl
  dsimp only
  rw[Z]
  refine(cr (show(leI 0 (r.length:Int)&&leI (r.length:Int) (l'.length:Int))=true by rw[db];exact⟨da (by omega),da (by omega)⟩)).trans ?_
  refine(cr (show(leI 0 (r.length:Int)&&leI (r.length:Int) ((r++List.replicate (l'.length-r.length) (⟨0,0,0,⟨0,0⟩,⟨0,0⟩,⟨0,0,0⟩⟩:aw)).length:Int))=true by rw[db,e3];exact⟨da (by omega),da (by omega)⟩)).trans ?_
  rw[Int.toNat_natCast]
  simp
end Go.Proofs.YthhlipkkjippfaaGreatDoor
namespace Go.Proofs.YthhlipkkjippfaaGreatDoor
open Go Go.ag Go.Sy
attribute [local instance] ch cF
theorem V3{α σ:Type}(g:σ->α->σ){step:Int×σ->Option ((Int×σ)⊕σ)}{l:List α}(h:∀(k:Nat) x z,l[k]?=some x->step ((k:Int),z)=some (.inl ((k:Int)-1,g z x)))(F:∀z,step (-1,z)=some (.inr z)):∀(n:Nat)(z:σ),n<=l.length->aB step ((n:Int)-1,z)=some ((l.take n).foldr (λx z=>g z x) z):=by
 intro n
 induction n with
 |zero=>intro z _;exact iE (F z)
 |succ n G=>
  intro z M
  have j:l[n]?=some l[n]:=c3 (by omega)
  rw[List.take_succ,j]
  generalize l[n]=x at j
  have B:=h n x z j
  rw[show((n+1:Nat):Int)-1=(n:Int) by omega,mr B,G _ (by omega)]
  simp
theorem J8{p:Int->Bool}:∀(l:List Int),l.foldr (λn z=>if p n=true then n else z) 0=(l.find? p).getD 0
 | []=>rfl
 |x::l=>by
  rw[List.foldr_cons,J8 l,List.find?_cons]
  cases p x<;>rfl
def foldl_map'{α β:Type}(g:α->β):∀(l:List α)(z:List β),l.foldl (λz x=>z++[g x]) z=z++l.map g
 | [],z=>by simp
 |x::l,z=>by rw[List.foldl_cons,foldl_map' g l];simp
def nL(c:List Int)(l:List aw):Int:=(c.find? λn=>l.any λw=>decide (w.bO=n)).getD 0
def SY{l:List aw}(F:l.length<=1000000000)(n:Int):A6 (l,n)=some (l.any λw=>decide (w.bO=n)):=by
 unfold A6
 dsimp only
 rw[ma (l:=l) (λw=>decide (w.bO=n)) (λk x j=>by
  have B:=bG j
  rw[an (by simpa using B),bh (aW j)]
  show ab (decide (x.bO=n)) _ _=_
  cases decide (x.bO=n)
  ·rw[gV,aE (by omega)];rfl
  rfl) (by rw[aj (by simp)])]
def Xe{m:aR}(G:m.aK.length<=1000000){c:List Int}(B:c.length<=1048576):zW (m,c)=some (nL c m.aK):=by
 unfold zW
 refine(aO (x:=nL c m.aK) ?_).trans rfl
 refine(aO (x:=c) rfl).trans ?_
 refine(aE (by omega)).trans ?_
 refine(V3 (λz n=>if(m.aK.any λw=>decide (w.bO=n))=true then n else z) (l:=c) (λk x z j=>?_) (λz=>rfl) c.length 0 (eb _)).trans ?_
 ·have F:=bG j
  dsimp only
  rw[an (da (by omega)),bh (aW j),SY (by omega),af]
  cases (m.aK.any λw=>decide (w.bO=x))
  ·refine(aO (x:=z) rfl).trans ?_
   exact aE (n:=(k:Int)-1) (by omega)
  refine(aO (x:=x) rfl).trans ?_
  exact aE (n:=(k:Int)-1) (by omega)
 rw[List.take_length,J8 (p:=λn=>m.aK.any λw=>decide (w.bO=n))];rfl
def D8(c:List Int)(m:aR):aR:=⟨m.av,m.key,m.length,m.aK.filter λw=>decide (w.bO=nL c m.aK)⟩
def mz(v:aJ)(c:List Int):aJ:=⟨v.part,v.bu.map (D8 c)⟩
def VG{m:aR}(j:m.aK.length<=1000000){c:List Int}(B:c.length<=1048576):wM (m,c)=some (D8 c m):=by
 unfold wM
 refine(aO (Xe j B)).trans ?_
 refine(aO (CS (k:=80) (by omega) (by omega))).trans ?_
 exact aO (Tj j (nL c m.aK))
def D7(n:Int)(m:aR):aR:=⟨m.av,m.key,m.length,m.aK.filter λw=>decide (w.bp=0)||decide (w.bp=n)⟩
def ot(v:aJ)(n:Int):aJ:=⟨v.part,v.bu.map (D7 n)⟩
def VF{m:aR}(j:m.aK.length<=1000000)(n:Int):wL (m,n)=some (D7 n m):=by
 unfold wL
 refine(aO (x:=n) rfl).trans ?_
 refine(aO (CS (k:=80) (by omega) (by omega))).trans ?_
 exact aO (Ti j n)
theorem Jf{g:aR->Option aR}{f:aR->aR}{l:List aR}(U:l.length<=1000000)(h:∀m∈l,g m=some (f m)):aB (λj:(Int×(List aR))=>ab (ah j.1 (l.length:Int)) (aa (au l j.1) λN=>aa (g N) λF=>ae (decide ((List.append j.2 (F::([]:List aR))).length*56<=140737488355328/\(List.append j.2 (F::([]:List aR))).length<=9223372036854775807)) <|ae (ai (j.1+1)) <|some (.inl ((j.1+1),(List.append j.2 (F::([]:List aR)))))) (some (.inr j.2))) (0,([]:List aR))=some (l.map f):=by
 refine(dU (st:=λ(z:List aR) k=>(k,z)) (l:=l) (λz x=>.inl (z++[f x])) (λz=>z) (λk z=>z.length<=k) (λk x z B G=>?_) (λk x z z' _ G M=>by cases M;simp;omega) (λz _=>by dsimp only;rw[aj (by simp)]) [] (by simp)).trans (dn some ((fG (λz x=>z++[f x]) l [] (λ_ _ _=>rfl)).trans ((foldl_map' f l []).trans (List.nil_append _))))
 have O:=bG B
 dsimp only
 have e:(List.append z (f x::([]:List aR))).length=z.length+1:=e3
 rw[an (da (by omega)),bh (aW B),h x (dk B),af,cr (da (by rw[e];omega)),aE (by omega)]
 rfl
def qK(l:List Int)(k:Nat):Bool:=(l[k]?).any λx=>decide (x<1)||(decide (20<x)||(decide (0<k)&&(l[k-1]?).any λy=>decide (x<=y)))
def pD(l:List Int):Bool:= !(List.range l.length).any (qK l)
def zeroV:aJ:=⟨0,[]⟩
def Mh{l:List Int}{k:Nat}{x:Int}(F:k<l.length)(G:l.length<=1048576):ab (ah 0 (k:Int)) (ae (ai ((k:Int)-1)) <|aa (au l ((k:Int)-1)) λB=>some (leI x B)) (some false)=some (decide (0<k)&&(l[k-1]?).any λy=>decide (x<=y)):=by
 cases k with
 |zero=>rfl
 |succ k=>
  have j:l[k]?=some l[k]:=c3 (by omega)
  generalize l[k]=y at j
  rw[an (da (by omega)),aE (by omega),show((k+1:Nat):Int)-1=(k:Int) by omega,bh (aW j)]
  simp[j,leI]
theorem C0{v:aJ}(F:v.bu.length<=1000000)(G:(de v).length<=1000000){c:List Int}(M:c.length<=1048576):mB (v,c)=some (if pD c=true/\jg v then(mz v c,0)else(zeroV,1)):=by
 unfold mB
 dsimp only
 rw[pV c.length (qK c) (zeroV,1) (λk N=>by
  have B:c[k]?=some c[k]:=c3 N
  unfold qK
  rw[B]
  generalize c[k]=x at B
  rw[Option.any_some,an (da (by omega)),bh (aW B),Mh N M]
  have e:∀(a b d:Bool),ab a (some true) (ab b (some true) (some d))=some (a||(b||d)):=λa b d=>by cases a<;>cases b<;>rfl
  rw[e,af]
  show ab (decide (x<1)||(decide (20<x)||_)) _ _=_
  cases (decide (x<1)||(decide (20<x)||(decide (0<k)&&(c[k-1]?).any λy=>decide (x<=y))))
  ·rw[gV,aE (by omega)];rfl
  rfl) (by rw[aj (by simp)])]
 unfold pD
 cases (List.range c.length).any (qK c)with
 |true=>rw[if_pos rfl,fQ,if_neg (by simp)]
 |false=>
  rw[if_neg (by decide),fk,yB F G,af]
  by_cases j:jg v
  ·rw[aj (by simp[j]),if_pos ⟨rfl,j⟩]
   refine(aO (x:=mz v c) ?_).trans rfl
   unfold Fb E8
   dsimp only
   refine(aO (x:=v.bu.map (D8 c)) ?_).trans rfl
   refine(aO (Jf (g:=λm=>wM (m,c)) F (λm O=>VG (hJ (nr O) G) M))).trans rfl
  rw[an (by simp[j]),if_neg (λh=>j h.2)];rfl
def Yh(n lo hi:Int):Fl (n,lo,hi)=some (decide (lo<=n/\n<=hi)):=l7 n lo hi
def Yg{c:List Int}(G:c.length<=1048576):AD c=some (pD c):=by
 unfold AD pD
 rw[pV c.length (qK c) false (λk B=>by
  have j:c[k]?=some c[k]:=c3 B
  unfold qK
  rw[j]
  generalize c[k]=x at j
  rw[Option.any_some,an (da (by omega)),bh (aW j),bh (aW j),Yh,af,Mh B G]
  have e:∀(a d:Bool),ab a (some true) (some d)=some (a||d):=λa d=>by cases a<;>rfl
  rw[e,af]
  have F:(!decide (1<=x/\x<=20)||(decide (0<k)&&(c[k-1]?).any λy=>decide (x<=y)))=(decide (x<1)||(decide (20<x)||(decide (0<k)&&(c[k-1]?).any λy=>decide (x<=y)))):=by
   rw[<-Bool.or_assoc]
   congr 1
   rw[hC]
   simp
  rw[F]
  cases (decide (x<1)||(decide (20<x)||(decide (0<k)&&(c[k-1]?).any λy=>decide (x<=y))))
  ·rw[gV,aE (by omega)];rfl
  rfl) (by rw[aj (by simp)])]
 cases (List.range c.length).any (qK c)<;>rfl
def Tw{v:aJ}(j:v.bu.length<=1000000)(k:(de v).length<=1000000)(n:Int):wI (v,n)=some (if jg v/\0<=n/\n<=9 then(ot v n,0)else(zeroV,1)):=by
 unfold wI
 dsimp only
 rw[yB j k,af]
 have e:∀(a b d:Bool),ab a (some true) (ab b (some true) (some d))=some (a||(b||d)):=λa b d=>by cases a<;>cases b<;>rfl
 rw[e,af]
 by_cases h:jg v/\0<=n/\n<=9
 ·rw[if_pos h,aj (by simp[h.1,ah];omega)]
  refine(aO (x:=ot v n) ?_).trans rfl
  unfold Fa E7
  dsimp only
  refine(aO (x:=v.bu.map (D7 n)) ?_).trans rfl
  refine(aO (Jf (g:=λm=>wL (m,n)) j (λm F=>VF (hJ (nr F) k) n))).trans rfl
 rw[if_neg h,an (by
  refine hf λB=>h ?_
  simp only[nh,k4,ta,ea,ah,hL]at B
  exact⟨B.1,by omega,by omega⟩)]
 rfl
end Go.Proofs.YthhlipkkjippfaaGreatDoor
namespace Go.Proofs.YthhlipkkjippfaaGreatDoor
open Go Go.ag Go.Sy
attribute [local instance] ch cF
def kU(z:List (Int×Bool))(w:aw):List (Int×Bool):=aM z w.bp true
def lj(v:aJ):List (Int×Bool):=(de v).foldl kU []
noncomputable def gy(v:aJ):List Int:=jI ((fA (lj v) 0).map (·.1))
def FZ(a:Int):∀(l:List aw)(z:List (Int×Bool)),a∈eC (l.foldl kU z)↔a∈eC z\/∃w∈l,w.bp=a
 | [],z=>by simp
 |w::l,z=>by
  rw[List.foldl_cons,FZ a l]
  unfold kU
  rw[zy]
  simp only[fb,exists_eq_or_imp]
  constructor
  ·rintro((h|h)|h)
   ·exact .inr (.inl h.symm)
   ·exact .inl h
   exact .inr (.inr h)
  rintro(h|h|h)
  ·exact .inl (.inr h)
  ·exact .inl (.inl h.symm)
  exact .inr h
def EE{a:Int}:∀{z:List (Int×Bool)},(eC z).Nodup->(a∈(fA z 0).map (·.1)↔a≠0/\a∈eC z)
 | [],_=>by simp[fA]
 |p::z,h=>by
  simp only[eC,fa,h9]at h
  have e:fA (p::z) 0=if p.1=0 then z else p::fA z 0:=rfl
  rw[e]
  by_cases k:p.1=0
  ·rw[if_pos k]
   simp only[eC,fa,fb]
   constructor
   ·intro B
    exact⟨λe=>h.1 (by rw[k,<-e];exact B),.inr B⟩
   rintro⟨j,h2|h2⟩
   ·exact absurd (h2.trans k) j
   exact h2
  rw[if_neg k,fa,fb,EE h.2]
  simp only[eC,fa,fb]
  constructor
  ·rintro(j| ⟨j,h2⟩)
   ·exact⟨by rw[j];exact k,.inl j⟩
   exact⟨j,.inr h2⟩
  rintro⟨j,h2|h2⟩
  ·exact .inl h2
  exact .inr ⟨j,h2⟩
def EF:∀(z:List (Int×Bool)),(fA z 0).length<=z.length
 | []=>eb _
 |p::z=>by
  have:=EF z
  have e:fA (p::z) 0=if p.1=0 then z else p::fA z 0:=rfl
  rw[e]
  split
  ·simp
  simp only[List.length_cons];omega
def Mk:∀(l:List aw){z:List (Int×Bool)},(eC z).Nodup->(eC (l.foldl kU z)).Nodup
 | [],z,h=>h
 |w::l,z,h=>Mk l (EN _ _ h)
def ON(v:aJ):(eC (lj v)).Nodup:=Mk (de v) (by simp)
def Hc(v:aJ)(a:Int):a∈gy v↔a≠0/\∃w∈de v,w.bp=a:=by
 unfold gy jI
 rw[(va _ _).mem_iff,EE (ON v)]
 unfold lj
 rw[FZ]
 simp
def F3:∀(l:List aw)(z:List (Int×Bool)),(l.foldl kU z).length<=z.length+l.length
 | [],z=>by simp
 |w::l,z=>by
  have:=F3 l (kU z w)
  have h:(kU z w).length<=z.length+1:=by unfold kU;rw[zA];split<;>omega
  rw[List.foldl_cons,List.length_cons];omega
def aaX{v:aJ}(N:v.bu.length<=1000000)(O:(de v).length<=1000000):zX v=some (if jg v then(gy v,0)else([],1)):=by
 unfold zX
 rw[yB N O,af]
 by_cases B:jg v
 ·rw[if_pos B,aj (by simp[B])]
  refine(aO (x:=lj v) ?_).trans ?_
  ·refine(dU (st:=λ(z:List (Int×Bool)) k=>(k,z)) (l:=v.bu) (λz m=>.inl (m.aK.foldl kU z)) (λz=>z) (λ_ _=>True) (λk m z G _=>?_) (λ_ _ _ _ _ _ _=>trivial) (λz _=>by dsimp only;rw[aj (by simp)]) [] trivial).trans (dn some ((fG (λz m=>m.aK.foldl kU z) v.bu [] (λ_ _ _=>rfl)).trans ?_))
   ·have ag:=bG G
    have ah:=nr (dk G)
    dsimp only
    rw[an (da (by omega)),bh (aW G)]
    refine(aO (x:=m.aK.foldl kU z) ?_).trans (by rw[aE (by omega)];rfl)
    refine(dU (st:=λ(z:List (Int×Bool)) k=>(k,z)) (l:=m.aK) (λz w=>.inl (kU z w)) (λz=>z) (λ_ _=>True) (λj w z F _=>?_) (λ_ _ _ _ _ _ _=>trivial) (λz _=>by dsimp only;rw[aj (by simp)]) z trivial).trans (dn some (fG kU m.aK z (λ_ _ _=>rfl)))
    have ae:=bG F
    dsimp only
    rw[an (da (by omega)),bh (aW F),aE (by omega)]
    rfl
   exact List.foldl_flatMap.symm
  refine(aO (x:=fA (lj v) 0) rfl).trans ?_
  refine(aO (x:=gy v) ?_).trans rfl
  unfold xb
  refine cr ?_
  rw[db,dT]
  constructor
  ·intro p Y
   have:p.1∈(fA (lj v) 0).map (·.1):=gj.2 ⟨p,Y,rfl⟩
   rw[EE (ON v)]at this
   unfold lj at this
   rw[FZ]at this
   obtain⟨_,h⟩:=this
   rcases h with h| ⟨w,F,h⟩
   ·exact absurd h (by simp)
   obtain⟨m,U,Z⟩:=jb.1 F
   obtain⟨⟨aa,ab⟩,_⟩:=B.2.2 m U w Z
   exact DU (by omega)
  refine da ?_
  have e:(fA (lj v) 0).length<=(lj v).length:=EF _
  have M:=F3 (de v) []
  have ad:(lj v).length<=(de v).length:=by simpa [lj]using M
  omega
 rw[if_neg B,an (by simp[B])]
def jq(l:List Int)(D:Nat):List Int:=(List.range D).map λi=>(l[i*l.length/D]?).getD 0
theorem foldl_set{a:Nat->Int}:∀(n:Nat)(z:List Int)(i:Nat),((List.range n).foldl (λz k=>z.set k (a k)) z)[i]?=if i<n/\i<z.length then some (a i)else z[i]?
 |0,z,i=>by simp
 |n+1,z,i=>by
  have F:∀n,((List.range n).foldl (λz k=>z.set k (a k)) z).length=z.length:=by
   intro n
   induction n with
   |zero=>simp
   |succ n G=>rw[I1,td];simp[G]
  rw[I1,td]
  show(((List.range n).foldl (λz k=>z.set k (a k)) z).set n (a n))[i]?=_
  rw[e4,foldl_set n z i,F]
  by_cases B:n=i
  ·subst B
   rw[if_pos rfl]
   by_cases j:n<z.length
   ·rw[if_pos j,if_pos ⟨by omega,j⟩]
   rw[if_neg j,if_neg (λh=>j h.2),hF (by omega)]
  rw[if_neg B]
  by_cases j:i<n/\i<z.length
  ·rw[if_pos j,if_pos ⟨by omega,j.2⟩]
  rw[if_neg j,if_neg (by omega)]
def Pn{l:List Int}{D:Nat}(aw:1<=D/\D<=40)(ag:l.length<=1000000):aB (λj:(Int×(List Int))=>ab (ah j.1 ((List.replicate (Int.toNat (D:Int)) (0:Int)).length:Int)) (aa (ab (ah 0 (l.length:Int)) (ae (ai (j.1*(l.length:Int))) <|ae (!(aF (D:Int) 0)) <|ae (ai (Int.tdiv (j.1*(l.length:Int)) (D:Int))) <|aa (au l (Int.tdiv (j.1*(l.length:Int)) (D:Int))) λO=>ae ((leI 0 j.1)&&(ah j.1 (j.2.length:Int))) <|aa (au j.2 j.1) λaz=>some (List.set j.2 (Int.toNat j.1) O)) (some j.2)) λ(O:(List Int))=>ae (ai (j.1+1)) <|some (.inl ((j.1+1),O))) (some (.inr j.2))) (0,(List.replicate (Int.toNat (D:Int)) (0:Int)))=some (jq l D):=by
 have M:(List.replicate (Int.toNat (D:Int)) (0:Int)).length=D:=by rw[r3];omega
 refine(dU (st:=λ(z:List Int) k=>(k,z)) (l:=List.range D) (λz k=>.inl (z.set k ((l[k*l.length/D]?).getD 0))) (λz=>z) (λ_ z=>z.length=D/\(l=[]->∀i,i<D->z[i]?=some 0)) (λk x z B G=>?_) (λk x z z' B G af=>?_) (λz _=>by
  dsimp only
  rw[aj (by rw[M];simp)]) (List.replicate (Int.toNat (D:Int)) 0) ⟨M,λ_ i hi=>by rw[List.getElem?_replicate];simp[hi]⟩).trans (dn some ((fG (λ(z:List Int)(k:Nat)=>z.set k ((l[k*l.length/D]?).getD 0)) (List.range D) _ (λ_ _ _=>rfl)).trans ?_))
 ·have F:=bG B
  rw[xd]at F
  rw[ie F]at B
  cases B
  obtain⟨ay,av⟩:=G
  dsimp only
  rw[an (da (by rw[M];omega))]
  obtain⟨y,ar⟩:∃y,z[k]?=some y:=⟨_,c3 (by omega)⟩
  by_cases N:0<l.length
  ·have ax:k*l.length<=40*1000000:=KR (by omega) ag
   have Z:((k:Int)*(l.length:Int))=((k*l.length:Nat):Int):=(Int.natCast_mul _ _).symm
   have ad:Int.tdiv ((k*l.length:Nat):Int) (D:Int)=((k*l.length/D:Nat):Int):=rfl
   have al:k*l.length/D<l.length:=by
    rw[q4 (by omega),nn l.length D]
    exact Nat.mul_lt_mul_of_pos_right F N
   obtain⟨u,U⟩:∃u,l[k*l.length/D]?=some u:=⟨_,c3 al⟩
   have ao:((k*l.length/D:Nat):Int)<=1000000:=by
    have:k*l.length/D<=1000000:=by omega
    exact Int.ofNat_le.2 this
   have aq:(0:Int)<=((k*l.length/D:Nat):Int):=Qx _
   refine(aO (x:=z.set k u) ?_).trans ?_
   ·refine(an (da (by omega))).trans ?_
    rw[Z,ad,aE (by omega),cr (by simp;omega),aE (by generalize ((k*l.length/D:Nat):Int)=q at ao aq;omega),bh (aW U),cr (show(leI 0 (k:Int)&&ah (k:Int) (z.length:Int))=true by rw[db];exact⟨da (by omega),da (by omega)⟩),bh (aW ar),Int.toNat_natCast]
   rw[aE (by omega),U];rfl
  have ak:l=[]:=j1 (by omega)
  refine(aO (x:=z) (aj (dd (by omega)))).trans ?_
  rw[aE (by omega)]
  have:z.set k ((l[k*l.length/D]?).getD 0)=z:=by
   subst ak
   refine hW λi=>?_
   rw[e4]
   by_cases e:k=i
   ·subst e;rw[if_pos rfl,if_pos (by omega),av rfl k (by omega)];rfl
   rw[if_neg e]
  rw[this];rfl
 ·cases af
  have F:=bG B
  rw[xd]at F
  rw[ie F]at B
  cases B
  refine⟨by rw[o2];exact G.1,λN i hi=>?_⟩
  rw[e4]
  by_cases e:k=i
  ·subst e;subst N;rw[if_pos rfl,if_pos (by rw[G.1];omega)];rfl
  rw[if_neg e];exact G.2 N i hi
 refine hW λi=>?_
 rw[foldl_set (a:=λk=>(l[k*l.length/D]?).getD 0),M]
 unfold jq
 rw[et]
 by_cases h:i<D
 ·rw[if_pos ⟨h,h⟩,ie h];rfl
 rw[if_neg (λY=>h Y.1),hF (by rw[M];omega),hF (by simpa using h)];rfl
theorem Po{v:aJ}(k:v.bu.length<=1000000)(B:(de v).length<=1000000)(M:jg v){D:Nat}(F:1<=D/\D<=40)(G:(gy v).length<=1000000):zV (v,(D:Int))=some (if D<(gy v).length then([],6)else(jq (gy v) D,0)):=by
 unfold zV
 dsimp only
 rw[aaX k B,if_pos M,af]
 refine(aO (x:=false) ?_).trans ((aj rfl).trans ?_)
 ·refine(aj rfl).trans ((aj (dd (by omega))).trans (dn some (dd (by omega))))
 by_cases j:D<(gy v).length
 ·rw[if_pos j]
  exact an (da (by dsimp only;omega))
 rw[if_neg j]
 refine(aj (dd (by dsimp only;omega))).trans ?_
 refine(cr (da (by omega))).trans ((cr (da (by rw[r3];omega))).trans ?_)
 exact aO (Pn F G)
def Pk{l:List Int}{D:Nat}(Z:1<=D)(ab:l.length<=D){a:Int}(N:a∈l):a∈jq l D:=by
 obtain⟨j,F⟩:=u4 N
 have aa:=bG F
 have B:0<l.length:=by omega
 refine gj.2 ⟨(j*D+l.length-1)/l.length,?_,?_⟩
 ·rw[hN,q4 B]
  have:(j+1)*D<=l.length*D:=ka _ (by omega)
  rw[qd,nn l.length D]at this
  omega
 have e:(j*D+l.length-1)/l.length*l.length/D=j:=by
  have k:=vb (j*D+l.length-1) l.length
  have O:=q6 (j*D+l.length-1) B
  rw[nn]at k
  generalize (j*D+l.length-1)/l.length*l.length=m at k⊢
  have G:j*D<=m:=by omega
  have M:m<(j+1)*D:=by rw[qd];omega
  have U:j<=m/D:=(Nat.le_div_iff_mul_le (by omega)).2 G
  have Y:m/D<j+1:=(q4 (by omega)).2 M
  omega
 rw[e,F];rfl
def Pm{l:List Int}{D:Nat}{a:Int}(h:a∈jq l D):a=0\/a∈l:=by
 obtain⟨i,_,rfl⟩:=gj.1 h
 cases j:l[i*l.length/D]? with
 |none=>exact .inl rfl
 |some x=>exact .inr (dk j)
end Go.Proofs.YthhlipkkjippfaaGreatDoor
namespace Go.Proofs.YthhlipkkjippfaaGreatDoor
open Go Go.ag Go.Sy
attribute [local instance] ch cF
def sE(p:aC)(q:aT×aw):Int:=(jU p q.1 q.2).2
def sN(p:aC)(q:aT×aw):ak:=⟨q.2.id,p.id,q.1.id,q.2.bp,q.2.bO,q.2.start,q.2.length,(jU p q.1 q.2).1⟩
open Classical in
noncomputable def xJ(s:bI)(v:aJ):List ak×Int:=
 if ic s v then(match partOf s v.part with
  |some p=>eL (sE p) (sN p) (λ_=>(([]:List ak),(3:Int))) (λl=>(l,0)) (ja s v) []
  |none=>([],1))else([],1)
theorem NS{s:bI}{v:aJ}(ah:s.bars.length<=1048576)(ay:(de v).length<=1000000):sd (s,v)=some (xJ s v):=by
 unfold sd xJ
 dsimp only
 rw[OK ah ay,af]
 by_cases F:ic s v
 ·obtain⟨G,aq,⟨p,Z,ad⟩,ae,ag⟩:=F
  have F:ic s v:=⟨G,aq,⟨p,Z,ad⟩,ae,ag⟩
  obtain⟨aw,aG,aC⟩:=Be G Z
  have aH:=G.2.2.1.1.2
  rw[aj (by simp[F]),Ha (by omega),af,if_pos F,Z]
  dsimp only
  rw[dU (σ:=List ak) (st:=λz k=>(k,z)) (l:=v.bu.zip s.bars) (λz x=>eL (ρ:=(List ak)⊕((List ak)⊕(List ak×Int))) (λw=>sE p (x.2,w)) (λw=>sN p (x.2,w)) (λw=>.inr (.inr ([],3))) (λz=>.inl z) x.1.aK z) (λz=>.inl z) (λk z=>z.length<=20000+1000000*k) (λk x z O az=>by
   obtain⟨M,ab⟩:=y2 O
   have aF:=bG M
   have ar:=dk M
   have al:=kn G (dk ab)
   have au:=nr ar
   have aB:=G.2.1.1.2
   have Y:=dT.1 ad x (dk O)
   unfold iT at Y
   simp only[db,ea,dT]at Y
   have ai:x.1.av=x.2.id:=Y.1.1.1
   dsimp only
   rw[an (da (by omega)),bh (aW M)]
   rw[dU (σ:=List ak) (st:=λz k=>(k,z)) (l:=x.1.aK) (λz w=>if sE p (x.2,w)=0 then .inl (z++[sN p (x.2,w)])else .inr (.inr (.inr (.inr ([],3))))) (λz=>.inl z) (λj U=>U.length<=z.length+j) (λj w U aa aA=>by
    have aD:=bG aa
    dsimp only
    rw[an (da (by omega)),bh (aW aa),bh (aW ab),U8 aw al.2.2.2,af]
    have ao:fe w.aU (c7 (jW p x.2.key))=jU p x.2 w:=rfl
    have ax:sE p (x.2,w)=(jU p x.2 w).2:=rfl
    rw[ao,ax]
    by_cases N:(jU p x.2 w).2=0
    ·rw[aj (by simp[N]),cr (da (by rw[yc];omega)),aE (by omega),if_pos N,ai];rfl
    ·rw[an (by simp[N]),if_neg N]) (λj w U aI aa aA B=>by
    split at B
    ·injection B with B;subst B;rw[e3];simp only[List.length_cons,List.length_nil];omega
    cases B) (λU _=>by dsimp only;rw[aj (by simp)]) z (by omega)]
   rw[JU (λw=>sE p (x.2,w)) (λw=>sN p (x.2,w))]
   unfold eL
   cases (x.1.aK.find? λw=>decide (sE p (x.2,w)≠0))with
   |some w=>rfl
   |none=>dsimp only;rw[fk,aE (by omega)];rfl) (λk x z z' O az B=>by
   obtain⟨M,ab⟩:=y2 O
   have au:=nr (dk M)
   have:=Ut B
   omega) (λz _=>by
   dsimp only
   rw[aj (dd (by rw[List.length_zip];omega))]) [] (by simp),JV (sE p) (sN p) (λq=>Sum.inr ([],3))]
  rw[show((v.bu.zip s.bars).flatMap λx=>x.1.aK.map λw=>(x.2,w))=ja s v from rfl]
  unfold eL
  cases (ja s v).find? λq=>decide (sE p q≠0)with
  |some q=>rfl
  |none=>rfl
 rw[an (by simp[F]),if_neg F]
end Go.Proofs.YthhlipkkjippfaaGreatDoor
namespace Go.Proofs.YthhlipkkjippfaaGreatDoor
open Go Go.ag Go.Sy
attribute [local instance] ch cF
def Xt(a n:Int):pl (jP a n)=a:=by unfold pl jP;dsimp only;omega
def LI(a n:Int):num (jP a n)=n:=by unfold num jP;dsimp only;omega
def UF{i:bZ}:dK (c7 i)↔dK i:=by unfold dK c7;dsimp only;omega
def O4{x:aV}{i:bZ}(h:(fe x i).2=0):fe (fe x i).1 (c7 i)=(x,0):=by
 unfold fe at h
 by_cases j:cd x/\dK i
 ·rw[if_pos j]at h
  by_cases k:cd (jP (pl x+i.steps) (num x+i.cw))
  ·have e:fe x i=(jP (pl x+i.steps) (num x+i.cw),0):=by unfold fe;rw[if_pos j,if_pos k]
   rw[e]
   unfold fe
   dsimp only
   rw[Xt,LI,show pl x+i.steps+(c7 i).steps=pl x by unfold c7;dsimp only;omega,show num x+i.cw+(c7 i).cw=num x by unfold c7;dsimp only;omega,HQ j.1,if_pos ⟨k,UF.2 j.2⟩,if_pos j.1]
  rw[if_neg k]at h;cases h
 rw[if_neg j]at h;cases h
theorem Hw{x:aV}{i:bZ}(h:(fe x i).2=0):cd x/\dK i/\cd (fe x i).1:=by
 unfold fe at h⊢
 by_cases j:cd x/\dK i
 ·rw[if_pos j]at h⊢
  by_cases k:cd (jP (pl x+i.steps) (num x+i.cw))
  ·rw[if_pos k];exact⟨j.1,j.2,k⟩
  rw[if_neg k]at h;cases h
 rw[if_neg j]at h;cases h
end Go.Proofs.YthhlipkkjippfaaGreatDoor
namespace Go.Proofs.YthhlipkkjippfaaGreatDoor
open Go Go.ag Go.Sy
attribute [local instance] ch cF
theorem IY{α:Type}{q:α->Bool}:∀{l:List α},(l.Pairwise λn m=>q m=true->q n=true)->l.takeWhile q=l.filter q/\l.dropWhile q=l.filter λx=>!q x
 | [],_=>⟨rfl,rfl⟩
 |x::l,h=>by
  rw[Qd]at h
  obtain⟨G,M⟩:=IY h.2
  by_cases j:q x=true
  ·rw[J3,J2,k0,k0,if_pos j,if_pos j,if_pos j,if_neg (by simp[j]),G,M]
   exact⟨rfl,rfl⟩
  have B:∀y∈l,q y=false:=λy k=>by
   cases F:q y
   ·rfl
   exact absurd (h.1 y k F) j
  rw[J3,J2,k0,k0,if_neg j,if_neg j,if_neg j,if_pos (by simpa using j)]
  refine⟨(iv.2 λy k=>by simp[B y k]).symm,?_⟩
  congr 1
  exact(o0.2 λy k=>by simp[B y k]).symm
end Go.Proofs.YthhlipkkjippfaaGreatDoor
namespace Go.Proofs.YthhlipkkjippfaaGreatDoor
open Go Go.ag Go.Sy
attribute [local instance] ch cF
def mc(j:List aT)(id:Int):Nat:=j.findIdx λb=>decide (b.id=id)
def oJ(p:aC)(l:List ak)(b:aT):aR:=⟨b.id,tU p b.key,b.length,(l.filter λn=>decide (n.av=b.id)).map (qC p b)⟩
def Kf(p:aC):∀(j:List aT)(l:List ak),(j.map aT.id).Nodup->(l.Pairwise λn m=>mc j n.av<=mc j m.av)->getM p j l=j.map (oJ p l)
 | [],l,_,_=>rfl
 |b::j,l,G,U=>by
  simp only[fa,h9,gj]at G
  have k:∀id,mc (b::j) id=if b.id=id then 0 else mc j id+1:=by
   intro id
   unfold mc
   rw[List.findIdx_cons]
   by_cases h:b.id=id<;>simp[h]
  obtain⟨Y,Z⟩:=IY (q:=λn:ak=>decide (n.av=b.id)) (l:=l) (U.imp λ{n m} h F=>by
   have F:m.av=b.id:=by simpa using F
   rw[k,k,if_pos F.symm]at h
   by_cases O:b.id=n.av
   ·simp[O]
   rw[if_neg O]at h;omega)
  show _::getM p j _=_
  rw[fa,Y,Z,Kf p j _ G.2 (by
   refine q8 ?_ (U.sublist lA)
   intro n m ad ab h
   have M:=(hI.1 ad).2
   have N:=(hI.1 ab).2
   simp only[gL,hL]at M N
   rw[k,k,if_neg (hS M),if_neg (hS N)]at h
   omega)]
  congr 1
  refine hE λB aa=>?_
  have ae:B.id≠b.id:=λe=>G.1 ⟨B,aa,e⟩
  unfold oJ
  rw[List.filter_filter]
  congr 2
  refine abp λn _=>?_
  by_cases h:n.av=B.id
  ·simp[h,ae]
  simp[h]
end Go.Proofs.YthhlipkkjippfaaGreatDoor
namespace Go.Proofs.YthhlipkkjippfaaGreatDoor
open Go Go.ag Go.Sy
attribute [local instance] ch cF
def Iy{bars:List aT}{id:Int}{k:Nat}(h:(ix bars λb=>decide (b.id=id))=(k:Int)):mc bars id=k:=by
 unfold ix at h
 cases j:bars.findIdx? λb=>decide (b.id=id)with
 |none=>rw[j]at h;dsimp only at h;omega
 |some i=>
  rw[j]at h
  dsimp only at h
  have:=(List.findIdx?_eq_some_iff_findIdx_eq.1 j).2
  unfold mc
  omega
def WK{s:bI}(B:cU s):s.aK.Pairwise λn m=>mc s.bars n.av<=mc s.bars m.av:=by
 have M:=mK (BO (wC (ef s.bars))) s.aK
 rw[show gw (cC (nK (ef s.bars))) s.aK=s.aK from B.2.2.2.2.2]at M
 refine q8 ?_ M
 intro n m Y U h
 have O:=B.2.2.2.1.2.2.1 n Y
 have N:=B.2.2.2.1.2.2.1 m U
 obtain⟨k,b,_,_,_,F⟩:=qb O
 obtain⟨j,ab,_,_,_,G⟩:=qb N
 have Z:=(zJ B.2.1 O).1
 have aa:=(zJ B.2.1 N).1
 rw[Iy F,Iy G]
 unfold cC nK at h
 simp only[List.zipWith_cons_cons,c8]at h
 rw[Z,aa,F,G]at h
 split at h
 ·omega
 omega
def Xz{s:bI}(j:cU s)(p:aC):(ke s p).Pairwise λn m=>mc s.bars n.av<=mc s.bars m.av:=by
 unfold ke
 rw[om]
 exact(WK j).sublist lA
def tD{s:bI}(j:cU s)(p:aC):dE s p=⟨p.id,s.bars.map (oJ p (ke s p))⟩:=by
 unfold dE
 rw[Kf p s.bars _ j.2.1.2.2 (Xz j p)]
end Go.Proofs.YthhlipkkjippfaaGreatDoor
namespace Go.Proofs.YthhlipkkjippfaaGreatDoor
open Go Go.ag Go.Sy
attribute [local instance] ch cF
def xt(s:bI)(p:aC)(v:aJ):List ak:=others s p++(ja s v).map (pN s p)
def Sd(at_:List (Int×Int))(l:List ak):Prop:=l.Pairwise λa b=>¬cC (nK at_) b a<0
variable {at_:List (Int×Int)}{l m:List ak}
theorem YU(l:List ak):Sd at_ (o9 at_ l):=mK (CN at_) l
def Np(h:Sd at_ l)(q:ak->Bool):Sd at_ (l.filter q):=List.Pairwise.sublist lA h
def YT{s:bI}(j:cU s):Sd (ef s.bars) s.aK:=by
 have:=YU (at_:=ef s.bars) s.aK
 rw[j.2.2.2.2.2]at this;exact this
variable {s:bI}{B5:Int}{p:aC}{v:aJ}
def abm{s:bI}{v:aJ}{p:aC}(F:ic s v)(B:partOf s v.part=some p):∀x∈v.bu.zip s.bars,vX p x.2 x.1/\mX (λa b=>!decide (cC wK b a<0)) x.1.aK=true/\∀w∈x.1.aK,iN x.1.length w:=by
 obtain⟨_,_,⟨M,j,k⟩,_⟩:=F
 rw[B]at j;injection j with j;subst j
 intro x G
 have:=dT.1 k x G
 unfold iT at this
 simp only[db,ea,dT]at this
 exact⟨this.1.1,this.1.2,this.2⟩
def O3{x:aV}{i:bZ}(h:(fe x i).2=0):(fe x i).1=jP (pl x+i.steps) (num x+i.cw):=by
 unfold fe at h⊢
 split at h
 ·rename_i j
  rw[if_pos j]
  split at h
  ·rename_i k;rw[if_pos k]
  cases h
 cases h
def WM(x:aV)(n:Int):num (ud x n)=num x-12*n:=by unfold num ud;dsimp only;omega
theorem LK{s:bI}{p:aC}{b:aT}{w:aw}(h:(jU p b w).2=0):num (pN s p (b,w)).aU=num w.aU+((c7 (jW p b.key)).cw-12*p.bm):=by
 show num (ud (jU p b w).1 p.bm)=_
 rw[WM]
 unfold jU at h⊢
 rw[O3 h,LI];omega
theorem SJ{at_:List (Int×Int)}{s:bI}{p:aC}{b:aT}{len:Rat}{w u:aw}(k:iN len w)(j:iN len u)(O:(jU p b w).2=0)(U:(jU p b u).2=0):cC (nK at_) (pN s p (b,w)) (pN s p (b,u))=cC wK w u:=by
 have B:tk w.start=bg w.start:=if_pos k.2.2.2.2.1
 have F:tk u.start=bg u.start:=if_pos j.2.2.2.2.1
 have G:ht w.aU=num w.aU:=if_pos k.2.2.2.1
 have M:ht u.aU=num u.aU:=if_pos j.2.2.2.1
 have n1:=LK (s:=s) O
 have Y:=LK (s:=s) U
 unfold cC nK wK
 rw[n1,Y,B,F,G,M]
 simp only[List.zipWith_cons_cons,List.zipWith_nil_left,c8,pN,zH,Int.sub_self,hK]
 have N:num w.aU+((c7 (jW p b.key)).cw-12*p.bm)-(num u.aU+((c7 (jW p b.key)).cw-12*p.bm))=num w.aU-num u.aU:=by omega
 rw[N]
def tu{α β:Type}(key:α->Int)(f:α->List β):∀{l:List α}{x:α},(l.map key).Nodup->x∈l->(l.flatMap λy=>if key y=key x then f y else [])=f x
 | [],x,_,h=>by cases h
 |y::l,x,j,h=>by
  rw[fa,h9]at j
  rw[hM]
  rcases fb.1 h with rfl|h
  ·rw[if_pos rfl]
   have:(l.flatMap λy=>if key y=key x then f y else [])=[]:=List.flatMap_eq_nil_iff.2 λy k=>if_neg λ(e:key y=key x)=>j.1 (e▸gj.2 ⟨y,k,rfl⟩)
   rw[this,mb]
  rw[if_neg λ(e:key y=key x)=>j.1 (e▸gj.2 ⟨x,h,rfl⟩),List.nil_append]
  exact tu key f j.2 h
def WY(x:aV)(n:Int):ud (nE x n) n=x:=by unfold nE ud;cases x;dsimp only;congr 1;omega
def L9{s:bI}{v:aJ}(j:v.bu.length=s.bars.length):(ja s v).map (·.2)=de v:=by
 unfold ja de
 rw[abw]
 have e:(λx:aR×aT=>(x.1.aK.map λw=>(x.2,w)).map (·.2))=λx=>x.1.aK:=by funext x;rw[j4];exact List.map_id _
 rw[e]
 have:v.bu=(v.bu.zip s.bars).map (·.1):=(List.map_fst_zip (by omega)).symm
 conv=>rhs;rw[this,sx]
theorem L8{s:bI}{v:aJ}(j:v.bu.length=s.bars.length):(ja s v).length=(de v).length:=by rw[<-L9 j,hG]
def Lp{n:Int}(h:0<=n/\n<=6): -1<=7*iF n-12*n/\7*iF n-12*n<=5:=by
 have:n=0\/n=1\/n=2\/n=3\/n=4\/n=5\/n=6:=by omega
 rcases this with rfl|rfl|rfl|rfl|rfl|rfl|rfl<;>decide
theorem WV{t:Int}(h: -19<=t/\t<=19): -1<=eD t/\eD t<=1:=by
 unfold eD
 split
 ·omega
 split<;>omega
def aah{p:aC}(F:eP p){key:Int}(k:ee key){x:aV}(ad:lQ x):(fe (nE x p.bm) (jW p key)).2=0:=by
 have j:=qo F
 have an: -2<=p.bm/\p.bm<=2:=F.2.2.2.1
 obtain⟨Y,ah,ai⟩:=ad
 obtain⟨B,af,ag⟩:=Y
 have Z:dK (jW p key):=(Ln k j).1
 have ab:cd (nE x p.bm):=⟨B,⟨by show -4<=x.alter;omega,by show x.alter<=4;omega⟩,⟨by show -8<=x.bm+p.bm;omega,by show x.bm+p.bm<=20;omega⟩⟩
 unfold fe
 rw[if_pos ⟨ab,Z⟩,if_pos]
 have al:eB (c7 p.shift) = -(eB p.shift):=by unfold eB c7;dsimp only;omega
 have ak: -12<=eB p.shift/\eB p.shift<=12:=j.2.2
 have ao:=WV (t:=key+eB (c7 p.shift)) (by unfold ee at k;omega)
 have aa:=LN (key+eB (c7 p.shift))
 unfold ee at aa k
 have au:=j.1;have av:=j.2.1
 have M:(jW p key).steps = -p.shift.steps+eD (key+eB (c7 p.shift)):=rfl
 have N:(jW p key).cw = -p.shift.cw:=rfl
 have O:pl (nE x p.bm)=7*(x.bm+p.bm)+x.step:=rfl
 have U:num (nE x p.bm)=12*(x.bm+p.bm)+iF x.step+x.alter:=rfl
 have ae:eB (c7 p.shift)=7*(-p.shift.cw)-12*(-p.shift.steps):=rfl
 rw[M,N,O,U]
 generalize aj:7*(x.bm+p.bm)+x.step+(-p.shift.steps+eD (key+eB (c7 p.shift)))=P
 have G:0<=P%7/\P%7<=6:=by omega
 have aq:=Lp G
 have ar:=Lp B
 refine⟨G,?_,?_⟩
 ·show -4<=_-(12*(P/7)+iF (P%7))/\_-(12*(P/7)+iF (P%7))<=4
  omega
 show -8<=P/7/\P/7<=20
 omega
def Cb{α β:Type}(f:α->β):∀l:List α,(l.map f).zip l=l.map λb=>(f b,b)
 | []=>rfl
 |x::l=>by rw[fa,List.zip_cons_cons,Cb f l,fa]
variable {s:bI}{p:aC}
def kP(s:bI)(p:aC):List ak:=s.aK.filter λn=>decide (n.part=gH p)
def ig(p:aC)(b:aT)(n:ak):aw:=qC p b (nJ p n)
def L0(M:cU s){n:ak}(G:n∈kP s p):∃b∈s.bars,b.id=n.av/\fits b n:=by
 obtain⟨k,b,j,B,F,_⟩:=qb (M.2.2.2.1.2.2.1 n (hI.1 G).1)
 exact⟨b,dk j,B,F⟩
def E2(j:cU s){n:ak}(O:n∈kP s p){b:aT}(M:b∈s.bars)(N:n.av=b.id):fits b n:=by
 obtain⟨k,B,F,G⟩:=L0 j O
 have:k=b:=oA j.2.1.2.2 B M (F.trans N)
 rw[<-this];exact G
def tJ(B:eP p){b:aT}(k:ee b.key){n:ak}(F:lQ n.aU):jU p b (ig p b n)=(nE n.aU p.bm,0)/\cd (ig p b n).aU:=by
 have h:=aah B k F
 have j:=O4 h
 exact⟨j,(Hw h).2.2⟩
def E3(B:eP p){b:aT}(k:ee b.key){n:ak}(G:lQ n.aU)(j:n.av=b.id)(F:n.part=gH p):pN s p (b,ig p b n)=n:=by
 show zH s p b (ig p b n)=n
 unfold zH
 rw[(tJ B k G).1]
 dsimp only
 rw[WY,<-j,<-F]
 rfl
def He(Z:eP p){b:aT}(Y:ee b.key){n:ak}(U:fits b n):iN b.length (ig p b n):=by
 obtain⟨j,k,B,F,G,aa,M,N,O⟩:=U
 exact⟨G,M,N,(tJ Z Y O).2,j,k,B,F⟩
def Xm(j:cU s):ja s (dE s p)=s.bars.flatMap λb=>((kP s p).filter λn=>decide (n.av=b.id)).map λn=>(b,ig p b n):=by
 rw[tD j p]
 unfold ja
 dsimp only
 rw[Cb,sx]
 congr 1
 funext b
 unfold oJ ke
 dsimp only
 rw[I3,j4,j4]
 rfl
def RY(B:cU s):(s.bars.flatMap λb=>(kP s p).filter λn=>decide (n.av=b.id)).Perm (kP s p):=by
 have F:(kP s p).Nodup:=by
  have:((kP s p).map ak.id).Nodup:=B.2.2.2.1.2.2.2.sublist (lA.map _)
  exact x0 (λh e=>h (dn ak.id e)) (om.1 this)
 refine(u5 ?_ F).2 λn=>?_
 ·show List.Pairwise _ _
  rw[List.pairwise_flatMap]
  refine⟨λb _=>F.sublist lA,?_⟩
  refine x0 (λ{b N} h n M m G e=>?_) (om.1 B.2.1.2.2)
  subst e
  have j:=(hI.1 M).2
  have k:=(hI.1 G).2
  simp only[ea]at j k
  exact h (j.symm.trans k)
 rw[jb]
 constructor
 ·rintro⟨b,_,h⟩;exact(hI.1 h).1
 intro h
 obtain⟨b,j,k,_⟩:=L0 B h
 exact⟨b,j,hI.2 ⟨h,by simp[k]⟩⟩
def XI(j:cU s)(N:p∈s.parts):(xt s p (dE s p)).Perm s.aK:=by
 have O:=j.2.2.1.2.1 p N
 have e:(ja s (dE s p)).map (pN s p)=s.bars.flatMap λb=>(kP s p).filter λn=>decide (n.av=b.id):=by
  rw[Xm j,abw]
  unfold List.flatMap
  congr 1
  refine hE λb B=>?_
  rw[j4]
  refine(hE λn M=>?_).trans (List.map_id _)
  obtain⟨k,G⟩:=hI.1 M
  have F:n.av=b.id:=by simpa using G
  exact E3 O (kn j B).2.2.2 (E2 j k B F).2.2.2.2.2.2.2.2 F (by simpa using (hI.1 k).2)
 unfold xt
 rw[e]
 refine((RY j).append_left _).trans ?_
 refine List.perm_append_comm.trans ?_
 exact List.filter_append_perm (λn=>decide (n.part=gH p)) s.aK
def rm(j:cU s)(aa:p∈s.parts):ic s (dE s p):=by
 have G:=j.2.2.1.2.1 p aa
 have aq:partOf s p.id=some p:=ri j.2.2.1.2.2.1 aa
 have af:=XI j aa
 have Z:(dE s p).bu.length=s.bars.length:=by rw[tD j p];simp
 have Y:∀b∈s.bars,∀n,n∈(kP s p).filter (λn=>decide (n.av=b.id))->ee b.key/\fits b n/\n.av=b.id/\n.part=gH p:=λb M n N=>by
  obtain⟨B,U⟩:=hI.1 N
  have ae:n.av=b.id:=by simpa using U
  exact⟨(kn j M).2.2.2,E2 j B M ae,ae,by simpa using (hI.1 B).2⟩
 refine⟨j,Z,⟨p,by rw[tD j p];exact aq,?_⟩,?_,?_⟩
 ·rw[tD j p]
  dsimp only
  rw[Cb,List.all_map,dT]
  intro b M
  show iT p (oJ p (ke s p) b,b)=true
  have ao:(oJ p (ke s p) b).aK=((kP s p).filter λn=>decide (n.av=b.id)).map (ig p b):=by
   unfold oJ ke
   dsimp only
   rw[I3,j4]
   rfl
  unfold iT
  rw[ao]
  simp only[db,ea,dT]
  refine⟨⟨⟨rfl,rfl,rfl⟩,CO.2 λk a c aj al=>?_⟩,λw aw=>?_⟩
  ·have ar:(((kP s p).filter λn=>decide (n.av=b.id)).map (ig p b)).Pairwise λa b=>¬cC wK b a<0:=by
    rw[om]
    have au:=Np (Np (YT j) λn=>decide (n.part=gH p)) λn=>decide (n.av=b.id)
    refine q8 (λ{n m} N an h=>?_) au
    obtain⟨F,O,ab,ad⟩:=Y b M n N
    obtain⟨az,ai,ax,ay⟩:=Y b M m an
    have ag:=O.2.2.2.2.2.2.2.2
    have ah:=ai.2.2.2.2.2.2.2.2
    have:=SJ (at_:=ef s.bars) (s:=s) (He G F ai) (He G F O) (by rw[(tJ G F ah).1]) (by rw[(tJ G F ag).1])
    rw[E3 G F ah ax ay,E3 G F ag ab ad]at this
    rw[<-this];exact h
   have:=Mn ar k a c aj al
   rw[gL,hL]
   exact this
  obtain⟨n,N,rfl⟩:=gj.1 aw
  obtain⟨F,O,ab,ad⟩:=Y b M n N
  exact He G F O
 ·rw[<-L8 Z,<-hG (f:=pN s p)]
  have B:=af.length_eq
  unfold xt at B
  rw[e3]at B
  have:=j.2.2.2.1.2.1
  omega
 rw[<-L9 Z]
 have B:((xt s p (dE s p)).map ak.id).Nodup:=(af.map ak.id).nodup_iff.2 j.2.2.2.1.2.2.2
 unfold xt at B
 rw[q7,sb]at B
 have U:=B.2.1
 rw[j4]at U⊢
 exact U
end Go.Proofs.YthhlipkkjippfaaGreatDoor
namespace Go.Proofs.YthhlipkkjippfaaGreatDoor
open Go Go.ag Go.Sy
attribute [local instance] ch cF
def gA(q:aR->aw->Bool)(m:aR):aR:=⟨m.av,m.key,m.length,m.aK.filter (q m)⟩
def dO(q:aR->aw->Bool)(v:aJ):aJ:=⟨v.part,v.bu.map (gA q)⟩
theorem E0(v:aJ)(c:List Int):mz v c=dO (λm w=>decide (w.bO=nL c m.aK)) v:=rfl
def SL{a b c:aw}(j:¬cC wK b a<0)(k:¬cC wK c b<0):¬cC wK c a<0:=Dv (wK c) (wK b) (wK a) rfl rfl k j
theorem IL{l:List aw}(h:mX (λa b=>!decide (cC wK b a<0)) l=true):l.Pairwise λa b=>¬cC wK b a<0:=
 CP (R:=λa b=>¬cC wK b a<0) (λa b c j B=>SL j B) λk a b F G=>by
  have:=CO.1 h k a b F G
  rw[gL,hL]at this
  exact this
def HC(q:aR->aw->Bool)(v:aJ):(de (dO q v)).Sublist (de v):=by
 unfold de dO
 dsimp only
 induction v.bu with
 |nil=>exact .refl _
 |cons m l j=>
  rw[fa,hM,hM]
  exact List.Sublist.append lA j
def sH{s:bI}{v:aJ}(ad:ic s v)(q:aR->aw->Bool):ic s (dO q v):=by
 obtain⟨ab,Y,⟨p,Z,j⟩,N,O⟩:=ad
 refine⟨ab,by simp[dO,Y],⟨p,Z,?_⟩,?_,?_⟩
 ·rw[dT]at j⊢
  intro x B
  unfold dO at B
  dsimp only at B
  rw[List.zip_map_left,gj]at B
  obtain⟨y,af,rfl⟩:=B
  have h:=j y af
  unfold iT at h⊢
  simp only[db,ea,dT]at h⊢
  obtain⟨⟨⟨F,G,M⟩,b⟩,c⟩:=h
  refine⟨⟨⟨F,G,M⟩,?_⟩,λw ae=>c w (hI.1 ae).1⟩
  have aa:=(IL b).sublist (lA (p:=q y.1))
  refine CO.2 λk a c j U=>?_
  have:=Mn aa k a c j U
  rw[gL,hL]
  exact this
 ·exact hJ (HC q v).length_le N
 exact O.sublist ((HC q v).map _)
def Xl{s:bI}{v:aJ}(q:aR->aw->Bool):ja s (dO q v)=(v.bu.zip s.bars).flatMap λx=>(x.1.aK.filter (q x.1)).map λw=>(x.2,w):=by
 unfold ja dO
 dsimp only
 rw[List.zip_map_left,sx]
 rfl
def Uu{α β ρ:Type}{E:α->Int}{j:α->β}{R:α->ρ}{fin:List β->ρ}{l:List α}(h:∀x∈l,E x=0)(z:List β):eL E j R fin l z=fin (z++l.map j):=by
 unfold eL
 have:(l.find? λx=>decide (E x≠0))=none:=by
  rw[p5]
  intro x k
  simp[h x k]
 rw[this]
def ZA{s:bI}{v:aJ}{p:aC}(B:ic s v)(k:partOf s v.part=some p)(j:∀q∈ja s v,sE p q=0):xJ s v=((ja s v).map (sN p),0):=by
 unfold xJ
 rw[if_pos B,k]
 dsimp only
 rw[Uu j,List.nil_append]
variable {s:bI}{p:aC}
def py(s:bI)(p:aC)(b:aT):List ak:=(kP s p).filter λn=>decide (n.av=b.id)
def zR(c:List Int)(l:List ak):Int:=(c.find? λn=>l.any λx=>decide (x.bO=n)).getD 0
def fK(s:bI)(p:aC)(c:List Int)(b:aT):List ak:=((py s p b).filter λn=>decide (n.bO=zR c (py s p b))).map (nJ p)
def Wi(b:aT):(oJ p (ke s p) b).aK=(py s p b).map (ig p b):=by
 unfold oJ ke py
 dsimp only
 rw[I3,j4]
 rfl
def Xx(c:List Int)(b:aT)(l:List ak):nL c (l.map (ig p b))=zR c l:=by
 unfold nL zR
 congr 2
 funext n
 rw[List.any_map]
 rfl
def ym(F:cU s){b:aT}(k:b∈s.bars){n:ak}(M:n∈py s p b):ee b.key/\fits b n/\n.av=b.id/\n.part=gH p:=by
 obtain⟨j,G⟩:=hI.1 M
 have B:n.av=b.id:=by simpa using G
 exact⟨(kn F k).2.2.2,E2 F j k B,B,by simpa using (hI.1 j).2⟩
def Nl(F:eP p){b:aT}{n:ak}(h:ee b.key/\fits b n/\n.av=b.id/\n.part=gH p):sE p (b,ig p b n)=0/\sN p (b,ig p b n)=nJ p n:=by
 obtain⟨j,k,B,G⟩:=h
 have hi:=(tJ F j k.2.2.2.2.2.2.2.2).1
 unfold sE sN
 dsimp only
 rw[hi]
 refine⟨rfl,?_⟩
 unfold nJ ig qC nJ
 dsimp only
 rw[B]
def FO(j:cU s)(c:List Int):ja s (mz (dE s p) c)=s.bars.flatMap λb=>((py s p b).filter λn=>decide (n.bO=zR c (py s p b))).map λn=>(b,ig p b n):=by
 rw[E0,Xl,tD j p]
 dsimp only
 rw[Cb,sx]
 congr 1
 funext b
 dsimp only
 rw[Wi,Xx,I3,j4]
 rfl
def GD(j:cU s)(G:p∈s.parts)(c:List Int):xJ s (mz (dE s p) c)=(s.bars.flatMap (fK s p c),0):=by
 have M:=j.2.2.1.2.1 p G
 have O:partOf s p.id=some p:=ri j.2.2.1.2.2.1 G
 have U:ic s (mz (dE s p) c):=sH (rm j G) _
 have N:partOf s (mz (dE s p) c).part=some p:=by rw[tD j p];exact O
 rw[ZA U N (λq k=>by
  rw[FO j,jb]at k
  obtain⟨b,B,k⟩:=k
  obtain⟨n,F,rfl⟩:=gj.1 k
  exact(Nl M (ym j B (hI.1 F).1)).1),FO j,abw]
 congr 1
 unfold List.flatMap
 congr 1
 refine hE λb B=>?_
 unfold fK
 rw[j4]
 refine hE λn F=>?_
 exact(Nl M (ym j B (hI.1 F).1)).2
end Go.Proofs.YthhlipkkjippfaaGreatDoor
namespace Go.Proofs.YthhlipkkjippfaaGreatDoor
open Go Go.ag Go.Sy
attribute [local instance] ch cF
def jT{α:Type}(key:α->Int)(m:List (Int×List α))(x:α):List (Int×List α):=aM m (key x) (aq m (key x) []++[x])
def y4{α:Type}(key:α->Int)(k:Int):∀(l:List α)(m:List (Int×List α)),aq (l.foldl (jT key) m) k []=aq m k []++l.filter λx=>decide (key x=k)
 | [],m=>by simp
 |x::l,m=>by
  rw[List.foldl_cons,y4 key k l,k0]
  unfold jT
  rw[mw]
  by_cases h:k=key x
  ·rw[if_pos h,h,if_pos (by simp)];simp
  rw[if_neg h,if_neg (by simp;exact λe=>h e.symm)]
def DQ{α:Type}(key:α->Int):∀(l:List α)(m:List (Int×List α))(n:Nat),(∀k,(aq m k []).length<=n)->∀k,(aq (l.foldl (jT key) m) k []).length<=n+l.length
 | [],m,n,h,k=>by simpa using h k
 |x::l,m,n,h,k=>by
  rw[List.foldl_cons,List.length_cons]
  have:=DQ key l (jT key m x) (n+1) (λk=>by
   unfold jT
   rw[mw]
   by_cases e:k=key x
   ·rw[if_pos e,e3]
    have:=h (key x)
    simp;omega
   rw[if_neg e];have:=h k;omega) k
  omega
def UZ{ns:List ak}(Y:ns.length<=1000000):aB (λB:(Int×(List (Int×(List ak))))=>ab (ah B.1 (ns.length:Int)) (aa (au ns B.1) λF=>ae (decide ((List.append (aq B.2 F.av ([]:List ak)) (F::([]:List ak))).length*96<=140737488355328/\(List.append (aq B.2 F.av ([]:List ak)) (F::([]:List ak))).length<=9223372036854775807)) <|ae (ai (B.1+1)) <|some (.inl ((B.1+1),(aM B.2 F.av (List.append (aq B.2 F.av ([]:List ak)) (F::([]:List ak))))))) (some (.inr B.2))) (0,([]:List (Int×(List ak))))=some (ns.foldl (jT ak.av) []):=by
 refine(dU (st:=λ(z:List (Int×List ak)) k=>(k,z)) (l:=ns) (λz x=>.inl (jT ak.av z x)) (λz=>z) (λk z=>∀j,(aq z j []).length<=k) (λk x z M G=>?_) (λk x z z' _ G N=>by
  cases N
  intro j
  have:=DQ ak.av [x] z k G j
  simpa using this) (λz _=>by dsimp only;rw[aj (by simp)]) [] (λj=>by rw[oK];simp)).trans (dn some (fG (jT ak.av) ns [] (λ_ _ _=>rfl)))
 have U:=bG M
 have O:=G x.av
 dsimp only
 have e:(List.append (aq z x.av ([]:List ak)) (x::([]:List ak))).length=(aq z x.av ([]:List ak)).length+1:=e3
 rw[an (da (by omega)),bh (aW M),cr (da (by rw[e];omega)),aE (by omega)]
 rfl
def jK(t:Int)(n:ak):az:=⟨n.part,cR (t+bg n.start),n.length,n.aU⟩
def eE(bars:List aT)(snd:aT->List ak):List aA->Int->List az
 | [],_=>[]
 |v::vs,t=>match bars[v.av.toNat]? with
  |some b=>(snd b).map (jK t)++eE bars snd vs (t+bg b.length)
  |none=>eE bars snd vs t
def gP(bars:List aT)(snd:aT->List ak)(z:List az×Int)(v:aA):List az×Int:=match bars[v.av.toNat]? with
 |some b=>(z.1++(snd b).map (jK z.2),z.2+bg b.length)
 |none=>z
def Kb(bars:List aT)(snd:aT->List ak):∀(vs:List aA)(z:List az×Int),(vs.foldl (gP bars snd) z).1=z.1++eE bars snd vs z.2
 | [],z=>by simp[eE]
 |v::vs,z=>by
  rw[List.foldl_cons,Kb bars snd vs]
  have j:gP bars snd z v=match bars[v.av.toNat]? with
   |some b=>(z.1++(snd b).map (jK z.2),z.2+bg b.length)
   |none=>z:=rfl
  have k:eE bars snd (v::vs) z.2=match bars[v.av.toNat]? with
   |some b=>(snd b).map (jK z.2)++eE bars snd vs (z.2+bg b.length)
   |none=>eE bars snd vs z.2:=rfl
  rw[j,k]
  cases bars[v.av.toNat]? with
  |none=>rfl
  |some b=>dsimp only;rw[hU]
theorem aaf{ε:Type}{l:List ak}{tm:Rat}{t:Int}{ts:List az}(E:(List az×Int)->ε)(ag:tm=cR t)(O:0<=t)(aq:t<=900000000)(av:l.length<=1000000)(ad:∀n∈l,bQ n.start/\bg n.start<=100000)(ht:ts.length<=1000000000000) :
  (aB (λB:(Int×(List az))=>ab (ah B.1 (l.length:Int)) (aa (au l B.1) λj=>aa (fB (tm,j.start)) λF=>ab (!(aF F.2 0)) (some (.inr (.inr (E (B.2,F.2))))) (ae (decide ((List.append B.2 ((⟨j.part,F.1,j.length,j.aU⟩:az)::([]:List az))).length*64<=140737488355328/\(List.append B.2 ((⟨j.part,F.1,j.length,j.aU⟩:az)::([]:List az))).length<=9223372036854775807)) <|ae (ai (B.1+1)) <|some (.inl ((B.1+1),(List.append B.2 ((⟨j.part,F.1,j.length,j.aU⟩:az)::([]:List az))))))) (some (.inr (.inl B.2)))) (0,ts):Option (List az⊕ε))=some (.inl (ts++l.map (jK t))):=by
 have G:=qt (t:=t) O (by omega)
 refine(dU (st:=λ(z:List az) k=>(k,z)) (l:=l) (λz x=>.inl (z++[jK t x])) (λz=>.inl z) (λk z=>z.length<=ts.length+k) (λk x z M U=>?_) (λk x z z' _ U Z=>by cases Z;simp;omega) (λz _=>by dsimp only;rw[aj (by simp)]) ts (by simp)).trans (dn some ((fG (λz x=>z++[jK t x]) l ts (λ_ _ _=>rfl)).trans (dn Sum.inl (foldl_map' (jK t) l ts))))
 have ar:=bG M
 obtain⟨N,al⟩:=ad x (dk M)
 have ao:=nR N
 dsimp only
 have e:(List.append z (jK t x::([]:List az))).length=z.length+1:=e3
 have Y:fB (tm,x.start)=some (cR (t+bg x.start),0):=by rw[ag,Bq G.1 N (by rw[G.2];omega),G.2]
 rw[an (da (by omega)),bh (aW M),Y,af]
 refine(aj rfl).trans ?_
 refine(cr (da (by rw[show(List.append z ((⟨x.part,(cR (t+bg x.start),(0:Int)).1,x.length,x.aU⟩:az)::([]:List az))).length=z.length+1 from e];omega))).trans ?_
 exact aE (by omega)
def MJ:cR 0=⟨0,1⟩:=by decide +kernel
def Xw{bars:List aT}(ag:∀b∈bars,eR b){vs:List aA}(ao:vs.length<=20000/\∀v∈vs,0<=v.av/\v.av<(bars.length:Int))(mp:List (Int×List ak))(al:∀b∈bars,(aq mp b.id []).length<=20000/\∀n∈aq mp b.id [],bQ n.start/\bg n.start<=100000){ts:List az}(ht:ts.length<=100000000000) :
  (aB (λF:(Int×((List az)×(Int×Int)))=>ab (ah F.1 (vs.length:Int)) (aa (au vs F.1) λaL=>aa (au bars aL.av) λad=>aZ (aB (λB:(Int×(List az))=>ab (ah B.1 ((aq mp ad.id ([]:List ak)).length:Int)) (aa (au (aq mp ad.id ([]:List ak)) B.1) λj=>aa (fB ((⟨F.2.2.1,F.2.2.2⟩:Rat),j.start)) λO=>ab (!(aF O.2 0)) (some (.inr (.inr (.inr (.inr (B.2,O.2)))))) (ae (decide ((List.append B.2 ((⟨j.part,O.1,j.length,j.aU⟩:az)::([]:List az))).length*64<=140737488355328/\(List.append B.2 ((⟨j.part,O.1,j.length,j.aU⟩:az)::([]:List az))).length<=9223372036854775807)) <|ae (ai (B.1+1)) <|some (.inl ((B.1+1),(List.append B.2 ((⟨j.part,O.1,j.length,j.aU⟩:az)::([]:List az))))))) (some (.inr (.inl B.2)))) (0,F.2.1)) λ(B:(List az))=>aa (fB ((⟨F.2.2.1,F.2.2.2⟩:Rat),ad.length)) λj=>ae (ai (F.1+1)) <|some (.inl ((F.1+1),(B,(j.1.n,j.1.d))))) (some (.inr (.inl F.2.1)))) (0,(ts,(0,1))):Option (List az⊕(List az×Int)))=some (.inl (ts++eE bars (λb=>aq mp b.id []) vs 0)):=by
 have ax:((0:Int),(ts,((0:Int),(1:Int))))=(0,(ts,((cR 0).n,(cR 0).d))):=by rw[MJ]
 refine(dn (aB _) ax).trans ?_
 refine(dU (σ:=List az×Int) (st:=λz k=>(k,(z.1,((cR z.2).n,(cR z.2).d)))) (l:=vs) (λz v=>(Sum.inl (gP bars (λb=>aq mp b.id []) z v):(List az×Int)⊕(List az⊕(List az×Int)))) (λz=>(Sum.inl z.1:List az⊕(List az×Int))) (λk z=>(0<=z.2/\z.2<=40320*(k:Int))/\z.1.length<=ts.length+20000*k) (λk v z M U=>?_) (λk v z z' M U aD=>?_) (λz _=>by dsimp only;rw[aj (by simp)]) (ts,0) ⟨by dsimp only;omega,by simp⟩).trans (dn some ((fG (gP bars (λb=>aq mp b.id [])) vs (ts,0) (λ_ _ _=>rfl)).trans (dn Sum.inl (Kb bars (λb=>aq mp b.id []) vs (ts,0)))))
 ·have aG:=bG M
  obtain⟨aK,aM⟩:=ao.2 v (dk M)
  obtain⟨⟨Z,aH⟩,aI⟩:=U
  have G:bars[v.av.toNat]?=some bars[v.av.toNat]:=c3 (by omega)
  unfold gP
  rw[G]
  generalize bars[v.av.toNat]=b at G
  have N:=dk G
  obtain⟨_,af,aw,_⟩:=ag b N
  obtain⟨aJ,ar⟩:=al b N
  have aC:au bars v.av=some b:=by
   have:=aW G
   rwa [show((v.av.toNat:Nat):Int)=v.av by omega]at this
  dsimp only
  rw[an (da (by omega)),bh (aW M),bh aC]
  refine(gC (aaf (tm:=⟨(cR z.2).n,(cR z.2).d⟩) (ts:=z.1) (ε:=(Int×(List az×(Int×Int)))⊕(List az⊕(List az×Int))) (λx=>.inr (.inr x)) rfl Z (by omega) (by omega) ar (by omega))).trans ?_
  have Y:=qt (t:=z.2) Z (by omega)
  have ay:fB (cR z.2,b.length)=some (cR (z.2+bg b.length),0):=by rw[Bq Y.1 af (by rw[Y.2];omega),Y.2]
  refine(aO ay).trans ?_
  exact aE (by omega)
 cases aD
 have aG:=bG M
 obtain⟨aK,aM⟩:=ao.2 v (dk M)
 obtain⟨⟨Z,aH⟩,aI⟩:=U
 have G:bars[v.av.toNat]?=some bars[v.av.toNat]:=c3 (by omega)
 unfold gP
 rw[G]
 generalize bars[v.av.toNat]=b at G
 have N:=dk G
 obtain⟨_,af,aw,_⟩:=ag b N
 obtain⟨aJ,ar⟩:=al b N
 dsimp only
 refine⟨by omega,?_⟩
 rw[e3,hG];omega
def Mf{bars:List aT}(O:∀b∈bars,eR b){vs:List aA}(Y:vs.length<=20000/\∀v∈vs,0<=v.av/\v.av<(bars.length:Int)){ns:List ak}(N:ns.length<=20000/\∀n∈ns,bQ n.start/\bg n.start<=100000){ts:List az}(ht:ts.length<=100000000000) :
  ((aa (aB (λB:(Int×(List (Int×(List ak))))=>ab (ah B.1 (ns.length:Int)) (aa (au ns B.1) λj=>ae (decide ((List.append (aq B.2 j.av ([]:List ak)) (j::([]:List ak))).length*96<=140737488355328/\(List.append (aq B.2 j.av ([]:List ak)) (j::([]:List ak))).length<=9223372036854775807)) <|ae (ai (B.1+1)) <|some (.inl ((B.1+1),(aM B.2 j.av (List.append (aq B.2 j.av ([]:List ak)) (j::([]:List ak))))))) (some (.inr B.2))) (0,([]:List (Int×(List ak))))) λ(B:(List (Int×(List ak))))=>aZ (aB (λj:(Int×((List az)×(Int×Int)))=>ab (ah j.1 (vs.length:Int)) (aa (au vs j.1) λZ=>aa (au bars Z.av) λM=>aZ (aB (λF:(Int×(List az))=>ab (ah F.1 ((aq B M.id ([]:List ak)).length:Int)) (aa (au (aq B M.id ([]:List ak)) F.1) λk=>aa (fB ((⟨j.2.2.1,j.2.2.2⟩:Rat),k.start)) λG=>ab (!(aF G.2 0)) (some (.inr (.inr (.inr (.inr (F.2,G.2)))))) (ae (decide ((List.append F.2 ((⟨k.part,G.1,k.length,k.aU⟩:az)::([]:List az))).length*64<=140737488355328/\(List.append F.2 ((⟨k.part,G.1,k.length,k.aU⟩:az)::([]:List az))).length<=9223372036854775807)) <|ae (ai (F.1+1)) <|some (.inl ((F.1+1),(List.append F.2 ((⟨k.part,G.1,k.length,k.aU⟩:az)::([]:List az))))))) (some (.inr (.inl F.2)))) (0,j.2.1)) λ(F:(List az))=>aa (fB ((⟨j.2.2.1,j.2.2.2⟩:Rat),M.length)) λk=>ae (ai (j.1+1)) <|some (.inl ((j.1+1),(F,(k.1.n,k.1.d))))) (some (.inr (.inl j.2.1)))) (0,(ts,(0,1)))) λ(j:(List az))=>some (j,0)):Option (List az×Int))=some (ts++eE bars (λb=>ns.filter λn=>decide (n.av=b.id)) vs 0,0):=by
 refine(aO (UZ (by omega))).trans ?_
 have e:(λb:aT=>aq (ns.foldl (jT ak.av) []) b.id [])=λb=>ns.filter λn=>decide (n.av=b.id):=by
  funext b
  rw[y4,oK,List.nil_append]
 have:=Xw O Y (ns.foldl (jT ak.av) []) (λb ad=>by
  rw[y4,oK,List.nil_append]
  exact⟨hJ (kA _ _) N.1,λn U=>N.2 n (hI.1 U).1⟩) ht
 rw[e]at this
 exact gC this
end Go.Proofs.YthhlipkkjippfaaGreatDoor
namespace Go.Proofs.YthhlipkkjippfaaGreatDoor
open Go Go.ag Go.Sy
attribute [local instance] ch cF
theorem Bi{bars:List aT}{f g:aT->List ak}(h:∀b∈bars,f b=g b):∀(vs:List aA)(t:Int),eE bars f vs t=eE bars g vs t
 | [],t=>rfl
 |v::vs,t=>by
  unfold eE
  cases j:bars[v.av.toNat]? with
  |none=>exact Bi h vs t
  |some b=>
   dsimp only
   rw[h b (dk j),Bi h vs]
def cG(bars:List aT):List aA->Int
 | []=>0
 |v::vs=>match bars[v.av.toNat]? with
  |some b=>bg b.length+cG bars vs
  |none=>cG bars vs
def mN{bars:List aT}(j:∀b∈bars,eR b):∀(vs:List aA),0<=cG bars vs/\cG bars vs<=40320*(vs.length:Int)
 | []=>by simp[cG]
 |v::vs=>by
  have B:=mN j vs
  unfold cG
  cases h:bars[v.av.toNat]? with
  |none=>simp only[List.length_cons];omega
  |some b=>
   obtain⟨_,_,k,_⟩:=j b (dk h)
   simp only[List.length_cons];omega
def Bj{bars:List aT}(j:∀b∈bars,eR b){snd:aT->List ak}{x:az}:∀(vs:List aA)(t:Int),x∈eE bars snd vs t->∃t' b n,t<=t'/\t'+bg b.length<=t+cG bars vs/\b∈bars/\n∈snd b/\x=jK t' n
 | [],t,h=>absurd h (by simp[eE])
 |v::vs,t,h=>by
  have U:=mN j vs
  unfold eE at h
  unfold cG
  cases k:bars[v.av.toNat]? with
  |none=>rw[k]at h;exact Bj j vs t h
  |some b=>
   rw[k]at h
   obtain⟨_,_,M,_⟩:=j b (dk k)
   dsimp only at h⊢
   rcases hP.1 h with h|h
   ·obtain⟨n,G,rfl⟩:=gj.1 h
    exact⟨t,b,n,by omega,by omega,dk k,G,rfl⟩
   obtain⟨t',B,n,N,O,F⟩:=Bj j vs _ h
   exact⟨t',B,n,by omega,by omega,F⟩
theorem uH{bars:List aT}{snd:aT->List ak}{m:Nat}(h:∀b∈bars,(snd b).length<=m):∀(vs:List aA)(t:Int),(eE bars snd vs t).length<=m*vs.length
 | [],t=>by simp[eE]
 |v::vs,t=>by
  unfold eE
  cases j:bars[v.av.toNat]? with
  |none=>
   have:=uH h vs t
   dsimp only
   rw[List.length_cons,Nat.mul_succ];omega
  |some b=>
   have:=uH h vs (t+bg b.length)
   have:=h b (dk j)
   dsimp only
   rw[e3,hG,List.length_cons,Nat.mul_succ];omega
def Xs{p q:aV}(F:cd p)(G:cd q)(k:num p=num q)(B:p.step=q.step):p=q:=by
 obtain⟨s,a,o⟩:=p
 obtain⟨s',j,o'⟩:=q
 obtain⟨_,M,_⟩:=F
 obtain⟨_,N,_⟩:=G
 unfold num at k
 dsimp only at *
 subst B
 have:o=o':=by omega
 subst this
 have:a=j:=by omega
 rw[this]
theorem aag{a b:az}(j:lf a)(k:lf b)(h:tK a=tK b):a=b:=by
 obtain⟨ag,B,F,G⟩:=a
 obtain⟨ah,M,N,O⟩:=b
 unfold tK at h
 simp only[o3]at h
 obtain⟨aa,ab,ad,ae,af,_⟩:=h
 have U:B=M:=(yH j.1).trans ((dn cR aa).trans (yH k.1).symm)
 have Y:F=N:=(yH j.2.2.2).trans ((dn cR af).trans (yH k.2.2.2).symm)
 have Z:G=O:=Xs j.2.2.1 k.2.2.1 ad ae
 rw[U,Y,Z,ab]
theorem xM(t:az):(tK t).length=tS.length:=rfl
def Ov{l:List az}(h:∀t∈l,lf t):gM (iw tS tK) l:=by
 intro a B b F j k
 rw[vB xM]at j k
 exact aag (h a B) (h b F) (CM (K:=tK) (n:=5) (λ_=>rfl) j k)
noncomputable def eF(l:List az):List az:=gw (iw tS tK) l
def NO{l:List az}(h:∀t∈l,lf t)(j:l.length<=1000000000000):r8 (l,())=some (eF l):=by
 unfold r8 sy
 rw[if_pos ⟨h,Ov h,by dsimp only;omega⟩];rfl
variable {s:bI}{p:aC}{c:List Int}
def uT(B:cU s)(Y:p∈s.parts){b:aT}(M:b∈s.bars){n:ak}(U:n∈fK s p c b):n.av=b.id/\n.part=p.id/\bQ n.start/\bQ n.length/\bg n.start+bg n.length<=bg b.length/\cd n.aU:=by
 have Z:=B.2.2.1.2.1 p Y
 obtain⟨m,O,rfl⟩:=gj.1 U
 obtain⟨F,j,G,aa⟩:=ym B M (hI.1 O).1
 have hi:=(tJ Z F j.2.2.2.2.2.2.2.2).1
 have k:=Hw (x:=(ig p b m).aU) (i:=c7 (jW p b.key)) (by
  have:(jU p b (ig p b m)).2=0:=by rw[hi]
  exact this)
 have N:(fe (ig p b m).aU (c7 (jW p b.key))).1=nE m.aU p.bm:=by
  have:(jU p b (ig p b m)).1=nE m.aU p.bm:=by rw[hi]
  exact this
 rw[N]at k
 exact⟨G,rfl,j.1,j.2.1,j.2.2.2.1,k.2.2⟩
def BI(j:cU s)(b:aT):(fK s p c b).length<=20000:=by
 have:=j.2.2.2.1.2.1
 unfold fK py kP
 rw[hG]
 exact hJ (kA _ _) (hJ (kA _ _) (hJ (kA _ _) this))
def NJ(j:cU s)(k:p∈s.parts):(s.bars.flatMap (fK s p c)).length<=20000:=by
 have h:=(sH (rm j k) (λm w=>decide (w.bO=nL c m.aK))).2.2.2.1
 have F:=dn Prod.fst (GD j k c)
 have B:ic s (mz (dE s p) c):=sH (rm j k) _
 have e:(ja s (mz (dE s p) c)).length=(s.bars.flatMap (fK s p c)).length:=by
  rw[FO j,J1,J1]
  congr 1
  refine hE λb _=>?_
  unfold fK
  rw[hG,hG]
 rw[<-e,L8 B.2.1]
 exact h
def NK(k:cU s)(B:p∈s.parts){b:aT}(G:b∈s.bars):(s.bars.flatMap (fK s p c)).filter (λn=>decide (n.av=b.id))=fK s p c b:=by
 rw[List.filter_flatMap]
 refine Eq.trans ?_ (tu aT.id (fK s p c) k.2.1.2.2 G)
 unfold List.flatMap
 congr 1
 refine hE λy F=>?_
 by_cases h:y.id=b.id
 ·rw[if_pos h,o0]
  intro n j
  have:=(uT k B F j).1
  simp[this,h]
 rw[if_neg h,iv]
 intro n j
 have:=(uT k B F j).1
 simp[this,h]
def eh(s:bI)(c:List Int)(vs:List aA)(p:aC):List az:=eE s.bars (fK s p c) vs 0
def dt(s:bI)(c:List Int)(vs:List aA):List az:=s.parts.flatMap (eh s c vs)
def FT(k:cU s)(M:p∈s.parts){vs:List aA}(aj:vs.length<=20000){x:az}(ab:x∈eh s c vs p):lf x/\x.part=p.id/\∃t',0<=t'/\bg x.start+bg x.length<=t'/\t'<=cG s.bars vs:=by
 have j:∀b∈s.bars,eR b:=λb Z=>kn k Z
 obtain⟨t',b,n,ag,ah,F,Y,rfl⟩:=Bj j vs 0 ab
 obtain⟨ad,N,O,B,ae,U⟩:=uT k M F Y
 have aa:=k.2.2.1.2.1 p M
 have ht:=mN j vs
 have ai:=((lT p).1 aa).1.1
 have ak:=nR O
 have al:=nR B
 have G:=qt (t:=t'+bg n.start) (by omega) (by omega)
 refine⟨⟨G.1,?_,U,B⟩,N,t'+bg b.length,?_,?_,by omega⟩
 ·show 0<=n.part/\n.part<=1000000
  omega
 ·obtain⟨_,_,af,_⟩:=j b F
  omega
 show bg (cR (t'+bg n.start))+bg n.length<=t'+bg b.length
 rw[G.2];omega
theorem sj(k:cU s){vs:List aA}(F:vs.length<=20000):(∀x∈dt s c vs,lf x)/\(dt s c vs).length<=400000000*s.parts.length:=by
 constructor
 ·intro x j
  obtain⟨p,B,j⟩:=jb.1 j
  exact(FT k B F j).1
 unfold dt
 have:∀(l:List aC),(l.flatMap (eh s c vs)).length<=400000000*l.length:=by
  intro l
  induction l with
  |nil=>simp
  |cons p l G=>
   have:=uH (bars:=s.bars) (snd:=fK s p c) (m:=20000) (λb _=>BI k b) vs 0
   have e:(eh s c vs p).length<=20000*vs.length:=this
   rw[hM,e3,List.length_cons,Nat.mul_succ]
   omega
 exact this s.parts
end Go.Proofs.YthhlipkkjippfaaGreatDoor
namespace Go.Proofs.YthhlipkkjippfaaGreatDoor
open Go Go.ag Go.Sy
attribute [local instance] ch cF
def lG(w:eo)(r:ej):Prop:=cU w.aI/\r.version=w.aI.version/\jF r.form=true/\r.form.bars=(w.aI.bars.length:Int)/\pD r.bF=true
noncomputable instance (w:eo) (r:ej):Decidable (lG w r):=inferInstanceAs (Decidable (_/\_/\_/\_/\_))
def o8(w:eo)(r:ej):Prop:=w.aI.bars.length<=1048576/\mJ r.form/\r.bF.length<=1048576
def Yi{w:eo}{r:ej}(h:o8 w r):AF (w,r)=some (decide (lG w r)):=by
 obtain⟨M,B,F⟩:=h
 unfold AF
 dsimp only
 rw[Mw,X5 B,Yg F]
 have e:∀(a b c d f:Bool),(aa (aa (some a) λk=>ab (!k) (some true) (some (!b))) λ(k:Bool)=>ab k (some false) (aa (aa (some c) λj=>ab j (ab d (aa (some f) λG=>some G) (some false)) (some false)) λ(j:Bool)=>some j))=some (a&&(b&&(c&&(d&&f)))):=by
  intro a b c d f
  cases a<;>cases b<;>cases c<;>cases d<;>cases f<;>rfl
 refine(e _ _ _ _ _).trans (dn some ?_)
 unfold aF
 rw[hC]
 simp only[db,ea]
 rfl
def aaF:jg zeroV:=⟨by simp[zeroV],by simp[zeroV,de],λm j=>absurd j (by simp[zeroV])⟩
def Xf{c:List Int}(k:c.length<=1048576):mB (zeroV,c)=some (if pD c=true then(zeroV,0)else(zeroV,1)):=by
 rw[C0 (by simp[zeroV]) (by simp[zeroV,de]) k]
 by_cases h:pD c=true
 ·rw[if_pos h,if_pos ⟨h,aaF⟩];rfl
 rw[if_neg h,if_neg (λj=>h j.1)]
def G5{f:Form}(M:mJ f)(h:jF f=true):(cH f).length<=20000/\∀v∈cH f,0<=v.av/\v.av<f.bars:=by
 have F:=vT M h
 have G:(fx f).length<=20000:=by
  simp only[jF,db,ea]at h
  exact h.2.2.2.2.2.2
 have B:=OQ F
 rw[B0]
 refine⟨hJ (kA _ _) (hJ (aaI f) G),λv hv=>?_⟩
 have hv:=(hI.1 hv).1
 have key:∀(l:List Int)(z:MV),(∀x∈l,0<=x/\x<f.bars)->(∀v∈z.2,0<=v.av/\v.av<f.bars)->∀v∈(l.foldl (gU []) z).2,0<=v.av/\v.av<f.bars:=by
  intro l
  induction l with
  |nil=>intro z _ j;exact j
  |cons x l O=>
   intro z k j
   refine O (gU [] z x) (λy N=>k y (by simp[N])) λv hv=>?_
   have e:(gU [] z x).2=z.2++[⟨x,aq z.1 x 0+1⟩]:=rfl
   rw[e,hP]at hv
   rcases hv with hv|hv
   ·exact j v hv
   rw[mv]at hv
   rw[hv];exact k x (by simp)
 exact key (fx f) ([],[]) B (by simp) v hv
def Lq{w:eo}{r:ej}(h:o8 w r){U:Type}(A:Option U)(B:(List aA)->Option U):(aa (uz r.form) λN=>aa (mB ((⟨0,([]:List aR)⟩:aJ),r.bF)) λal=>aa (ab (!(aF N.2 0)) (some true) (ab (!(aF al.2 0)) (some true) (aa (oW w.aI) λO=>ab (!O) (some true) (ab (!(aF r.version w.aI.version)) (some true) (some (!(aF r.form.bars (w.aI.bars.length:Int)))))))) λ(O:Bool)=>ab O A (B N.1))=if lG w r then B (cH r.form)else A:=by
 obtain⟨ah,ai,ak⟩:=h
 refine(aO (YA ai)).trans ?_
 refine(aO (Xf ak)).trans ?_
 rw[BD ah]
 by_cases j:lG w r
 ·obtain⟨Y,Z,ad,ae,ag⟩:=id j
  rw[if_pos j,ad,ag,if_pos rfl,if_pos rfl]
  refine(aO (x:=false) ?_).trans rfl
  refine(aj rfl).trans ((aj rfl).trans ?_)
  rw[af,aj (by simp[Y]),aj (by simp[Z])]
  exact dn some (by simp[ae])
 rw[if_neg j]
 refine(aO (x:=true) ?_).trans rfl
 by_cases G:jF r.form=true
 ·rw[if_pos G]
  refine(aj rfl).trans ?_
  by_cases M:pD r.bF=true
  ·rw[if_pos M]
   refine(aj rfl).trans ?_
   rw[af]
   by_cases k:cU w.aI
   ·rw[aj (by simp[k])]
    by_cases F:r.version=w.aI.version
    ·rw[aj (by simp[F])]
     refine dn some ?_
     have:r.form.bars≠(w.aI.bars.length:Int):=λe=>j ⟨k,F,G,e,M⟩
     simp[this]
    exact an (by simp[F])
   exact an (by simp[k])
  rw[if_neg M];rfl
 rw[if_neg G];rfl
def uN{w:eo}{r:ej}(h:o8 w r):jB (w,r)=some (if lG w r then(eF (dt w.aI r.bF (cH r.form)),0)else([],1)):=by
 unfold jB
 refine(Lq h (some (([]:List az),1)) (λvs=>(aZ (aB (λN:(Int×(List az))=>ab (ah N.1 (w.aI.parts.length:Int)) (aa (au w.aI.parts N.1) λax=>aa (uC (w.aI,ax.id)) λay=>aa (ab (aF ay.2 0) (aa (aa (mB (ay.1,r.bF)) λO=>ab (!(aF O.2 0)) (some (N.2,O.2)) (aa (sd (w.aI,O.1)) λao=>ab (!(aF ao.2 0)) (some (N.2,ao.2)) (aa (aB (λG:(Int×(List (Int×(List ak))))=>ab (ah G.1 (ao.1.length:Int)) (aa (au ao.1 G.1) λj=>ae (decide ((List.append (aq G.2 j.av ([]:List ak)) (j::([]:List ak))).length*96<=140737488355328/\(List.append (aq G.2 j.av ([]:List ak)) (j::([]:List ak))).length<=9223372036854775807)) <|ae (ai (G.1+1)) <|some (.inl ((G.1+1),(aM G.2 j.av (List.append (aq G.2 j.av ([]:List ak)) (j::([]:List ak))))))) (some (.inr G.2))) (0,([]:List (Int×(List ak))))) λ(G:(List (Int×(List ak))))=>aZ (aB (λj:(Int×((List az)×(Int×Int)))=>ab (ah j.1 (vs.length:Int)) (aa (au vs j.1) λa6=>aa (au w.aI.bars a6.av) λaw=>aZ (aB (λM:(Int×(List az))=>ab (ah M.1 ((aq G aw.id ([]:List ak)).length:Int)) (aa (au (aq G aw.id ([]:List ak)) M.1) λB=>aa (fB ((⟨j.2.2.1,j.2.2.2⟩:Rat),B.start)) λag=>ab (!(aF ag.2 0)) (some (.inr (.inr (.inr (.inr (M.2,ag.2)))))) (ae (decide ((List.append M.2 ((⟨B.part,ag.1,B.length,B.aU⟩:az)::([]:List az))).length*64<=140737488355328/\(List.append M.2 ((⟨B.part,ag.1,B.length,B.aU⟩:az)::([]:List az))).length<=9223372036854775807)) <|ae (ai (M.1+1)) <|some (.inl ((M.1+1),(List.append M.2 ((⟨B.part,ag.1,B.length,B.aU⟩:az)::([]:List az))))))) (some (.inr (.inl M.2)))) (0,j.2.1)) λ(M:(List az))=>aa (fB ((⟨j.2.2.1,j.2.2.2⟩:Rat),aw.length)) λB=>ae (ai (j.1+1)) <|some (.inl ((j.1+1),(M,(B.1.n,B.1.d))))) (some (.inr (.inl j.2.1)))) (0,(N.2,(0,1)))) λ(j:(List az))=>some (j,0)))) λ(O:((List az)×Int))=>some (O.2,O.1)) (some (ay.2,N.2))) λ(O:(Int×(List az)))=>ab (!(aF O.1 0)) (some (.inr (.inr (([]:List az),O.1)))) (ae (ai (N.1+1)) <|some (.inl ((N.1+1),O.2)))) (some (.inr (.inl N.2)))) (0,([]:List az))) λ(N:(List az))=>aa (r8 (N,())) λax=>some (ax,0)))).trans ?_
 by_cases ad:lG w r
 ·rw[if_pos ad,if_pos ad]
  obtain⟨F,a8,aL,ba,aN⟩:=id ad
  obtain⟨aP,aQ,aR⟩:=h
  obtain⟨aG,a1⟩:=G5 aQ aL
  have bb:=F.2.1.1.2
  have bf:=F.2.2.1.1.2
  have aA:∀b∈w.aI.bars,eR b:=λb U=>kn F U
  refine(gC (x:=.inl (dt w.aI r.bF (cH r.form))) ?_).trans ?_
  ·refine(dU (st:=λ(z:List az) k=>(k,z)) (l:=w.aI.parts) (λz p=>(Sum.inl (z++eh w.aI r.bF (cH r.form) p):List az⊕(List az⊕(List az×Int)))) (λz=>Sum.inl z) (λk z=>z.length<=400000000*k) (λk p z al aS=>?_) (λk p z z' al aS aT=>?_) (λz _=>by dsimp only;rw[aj (by simp)]) [] (by simp)).trans ?_
   ·have bc:=bG al
    have Y:=dk al
    have aV:partOf w.aI p.id=some p:=ri F.2.2.1.2.2.1 Y
    have Z:=rm F Y
    have bj:=Z.2.1
    have bg:=Z.2.2.2.1
    have aD:=sH Z (λm w=>decide (w.bO=nL r.bF m.aK))
    rw[<-E0]at aD
    have bd:=aD.2.2.2.1
    dsimp only
    rw[an (da (by omega)),bh (aW al),get_eq F aV,af]
    refine(aO (x:=(0,z++eh w.aI r.bF (cH r.form) p)) ?_).trans ?_
    ·refine(an rfl).trans ?_
     refine(aO (x:=(z++eh w.aI r.bF (cH r.form) p,0)) ?_).trans rfl
     refine(aO (C0 (v:=dE w.aI p) (by omega) (by omega) aR)).trans ?_
     rw[if_pos ⟨aN,B6 Z⟩]
     refine(aj rfl).trans ?_
     refine(aO (NS (s:=w.aI) (v:=mz (dE w.aI p) r.bF) aP (by omega))).trans ?_
     rw[GD F Y]
     refine(aj rfl).trans ?_
     refine(Mf aA ⟨aG,λv Z=>by have:=a1 v Z;omega⟩ (ns:=w.aI.bars.flatMap (fK w.aI p r.bF)) ⟨NJ F Y,λn ar=>?_⟩ (by omega)).trans ?_
     ·obtain⟨b,U,ar⟩:=jb.1 ar
      obtain⟨_,_,aH,aJ,a7,_⟩:=uT F Y U ar
      have:=(aA b U).2.2.1
      have:=nR aJ
      exact⟨aH,by omega⟩
     rw[Bi (g:=fK w.aI p r.bF) (λb U=>NK F Y U)];rfl
    refine(aj rfl).trans ?_
    exact aE (by omega)
   ·cases aT
    have:=uH (bars:=w.aI.bars) (snd:=fK w.aI p r.bF) (m:=20000) (λb _=>BI F b) (cH r.form) 0
    have e:(eh w.aI r.bF (cH r.form) p).length<=20000*(cH r.form).length:=this
    rw[e3];omega
   refine dn some ((fG (λz p=>z++eh w.aI r.bF (cH r.form) p) w.aI.parts [] (λ_ _ _=>rfl)).trans (dn Sum.inl ?_))
   have:∀(l:List aC)(z:List az),l.foldl (λz p=>z++eh w.aI r.bF (cH r.form) p) z=z++l.flatMap (eh w.aI r.bF (cH r.form)):=by
    intro l
    induction l with
    |nil=>intro z;simp
    |cons p l aX=>intro z;rw[List.foldl_cons,aX];simp
   rw[this];rfl
  obtain⟨aY,bl⟩:=sj (c:=r.bF) F aG
  exact aO (NO aY (by omega))
 rw[if_neg ad,if_neg ad]
end Go.Proofs.YthhlipkkjippfaaGreatDoor
namespace Go.Proofs.YthhlipkkjippfaaGreatDoor
open Go Go.ag Go.Sy
attribute [local instance] ch cF
abbrev MW:=List (Int×aw)
def Lh{α:Type}(k:Int)(d:α):∀(m:List (Int×α)),dG m k=true->∃p∈m,p.1=k/\aq m k d=p.2
 | [],h=>by exact nomatch h
 |p::m,h=>by
  rw[p7,hR,ea]at h
  rw[rG]
  by_cases e:p.1=k
  ·rw[if_pos e];exact⟨p,by simp,e,rfl⟩
  rw[if_neg e]
  obtain⟨q,j,B⟩:=Lh k d m (h.resolve_left e)
  exact⟨q,by simp[j],B⟩
def Lm{α:Type}{k:Int}{v:α}{q:Int×α}:∀{m:List (Int×α)},q∈aM m k v->q=(k,v)\/q∈m
 | [],h=>by
  have:q∈[(k,v)]:=h
  rw[mv]at this;exact .inl this
 |p::m,h=>by
  rw[p9]at h
  by_cases e:p.1=k
  ·rw[if_pos e,fb]at h
   rcases h with h|h
   ·exact .inl h
   exact .inr (by simp[h])
  rw[if_neg e,fb]at h
  rcases h with h|h
  ·exact .inr (by simp[h])
  rcases Lm h with h|h
  ·exact .inl h
  exact .inr (by simp[h])
def EO{α:Type}(k:Int)(v:α):∀(m:List (Int×α)),(k,v)∈aM m k v
 | []=>by show(k,v)∈[(k,v)];simp
 |p::m=>by
  rw[p9]
  by_cases e:p.1=k
  ·rw[if_pos e];simp
  rw[if_neg e];simp[EO k v m]
def Ll{α:Type}{k:Int}{v:α}{q:Int×α}:∀{m:List (Int×α)},q∈m->q.1≠k->q∈aM m k v
 |p::m,h,hk=>by
  rw[p9]
  by_cases e:p.1=k
  ·rw[if_pos e]
   rcases fb.1 h with rfl|h
   ·exact absurd e hk
   simp[h]
  rw[if_neg e]
  rcases fb.1 h with rfl|h
  ·simp
  simp[Ll h hk]
def IJ(ns:List aw)(z:MW):Prop:=(eC z).Nodup/\∀p∈z,p.1=p.2.id/\p.2∈ns
def kT(z:MW)(w:aw):MW:=aM z w.id w
def Cd{ns:List aw}{z:MW}(h:IJ ns z){w:aw}(j:w∈ns):IJ ns (kT z w):=by
 refine⟨EN _ _ h.1,λp hp=>?_⟩
 rcases Lm hp with rfl|hp
 ·exact⟨rfl,j⟩
 exact h.2 p hp
def Ce{ns:List aw}:∀(l:List aw){z:MW},IJ ns z->(∀w∈l,w∈ns)->IJ ns (l.foldl kT z)
 | [],z,h,_=>h
 |w::l,z,h,j=>Ce l (Cd h (j w (by simp))) λx k=>j x (by simp[k])
def Mm{ns:List aw}(k:(ns.map aw.id).Nodup):∀(l:List aw){z:MW},IJ ns z->(∀w∈l,w∈ns)->∀x,(x∈z.map (·.2)\/x∈l)->x∈(l.foldl kT z).map (·.2)
 | [],z,_,_,x,hx=>hx.resolve_right (by simp)
 |w::l,z,h,j,x,hx=>by
  have F:=j w (by simp)
  refine Mm k l (Cd h F) (λy N=>j y (by simp[N])) x ?_
  rcases hx with hx|hx
  ·left
   obtain⟨p,B,rfl⟩:=gj.1 hx
   by_cases e:p.1=w.id
   ·obtain⟨G,M⟩:=h.2 p B
    have:p.2=w:=oA (f:=aw.id) k M F (G.symm.trans e)
    rw[this]
    exact gj.2 ⟨(w.id,w),EO _ _ _,rfl⟩
   exact gj.2 ⟨p,Ll B e,rfl⟩
  rcases fb.1 hx with rfl|hx
  ·exact .inl (gj.2 ⟨(x.id,x),EO _ _ _,rfl⟩)
  exact .inr hx
def O1{ns:List aw}(B:(ns.map aw.id).Nodup){z:MW}(h:IJ ns z):(z.map (·.2)).Nodup:=by
 have:((z.map (·.2)).map aw.id)=eC z:=by
  rw[j4]
  exact hE λp k=>(h.2 p k).1.symm
 have j:((z.map (·.2)).map aw.id).Nodup:=by rw[this];exact h.1
 exact x0 (λh e=>h (dn aw.id e)) (om.1 j)
def Vw{ω:Type}{ns:List aw}(ak:(ns.map aw.id).Nodup){l:List aw}(av:l.length<=1000000)(M:∀w∈l,w∈ns){z:MW}(h:IJ ns z)(N:ω) :
  (aB (λj:(Int×(List (Int×aw)))=>ab (ah j.1 (l.length:Int)) (aa (au l j.1) λF=>aa (ab (dG j.2 F.id) (some (!(sX (aq j.2 F.id (⟨0,0,0,(⟨0,0⟩:Rat),(⟨0,0⟩:Rat),(⟨0,0,0⟩:aV)⟩:aw)) F))) (some false)) λ(ao:Bool)=>ab ao (some (.inr (.inr N))) (ae (ai (j.1+1)) <|some (.inl ((j.1+1),(aM j.2 F.id F))))) (some (.inr (.inl j.2)))) (0,z):Option (MW⊕ω))=some (.inl (l.foldl kT z)):=by
 refine(dU (st:=λ(z:MW) k=>(k,z)) (l:=l) (λz x=>.inl (kT z x)) (λz=>.inl z) (λ_ z=>IJ ns z) (λk x z B G=>?_) (λk x z z' B G af=>by cases af;exact Cd G (M x (dk B))) (λz _=>by dsimp only;rw[aj (by simp)]) z h).trans (dn some (fG kT l z (λ_ _ _=>rfl)))
 have ar:=bG B
 have al:=M x (dk B)
 dsimp only
 rw[an (da (by omega)),bh (aW B)]
 have e:ab (dG z x.id) (some (!(sX (aq z x.id (⟨0,0,0,(⟨0,0⟩:Rat),(⟨0,0⟩:Rat),(⟨0,0,0⟩:aV)⟩:aw)) x))) (some false)=some false:=by
  cases ag:dG z x.id with
  |false=>rfl
  |true=>
   obtain⟨p,Y,Z,ad⟩:=Lh x.id (⟨0,0,0,(⟨0,0⟩:Rat),(⟨0,0⟩:Rat),(⟨0,0,0⟩:aV)⟩:aw) z ag
   obtain⟨O,U⟩:=G.2 p Y
   have:p.2=x:=oA (f:=aw.id) ak U al (O.symm.trans Z)
   rw[ad,this,R6,da rfl];rfl
 refine(aO e).trans ((aj rfl).trans ((aE (n:=(k:Int)+1) (by omega)).trans ?_))
 rfl
def Vx{ω:Type}{ns:List aw}(al:(ns.map aw.id).Nodup){i:Nat}{vs:List aJ}(av:vs.length<=1000000){g:aJ->List aw}(Y:∀v∈vs,∃m,v.bu[i]?=some m/\m.aK=g v/\(g v).length<=1000000/\∀w∈g v,w∈ns)(U:ω) :
  (aB (λB:(Int×(List (Int×aw)))=>ab (ah B.1 (vs.length:Int)) (aZ (aa (au vs B.1) λO=>aa (au O.bu (i:Int)) λZ=>aB (λj:(Int×(List (Int×aw)))=>ab (ah j.1 (Z.aK.length:Int)) (aa (au Z.aK j.1) λG=>aa (ab (dG j.2 G.id) (some (!(sX (aq j.2 G.id (⟨0,0,0,(⟨0,0⟩:Rat),(⟨0,0⟩:Rat),(⟨0,0,0⟩:aV)⟩:aw)) G))) (some false)) λ(ao:Bool)=>ab ao (some (.inr (.inr (.inr (.inr U))))) (ae (ai (j.1+1)) <|some (.inl ((j.1+1),(aM j.2 G.id G))))) (some (.inr (.inl j.2)))) (0,B.2)) λ(O:(List (Int×aw)))=>ae (ai (B.1+1)) <|some (.inl ((B.1+1),O))) (some (.inr (.inl B.2)))) (0,([]:MW)):Option (MW⊕ω))=some (.inl ((vs.flatMap g).foldl kT [])):=by
 refine(dU (st:=λ(z:MW) k=>(k,z)) (l:=vs) (λz v=>.inl ((g v).foldl kT z)) (λz=>.inl z) (λ_ z=>IJ ns z) (λk v z F N=>?_) (λk v z z' F N ak=>by
  cases ak
  obtain⟨m,_,_,_,M⟩:=Y v (dk F)
  exact Ce _ N M) (λz _=>by dsimp only;rw[aj (by simp)]) [] ⟨by simp,by simp⟩).trans (dn some ((fG (λz v=>(g v).foldl kT z) vs [] (λ_ _ _=>rfl)).trans (dn Sum.inl List.foldl_flatMap.symm)))
 have ar:=bG F
 obtain⟨m,ad,af,ag,M⟩:=Y v (dk F)
 dsimp only
 rw[an (da (by omega)),bh (aW F),bh (aW ad),af]
 rw[Vw al ag M N (ω:=(Int×MW)⊕(MW⊕ω)) (.inr (.inr U)),fk,aE (by omega)]
 rfl
end Go.Proofs.YthhlipkkjippfaaGreatDoor
namespace Go.Proofs.YthhlipkkjippfaaGreatDoor
open Go Go.ag Go.Sy
attribute [local instance] ch cF
theorem Hl(w:aw):(nT w).length=vh.length:=rfl
def OP{len:Rat}{w:aw}(h:iN len w):wK w=nT w:=by
 obtain⟨_,_,_,j,k,_⟩:=h
 unfold wK nT tk ht
 rw[if_pos j,if_pos k]
def aa9{len:Rat}{w:aw}(h:iN len w):mO w:=by
 obtain⟨_,j,_,k,B,_⟩:=h
 exact⟨B,⟨j.1,by omega⟩,k⟩
def aa8{l:List aw}(h:(l.map aw.id).Nodup):gM (iw vh nT) l:=by
 intro a B b F j k
 rw[vB Hl]at j k
 have:=CM (K:=nT) (n:=4) (λ_=>rfl) j k
 unfold nT at this
 simp only[o3]at this
 exact oA (f:=aw.id) h B F this.2.2.2.1
def La(m:aR):Prop:=(∀w∈m.aK,iN m.length w)/\(m.aK.Pairwise λa b=>¬cC wK b a<0)/\(m.aK.map aw.id).Nodup/\m.aK.length<=20000
def LG{m:aR}:∀{l:List aR},m∈l->m.aK.Sublist (l.flatMap aR.aK)
 |x::l,h=>by
  rw[hM]
  rcases fb.1 h with rfl|h
  ·exact List.sublist_append_left _ _
  exact(LG h).trans (List.sublist_append_right _ _)
def Lb{s:bI}{v:aJ}(N:ic s v){m:aR}(j:m∈v.bu):La m:=by
 obtain⟨aa,Y,⟨p,Z,M⟩,F,G⟩:=N
 obtain⟨k,B⟩:=u4 j
 have U:=bG B
 have O:(v.bu.zip s.bars)[k]?=some (m,s.bars[k]'(by omega)):=by rw[vf];exact⟨B,c3 (by omega)⟩
 have h:=dT.1 M _ (dk O)
 unfold iT at h
 simp only[db,ea,dT]at h
 refine⟨h.2,IL h.1.2,?_,hJ (nr j) F⟩
 exact G.sublist (List.Sublist.map _ (LG j))
theorem Zw{m:aR}(ab:La m){L:List aw}(M:∀w∈L,w∈m.aK)(U:∀w∈m.aK,w∈L):r9 (L.foldl kT [],())=some m.aK:=by
 obtain⟨G,af,k,ag⟩:=ab
 have N:IJ m.aK ([]:MW):=⟨by simp,by simp⟩
 have B:=Ce L N M
 have ae:=O1 k B
 have ad:m.aK.Nodup:=x0 (λh e=>h (dn aw.id e)) (om.1 k)
 have j:((L.foldl kT []).map (·.2)).Perm m.aK:=by
  refine(u5 ae ad).2 λx=>⟨λF=>?_,λF=>Mm k L N M x (.inr (U x F))⟩
  obtain⟨p,j,rfl⟩:=gj.1 F
  exact(B.2 p j).2
 have O:=(aa8 k).perm j.symm
 have aa:(L.foldl kT []).length<=1000000000:=by
  have:=j.length_eq
  rw[hG]at this
  omega
 unfold r9
 rw[if_pos ⟨λp j=>aa9 (G _ (B.2 p j).2),O,aa⟩]
 refine dn some ?_
 refine xI (mK (pe Hl) _) ?_ ((iM _ _).trans j) (O.perm (iM _ _).symm)
 refine q8 (λ{a b} Y Z h=>?_) af
 rw[vB Hl]
 unfold cC at h⊢
 rw[<-OP (G a Y),<-OP (G b Z)]
 exact h
def px(i:Nat)(v:aJ):List aw:=((v.bu[i]?).map aR.aK).getD []
def Vy{s:bI}{v:aJ}(af:ic s v){U:List (aR->aw->Bool)}(a1:U.length<=100)(aC:∀m∈v.bu,∀w∈m.aK,∃q∈U,q m w=true)(O:aR->aw->Bool) :
  (aB (λj:(Int×(Int×(List aR)))=>ab (ah j.2.1 ((v.bu.map (gA O)).length:Int)) (aa (au (v.bu.map (gA O)) j.2.1) λB=>aZ (aB (λM:(Int×(List (Int×aw)))=>ab (ah M.1 ((U.map (λq=>dO q v)).length:Int)) (aZ (aa (au (U.map (λq=>dO q v)) M.1) λad=>aa (au ad.bu j.2.1) λN=>aB (λG:(Int×(List (Int×aw)))=>ab (ah G.1 (N.aK.length:Int)) (aa (au N.aK G.1) λZ=>aa (ab (dG G.2 Z.id) (some (!(sX (aq G.2 Z.id (⟨0,0,0,(⟨0,0⟩:Rat),(⟨0,0⟩:Rat),(⟨0,0,0⟩:aV)⟩:aw)) Z))) (some false)) λ(aX:Bool)=>ab aX (some (.inr (.inr (.inr (.inr (.inr (.inr ((⟨0,([]:List aR)⟩:aJ),5)))))))) (ae (ai (G.1+1)) <|some (.inl ((G.1+1),(aM G.2 Z.id Z))))) (some (.inr (.inl G.2)))) (0,M.2)) λ(ad:(List (Int×aw)))=>ae (ai (M.1+1)) <|some (.inl ((M.1+1),ad))) (some (.inr (.inl M.2)))) (0,([]:List (Int×aw)))) λ(M:(List (Int×aw)))=>aa (Ff M) λad=>aa (r9 (ad,())) λN=>ae (ai (j.1+(N.length:Int))) <|ae (decide ((List.append j.2.2 ((⟨B.av,B.key,B.length,N⟩:aR)::([]:List aR))).length*56<=140737488355328/\(List.append j.2.2 ((⟨B.av,B.key,B.length,N⟩:aR)::([]:List aR))).length<=9223372036854775807)) <|ae (ai (j.2.1+1)) <|some (.inl ((j.1+(N.length:Int)),((j.2.1+1),(List.append j.2.2 ((⟨B.av,B.key,B.length,N⟩:aR)::([]:List aR))))))) (some (.inr (.inl (j.1,j.2.2))))) (0,(0,([]:List aR))):Option ((Int×List aR)⊕(aJ×Int)))=some (.inl (((de v).length:Int),v.bu)):=by
 have aY:=af.1.2.1.1.2
 have a6:=af.2.1
 refine(dU (σ:=Int×List aR) (st:=λz k=>(z.1,(k,z.2))) (l:=v.bu) (λz m=>(Sum.inl (z.1+(m.aK.length:Int),z.2++[m]):(Int×List aR)⊕((Int×List aR)⊕(aJ×Int)))) (λz=>Sum.inl (z.1,z.2)) (λk z=>z.2.length=k/\0<=z.1/\z.1<=20000*(k:Int)) (λk m z F ag=>?_) (λk m z z' F ag aD=>?_) (λz _=>by dsimp only;rw[aj (by simp)]) (0,[]) ⟨rfl,by dsimp only;omega,by dsimp only;omega⟩).trans ?_
 ·have aF:=bG F
  have ao:=dk F
  have ak:=Lb af ao
  obtain⟨aQ,aS,aT⟩:=ag
  have aG:=ak.2.2.2
  have aA:(v.bu.map (gA O))[k]?=some (gA O m):=by rw[et,F];rfl
  have al:∀x∈U.map (λq=>dO q v),∃m',x.bu[k]?=some m'/\m'.aK=px k x/\(px k x).length<=1000000/\∀w∈px k x,w∈m.aK:=by
   intro x aP
   obtain⟨q,_,rfl⟩:=gj.1 aP
   have e:(dO q v).bu[k]?=some (gA q m):=by
    show(v.bu.map (gA q))[k]?=_
    rw[et,F];rfl
   have ar:px k (dO q v)=m.aK.filter (q m):=by unfold px;rw[e];rfl
   rw[ar]
   exact⟨gA q m,e,rfl,hJ (kA _ _) (by omega),λw Y=>(hI.1 Y).1⟩
  dsimp only
  rw[an (da (by rw[hG];omega)),bh (aW aA)]
  rw[Vx ak.2.2.1 (by rw[hG];omega) al (ω:=(Int×(Int×List aR))⊕((Int×List aR)⊕(aJ×Int))) (.inr (.inr ((⟨0,([]:List aR)⟩:aJ),5))),fk]
  have az:=Zw ak (L:=(U.map (λq=>dO q v)).flatMap (px k)) (λw Y=>by
   obtain⟨x,aL,aN⟩:=jb.1 Y
   obtain⟨_,_,_,_,ay⟩:=al x aL
   exact ay w aN) (λw Y=>by
   obtain⟨q,aH,aI⟩:=aC m ao w Y
   refine jb.2 ⟨dO q v,gj.2 ⟨q,aH,rfl⟩,?_⟩
   have e:(dO q v).bu[k]?=some (gA q m):=by
    show(v.bu.map (gA q))[k]?=_
    rw[et,F];rfl
   unfold px;rw[e]
   exact hI.2 ⟨Y,aI⟩)
  refine(aO (x:=((U.map (λq=>dO q v)).flatMap (px k)).foldl kT []) rfl).trans ?_
  refine(aO az).trans ?_
  have ax:(List.append z.2 ((⟨(gA O m).av,(gA O m).key,(gA O m).length,m.aK⟩:aR)::([]:List aR))).length=z.2.length+1:=e3
  rw[aE (by omega),cr (da (by rw[ax];omega)),aE (by omega)]
  rfl
 ·cases aD
  have aF:=bG F
  have aG:=(Lb af (dk F)).2.2.2
  obtain⟨aQ,aS,aT⟩:=ag
  dsimp only
  rw[e3]
  refine⟨by simp;omega,by omega,by omega⟩
 refine dn some ((fG (λz m=>(z.1+(m.aK.length:Int),z.2++[m])) v.bu (0,[]) (λ_ _ _=>rfl)).trans (dn Sum.inl ?_))
 have key:∀(l:List aR)(z:Int×List aR),l.foldl (λz m=>(z.1+(m.aK.length:Int),z.2++[m])) z=(z.1+((l.flatMap aR.aK).length:Int),z.2++l):=by
  intro l
  induction l with
  |nil=>intro z;simp
  |cons m l aU=>
   intro z
   rw[List.foldl_cons,aU,hM,e3]
   refine Prod.ext ?_ ?_
   ·dsimp only;rw[Int.natCast_add];omega
   dsimp only;simp
 rw[key]
 dsimp only
 rw[abv,List.nil_append];rfl
end Go.Proofs.YthhlipkkjippfaaGreatDoor
namespace Go.Proofs.YthhlipkkjippfaaGreatDoor
open Go Go.ag Go.Sy
attribute [local instance] ch cF
def SX{l:List aJ}(G:l.length<=1000000)(F:∀v∈l,v.bu.length<=1000000/\(de v).length<=1000000):A5 (l,())=some (l.any λv=>!decide (jg v)):=by
 unfold A5 FI
 dsimp only
 rw[ma (l:=l) (λv=>!decide (jg v)) (λk x j=>by
  have B:=bG j
  obtain⟨s1,s2⟩:=F x (dk j)
  unfold E4
  rw[an (by simpa using B),bh (aW j),yB s1 s2,af,af]
  cases decide (jg x)
  ·rfl
  show ab false _ _=_
  rw[gV,aE (by omega)];rfl) (by rw[aj (by simp)])]
def Uw(q j:aR->aw->Bool){v:aJ}(Y:v.bu.length<=1000000):zY (dO q v,dO j v)=some true:=by
 unfold zY
 dsimp only
 refine(aO (x:=true) ?_).trans rfl
 refine(an (da rfl)).trans ?_
 refine(aO (x:=true) ?_).trans rfl
 unfold FA
 dsimp only
 have F:(dO q v).bu.length=v.bu.length:=hG _
 have G:(dO j v).bu.length=v.bu.length:=hG _
 rw[aj (by simp[F,G]),pV (dO q v).bu.length (λ_=>false) false (λk U=>by
  have B:v.bu[k]?=some v.bu[k]:=c3 (by omega)
  generalize v.bu[k]=m at B
  have M:(dO q v).bu[k]?=some (gA q m):=by
   show(v.bu.map (gA q))[k]?=_
   rw[et,B];rfl
  have N:(dO j v).bu[k]?=some (gA j m):=by
   show(v.bu.map (gA j))[k]?=_
   rw[et,B];rfl
  rw[an (da (by omega)),bh (aW M),bh (aW N)]
  have O:zZ (gA q m,gA j m)=some true:=by
   unfold zZ
   dsimp only
   refine(aO (x:=true) ?_).trans rfl
   refine(an (da rfl)).trans ((an (da rfl)).trans (dn some ?_))
   exact(Iv _ _).trans (da rfl)
  rw[O,af]
  refine(aj rfl).trans ?_
  rw[aE (by omega)];rfl) (by rw[aj (by simp)])]
 have:(List.range (dO q v).bu.length).any (λ_=>false)=false:=by simp
 rw[this];rfl
def Vv{s:bI}{v:aJ}(G:ic s v){B:List (aR->aw->Bool)}(U:B≠[])(ab:B.length<=100)(Z:∀m∈v.bu,∀w∈m.aK,∃q∈B,q m w=true):wJ (B.map λq=>dO q v)=some (v,0):=by
 have ag:=G.1.2.1.1.2
 have ak:=G.2.1
 have ai:=G.2.2.2.1
 have aa:(B.map λq=>dO q v).length=B.length:=hG _
 have O:∀x∈B.map (λq=>dO q v),jg x/\x.bu.length<=1000000/\(de x).length<=1000000:=λx j=>by
  obtain⟨q,_,rfl⟩:=gj.1 j
  have N:=sH G q
  have ad:=N.2.1
  have ae:=N.2.2.2.1
  exact⟨B6 N,by omega,by omega⟩
 obtain⟨F,M,rfl⟩:∃q M,B=q::M:=by
  cases B with
  |nil=>exact absurd rfl U
  |cons q l=>exact⟨q,l,rfl⟩
 have Y:((F::M).map λq=>dO q v)[0]?=some (dO F v):=rfl
 have mV:au ((F::M).map λq=>dO q v) 0=some (dO F v):=aW Y
 unfold wJ
 refine(aO (x:=false) ?_).trans ?_
 ·refine(aj (dd (by rw[aa,List.length_cons];omega))).trans ((aj (dd (by omega))).trans ?_)
  rw[SX (by omega) (λx j=>(O x j).2)]
  refine dn some ?_
  rw[k7]
  intro x j
  simp[(O x j).1]
 refine(aj rfl).trans ?_
 refine(aO (x:=false) ?_).trans ?_
 ·unfold Fz FJ
  dsimp only
  rw[ma (l:=(F::M).map λq=>dO q v) (λ_=>false) (λk x j=>by
   have ah:=bG j
   obtain⟨q,_,rfl⟩:=gj.1 (dk j)
   unfold E5
   dsimp only
   rw[an (da (by omega)),bh (aW j),mV,af,Uw F q (by omega),af,af]
   refine(aj rfl).trans ?_
   rw[aE (by omega)];rfl) (by rw[aj (by simp)])]
  refine dn some ?_
  rw[k7]
  intro x j
  simp
 refine(aj rfl).trans ((aO mV).trans ?_)
 refine(gC (x:=.inl (((de v).length:Int),v.bu)) ?_).trans ?_
 ·refine(aO mV).trans ?_
  exact Vy G ab Z F
 refine(aj (dd (by dsimp only;omega))).trans ?_
 obtain⟨a,b⟩:=v
 rfl
end Go.Proofs.YthhlipkkjippfaaGreatDoor
namespace Go.Proofs.YthhlipkkjippfaaGreatDoor
open Go Go.ag Go.Sy
attribute [local instance] ch cF
def Xi{l:List aJ}(Y:l.length<=1000000):aB (λB:(Int×(List (Int×(List aJ))))=>ab (ah B.1 (l.length:Int)) (aa (au l B.1) λF=>ae (decide ((List.append (aq B.2 F.part ([]:List aJ)) (F::([]:List aJ))).length*32<=140737488355328/\(List.append (aq B.2 F.part ([]:List aJ)) (F::([]:List aJ))).length<=9223372036854775807)) <|ae (ai (B.1+1)) <|some (.inl ((B.1+1),(aM B.2 F.part (List.append (aq B.2 F.part ([]:List aJ)) (F::([]:List aJ))))))) (some (.inr B.2))) (0,([]:List (Int×(List aJ))))=some (l.foldl (jT aJ.part) []):=by
 refine(dU (st:=λ(z:List (Int×List aJ)) k=>(k,z)) (l:=l) (λz x=>.inl (jT aJ.part z x)) (λz=>z) (λk z=>∀j,(aq z j []).length<=k) (λk x z M G=>?_) (λk x z z' _ G N=>by
  cases N
  intro j
  have:=DQ aJ.part [x] z k G j
  simpa using this) (λz _=>by dsimp only;rw[aj (by simp)]) [] (λj=>by rw[oK];simp)).trans (dn some (fG (jT aJ.part) l [] (λ_ _ _=>rfl)))
 have U:=bG M
 have O:=G x.part
 dsimp only
 have e:(List.append (aq z x.part ([]:List aJ)) (x::([]:List aJ))).length=(aq z x.part ([]:List aJ)).length+1:=e3
 rw[an (da (by omega)),bh (aW M),cr (da (by rw[e];omega)),aE (by omega)]
 rfl
theorem S0{s:bI}{w:eo}(G:w.aI.bars.length<=1048576){l:List aJ}(O:l.length<=1000000)(F:∀v∈l,ic w.aI v):xa (l,w)=some false:=by
 unfold xa FK
 dsimp only
 rw[ma (l:=l) (λ_=>false) (λk x j=>by
  have N:=bG j
  have B:=F x (dk j)
  have M:=B.2.2.2.1
  unfold FL
  dsimp only
  rw[an (da (by omega)),bh (aW j),(OK G (by omega)).trans (show _=some true by simp[B]),af,af]
  refine(aj rfl).trans ?_
  rw[aE (by omega)];rfl) (by rw[aj (by simp)])]
 refine dn some ?_
 rw[k7]
 intro x j
 simp
def Hs(s:bI)(l:List aJ)(p:aC):Prop:=∃j:List (aR->aw->Bool),l.filter (λv=>decide (v.part=p.id))=j.map (λq=>dO q (dE s p))/\(j≠[]->j.length<=100/\∀m∈(dE s p).bu,∀w∈m.aK,∃q∈j,q m w=true)
def gp(s:bI)(c:List Int)(vs:List aA)(l:List aJ)(p:aC):List az:=if(l.any λv=>decide (v.part=p.id))=true then eh s c vs p else []
theorem Xg{s:bI}{c:List Int}(k:cU s){vs:List aA}(F:vs.length<=20000)(l:List aJ):(∀x∈s.parts.flatMap (gp s c vs l),lf x)/\(s.parts.flatMap (gp s c vs l)).length<=400000000*s.parts.length:=by
 constructor
 ·intro x j
  obtain⟨p,B,j⟩:=jb.1 j
  unfold gp at j
  split at j
  ·exact(FT k B F j).1
  exact absurd j (by simp)
 have:∀(ps:List aC),(ps.flatMap (gp s c vs l)).length<=400000000*ps.length:=by
  intro ps
  induction ps with
  |nil=>simp
  |cons p ps M=>
   have:=uH (bars:=s.bars) (snd:=fK s p c) (m:=20000) (λb _=>BI k b) vs 0
   have e:(eh s c vs p).length<=20000*vs.length:=this
   have G:(gp s c vs l p).length<=(eh s c vs p).length:=by
    unfold gp
    split
    ·exact eb _
    simp
   rw[hM,e3,List.length_cons,Nat.mul_succ]
   omega
 exact this s.parts
def aaH{w:eo}{r:ej}(h:o8 w r)(aL:lG w r){l:List aJ}(bs:l.length<=2400)(bd:∀v∈l,ic w.aI v)(bc:∀p∈w.aI.parts,Hs w.aI l p):xe (w,(r,l))=some (eF (w.aI.parts.flatMap (gp w.aI r.bF (cH r.form) l)),0):=by
 unfold xe
 refine(aj (dd (by omega))).trans ?_
 refine(Lq h (some (([]:List az),1)) (λvs=>(aa (xa (l,w)) λbm=>ab bm (some (([]:List az),1)) (aa (aB (λM:(Int×(List (Int×(List aJ))))=>ab (ah M.1 (l.length:Int)) (aa (au l M.1) λB=>ae (decide ((List.append (aq M.2 B.part ([]:List aJ)) (B::([]:List aJ))).length*32<=140737488355328/\(List.append (aq M.2 B.part ([]:List aJ)) (B::([]:List aJ))).length<=9223372036854775807)) <|ae (ai (M.1+1)) <|some (.inl ((M.1+1),(aM M.2 B.part (List.append (aq M.2 B.part ([]:List aJ)) (B::([]:List aJ))))))) (some (.inr M.2))) (0,([]:List (Int×(List aJ))))) λ(M:(List (Int×(List aJ))))=>aZ (aB (λB:(Int×(List az))=>ab (ah B.1 (w.aI.parts.length:Int)) (aZ (aa (au w.aI.parts B.1) λao=>ab (aF ((aq M ao.id ([]:List aJ)).length:Int) 0) (some (.inl B.2)) (aa (wJ (aq M ao.id ([]:List aJ))) λaA=>aa (ab (aF aA.2 0) (aa (aa (mB (aA.1,r.bF)) λU=>ab (!(aF U.2 0)) (some (B.2,U.2)) (aa (sd (w.aI,U.1)) λay=>ab (!(aF ay.2 0)) (some (B.2,ay.2)) (aa (aB (λG:(Int×(List (Int×(List ak))))=>ab (ah G.1 (ay.1.length:Int)) (aa (au ay.1 G.1) λj=>ae (decide ((List.append (aq G.2 j.av ([]:List ak)) (j::([]:List ak))).length*96<=140737488355328/\(List.append (aq G.2 j.av ([]:List ak)) (j::([]:List ak))).length<=9223372036854775807)) <|ae (ai (G.1+1)) <|some (.inl ((G.1+1),(aM G.2 j.av (List.append (aq G.2 j.av ([]:List ak)) (j::([]:List ak))))))) (some (.inr G.2))) (0,([]:List (Int×(List ak))))) λ(G:(List (Int×(List ak))))=>aZ (aB (λj:(Int×((List az)×(Int×Int)))=>ab (ah j.1 (vs.length:Int)) (aa (au vs j.1) λbl=>aa (au w.aI.bars bl.av) λaD=>aZ (aB (λO:(Int×(List az))=>ab (ah O.1 ((aq G aD.id ([]:List ak)).length:Int)) (aa (au (aq G aD.id ([]:List ak)) O.1) λF=>aa (fB ((⟨j.2.2.1,j.2.2.2⟩:Rat),F.start)) λaw=>ab (!(aF aw.2 0)) (some (.inr (.inr (.inr (.inr (O.2,aw.2)))))) (ae (decide ((List.append O.2 ((⟨F.part,aw.1,F.length,F.aU⟩:az)::([]:List az))).length*64<=140737488355328/\(List.append O.2 ((⟨F.part,aw.1,F.length,F.aU⟩:az)::([]:List az))).length<=9223372036854775807)) <|ae (ai (O.1+1)) <|some (.inl ((O.1+1),(List.append O.2 ((⟨F.part,aw.1,F.length,F.aU⟩:az)::([]:List az))))))) (some (.inr (.inl O.2)))) (0,j.2.1)) λ(O:(List az))=>aa (fB ((⟨j.2.2.1,j.2.2.2⟩:Rat),aD.length)) λF=>ae (ai (j.1+1)) <|some (.inl ((j.1+1),(O,(F.1.n,F.1.d))))) (some (.inr (.inl j.2.1)))) (0,(B.2,(0,1)))) λ(j:(List az))=>some (j,0)))) λ(U:((List az)×Int))=>some (U.2,U.1)) (some (aA.2,B.2))) λ(U:(Int×(List az)))=>ab (!(aF U.1 0)) (some (.inr (.inr (.inr (([]:List az),U.1))))) (some (.inl U.2)))) λ(ao:(List az))=>ae (ai (B.1+1)) <|some (.inl ((B.1+1),ao))) (some (.inr (.inl B.2)))) (0,([]:List az))) λ(B:(List az))=>aa (r8 (B,())) λao=>some (ao,0))))).trans ?_
 rw[if_pos aL]
 obtain⟨N,bo,aX,bp,aY⟩:=id aL
 obtain⟨aG,a1,a6⟩:=h
 obtain⟨aQ,bj⟩:=G5 a1 aX
 have bq:=N.2.1.1.2
 have bw:=N.2.2.1.1.2
 have aH:∀b∈w.aI.bars,eR b:=λb af=>kn N af
 refine(aO (S0 (s:=w.aI) aG (by omega) bd)).trans ((aj rfl).trans ?_)
 refine(aO (Xi (by omega))).trans ?_
 have bb:∀k,aq (l.foldl (jT aJ.part) []) k []=l.filter λv=>decide (v.part=k):=λk=>by rw[y4,oK,List.nil_append]
 refine(gC (x:=.inl (w.aI.parts.flatMap (gp w.aI r.bF (cH r.form) l))) ?_).trans ?_
 ·refine(
      dU (st:=λ(z:List az) k=>(k,z)) (l:=w.aI.parts) (λz p=>(Sum.inl (z++gp w.aI r.bF (cH r.form) l p):List az⊕(List az⊕(List az×Int)))) (λz=>Sum.inl z) (λk z=>z.length<=400000000*k) (λk p z Y a7=>?_) (λk p z z' Y a7 ba=>?_) (λz _=>by dsimp only;rw[aj (by simp)]) [] (by simp)).trans ?_
  ·have br:=bG Y
   have Z:=dk Y
   have bx:partOf w.aI p.id=some p:=ri N.2.2.1.2.2.1 Z
   have ad:=rm N Z
   have bA:=ad.2.1
   have bz:=ad.2.2.2.1
   have aN:=sH ad (λm w=>decide (w.bO=nL r.bF m.aK))
   rw[<-E0]at aN
   have bu:=aN.2.2.2.1
   obtain⟨aP,al,bg⟩:=bc p Z
   dsimp only
   rw[an (da (by omega))]
   refine(gC (x:=.inl (z++gp w.aI r.bF (cH r.form) l p)) ?_).trans (by rw[Sum.elim_inl,aE (by omega)];rfl)
   refine(aO (aW Y)).trans ?_
   rw[bb]
   by_cases ag:aP=[]
   ·have e:(l.any λv=>decide (v.part=p.id))=false:=by
     rw[ag]at al
     rw[k7]
     exact λx Y=>iv.1 al x Y
    have ax:gp w.aI r.bF (cH r.form) l p=[]:=by unfold gp;rw[e];rfl
    rw[ax,mb,al,ag]
    exact an rfl
   obtain⟨aT,aV⟩:=bg ag
   have e:(l.any λv=>decide (v.part=p.id))=true:=by
    refine hf λar=>ag ?_
    have:l.filter (λv=>decide (v.part=p.id))=[]:=by
     rw[iv]
     intro x Y a8
     exact ar (h5.2 ⟨x,Y,a8⟩)
    rw[this]at al
    exact List.map_eq_nil_iff.1 al.symm
   have ax:gp w.aI r.bF (cH r.form) l p=eh w.aI r.bF (cH r.form) p:=by unfold gp;rw[if_pos e]
   rw[ax,al]
   have bt:0<aP.length:=List.length_pos_iff.2 ag
   refine(aj (dd (by rw[hG];omega))).trans ?_
   refine(aO (Vv ad ag aT aV)).trans ?_
   refine(aO (x:=(0,z++eh w.aI r.bF (cH r.form) p)) ?_).trans ?_
   ·refine(an rfl).trans ?_
    refine(aO (x:=(z++eh w.aI r.bF (cH r.form) p,0)) ?_).trans rfl
    refine(aO (C0 (v:=dE w.aI p) (by omega) (by omega) a6)).trans ?_
    rw[if_pos ⟨aY,B6 ad⟩]
    refine(aj rfl).trans ?_
    refine(aO (NS (s:=w.aI) (v:=mz (dE w.aI p) r.bF) aG (by omega))).trans ?_
    rw[GD N Z]
    refine(aj rfl).trans ?_
    refine(Mf aH ⟨aQ,λv ad=>by have:=bj v ad;omega⟩ (ns:=w.aI.bars.flatMap (fK w.aI p r.bF)) ⟨NJ N Z,λn ar=>?_⟩ (by omega)).trans ?_
    ·obtain⟨b,af,ar⟩:=jb.1 ar
     obtain⟨_,_,aR,aS,bn,_⟩:=uT N Z af ar
     have:=(aH b af).2.2.1
     have:=nR aS
     exact⟨aR,by omega⟩
    rw[Bi (g:=fK w.aI p r.bF) (λb af=>NK N Z af)];rfl
   refine(aj rfl).trans ?_
   rfl
  ·cases ba
   have:=uH (bars:=w.aI.bars) (snd:=fK w.aI p r.bF) (m:=20000) (λb _=>BI N b) (cH r.form) 0
   have e:(eh w.aI r.bF (cH r.form) p).length<=20000*(cH r.form).length:=this
   have ax:(gp w.aI r.bF (cH r.form) l p).length<=(eh w.aI r.bF (cH r.form) p).length:=by
    unfold gp
    split
    ·exact eb _
    simp
   rw[e3];omega
  refine dn some ((fG (λz p=>z++gp w.aI r.bF (cH r.form) l p) w.aI.parts [] (λ_ _ _=>rfl)).trans (dn Sum.inl ?_))
  have:∀(ps:List aC)(z:List az),ps.foldl (λz p=>z++gp w.aI r.bF (cH r.form) l p) z=z++ps.flatMap (gp w.aI r.bF (cH r.form) l):=by
   intro ps
   induction ps with
   |nil=>intro z;simp
   |cons p ps bf=>intro z;rw[List.foldl_cons,bf];simp
  rw[this];rfl
 obtain⟨bh,bB⟩:=Xg (c:=r.bF) N aQ l
 exact aO (NO bh (by omega))
end Go.Proofs.YthhlipkkjippfaaGreatDoor
namespace Go.Proofs.YthhlipkkjippfaaGreatDoor
open Go Go.ag Go.Sy
attribute [local instance] ch cF
def X4(f:Form):∃b,Aw f=some b:=by
 unfold Aw
 have e:∀a b c d:Bool,(aa (ab a (ab b (ab c (some d) (some false)) (some false)) (some false)) λ(j:Bool)=>some j)=some (a&&(b&&(c&&d))):=λa b c d=>by cases a<;>cases b<;>cases c<;>rfl
 exact⟨_,e _ _ _ _⟩
def Um(w:eo)(r:ej):∃b,AE (w,r)=some b/\(b=true->w.aI.bars.length<=12):=by
 obtain⟨q,M⟩:=X4 r.form
 unfold AE
 dsimp only
 rw[M]
 have e:∀(a b c d f:Bool),ab a (some true) (ab b (some true) (ab c (some true) (aa (some d) λO=>ab (!O) (some true) (some f))))=some (a||(b||(c||(!d||f)))):=λa b c d f=>by cases a<;>cases b<;>cases c<;>cases d<;>rfl
 rw[e,af]
 by_cases N:w.aI.parts.length<=8
 ·rw[nv (l:=w.aI.parts) (λp=>decide (6<p.eA)) false (λk x j=>by
   have G:=bG j
   rw[an (by simpa using G),bh (aW j)]
   show ab (decide (6<x.eA)) _ _=_
   cases decide (6<x.eA)
   ·rw[gV,aE (by omega)];rfl
   rfl) (by rw[aj (by simp)])]
  cases F:(ah 12 (w.aI.bars.length:Int)||(ah 8 (w.aI.parts.length:Int)||(ah 30 (w.aI.aK.length:Int)||(!q||ah 40 (r.bF.length:Int)))))
  ·have B:w.aI.bars.length<=12:=by
    have:=M0 (k4.1 F).1
    omega
   cases (w.aI.parts.any λp=>decide (6<p.eA))
   ·exact⟨true,rfl,λ_=>B⟩
   exact⟨false,rfl,λh=>by cases h⟩
  exact⟨false,rfl,λh=>by cases h⟩
 have:ah 8 (w.aI.parts.length:Int)=true:=da (by omega)
 rw[this]
 refine⟨false,?_,λh=>by cases h⟩
 exact an (by simp)
def aaB{w:eo}{r:ej}(h:o8 w r):∃b:Bool,Ae (w,r)=some b/\(b=true->lG w r/\w.aI.bars.length<=12):=by
 obtain⟨q,k,j⟩:=Um w r
 unfold Ae
 dsimp only
 rw[k,Yi h]
 cases q with
 |false=>exact⟨false,rfl,λh=>nomatch h⟩
 |true=>exact⟨decide (lG w r),rfl,λh=>⟨hA h,j rfl⟩⟩
end Go.Proofs.YthhlipkkjippfaaGreatDoor
namespace Go.Proofs.YthhlipkkjippfaaGreatDoor
open Go Go.ag Go.Sy
attribute [local instance] ch cF
theorem Ts{ω:Type}{v:aJ}(M:v.bu.length<=1000000)(N:(de v).length<=1000000)(ad:jg v){l:List Int}(al:l.length<=1000)(Y:∀n∈l,0<=n/\n<=9){out:List aJ}(ao:out.length<=1000000)(G:(List aJ×Int)->ω) :
  (aB (λj:(Int×(List aJ))=>ab (ah j.1 (l.length:Int)) (aa (au l j.1) λag=>aa (wI (v,ag)) λB=>ab (!(aF B.2 0)) (some (.inr (.inr (G (([]:List aJ),B.2))))) (ae (decide ((List.append j.2 (B.1::([]:List aJ))).length*32<=140737488355328/\(List.append j.2 (B.1::([]:List aJ))).length<=9223372036854775807)) <|ae (ai (j.1+1)) <|some (.inl ((j.1+1),(List.append j.2 (B.1::([]:List aJ))))))) (some (.inr (.inl j.2)))) (0,out):Option (List aJ⊕ω))=some (.inl (out++l.map (ot v))):=by
 refine(dU (st:=λ(z:List aJ) k=>(k,z)) (l:=l) (λz n=>.inl (z++[ot v n])) (λz=>.inl z) (λk z=>z.length<=out.length+k) (λk n z F O=>?_) (λk x z z' _ O U=>by cases U;simp;omega) (λz _=>by dsimp only;rw[aj (by simp)]) out (by simp)).trans (dn some ((fG (λz n=>z++[ot v n]) l out (λ_ _ _=>rfl)).trans (dn Sum.inl (foldl_map' (ot v) l out))))
 have ak:=bG F
 have Z:=Y n (dk F)
 dsimp only
 have e:(List.append z (ot v n::([]:List aJ))).length=z.length+1:=e3
 rw[an (da (by omega)),bh (aW F),Tw M N n,if_pos ⟨ad,Z⟩,af]
 refine(aj rfl).trans ?_
 rw[cr (da (by rw[show(List.append z ((ot v n,(0:Int)).1::([]:List aJ))).length=z.length+1 from e];omega)),aE (by omega)]
 rfl
noncomputable def eX(s:bI)(p:aC):List aJ:=(jq (gy (dE s p)) p.eA.toNat).map (ot (dE s p))
noncomputable def j9(s:bI)(p:aC):Bool:=decide (p.eA.toNat<(gy (dE s p)).length)
def aaY(v:aJ):(gy v).length<=(de v).length:=by
 have k:=EF (lj v)
 have j:=F3 (de v) []
 unfold gy jI
 rw[(va _ _).length_eq,hG]
 unfold lj at *
 simp at j
 omega
def Bf{s:bI}(k:cU s){p:aC}(j:p∈s.parts):1<=p.eA/\p.eA<=40:=((lT p).1 (k.2.2.1.2.1 p j)).1.2.2.2.2
theorem Tv{w:eo}(h:w.aI.bars.length<=1048576)(j:cU w.aI):xc w=some (if(w.aI.parts.all λp=>!j9 w.aI p)=true then(w.aI.parts.flatMap (eX w.aI),0)else([],6)):=by
 have ao:=j.2.2.1.1.2
 have ak:=j.2.1.1.2
 unfold xc
 rw[BD h]
 refine(aO (x:=true) (dn some (by simp[j]))).trans ((aj rfl).trans ?_)
 refine(gC (x:=if(w.aI.parts.all λp=>!j9 w.aI p)=true then .inl (w.aI.parts.flatMap (eX w.aI))else .inr ([],6)) ?_).trans ?_
 ·refine(dU (st:=λ(z:List aJ) k=>(k,z)) (l:=w.aI.parts) (λz p=>if(!j9 w.aI p)=true then .inl (z++eX w.aI p)else(.inr (.inr (([]:List aJ),(6:Int))):List aJ⊕(List aJ⊕(List aJ×Int)))) (λz=>Sum.inl z) (λk z=>z.length<=40*k) (λk p z F ab=>?_) (λk p z z' F ab G=>?_) (λz _=>by dsimp only;rw[aj (by simp)]) [] (by simp)).trans ?_
  ·have al:=bG F
   have M:=dk F
   have ae:partOf w.aI p.id=some p:=ri j.2.2.1.2.2.1 M
   have N:=rm j M
   have ar:=N.2.1
   have aq:=N.2.2.2.1
   have O:=B6 N
   obtain⟨Y,Z⟩:=Bf j M
   have au:=aaY (dE w.aI p)
   have aa:((p.eA.toNat:Nat):Int)=p.eA:=by omega
   have U:=Po (v:=dE w.aI p) (by omega) (by omega) O (D:=p.eA.toNat) ⟨by omega,by omega⟩ (by omega)
   rw[aa]at U
   dsimp only
   rw[an (da (by omega)),bh (aW F),get_eq j ae,af,U,af]
   unfold j9
   by_cases B:p.eA.toNat<(gy (dE w.aI p)).length
   ·rw[if_pos B,if_neg (by simp[B])]
    exact dn (λq=>aZ q _) (an rfl)
   rw[if_neg B,if_pos (by simp[B])]
   refine(gC (x:=.inl (z++eX w.aI p)) ?_).trans (by rw[Sum.elim_inl,aE (by omega)];rfl)
   refine(aj rfl).trans ?_
   refine Ts (v:=dE w.aI p) (by omega) (by omega) O (l:=jq (gy (dE w.aI p)) p.eA.toNat) (by simp[jq];omega) (λn hn=>?_) (by omega) (ω:=(Int×List aJ)⊕(List aJ⊕(List aJ×Int))) (λx=>.inr (.inr x))
   rcases Pm hn with rfl|hn
   ·omega
   obtain⟨_,w,ag,rfl⟩:=(Hc _ _).1 hn
   obtain⟨m,ad,ah⟩:=jb.1 ag
   exact(O.2.2 m ad w ah).1
  ·by_cases B:(!j9 w.aI p)=true
   ·rw[if_pos B]at G
    cases G
    obtain⟨Y,Z⟩:=Bf j (dk F)
    have:(eX w.aI p).length=p.eA.toNat:=by simp[eX,jq]
    rw[e3];omega
   rw[if_neg B]at G;cases G
  refine dn some ((vU (λp=>!j9 w.aI p) (λz p=>z++eX w.aI p) (([]:List aJ),(6:Int)) w.aI.parts []).trans ?_)
  have:∀(ps:List aC)(z:List aJ),ps.foldl (λz p=>z++eX w.aI p) z=z++ps.flatMap (eX w.aI):=by
   intro ps
   induction ps with
   |nil=>intro z;simp
   |cons p ps ai=>intro z;rw[List.foldl_cons,ai];simp
  rw[this];rfl
 cases (w.aI.parts.all λp=>!j9 w.aI p)<;>rfl
end Go.Proofs.YthhlipkkjippfaaGreatDoor
namespace Go.Proofs.YthhlipkkjippfaaGreatDoor
open Go Go.ag Go.Sy
attribute [local instance] ch cF
def R5(a b:az):Iw a b=decide (a=b):=by
 obtain⟨j,⟨k,B⟩,⟨F,G⟩,⟨M,N,O⟩⟩:=a
 obtain⟨U,⟨Y,Z⟩,⟨aa,ab⟩,⟨ad,ae,af⟩⟩:=b
 rw[hC,ea]
 simp only[az.mk.injEq,Rat.mk.injEq,aV.mk.injEq]
 show di [.int .i64 j,.int .i64 k,.int .i64 B,.int .i64 F,.int .i64 G,.int .i64 M,.int .i64 N,.int .i64 O] [.int .i64 U,.int .i64 Y,.int .i64 Z,.int .i64 aa,.int .i64 ab,.int .i64 ad,.int .i64 ae,.int .i64 af]=true↔_
 simp[di,gz,mo]
theorem Gs{a b:List az}(N:a.length<=1000000000000):oU (a,b)=some (decide (a=b)):=by
 unfold oU
 dsimp only
 by_cases B:a.length=b.length
 ·rw[aj (by simp[B]),KX B (λk x y F G=>by
   have M:=bG F
   rw[an (by simpa using M),bh (aW F),bh (aW G),R5]
   by_cases j:x=y
   ·rw[aj (by simp[j]),aE (by omega),if_pos j];rfl
   rw[an (by simp[j]),if_neg j]) (by rw[aj (by simp)])]
  by_cases j:a=b
  ·rw[if_pos j,da j];rfl
  rw[if_neg j,dd j];rfl
 rw[an (by simp;omega),dd (λe=>B (by rw[e]))]
def BJ(l:List az):(eF l).length=l.length:=(iM _ _).length_eq
def Jd{s:bI}{p:aC}{v:aJ}(h:v∈eX s p):v.part=p.id:=by
 obtain⟨n,_,rfl⟩:=gj.1 h
 rfl
def Tp{s:bI}(B:cU s){p:aC}(k:p∈s.parts):(s.parts.flatMap (eX s)).filter (λv=>decide (v.part=p.id))=eX s p:=by
 rw[List.filter_flatMap]
 refine Eq.trans ?_ (tu aC.id (eX s) B.2.2.1.2.2.1 k)
 unfold List.flatMap
 congr 1
 refine hE λy F=>?_
 by_cases h:y.id=p.id
 ·rw[if_pos h,o0]
  intro v j
  simp[Jd j,h]
 rw[if_neg h,iv]
 intro v j
 simp[Jd j,h]
def Tu{s:bI}(k:cU s){v:aJ}(h:v∈s.parts.flatMap (eX s)):ic s v:=by
 obtain⟨p,j,h⟩:=jb.1 h
 obtain⟨n,_,rfl⟩:=gj.1 h
 exact sH (rm k j) _
def Tt{s:bI}(F:cU s)(j:(s.parts.all λp=>!j9 s p)=true){p:aC}(k:p∈s.parts):Hs s (s.parts.flatMap (eX s)) p:=by
 have j:=dT.1 j p k
 unfold j9 at j
 simp only[gL,hL]at j
 obtain⟨U,Y⟩:=Bf F k
 refine⟨(jq (gy (dE s p)) p.eA.toNat).map λn=>λ_ w=>decide (w.bp=0)||decide (w.bp=n),?_,λ_=>⟨by simp[jq];omega,λm M w O=>?_⟩⟩
 ·rw[Tp F k,j4];rfl
 by_cases B:w.bp=0
 ·have G:0<(jq (gy (dE s p)) p.eA.toNat).length:=by simp[jq];omega
  refine⟨_,gj.2 ⟨_,h6 G,rfl⟩,?_⟩
  simp[B]
 have N:w.bp∈gy (dE s p):=(Hc _ _).2 ⟨B,w,jb.2 ⟨m,M,O⟩,rfl⟩
 exact⟨_,gj.2 ⟨w.bp,Pk (by omega) (by omega) N,rfl⟩,by simp⟩
def Tq{s:bI}(j:cU s):(s.parts.flatMap (eX s)).length<=2400:=by
 have M:=j.2.2.1.1.2
 have:∀(ps:List aC),(∀p∈ps,p∈s.parts)->(ps.flatMap (eX s)).length<=40*ps.length:=by
  intro ps
  induction ps with
  |nil=>intro _;simp
  |cons p ps B=>
   intro h
   have:=B λq k=>h q (by simp[k])
   obtain⟨F,G⟩:=Bf j (h p (by simp))
   have e:(eX s p).length=p.eA.toNat:=by simp[eX,jq]
   rw[hM,e3,List.length_cons];omega
 have:=this s.parts λ_ h=>h
 omega
end Go.Proofs.YthhlipkkjippfaaGreatDoor
namespace Go.Proofs.YthhlipkkjippfaaGreatDoor
open Go Go.ag Go.Sy
attribute [local instance] ch cF
def TW:aT:=⟨1,⟨4,1⟩,0⟩
def vM:aC:=⟨1,0,0,0,2,⟨0,0⟩,⟨0,0,0⟩,⟨0,0,8⟩⟩
def vN:aC:=⟨2,0,1,1,1,⟨0,0⟩,⟨0,0,0⟩,⟨0,0,8⟩⟩
def Ju:ak:=⟨5,1,1,0,0,⟨0,1⟩,⟨1,1⟩,⟨0,0,4⟩⟩
def eU:bI:=⟨3,[TW],[vM,vN],[Ju]⟩
def jR:eo:=⟨eU,⟨0,[],[],⟨0,0,0⟩,[]⟩,[]⟩
def tj(cs:List bK):Form:=⟨1,[⟨0,1,2⟩],[],⟨0,0,0⟩,cs⟩
def nc(B5:Int)(cs:List bK):ej:=⟨B5,tj cs,[]⟩
def vK:List bK:=[⟨0,1,1⟩]
def gQ(part start j:Int):az:=⟨part,⟨start,1⟩,⟨1,1⟩,⟨0,0,j⟩⟩
theorem Uc:Fe ()=some (jR,nc 3 []):=rfl
theorem pL:cU eU:=⟨by decide +kernel,by decide +kernel,by decide +kernel,by decide +kernel,by decide +kernel,(NN (m:=[Ju]) (List.pairwise_singleton _ _) (.refl _) (by decide +kernel)).symm⟩
def yP(B5:Int)(cs:List bK)(h:cs.length<=10):o8 jR (nc B5 cs):=⟨by decide,⟨by show 1<=1048576;omega,by show 0<=1048576;omega,by show cs.length<=1048576;omega⟩,by show 0<=1048576;omega⟩
def Jv:lG jR (nc 3 []):=⟨pL,rfl,by decide +kernel,rfl,by decide +kernel⟩
def T1:lG jR (nc 3 vK):=⟨pL,rfl,by decide +kernel,rfl,by decide +kernel⟩
def Jy:cH (tj [])=[⟨0,1⟩,⟨0,2⟩]:=by decide +kernel
def T8:cH (tj vK)=[⟨0,2⟩]:=by decide +kernel
def GC{l m:List az}(k:m.Perm l)(j:∀t∈l,lf t)(B:m.Pairwise λa b=>¬iw tS tK b a<0):eF l=m:=xI (mK (pe xM) l) B ((iM _ _).trans k.symm) ((Ov j).perm (iM _ _).symm)
def vL:List az:=[gQ 1 0 4,gQ 2 0 5,gQ 1 4 4,gQ 2 4 5]
def T2:dt eU [] [⟨0,1⟩,⟨0,2⟩]=[gQ 1 0 4,gQ 1 4 4,gQ 2 0 5,gQ 2 4 5]:=by decide +kernel
def T3:dt eU [] [⟨0,2⟩]=[gQ 1 0 4,gQ 2 0 5]:=by decide +kernel
def Jx:eF (dt eU [] [⟨0,1⟩,⟨0,2⟩])=vL:=GC (by rw[T2];exact .cons _ (.swap _ _ _)) (sj pL (by decide)).1 (by decide +kernel)
def T7:eF (dt eU [] [⟨0,2⟩])=[gQ 1 0 4,gQ 2 0 5]:=GC (by rw[T3]) (sj pL (by decide)).1 (by decide +kernel)
def T4:jB (jR,nc 3 [])=some (vL,0):=by
 rw[uN (yP 3 [] (by decide)),if_pos Jv]
 show some (eF (dt eU [] (cH (tj []))),0)=_
 rw[Jy,Jx]
def T5:jB (jR,nc 3 vK)=some ([gQ 1 0 4,gQ 2 0 5],0):=by
 rw[uN (yP 3 vK (by decide)),if_pos T1]
 show some (eF (dt eU [] (cH (tj vK))),0)=_
 rw[T8,T7]
def T6:jB (jR,nc 2 [])=some ([],1):=by rw[uN (yP 2 [] (by decide)),if_neg (λh=>absurd h.2.1 (by decide))]
def Jz(p:aC)(h:∀w∈de (dE eU p),w.bp=0):gy (dE eU p)=[]:=by
 rw[s5]
 intro a k
 obtain⟨j,w,B,rfl⟩:=(Hc _ _).1 k
 exact j (h w B)
def T9:gy (dE eU vM)=[]:=Jz _ (by decide +kernel)
def Ua:gy (dE eU vN)=[]:=Jz _ (by decide +kernel)
def Jw:(eU.parts.all λp=>!j9 eU p)=true:=by
 show(!j9 eU vM&&(!j9 eU vN&&true))=true
 unfold j9
 rw[T9,Ua];rfl
theorem TY:xc jR=some (eU.parts.flatMap (eX eU),0):=(Tv (w:=jR) (by decide) pL).trans (by rw[if_pos (show(jR.aI.parts.all λp=>!j9 jR.aI p)=true from Jw)];rfl)
def TZ:(eU.parts.flatMap (eX eU)).length=3:=by
 show(eX eU vM++(eX eU vN++[])).length=3
 simp[eX,jq,vM,vN]
def Ub:xe (jR,(nc 3 [],eU.parts.flatMap (eX eU)))=some (vL,0):=by
 rw[aaH (yP 3 [] (by decide)) Jv (Tq pL) (λv k=>Tu pL k) (λp j=>Tt pL Jw j)]
 have e:jR.aI.parts.flatMap (gp jR.aI (nc 3 []).bF (cH (nc 3 []).form) (eU.parts.flatMap (eX eU)))=dt eU [] (cH (tj [])):=by
  unfold dt List.flatMap
  congr 1
 rw[e,Jy,Jx]
def head_eq:wO ()=some true:=by
 unfold wO
 refine(aO Uc).trans ?_
 refine(aO T4).trans ((aO TY).trans ((aO Ub).trans ((aO T5).trans ((aO T6).trans ?_))))
 refine(aO (x:=true) ?_).trans ?_
 ·refine(an rfl).trans ((an rfl).trans ((an rfl).trans ((an rfl).trans ((an rfl).trans (dn some (da ?_))))))
  exact dn Int.ofNat TZ
 have s0:oU (vL,vL)=some true:=(Gs (by decide)).trans (dn some (da rfl))
 have s1:oU ([gQ 1 0 4,gQ 2 0 5],[gQ 1 0 4,gQ 2 0 5])=some true:=(Gs (by decide)).trans (dn some (da rfl))
 refine(aO (x:=(⟨0,1⟩:Rat)) rfl).trans ((aO (x:=(⟨1,1⟩:Rat)) rfl).trans ((aO (x:=(⟨0,1⟩:Rat)) rfl).trans ((aO (x:=(⟨1,1⟩:Rat)) rfl).trans ((aO (x:=(⟨4,1⟩:Rat)) rfl).trans ((aO (x:=(⟨1,1⟩:Rat)) rfl).trans ((aO (x:=(⟨4,1⟩:Rat)) rfl).trans ((aO (x:=(⟨1,1⟩:Rat)) rfl).trans ?_)))))))
 refine(aO (x:=true) ?_).trans rfl
 refine(an rfl).trans ((aO s0).trans ((an rfl).trans ((aO s0).trans ((an rfl).trans ((cr (by decide)).trans (aO s1))))))
end Go.Proofs.YthhlipkkjippfaaGreatDoor
namespace Go.Proofs.YthhlipkkjippfaaGreatDoor
open Go Go.ag Go.Sy
attribute [local instance] ch cF
def fw(T:Int)(x:az):az:=⟨x.part,cR (bg x.start+T),x.length,x.aU⟩
def Og(bars:List aT):∀(l m:List aA),cG bars (l++m)=cG bars l+cG bars m
 | [],m=>(abv _).symm
 |v::l,m=>by
  have j:=Og bars l m
  have e:∀k:List aA,cG bars (v::k)=match bars[v.av.toNat]? with|some b=>bg b.length+cG bars k|none=>cG bars k:=λ_=>rfl
  rw[List.cons_append,e,e]
  cases bars[v.av.toNat]? with
  |none=>exact j
  |some b=>dsimp only;rw[j,abn]
def FX(bars:List aT)(snd:aT->List ak):∀(l m:List aA)(t:Int),eE bars snd (l++m) t=eE bars snd l t++eE bars snd m (t+cG bars l)
 | [],m,t=>by simp[eE,cG]
 |v::l,m,t=>by
  have e:∀k:List aA,cG bars (v::k)=match bars[v.av.toNat]? with|some b=>bg b.length+cG bars k|none=>cG bars k:=λ_=>rfl
  have j:∀(k:List aA)(t:Int),eE bars snd (v::k) t=match bars[v.av.toNat]? with|some b=>(snd b).map (jK t)++eE bars snd k (t+bg b.length)|none=>eE bars snd k t:=λ_ _=>rfl
  rw[List.cons_append,e,j,j]
  cases bars[v.av.toNat]? with
  |none=>exact FX bars snd l m t
  |some b=>
   dsimp only
   rw[FX bars snd l m,hU,abn]
def FY{bars:List aT}(j:∀b∈bars,eR b){snd:aT->List ak}(k:∀b∈bars,∀n∈snd b,0<=bg n.start/\bg n.start<=bg b.length)(T:Int):∀(l:List aA)(t:Int),0<=t->t+cG bars l<=1000000000->eE bars snd l (t+T)=(eE bars snd l t).map (fw T)
 | [],t,_,_=>rfl
 |v::l,t,M,h1=>by
  have ht:=mN j l
  unfold cG at h1
  unfold eE
  cases B:bars[v.av.toNat]? with
  |none=>rw[B]at h1;exact FY j k T l t M h1
  |some b=>
   rw[B]at h1
   dsimp only at h1⊢
   have F:=dk B
   obtain⟨_,G,_,_⟩:=j b F
   have O:=nR G
   rw[q7,j4,show t+T+bg b.length=t+bg b.length+T by omega,FY j k T l (t+bg b.length) (by omega) (by omega)]
   refine dn (· ++ _) (hE λn N=>?_)
   obtain⟨n1,U⟩:=k b F n N
   show jK (t+T) n=fw T (jK t n)
   unfold jK fw
   dsimp only
   rw[(qt (t:=t+bg n.start) (by omega) (by omega)).2,show t+T+bg n.start=t+bg n.start+T by omega]
variable {s:bI}{c:List Int}
def Xn(B:cU s){p:aC}(O:p∈s.parts){l m:List aA}(M:(l++m).length<=20000):eh s c (l++m) p=eh s c l p++(eh s c m p).map (fw (cG s.bars l)):=by
 have k:∀b∈s.bars,eR b:=λb j=>kn B j
 have Y:=mN k l
 have Z:=mN k m
 rw[e3]at M
 unfold eh
 rw[FX]
 refine dn _ (FY k (λb j n N=>?_) (cG s.bars l) m 0 (za _) (by omega))
 obtain⟨_,_,F,G,U,_⟩:=uT B O j N
 have:=nR F
 have:=nR G
 exact⟨by omega,by omega⟩
def Yo(M:cU s){l m:List aA}(F:(l++m).length<=20000):(dt s c l++(dt s c m).map (fw (cG s.bars l))).Perm (dt s c (l++m)):=by
 unfold dt
 have:∀ps:List aC,(∀p∈ps,p∈s.parts)->(ps.flatMap (eh s c l)++(ps.flatMap (eh s c m)).map (fw (cG s.bars l))).Perm (ps.flatMap (eh s c (l++m))):=by
  intro ps
  induction ps with
  |nil=>intro _;exact .refl _
  |cons p ps j=>
   intro h
   rw[hM,hM,hM,Xn M (h p (by simp)) F,q7]
   generalize eh s c l p=A
   generalize (eh s c m p).map (fw (cG s.bars l))=B
   have j:=j λq G=>h q (by simp[G])
   generalize ps.flatMap (eh s c l)=X at j⊢
   generalize (ps.flatMap (eh s c m)).map (fw (cG s.bars l))=k at j⊢
   generalize ps.flatMap (eh s c (l++m))=N at j⊢
   rw[hU,hU]
   refine List.Perm.append_left A ?_
   refine List.Perm.trans ?_ (List.Perm.append_left B j)
   rw[<-hU,<-hU]
   exact List.Perm.append_right k List.perm_append_comm
 exact this s.parts λ_ h=>h
def Zm(F:cU s){p:aC}{b:aT}(k:b∈s.bars){n:ak}(j:n∈fK s p c b):0<bg n.length:=by
 unfold fK at j
 obtain⟨x,G,rfl⟩:=gj.1 j
 obtain⟨_,B,_,_⟩:=ym F k (hI.1 G).1
 exact B.2.2.1
theorem Bs(k:cU s){l:List aA}(M:l.length<=20000){x:az}(j:x∈dt s c l):lf x/\0<=bg x.start/\bg x.start<cG s.bars l:=by
 have G:∀b∈s.bars,eR b:=λb F=>kn k F
 obtain⟨p,N,j⟩:=jb.1 j
 obtain⟨B,_,t',Y,Z,aa⟩:=FT k N M j
 obtain⟨t2,b,n,ad,ae,O,U,rfl⟩:=Bj G l 0 j
 have ab:0<bg (jK t2 n).length:=Zm k O U
 exact⟨B,nR B.1,by omega⟩
def Zv(j:cU s){l m:List aA}(F:(l++m).length<=20000):eF (dt s c (l++m))=eF (dt s c l)++(eF (dt s c m)).map (fw (cG s.bars l)):=by
 have N:∀b∈s.bars,eR b:=λb B=>kn j B
 have aa:=mN N l
 have ab:=mN N m
 have U:=F
 rw[e3]at U
 have G:∀x∈eF (dt s c m),bg (fw (cG s.bars l) x).start=bg x.start+cG s.bars l:=λx M=>by
  obtain⟨_,Y,Z⟩:=Bs j (l:=m) (by omega) ((iM _ _).subset M)
  exact(qt (t:=bg x.start+cG s.bars l) (by omega) (by omega)).2
 refine GC (((iM _ _).append ((iM _ _).map _)).trans (Yo j F)) (sj j F).1 ?_
 rw[List.pairwise_append]
 refine⟨mK (pe xM) _,?_,λa O b B=>?_⟩
 ·rw[om]
  refine q8 (λ{x y} M k h=>?_) (mK (pe xM) (dt s c m))
  have e:iw tS tK (fw (cG s.bars l) y) (fw (cG s.bars l) x)=iw tS tK y x:=by
   unfold iw
   have e:((tK (fw (cG s.bars l) y)).zipWith (· - ·) (tK (fw (cG s.bars l) x)))=((tK y).zipWith (· - ·) (tK x)):=by
    unfold tK
    rw[G x M,G y k]
    simp only[List.zipWith_cons_cons,o3]
    exact⟨by omega,rfl,rfl,rfl,rfl,trivial⟩
   rw[e]
  rw[e];exact h
 obtain⟨y,k,rfl⟩:=gj.1 B
 obtain⟨_,Y,Z⟩:=Bs j (l:=l) (by omega) ((iM _ _).subset O)
 obtain⟨_,ad,ae⟩:=Bs j (l:=m) (by omega) ((iM _ _).subset k)
 rw[vB xM]
 have e:=G y k
 show ¬c8 ((bg (fw (cG s.bars l) y).start-bg a.start)::_)<0
 rw[e]
 simp only[c8]
 rw[if_neg (by omega)]
 omega
end Go.Proofs.YthhlipkkjippfaaGreatDoor
namespace Go.Proofs.YthhlipkkjippfaaGreatDoor
open Go Go.ag Go.Sy
attribute [local instance] ch cF
theorem VN{L:List az}{T:Int}(Y:L.length<=1000000000000)(G:0<=T/\T<=1000000000)(h:∀x∈L,bQ x.start/\bg x.start+T<=1000000000):Ad (L,cR T)=some (L.map (fw T),true):=by
 have B:=qt G.1 G.2
 unfold Ad
 dsimp only
 refine(gC (x:=.inl (L.map (fw T))) ?_).trans rfl
 refine(dU (st:=λ(z:List az) k=>(k,z)) (l:=L) (λz x=>(Sum.inl (z++[fw T x]):List az⊕(List az⊕(List az×Bool)))) (λz=>Sum.inl z) (λk z=>z.length<=k) (λk x z j F=>?_) (λk x z z' j F U=>by cases U;rw[e3];exact Nat.succ_le_succ F) (λz _=>by dsimp only;rw[aj (by simp)]) [] (eb _)).trans (dn some ((fG (λz x=>z++[fw T x]) L [] (λ_ _ _=>rfl)).trans (dn Sum.inl ?_)))
 ·have Z:=bG j
  obtain⟨M,N⟩:=h x (dk j)
  have O:fB (x.start,cR T)=some (cR (bg x.start+T),0):=by rw[Bq M B.1 (by rw[B.2];exact N),B.2]
  dsimp only
  rw[an (da (by omega))]
  refine(aO (aW j)).trans ((aO O).trans ((aj rfl).trans ?_))
  have e:(List.append z (fw T x::([]:List az))).length=z.length+1:=e3
  exact(cr (da (by rw[show(⟨x.part,(cR (bg x.start+T),(0:Int)).1,x.length,x.aU⟩:az)=fw T x from rfl,e];omega))).trans (aE (by omega))
 exact(foldl_map' (fw T) L []).trans (List.nil_append _)
theorem aaa{bars:List aT}(ad:∀b∈bars,eR b)(c:Int){V l m:List aA}(al:V=l++m)(ag:∀v∈l,v.av<c)(ak:∀v∈m,c<=v.av)(aI:V.length<=20000)(ax:∀v∈V,0<=v.av/\v.av<(bars.length:Int)) :
  aB (λj:(Bool×(Int×(Int×Int)))=>ab (ah j.2.1 (V.length:Int)) (aa (aa (au V j.2.1) λB=>ab (ah B.av c) (aa (au bars B.av) λaC=>aa (fB ((⟨j.2.2.1,j.2.2.2⟩:Rat),aC.length)) λY=>aa (ab j.1 (some (aF Y.2 0)) (some false)) λ(aD:Bool)=>some (aD,(Y.1.n,Y.1.d))) (some (j.1,(j.2.2.1,j.2.2.2)))) λ(B:(Bool×(Int×Int)))=>ae (ai (j.2.1+1)) <|some (.inl (B.1,((j.2.1+1),(B.2.1,B.2.2))))) (some (.inr (j.1,(j.2.2.1,j.2.2.2))))) (true,(0,((cR 0).n,(cR 0).d)))=some (true,((cR (cG bars l)).n,(cR (cG bars l)).d)):=by
 refine(dU (σ:=Int) (st:=λz k=>(true,(k,((cR z).n,(cR z).d)))) (l:=V) (λz v=>(Sum.inl (if v.av<c then z+cG bars [v]else z):Int⊕(Bool×(Int×Int)))) (λz=>(true,((cR z).n,(cR z).d))) (λk z=>0<=z/\z<=40320*(k:Int)) (λk v z F Z=>?_) (λk v z z' F Z ar=>?_) (λz _=>by dsimp only;rw[aj (by simp)]) 0 ⟨by omega,by omega⟩).trans ?_
 ·have aH:=bG F
  obtain⟨aJ,aK⟩:=ax v (dk F)
  have G:bars[v.av.toNat]?=some bars[v.av.toNat]:=c3 (by omega)
  have ht:cG bars [v]=bg bars[v.av.toNat].length:=by
   show(match bars[v.av.toNat]? with|some b=>bg b.length+0|none=>0)=_
   rw[G];exact Int.add_zero _
  rw[ht]
  generalize bars[v.av.toNat]=b at G
  obtain⟨_,af,aG,_⟩:=ad b (dk G)
  have N:=qt (t:=z) Z.1 (by omega)
  have ao:fB (cR z,b.length)=some (cR (z+bg b.length),0):=by rw[Bq N.1 af (by rw[N.2];omega),N.2]
  have aq:au bars v.av=some b:=by
   have:=aW G
   rwa [show((v.av.toNat:Nat):Int)=v.av by omega]at this
  dsimp only
  refine(an (da (by omega))).trans ?_
  by_cases M:v.av<c
  ·rw[if_pos M]
   refine(aO (x:=(true,((cR (z+bg b.length)).n,(cR (z+bg b.length)).d))) ?_).trans (aE (by omega))
   refine(aO (aW F)).trans ((an (da M)).trans ((aO aq).trans ((aO ao).trans ?_)))
   exact(aO (x:=true) rfl).trans rfl
  rw[if_neg M]
  refine(aO (x:=(true,((cR z).n,(cR z).d))) ?_).trans (aE (by omega))
  exact(aO (aW F)).trans (aj (dd M))
 ·cases ar
  have aw:=mN ad [v]
  simp only[List.length_singleton]at aw
  split
  ·exact⟨by omega,by omega⟩
  exact⟨by omega,by omega⟩
 refine dn some ((fG (λz(v:aA)=>if v.av<c then z+cG bars [v]else z) V 0 (λ_ _ _=>rfl)).trans ?_)
 have ay:∀(l:List aA)(z:Int),(∀v∈l,v.av<c)->l.foldl (λz(v:aA)=>if v.av<c then z+cG bars [v]else z) z=z+cG bars l:=by
  intro l
  induction l with
  |nil=>intro z _;exact(Int.add_zero z).symm
  |cons v l U=>
   intro z h
   rw[List.foldl_cons,if_pos (h v (by simp)),U _ λw O=>h w (by simp[O]),show v::l=[v]++l from rfl,Og,abn]
 have az:∀(l:List aA)(z:Int),(∀v∈l,c<=v.av)->l.foldl (λz(v:aA)=>if v.av<c then z+cG bars [v]else z) z=z:=by
  intro l
  induction l with
  |nil=>intro z _;rfl
  |cons v l U=>
   intro z h
   rw[List.foldl_cons,if_neg (by have:=h v (by simp);omega),U _ λw O=>h w (by simp[O])]
 rw[al,td,ay l 0 ag,az m _ ak,abv]
def VO{w:eo}{r:ej}(h:o8 w r)(aR:wO ()=some true)(t:Int)(ht:0<=t/\t<=255):Ac (w,(r,t))=some true:=by
 obtain⟨u,ae,ad⟩:=aaB h
 unfold Ac
 dsimp only
 refine(aO aR).trans ?_
 cases u with
 |false=>exact(aO (x:=true) ((aO ae).trans (an rfl))).trans (an rfl)
 |true=>
  obtain⟨ad,a7⟩:=ad rfl
  obtain⟨B,ay,ah,Z,aA⟩:=id ad
  obtain⟨aJ,G,aK⟩:=id h
  by_cases ak:r.form.bars<2
  ·exact(aO (x:=true) ((aO ae).trans ((aj rfl).trans (dn some (da ak))))).trans (an rfl)
  refine(aO (x:=false) ((aO ae).trans ((aj rfl).trans (dn some (dd ak))))).trans ((aj rfl).trans ?_)
  have aX:IntKind.wrap .i64 t=t:=by
   unfold IntKind.wrap
   simp[IntKind.bits,IntKind.signed]
   omega
  have aT:=Int.emod_nonneg t (b:=r.form.bars-1) (by omega)
  have aU:=Int.emod_lt_of_pos t (b:=r.form.bars-1) (by omega)
  have hi:Int.tmod (IntKind.wrap .i64 t) (r.form.bars-1)=t%(r.form.bars-1):=by rw[aX,n3 ht.1]
  rw[hi]
  generalize t%(r.form.bars-1)=ar at aT aU
  have aP:r.form.bars<=12:=by rw[Z];omega
  refine(aE (by omega)).trans ((cr ?_).trans ((aE (by omega)).trans ?_))
  ·simp only[gL,aF,hL];omega
  generalize a8:1+ar=c
  have ba:1<=c/\c<r.form.bars:=by omega
  refine(gC (x:=if jh r.form.aY c=true then .inr true else .inl ()) ?_).trans ?_
  ·refine nv (l:=r.form.aY) (λx=>decide (x.from_<c)&&decide (c<x.aQ)) true (λk x N=>?_) (by rw[aj (by simp)])
   have al:=bG N
   have aV:=G.1
   refine(an (da (by omega))).trans ((aO (aW N)).trans ?_)
   refine(aO (x:=decide (x.from_<c)&&decide (c<x.aQ)) ?_).trans ?_
   ·show ab (decide (x.from_<c)) (some (decide (c<x.aQ))) (some false)=_
    cases decide (x.from_<c)<;>rfl
   cases (decide (x.from_<c)&&decide (c<x.aQ))with
   |true=>rfl
   |false=>exact(aj rfl).trans (aE (by omega))
  cases aZ:jh r.form.aY c with
  |true=>rfl
  |false=>
   rw[if_neg Bool.false_ne_true,Sum.elim_inl]
   have aL:=vT G ah
   obtain⟨l,m,s1,s2,ag⟩:=aaK aL aZ
   have af:∀cs:List bK,cs.length<=10->lz (dh r.form cs)=true->o8 w ⟨r.version,dh r.form cs,r.bF⟩/\lG w ⟨r.version,dh r.form cs,r.bF⟩:=λcs aS al=>⟨⟨aJ,Xv G aS,aK⟩,B,ay,Xu G ah aP al,Z,aA⟩
   have O:=af [] (by simp) (S4 _)
   have U:=af [⟨c,r.form.bars,0⟩] (by simp) (IX ⟨by show(0:Int)<=c;omega,by show c<r.form.bars;omega,za _,by show(0:Int)<=0;omega,by show(0:Int)<=20;omega⟩)
   have aq:=af [⟨0,c,0⟩] (by simp) (IX ⟨by show(0:Int)<=0;omega,by show(0:Int)<c;omega,by show c<=r.form.bars;omega,by show(0:Int)<=0;omega,by show(0:Int)<=20;omega⟩)
   obtain⟨Y,F⟩:=G5 O.1.2.1 O.2.2.2.1
   have Y:(cH (dh r.form [])).length<=20000:=Y
   have F:∀v∈cH (dh r.form []),0<=v.av/\v.av<r.form.bars:=F
   rw[OF]at Y F
   have au:=OF r.form
   have aw:cH (dh r.form [⟨c,r.form.bars,0⟩])=l:=aay s1 rfl (λv j=>by have:=s2 v j;dsimp only;omega) (λv j=>⟨ag v j,(F v (by rw[s1];simp[j])).2⟩)
   have ax:cH (dh r.form [⟨0,c,0⟩])=m:=aaz s1 rfl (λv j=>⟨(F v (by rw[s1];simp[j])).1,s2 v j⟩) (λv j=>by have:=ag v j;dsimp only;omega)
   have M:(l++m).length<=20000:=by rw[<-s1];exact Y
   have bb:l.length+m.length<=20000:=by rw[<-e3];exact M
   have aa:∀b∈w.aI.bars,eR b:=λb aN=>kn B aN
   have bc:=B.2.2.1.1.2
   have aB:jB (w,⟨r.version,dh r.form [],r.bF⟩)=some (eF (dt w.aI r.bF (l++m)),0):=by
    rw[uN O.1,if_pos O.2]
    show some (eF (dt w.aI r.bF (cH (dh r.form []))),(0:Int))=_
    rw[au,s1]
   have aC:jB (w,⟨r.version,dh r.form [⟨c,r.form.bars,0⟩],r.bF⟩)=some (eF (dt w.aI r.bF l),0):=by
    rw[uN U.1,if_pos U.2]
    show some (eF (dt w.aI r.bF (cH (dh r.form [⟨c,r.form.bars,0⟩]))),(0:Int))=_
    rw[aw]
   have aD:jB (w,⟨r.version,dh r.form [⟨0,c,0⟩],r.bF⟩)=some (eF (dt w.aI r.bF m),0):=by
    rw[uN aq.1,if_pos aq.2]
    show some (eF (dt w.aI r.bF (cH (dh r.form [⟨0,c,0⟩]))),(0:Int))=_
    rw[ax]
   refine(aO aB).trans ((aO aC).trans ((aO aD).trans ?_))
   refine(aO (x:=false) rfl).trans ((aj rfl).trans ?_)
   refine(aO (x:=(⟨0,1⟩:Rat)) rfl).trans ?_
   have aM:jw (dh r.form [⟨c,r.form.bars,0⟩]):=vT U.1.2.1 U.2.2.2.1
   have aH:w4 (dh r.form [⟨c,r.form.bars,0⟩])=some (l++m):=by rw[X6 aM,FW,s1]
   have bh:=mN aa l
   have tm:=mN aa m
   have ai:=aaa aa c (V:=l++m) rfl s2 ag M (λv j=>by rw[<-Z];exact F v (by rw[s1];exact j))
   rw[MJ]at ai
   refine(aO (x:=(true,((cR (cG w.aI.bars l)).n,(cR (cG w.aI.bars l)).d))) ((aO aH).trans ai)).trans ?_
   have aV:=(sj (c:=r.bF) B (vs:=l) (by omega)).2
   have bd:=(sj (c:=r.bF) B (vs:=m) (by omega)).2
   have aG:=VN (L:=eF (dt w.aI r.bF m)) (T:=cG w.aI.bars l) (by rw[BJ];omega) ⟨by omega,by omega⟩ (λx N=>by
    obtain⟨a1,bf,bg⟩:=Bs B (l:=m) (by omega) ((iM _ _).subset N)
    exact⟨a1.1,by omega⟩)
   refine(aO aG).trans ?_
   refine(aO (x:=true) ?_).trans rfl
   refine(an rfl).trans ((an rfl).trans ((aO (x:=true) ((Mw w.aI).trans (dn some (da B)))).trans ((an rfl).trans ?_)))
   have n1:(List.append ([]:List az) (eF (dt w.aI r.bF l))).length=(dt w.aI r.bF l).length:=BJ _
   have a6:(List.append (List.append ([]:List az) (eF (dt w.aI r.bF l))) ((eF (dt w.aI r.bF m)).map (fw (cG w.aI.bars l)))).length=(dt w.aI r.bF l).length+(dt w.aI r.bF m).length:=by
    refine e3.trans ?_
    rw[n1,hG,BJ]
   refine(cr (da (by rw[n1];omega))).trans ((cr (da (by dsimp only;rw[a6];omega))).trans ?_)
   have ao:=Gs (a:=eF (dt w.aI r.bF (l++m))) (b:=eF (dt w.aI r.bF l)++(eF (dt w.aI r.bF m)).map (fw (cG w.aI.bars l))) (by have:=(sj (c:=r.bF) B M).2;rw[BJ];omega)
   rw[da (Zv B M)]at ao
   exact aO ao
end Go.Proofs.YthhlipkkjippfaaGreatDoor
namespace Go.Proofs.YthhlipkkjippfaaGreatDoor
open Go Go.ag Go.Sy
attribute [local instance] ch cF
def abb(f:Nat)(t:Ty)(x:t.den):1<=cJ (f+1) t x:=by cases t<;>simp[cJ]
def xV(f:Nat)(t:Ty)(xs:List t.den):xs.length+1<=cJ (f+2) (.list t) xs:=by
 show xs.length+1<=(List.map (λx=>cJ (f+1) t x) xs).sum+1
 have:∀l:List t.den,l.length<=(List.map (λx=>cJ (f+1) t x) l).sum:=λl=>by
  induction l with
  |nil=>exact j2 _
  |cons x l j=>have:=abb f t x;simp only[List.length_cons,fa,List.sum_cons];omega
 have:=this xs
 omega
theorem wtS{s:bI}{f:Nat}:s.bars.length<=cJ (f+4) (.st 6) s:=by
 have e:cJ (f+4) (.st 6) s=1+(cJ (f+3) (.list (.st 1)) s.bars+(cJ (f+3) (.list (.st 4)) s.parts+cJ (f+3) (.list (.st 5)) s.aK))+1:=rfl
 have j:s.bars.length+1<=cJ (f+3) (.list (.st 1)) s.bars:=xV (f+1) (.st 1) s.bars
 omega
theorem wtF{x:Form}{f:Nat}(h:cJ (f+4) (.st 11) x<=1048576):mJ x:=by
 have e:cJ (f+4) (.st 11) x=1+(cJ (f+3) (.list (.st 8)) x.aY+(cJ (f+3) (.list (.st 9)) x.bE+(cJ (f+3) (.st 7) x.jump+cJ (f+3) (.list (.st 10)) x.bj)))+1:=rfl
 have j:x.aY.length+1<=cJ (f+3) (.list (.st 8)) x.aY:=xV (f+1) (.st 8) x.aY
 have k:x.bE.length+1<=cJ (f+3) (.list (.st 9)) x.bE:=xV (f+1) (.st 9) x.bE
 have B:x.bj.length+1<=cJ (f+3) (.list (.st 10)) x.bj:=xV (f+1) (.st 10) x.bj
 exact⟨by omega,by omega,by omega⟩
def Zl{w:eo}{r:ej}(M:cJ 9 (.st 13) w<=1048576)(N:cJ 9 (.st 14) r<=1048576):o8 w r:=by
 have F:cJ 9 (.st 13) w=cJ 8 (.st 6) w.aI+(cJ 8 (.st 11) w.form+cJ 8 (.list (.st 12)) w.GR)+1:=rfl
 have G:cJ 9 (.st 14) r=1+(cJ 8 (.st 11) r.form+cJ 8 (.list (.int .i64)) r.bF)+1:=rfl
 have k:w.aI.bars.length<=cJ 8 (.st 6) w.aI:=wtS (f:=4)
 have B:r.bF.length+1<=cJ 8 (.list (.int .i64)) r.bF:=xV 6 (.int .i64) r.bF
 have j:cJ 8 (.st 11) r.form<=1048576:=by omega
 exact⟨by omega,wtF (f:=4) j,by omega⟩
end Go.Proofs.YthhlipkkjippfaaGreatDoor
namespace Go.Proofs.YthhlipkkjippfaaGreatDoor
open Go Go.ag Go.Sy
attribute [local instance] ch cF
def aam(n:Int)(h:(Lit.int .u8 n).wf=true):0<=n/\n<=255:=by
 have h:=Bool.and_eq_true_iff.1 (show(decide (IntKind.u8.min<=n)&&decide (n<=IntKind.u8.max))=true from h)
 exact⟨hA h.1,hA h.2⟩
end Go.Proofs.YthhlipkkjippfaaGreatDoor
namespace Go.Proofs.YthhlipkkjippfaaGreatDoor
open Go Go.ag Go.Sy
attribute [local instance] ch cF
def VP(k:Ty.den (.st 13))(F:cJ 9 (.st 13) k<=1048576)(O:kO 9 (.st 13) k)(B:Ty.den (.st 14))(G:cJ 9 (.st 14) B<=1048576)(U:kO 9 (.st 14) B)(j:Ty.den (.int .u8))(N:cJ 9 (.int .u8) j<=1048576)(M:kO 9 (.int .u8) j):Ac (k,(B,j))=some true:=VO (Zl F G) head_eq j (aam j M)
end Go.Proofs.YthhlipkkjippfaaGreatDoor