import Derived.Test.YthhlipkkjippfaaGreatDoorX3
import Derived.RangeFuncIn
set_option linter.all false
namespace Go.ag
open Go Go.RowKit bP
variable [bq][bX]
def iterM{σ ρ ε:Type}(step:σ->ε->Option (σ⊕ρ)):List ε->σ->Option (σ⊕ρ)
 | [],z=>some (.inl z)
 |e::l,z=>match step z e with
  |some (.inl z')=>iterM step l z'
  |some (.inr r)=>some (.inr r)
  |none=>none
open Classical in
noncomputable def zm{σ ρ ε:Type}(step:σ->ε->Option (σ⊕ρ))(m:List ε)(z:σ):Option (σ⊕ρ):=if h:∃r,∀l,l.Perm m->iterM step l z=some r then some (Classical.choose h)else none
def VZ{σ ρ ε:Type}{step:σ->ε->Option (σ⊕ρ)}{m:List ε}{z:σ}{r:σ⊕ρ}(h:zm step m z=some r):∀l,l.Perm m->iterM step l z=some r:=by
 unfold zm at h
 split at h
 ·rename_i j
  injection h with h
  rw[<-h];exact l2 j
 cases h
def iJ{ε:Type}(done:List Nat):Nat->List ε->List ε
 |_,[]=>[]
 |k,e::l=>if k∈done then iJ done (k+1) l else e::iJ done (k+1) l
def Gg{ε:Type}:∀(k:Nat)(m:List ε),iJ [] k m=m
 |_,[]=>rfl
 |k,e::l=>by simp[iJ,Gg (k+1) l]
def Gf{ε:Type}{done:List Nat}:∀{k:Nat}{m:List ε},(∀i,i<m.length->k+i∈done)->iJ done k m=[]
 |_,[],_=>rfl
 |k,e::l,h=>by
  have j:=h 0 (by simp)
  simp only[Nat.add_zero]at j
  simp only[iJ,if_pos j]
  exact Gf λi hi=>by have:=h (i+1) (by simp;omega);rwa [show k+(i+1)=k+1+i by omega]at this
def MY{ε:Type}{done:List Nat}{j:Nat}:∀{k:Nat}{m:List ε},j<k->iJ (done++[j]) k m=iJ done k m
 |_,[],_=>rfl
 |k,e::l,h=>by
  have B:(k∈done++[j])=(k∈done):=by simp;omega
  simp only[iJ,B,MY (show j<k+1 by omega)]
theorem Gh{ε:Type}{done:List Nat}:∀{k i:Nat}{m:List ε}{e:ε},m[i]?=some e->k+i∉done->(e::iJ (done++[k+i]) k m).Perm (iJ done k m)
 |k,i,[],e,h,_=>by simp at h
 |k,0,x::l,e,h,j=>by
  simp at h;subst h
  simp only[Nat.add_zero]at j⊢
  have:k∈done++[k]:=by simp
  simp only[iJ,if_pos this,if_neg j,MY (rv k)]
  exact .refl _
 |k,i+1,x::l,e,h,j=>by
  have B:=Gh (k:=k+1) (i:=i) (m:=l) (e:=e) (by simpa using h) (by rwa [show k+1+i=k+(i+1) by omega])
  rw[show k+1+i=k+(i+1) by omega]at B
  have F:(k∈done++[k+(i+1)])=(k∈done):=by simp
  simp only[iJ,F]
  split
  ·exact B
  exact(List.Perm.swap _ _ _).trans (B.cons _)
theorem Ly{done:List Nat}{n:Nat}(j:done.Nodup)(h:∀i∈done,i<n):done.length<=n:=by
 have:done.Perm ((List.range n).filter λi=>done.contains i):=(u5 j (List.nodup_range.filter _)).2 λx=>by simp;exact h x
 rw[this.length_eq]
 exact hJ (kA _ _) (by simp)
def VL{α:Type}[bP α]{m:List (Int×α)}{i:Nat}{F vd:D}(j:(m.map kE)[i]?=some F)(k:(m.map vE)[i]?=some vd):∃e,m[i]?=some e/\F=kE e/\vd=vE e:=by
 rw[et]at j k
 cases B:m[i]? with
 |none=>rw[B]at j;cases j
 |some e=>rw[B]at j k;simp at j k;exact⟨e,rfl,j.symm,k.symm⟩
theorem Vz{α:Type}(k:Int)(v:α):kE (k,v)=.int .i64 k:=rfl
theorem aaD{α:Type}[bP α](k:Int)(v:α):vE (k,v)=enc v:=rfl
section
variable {P:Program}{V:Env}{w0 w:World}{I0 I:ay}{m:Nat->Value}{l:List AO}
theorem Wx(Z:aH w0 I0 w I m l){id:Nat}{F vs:List D}{done:List Nat}(Y:l[id]?=some (.iter F vs done)){b:Nat}(ad:m id=.pointer (some ⟨b,0,none⟩))(ty:TypeId) :
  ((∀i,i<F.length->i∈done)/\(Instr.next (.pointer (some ⟨b,0,none⟩)) false ty).run P w=.ok (.tuple #[.bool false]) w) \/
  ∃i key val ar vd w',F[i]?=some ar/\vs[i]?=some vd/\i∉done/\(Instr.next (.pointer (some ⟨b,0,none⟩)) false ty).run P w=.ok (.tuple #[.bool true,key,val]) w'/\Rd I key ar/\Rd I val vd /\
   Le I m l I m (l.set id (.iter F vs (done++[i])))/\aH w0 I0 w' I m (l.set id (.iter F vs (done++[i]))):=by
 obtain⟨aN,G,B,seen,M,aL,af,ag,aw,aM,ax,ay,⟨az,au⟩,av⟩:=Z.obj id _ Y
 rw[ad]at M;injection M with M;injection M with M;injection M with M;subst M
 cases G with
 |none=>
  have aa:=ag.2 rfl
  have aO:F.length=0:=by rw[<-aw,aa];rfl
  refine .inl ⟨λi hi=>by omega,?_⟩
  simp[Instr.next,getObj,fv,Sem.run,af,Result.andThen]
 |some G=>
 have ab:=Z.sat.mp G B (ag.1 G rfl)
 have an:∀x,seen.contains x=true↔∃i∈done,vz B i=x:=λx=>by rw[<-Array.contains_toList,az];simp
 have aF:∀(i j:Nat)(hi:i<B.1.size)(N:j<B.1.size),B.1[i].born=B.1[j].born->i=j:=λi j hi N h=>by
  refine ES ab.2.2.1 (a:=B.1[i].born) ?_ ?_
  ·simp[hi]
  simp[N,h]
 rcases run_next_at (P:=P) w ty b G B.2 B.2 seen B.1 B.2 af ab.1 ab.2.1 (eb _)with ⟨aB,ae⟩| ⟨e,aa,aA,ah,ae⟩
 ·refine .inl ⟨λi hi=>?_,ae⟩
  have U:i<B.1.size:=by omega
  have:=all_seen B.1 seen aB B.1[i] (by simp)
  obtain⟨j,N,ai⟩:=(an _).1 this
  have ak:=au j N
  rw[yp (e7 ak)]at ai
  rw[aF i j U ak ai.symm];exact N
 obtain⟨aE,aj⟩:=mem_left aa
 obtain⟨i,hi,aD⟩:=gT.1 aE
 have U:i<B.1.size:=by simpa using hi
 have O:B.1[i]?=some e:=by rw[e7 U];simpa using aD
 have aI:i∉done:=λaC=>by
  have:=(an e.born).2 ⟨i,aC,yp O⟩
  rw[this]at aj;cases aj
 have al:F[i]?=some F[i]:=c3 (by omega)
 have aq:vs[i]?=some vs[i]:=c3 (by omega)
 refine .inr ⟨i,e.key,e.val,F[i],vs[i],_,al,aq,aI,ae,ax i e _ O al,ay i e _ O aq,Le.setKind Y rfl rfl (by simp),?_⟩
 have aK:aH w0 I0 aA I m l:=by rcases ah with rfl|rfl;exact Z;exact Z.drew
 have aJ:aA.heap[b]?=some (.mapIter (some G) B.2 seen B.2):=by rcases ah with rfl|rfl<;>exact af
 have ao:=p3 (o':=.mapIter (some G) B.2 (seen.push e.born) B.2) aJ
 refine aK.lg Y (by simp) (b:=b) (by rw[ad];rfl) av rfl rfl (Le.setKind Y rfl rfl (by simp)) rfl rfl rfl (eb _) (by simp[ChangeMaps.setBlock]) (λk aG=>ao.2 k aG) ?_
 exact⟨b,G,B,seen.push e.born,ad,aL,ao.1,ag,aw,aM,ax,ay,⟨by simp[az,yp O],λj N=>by
  rcases hP.1 N with h|h
  ·exact au j h
  simp at h;subst h;exact U⟩,av⟩
end
section
variable {P:Program}{V:Env}{w0:World}{I0:ay}{n:Nat}{Q:Exit->St->Prop}{s:St}{x y:Code}
def aL.V8(aF:cA P V){id E Y d F k:Nat}{aa vs:List D}{done:List Nat}{o M:Oper}(ag:o.op=.next (.tmp Y) false)(ao:o.dst=some d)(aM:o.guard=none)(aS:M.op=.extract (.tmp d) 0)(aI:M.dst=some F)(aO:M.guard=none)(aJ:d<n)(aK:F<n)(B:get s.t d=.undef)(aW:get s.t F=.undef)(aP:get s.t Y=.ptr k 0)(aQ:s.l[k]?=some (.iter aa vs done))(aD:∀i Z vd,aa[i]?=some Z->vs[i]?=some vd->i∉done->aL P w0 I0 n y ⟨s.t,s.l.set k (.iter aa vs (done++[i]))⟩ Q)(aE:(∀i,i<aa.length->i∈done)->Q (.exit E) ⟨(F,.d (.bool false))::(d,.d (.aN [.bool false]))::s.t,s.l⟩):aL P w0 I0 n ((Code.region id #[o,M] false).seq ((Code.cond (.tmp F) .skip (.exit E)).seq y)) s Q:=by
 refine aL.seq λa w U=>?_
 obtain⟨au,I,m,av,a7,aw⟩:=U
 have ah:=aw Y
 rw[aP]at ah
 generalize aZ:a.tmps.getD Y undef=ba at ah
 cases ah with
 |ptr _ b _ a8 a6=>
 have aV:∀(v:Value)(j:Nat),(a.put (some d) v).tmps.getD j undef=if j=d then v else a.tmps.getD j undef:=λv j=>by
  by_cases h:j=d
  ·subst h;simp[Act.put,gg,au,aJ]
  have:d≠j:=hS h
  simp[Act.put,gg,this,h]
 have ak:∀(v:Value)(w':World)(l':List AO)(t:T),Le I m s.l I m l'->aH w0 I0 w' I m l'->ar I m l' v t->Rel w0 I0 n ⟨bR s.t (some d) t,l'⟩ (a.put (some d) v) w':=λv w' l' t aR aj aY=>by
  refine⟨by simp[Act.put,au],I,m,aj,a7,λj=>?_⟩
  rw[aV]
  simp only[bR,get]
  by_cases h:j=d
  ·subst h;simp;exact aY
  rw[if_neg h,if_neg (hS h)];exact(aw j).mono aR
 refine F4 (l:=[o,M]) ?_
 unfold wpListIn
 have aj:Region.wanted o (yielded [o,M].toArray a.tmps)=true:=by simp[Region.wanted,aM]
 rw[if_pos aj]
 have aq:a.eval (.tmp Y)=.pointer (some ⟨b,0,none⟩):=by simpa [Act.eval,gg]using aZ
 have ax:∀(O:Bool)(ds:List D)(l':List AO)(N:Act)(w':World),Rel w0 I0 n ⟨bR s.t (some d) (.d (.aN (.bool O::ds))),l'⟩ N w'->aL P w0 I0 n ((Code.cond (.tmp F) .skip (.exit E)).seq y) ⟨(F,.d (.bool O))::(d,.d (.aN (.bool O::ds)))::s.t,l'⟩ Q ->
   wpListIn dc 0 P [o,M].toArray (λe N w'=>∃s',qw (λs'=>aL P w0 I0 n ((Code.cond (.tmp F) .skip (.exit E)).seq y) s' Q) Q e s'/\Rel w0 I0 n s' N w') [M] N w':=λO ds l' N w' aU a1=>by
  refine Dd (K:=λq=>q=⟨(F,.d (.bool O))::(d,.d (.aN (.bool O::ds)))::s.t,l'⟩) (md:=none) aF (λq a w aT U=>?_) [M] _ N w' aU ?_
  ·subst aT;exact⟨_,a1,U⟩
  simp[dP,aO,dA,fT,aX,aS,bN,bR,get,R.ok,holds,dJ,aI,aK,after]
 refine cp.wpIn (by simp[ag]) ?_
 rcases Wx (P:=P) av aQ a6 o.type with ⟨aG,ai⟩| ⟨i,key,val,Z,vd,w',ab,ad,ae,ai,az,aA,aB,aC⟩
 ·have af:(execOp a.eval o).run P w=.ok (.value (.tuple #[.bool false])) w:=by unfold execOp;simp[ag,aq,ai]
  rw[af]
  simp only[cp,ao]
  refine ax false [] s.l _ _ (ak _ w s.l _ (.refl ..) av (.d _ _ (.aN _ _ rfl λj u x B G=>?_))) ?_
  ·rcases j with _|j
   ·simp at B G;subst B;subst G;exact .bool _
   simp at B
  exact aL.seq (aL.cond (b:=false) (by simp[bN,get,yo]) (λh=>by cases h) (λ_=>aL.exit (aE aG)))
 have af:(execOp a.eval o).run P w=.ok (.value (.tuple #[.bool true,key,val])) w':=by unfold execOp;simp[ag,aq,ai]
 rw[af]
 simp only[cp,ao]
 refine ax true [Z,vd] _ _ _ (ak _ w' _ _ aB aC (.d _ _ (.aN _ _ rfl λj u x B G=>?_))) ?_
 ·rcases j with _|_|_|j
  ·simp at B G;subst B;subst G;exact .bool _
  ·simp at B G;subst B;subst G;exact az
  ·simp at B G;subst B;subst G;exact aA
  simp at B
 refine aL.seq (aL.cond (b:=true) (by simp[bN,get,yo]) (λ_=>aL.skip ?_) (λh=>by cases h))
 refine aL.sub ?_ (aD i Z vd ab ad ae)
 intro w0 I0 n a w U
 obtain⟨ab,I,m,ae,ad,ay⟩:=U
 refine⟨ab,I,m,ae,ad,λj=>?_⟩
 have:=ay j
 simp only[get]at this
 by_cases an:F=j
 ·subst an;rw[aW];exact .undef _
 rw[if_neg an]at this
 by_cases al:d=j
 ·subst al;rw[B];exact .undef _
 rw[if_neg al]at this;exact this
def aL.zm{σ ρ α:Type}[bP α](mm:List (Int×α))(F:List Nat->σ->St)(step:σ->Int×α->Option (σ⊕ρ))(Z:σ){out:σ⊕ρ}(h:ag.zm step mm Z=some out)(an:Sub s (F [] Z))(
   aq:∀(done:List Nat)(z:σ)(K:St->Prop),((∀i,i<mm.length->i∈done)->out=.inl z)->(∀i e,mm[i]?=some e->i∉done->∃o,step z e=some o/\(∀r,o=.inr r->out=.inr r)/\∀s' z',o=.inl z'->Sub s' (F (done++[i]) z')->K s') ->
   aL P w0 I0 n x (F done z) (qw K Q)):aL P w0 I0 n (.loop x) s Q:=by
 have ai:=VZ h
 refine aL.loop (X:=List Nat×σ) (λz=>F z.1 z.2) (λz=>z.1.Nodup/\(∀i∈z.1,i<mm.length)/\∀l,l.Perm (iJ z.1 0 mm)->iterM step l z.2=some out) (λz=>mm.length-z.1.length) ([],Z) ⟨by simp,by simp,λl G=>ai l (by rwa [Gg]at G)⟩ an λz Y=>?_
 obtain⟨done,z⟩:=z
 obtain⟨ae,aa,ah⟩:=Y
 refine aq done z _ (λaj=>?_) (λi e ab hi=>?_)
 ·have:=ah [] (by rw[Gf λi hi=>by simpa using aj i hi])
  simp only[iterM]at this
  injection this with this;exact this.symm
 have af:=Gh (done:=done) (k:=0) (i:=i) (m:=mm) ab (by simpa using hi)
 simp only[hV]at af
 have G:∀l,l.Perm (iJ (done++[i]) 0 mm)->iterM step (e::l) z=some out:=λl G=>ah _ ((G.cons e).trans af)
 have B:=G _ (.refl _)
 simp only[iterM]at B G
 have ad:i<mm.length:=(c5.1 ab).1
 cases U:step z e with
 |none=>rw[U]at B;cases B
 |some o=>
  refine⟨o,rfl,λr al=>?_,λs' z' Y ao=>⟨(done++[i],z'),⟨?_,?_,λl ak=>?_⟩,?_,ao⟩⟩
  ·subst al;rw[U]at B;injection B with B;exact B.symm
  ·rw[sb];exact⟨ae,by simp,λa N b M=>by simp at M;subst M;exact λe=>hi (e▸N)⟩
  ·intro j O
   rcases hP.1 O with h|h
   ·exact aa j h
   simp at h;subst h;exact ad
  ·have:=G l ak
   rw[U,Y]at this;exact this
  have:=Ly (done:=done++[i]) (n:=mm.length) (by rw[sb];exact⟨ae,by simp,λa N b M=>by simp at M;subst M;exact λe=>hi (e▸N)⟩) (λj O=>by
   rcases hP.1 O with h|h
   ·exact aa j h
   simp at h;subst h;exact ad)
  simp at this⊢;omega
def aL.V0{σ ρ α:Type}[bP α](mm:List (Int×α))(F:List Nat->σ->St)(step:σ->Int×α->Option (σ⊕ρ))(Z:σ)(Good:σ⊕ρ->Prop)(h:∀l,l.Perm mm->∃out,iterM step l Z=some out/\Good out)(an:Sub s (F [] Z))(
   aq:∀(done:List Nat)(z:σ)(K:St->Prop),((∀i,i<mm.length->i∈done)->Good (.inl z))->(∀i e,mm[i]?=some e->i∉done->∃o,step z e=some o/\(∀r,o=.inr r->Good (.inr r))/\∀s' z',o=.inl z'->Sub s' (F (done++[i]) z')->K s') ->
   aL P w0 I0 n x (F done z) (qw K Q)):aL P w0 I0 n (.loop x) s Q:=by
 refine aL.loop (X:=List Nat×σ) (λz=>F z.1 z.2) (λz=>z.1.Nodup/\(∀i∈z.1,i<mm.length)/\∀l,l.Perm (iJ z.1 0 mm)->∃out,iterM step l z.2=some out/\Good out) (λz=>mm.length-z.1.length) ([],Z) ⟨by simp,by simp,λl G=>h l (by rwa [Gg]at G)⟩ an λz Y=>?_
 obtain⟨done,z⟩:=z
 obtain⟨ae,aa,ag⟩:=Y
 refine aq done z _ (λah=>?_) (λi e ab hi=>?_)
 ·obtain⟨out,this,ai⟩:=ag [] (by rw[Gf λi hi=>by simpa using ah i hi])
  simp only[iterM]at this
  injection this with this;rw[this];exact ai
 have af:=Gh (done:=done) (k:=0) (i:=i) (m:=mm) ab (by simpa using hi)
 simp only[hV]at af
 have G:∀l,l.Perm (iJ (done++[i]) 0 mm)->∃out,iterM step (e::l) z=some out/\Good out:=λl G=>ag _ ((G.cons e).trans af)
 obtain⟨ar,B,aj⟩:=G _ (.refl _)
 simp only[iterM]at B G
 have ad:i<mm.length:=(c5.1 ab).1
 cases U:step z e with
 |none=>rw[U]at B;cases B
 |some o=>
  refine⟨o,rfl,λr al=>?_,λs' z' Y ao=>⟨(done++[i],z'),⟨?_,?_,λl ak=>?_⟩,?_,ao⟩⟩
  ·subst al;rw[U]at B;injection B with B;rw[B];exact aj
  ·rw[sb];exact⟨ae,by simp,λa N b M=>by simp at M;subst M;exact λe=>hi (e▸N)⟩
  ·intro j O
   rcases hP.1 O with h|h
   ·exact aa j h
   simp at h;subst h;exact ad
  ·have:=G l ak
   rw[U,Y]at this;exact this
  have:=Ly (done:=done++[i]) (n:=mm.length) (by rw[sb];exact⟨ae,by simp,λa N b M=>by simp at M;subst M;exact λe=>hi (e▸N)⟩) (λj O=>by
   rcases hP.1 O with h|h
   ·exact aa j h
   simp at h;subst h;exact ad)
  simp at this⊢;omega
end
end Go.ag
namespace Go.ag
open Go Go.RowKit
variable [bq][bX]
def te:T->Option (FuncId×List T)
 |.aD g ts=>some (g,ts)
 |.d (.fn g)=>some (g,[])
 |.d (.aD g ds)=>some (g,ds.map .d)
 |_=>none
def IP{I:ay}{m:Nat->Value}{l:List AO}{v:Value}{t:T}{g:FuncId}{ts:List T}(h:ar I m l v t)(j:te t=some (g,ts)) :
  ∃vs:Array Value,v=.func (.func g) #[] vs/\vs.size=ts.length/\∀(i:Nat) u x,vs[i]?=some u->ts[i]?=some x->ar I m l u x:=by
 unfold te at j
 split at j
 ·injection j with j;injection j with B F;subst B;subst F
  cases h with
  |aD _ vs _ M N=>exact⟨vs,rfl,M,N⟩
 ·injection j with j;injection j with B F;subst B;subst F
  have:=cz h;cases this
  exact⟨#[],rfl,rfl,by simp⟩
 ·injection j with j;injection j with B F;subst B;subst F
  have:=cz h
  cases this with
  |aD _ vs _ M N=>
   refine⟨vs,rfl,by simpa using M,λi u x O k=>?_⟩
   rw[et]at k
   rename_i ds
   cases G:ds[i]? with
   |none=>rw[G]at k;cases k
   |some d=>rw[G]at k;simp at k;subst k;exact .d _ _ (N i u d O G)
 cases j
section
variable {P:Program}{V:Env}{w0 w:World}{I0 I:ay}{m:Nat->Value}{l:List AO}{n:Nat}{Q:Exit->St->Prop}{s:St}{x y:Code}
theorem aH.frame(N:aH w0 I0 w I m l){vals:Nat->Value}{ft:Tm}(aj:∀k,ar I m l (vals k) (get ft k)) :
  aH w0 I0 w I (aP m l.length (.bool false)) (l++[.frame l.length vals ft])/\Le I m l I (aP m l.length (.bool false)) (l++[.frame l.length vals ft]):=by
 have G:∀k,k<l.length->(l++[AO.frame l.length vals ft])[k]?=l[k]?:=λk af=>e1 af
 have ao:(l++[AO.frame l.length vals ft])[l.length]?=some (.frame l.length vals ft):=by simp
 have ag:Le I m l I (aP m l.length (.bool false)) (l++[.frame l.length vals ft]):=by
  refine⟨.refl I,by simp,λid F Z=>⟨?_,bW m _ (by omega)⟩,λid F M=>⟨?_,bW m _ (by omega)⟩,λid ah s' els' F Y=>⟨els',?_⟩⟩
  ·unfold isVar at Z⊢;rw[G id F];exact Z
  ·unfold isRow at M⊢;rw[G id F]at M;exact M
  rw[G id F]at Y;exact Y
 have ae:∀k,k≠l.length->alive (l++[AO.frame l.length vals ft]) k=true->alive l k=true:=by
  intro k af ai
  obtain⟨o,B,ad⟩:=bM.1 ai
  have an:k<l.length:=by have:=(c5.1 B).1;simp at this;omega
  rw[G k an]at B
  exact bM.2 ⟨o,B,ad⟩
 refine⟨⟨N.below,N.sat,N.ext,λid o B=>?_,λi j b ak hi al O U=>?_⟩,ag⟩
 ·by_cases F:id<l.length
  ·rw[G id F]at B;rw[bW m _ (by omega)]
   by_cases ad:o=.dead
   ·subst ad;trivial
   exact(N.obj id o B).cM ag (λ_ _=>rfl) (λ_ _=>⟨rfl,rfl⟩) (.push (λ_ _ _=>rfl) rfl)
  have:id=l.length:=by have:=(c5.1 B).1;simp at this;omega
  subst this
  rw[ao]at B;injection B with B;subst B
  rw[dM]
  refine⟨rfl,by simp,λk=>?_⟩
  have e:(l++[AO.frame l.length vals ft]).take l.length=l:=by simp
  rw[e]
  refine(aj k).mono ⟨.refl I,eb _,λid F Z=>⟨Z,bW m _ (by omega)⟩,λid F M=>⟨M,bW m _ (by omega)⟩,λid ah s' els' F Y=>⟨els',Y⟩⟩
 by_cases aa:i=l.length
 ·subst aa;rw[dM]at O;cases O
 by_cases ab:j=l.length
 ·subst ab;rw[dM]at U;cases U
 rw[bW m _ aa]at O;rw[bW m _ ab]at U
 exact N.sep i j b ak (ae i aa hi) (ae j ab al) O U
def aH.HD(h:aH w0 I0 w I m l):∃J:ay,aH w0 I0 (w.alloc (.deferred (some []))) J m l/\Le I m l J m l/\J.df w.heap.size/\¬I.df w.heap.size:=by
 let J:ay:=⟨I.cell,I.mp,λb=>I.df b\/b=w.heap.size⟩
 have B:I.le J:=⟨λ_ _ _ h=>h,λ_ _ h=>h,λ_ h=>.inl h⟩
 have M:(w.alloc (.deferred (some []))).heap[w.heap.size]?=some (.deferred (some [])):=F8 w _
 obtain⟨N,O⟩:=h.call (J:=J) (dN.alloc (dN.refl _ _) (eb _) (.deferred (some []))) (.of B (λ_ _=>rfl) (λ_ _=>rfl))
  ⟨λb o v k=>by rw[uu w _ _ (h.sat.lt k)];exact h.sat.cell b o v k,λb F k=>dZ.to (Below.heap_alloc w _ b (h.sat.ny k)) (h.sat.mp b F k),
   λb j=>by
   rcases j with j|rfl
   ·exact(Below.heap_alloc w _ b (h.sat.kI j)).trans (h.sat.df b j)
   exact M,λg d G=>(h.sat.dz g d G).mono B⟩
 exact⟨J,N,O,.inr rfl,λj=>absurd (h.sat.kI j) (Nat.lt_irrefl _)⟩
def Cg(P:Program)(w0:World)(I0:ay)(n:Nat)(Q:Exit->St->Prop)(s:St)(id:Nat)(l':List AO):Prop:=
 ∃base k ps bc j tm st cY,l'[id]?=some (.loop base k ps bc j tm st cY)/\st ≠ .busy /\
  match cY with
  |none=>Q .normal ⟨s.t,l'.set id (.loop base k ps bc j tm .exhausted cY)⟩
  |some c=>aL P w0 I0 n c ⟨s.t,l'.set id (.loop base k ps bc j tm .exhausted cY)⟩ Q
def SC{w:World}{b:Nat}{r:Loop}{o:Obj}(h:w.heap[b]?=some (.loop r)):(w.putObj b o).heap[b]?=some o:=World.putObj_heap_same (e6.1 h).1
def aH.qz(U:aH w0 I0 w I m l){id b base k:Nat}{ps:Array Tmp}{bc F:Code}{tm:Tm}{st st':LoopState}{cY pend':Option Code}(O:l[id]?=some (.loop base k ps bc F tm st cY))(N:m id=.func (.yield b) #[] #[]) :
  ∃r,w.heap[b]?=some (.loop r)/\(r.state=st/\r.pending=cY/\r.params=ps/\r.assign=bc/\r.body=F/\r.tmps.size=k)/\base<=l.length/\(∀j,ar I m (l.take base) (r.tmps.getD j undef) (get tm j)) /\
   Le I m l I m (l.set id (.loop base k ps bc F tm st' pend'))/\aH w0 I0 (w.putObj b (.loop {r with state:=st',pending:=pend' })) I m (l.set id (.loop base k ps bc F tm st' pend')):=by
 obtain⟨af,r,B,ae,Y,G,Z,aa,ab⟩:=U.obj id _ O
 rw[N]at B;injection B with B;injection B with B;subst B
 have M:Le I m l I m (l.set id (.loop base k ps bc F tm st' pend')):=Le.setKind O rfl rfl (λe size els h=>by rcases h with h|h<;>cases h)
 refine⟨r,Y,G,Z,aa,M,?_⟩
 refine U.lg (w':=w.putObj b (.loop {r with state:=st',pending:=pend' })) O (by simp) (by rw[N];rfl) ab rfl rfl M rfl rfl rfl (eb _) (by simp) (λj ad=>World.putObj_heap_other ad) ?_
 exact⟨b,_,N,ae,SC Y,⟨rfl,rfl,G.2.2.1,G.2.2.2.1,G.2.2.2.2.1,G.2.2.2.2.2⟩,by simpa using Z,λj=>(aa j).mono (M.take base),ab⟩
def DI(t:Tm):∃F,get t F=.undef:=by
 have:∃B,∀k,B<=k->get t k=.undef:=by
  induction t with
  |nil=>exact⟨0,λ_ _=>rfl⟩
  |cons p r G=>
   obtain⟨i,t⟩:=p
   obtain⟨B,j⟩:=G
   exact⟨B+i+1,λk M=>by simp only[get];rw[if_neg (by omega)];exact j k (by omega)⟩
 obtain⟨B,j⟩:=this
 exact⟨B,j B (eb _)⟩
theorem aL.Yl(aQ:bX.r=none){g:Operand}{ps:Array Tmp}{assign body:Code}{gf:FuncId}{caps:List T}(az:te (bN s.t g)=some (gf,caps))(h:∀bc gO,bc=assign->gO=body->∀K:T->List AO->Prop,(∀u l',Cg P w0 I0 n Q s s.l.length l'->K u l')->iP P gf (.bf s.l.length::caps) (s.l++[.loop s.l.length n ps bc gO s.t .ready none]) K) :
  aL P w0 I0 n (.rangeFunc g ps assign body) s Q:=λa w U=>by
 obtain⟨ag,I,m,N,aC,ht⟩:=U
 obtain⟨vs,aH,aU,aB⟩:=IP (mg N.sat.dz ht g) az
 obtain⟨aE,aA⟩:=h assign body rfl rfl _ (λ_ _ h=>h)
 refine wpIn_rangeFunc ?_
 intro fn a7
 have aR:dc.round=none:=aQ
 rw[aR]
 obtain⟨J,ah,M,aw,av⟩:=N.HD
 obtain⟨j,Y⟩:∃j:Loop,j={state:=.ready,pending:=none,fn,tmps:=a.tmps,params:=ps,assign,body,defers:=w.heap.size}:=⟨_,rfl⟩
 have aM:((w.alloc (.deferred (some []))).alloc (.loop j)).heap[w.heap.size+1]?=some (.loop j):=by have:=F8 (w.alloc (.deferred (some []))) (.loop j);rwa [World.size_alloc]at this
 have aN:=ah.sat.dY (b:=w.heap.size+1) (by simp)
 have aO:dW w0.heap.size ((w.alloc (.deferred (some []))).alloc (.loop j)) J (aP m s.l.length (.func (.yield (w.heap.size+1)) #[] #[])) (s.l++[.loop s.l.length n ps assign body s.t .ready none]) (.func (.yield (w.heap.size+1)) #[] #[]) (.loop s.l.length n ps assign body s.t .ready none):=by
  refine⟨w.heap.size+1,j,rfl,?_,aM,?_,by simp,λk=>?_,aN⟩
  ·have:=N.below.size;omega
  ·rw[Y];exact⟨rfl,rfl,rfl,rfl,rfl,ag⟩
  have e:(s.l++[AO.loop s.l.length n ps assign body s.t .ready none]).take s.l.length=s.l:=by simp
  rw[e,Y]
  exact((ht k).mono M).mono ⟨.refl J,eb _,λid aa F=>⟨F,bW m _ (by omega)⟩,λid aa U=>⟨U,bW m _ (by omega)⟩,λid a6 s' els' aa aI=>⟨els',aI⟩⟩
 have aG:World.grownBy (w.alloc (.deferred (some []))) ((w.alloc (.deferred (some []))).alloc (.loop j)) none:=q2 _ _ _
 obtain⟨ab,aW⟩:=ah.xp (b0:=w.heap.size+1) rfl (by simp) aG (eb _) (by simp) aO
 have aj:ar J (aP m s.l.length (.func (.yield (w.heap.size+1)) #[] #[])) (s.l++[.loop s.l.length n ps assign body s.t .ready none]) (.func (.yield (w.heap.size+1)) #[] #[]) (.bf s.l.length):=.bf _ _ (by simp[isVar,AO.isVar]) (dM m _ _)
 refine⟨w.heap.size+1,[mark w.heap.size],(w.alloc (.deferred (some []))).alloc (.loop j),{target:=.fn (.func gf) vs,args:= #[.func (.yield (w.heap.size+1)) #[] #[]]},(w.alloc (.deferred (some []))).alloc (.loop j),gf,
  #[.func (.yield (w.heap.size+1)) #[] #[]]++vs,(w.alloc (.deferred (some []))).alloc (.loop j),?_,?_,λal _=>l8 al,?_,λh=>by simp[dc,Fence.wide]at h,?_⟩
 ·rw[Y];exact run_enterLoop_outer _ _ _ _ _
 ·simp only[resolve,aH]
  simp[go_sem]
 ·simp[invoke,aE _ _]
 refine CF ?_ _
 obtain⟨G,ax⟩:=DI s.t
 have ao:∀(i:Nat) v x,(#[Value.func (.yield (w.heap.size+1)) #[] #[]]++vs)[i]?=some v->(T.bf s.l.length::caps)[i]?=some x->ar J (aP m s.l.length (.func (.yield (w.heap.size+1)) #[] #[])) (s.l++[.loop s.l.length n ps assign body s.t .ready none]) v x:=λi v x F O=>by
  rcases i with _|i
  ·rw[ik (by simp)]at F
   simp at F O;subst F;subst O;exact aj
  have aT:vs[i]?=some v:=by
   rw[q1 (by simp)]at F
   simpa using F
  simp at O
  exact((aB i v x aT O).mono M).mono ab
 have aq:∀k,ar J (aP m s.l.length (.func (.yield (w.heap.size+1)) #[] #[])) (s.l++[.loop s.l.length n ps assign body s.t .ready none]) (if k=G then .func (.yield (w.heap.size+1)) #[] #[]else a.tmps.getD k undef) (get ((G,.bf s.l.length)::s.t) k):=λk=>by
  simp only[get]
  by_cases B:G=k
  ·subst B;simp only[hK];exact aj
  rw[if_neg B,if_neg (hS B)]
  exact((ht k).mono M).mono ab
 have au:=aA w0 I0 _ J _ (#[Value.func (.yield (w.heap.size+1)) #[] #[]]++vs) (λk=>if k=G then .func (.yield (w.heap.size+1)) #[] #[]else a.tmps.getD k undef) ((G,.bf s.l.length)::s.t) aW (by simp[aU];omega) ao aq
 refine au.mono ?_
 rintro e w' ⟨v,rfl,t,l',J',m',B,aV,F,aD,af⟩
 obtain⟨base,k,aX,bc,gO,tm,st,cY,aJ,aS,Z⟩:=B
 have ai:=af G
 simp only[get,hK]at ai
 have aK:m' s.l.length=.func (.yield (w.heap.size+1)) #[] #[]:=by
  cases ai with
  |bf _ _ _ an=>exact an
 obtain⟨r,aY,ak,a8,ba,aZ,a1⟩:=aV.qz (st':=.exhausted) (pend':=cY) aJ aK
 have aF:=run_endLoop (P:=P) aY (by rw[ak.1];exact aS)
 have ad:r.pending=cY:=ak.2.1
 refine⟨cY,_,by rw[<-ad];exact aF,?_⟩
 have ae:Rel w0 I0 n ⟨s.t,l'.set s.l.length (.loop base k aX bc gO tm .exhausted cY)⟩ {a with defers:=[mark w.heap.size]++a.defers} (w'.putObj (w.heap.size+1) (.loop {r with state:=.exhausted})):=by
  refine⟨ag,J',m',?_,?_,λk=>?_⟩
  ·have:({r with state:=.exhausted}:Loop)={r with state:=.exhausted,pending:=cY}:=by rw[<-ad]
   rw[this];exact a1
  ·refine ei.oM (I:=J) (ei.cons (aC.oM (J:=I) λ_ h=>h) (λb ay=>M.dg.df b ay) (by exact N.below.size) av aw) aD
  have:=af k
  simp only[get]at this
  by_cases B:G=k
  ·subst B
   rw[ax];exact .undef _
  rw[if_neg B,if_neg (hS B)]at this
  exact this.mono aZ
 cases cY with
 |none=>exact⟨_,Z,ae⟩
 |some c=>exact Z _ _ ae
def jL(E:cm)(ρ:Operand->T)(o:Oper):Option (Nat×List T):=match o.op with
 |.call c=>(match c.callee with
  |.value f=>(match ρ f with
   |.bf id=>some (id,fM E c.argTypes.toList (c.args.toList.map ρ))
   |_=>none)
  |_=>none)
 |_=>none
def abd{E:cm}{ρ ρ':Operand->T}{o:Oper}(h:∀x∈o.op.operands,ρ x=ρ' x):jL E ρ o=jL E ρ' o:=by
 unfold jL
 split
 ·rename_i c j
  split
  ·rename_i f F
   have k:=h f (by simp[j,Op.operands,Call.operands,F])
   have B:c.args.toList.map ρ=c.args.toList.map ρ':=hE λx G=>h x (by simp[j,Op.operands,Call.operands];right;simpa using G)
   rw[k,B]
  rfl
 rfl
def OU{E:cm}{ρT:Operand->T}{o:Oper}{x:Nat×List T}(h:jL E ρT o=some x):∀c,o.op ≠ .defer c:=by
 intro c j
 unfold jL at h
 rw[j]at h;cases h
theorem OV{E:cm}{o:Oper}{ρ:Operand->Value}{ρT:Operand->T}{id:Nat}{ts:List T}(Z:∀x∈o.op.operands,ar I m l (ρ x) (ρT x))(h:jL E ρT o=some (id,ts)) :
  ∃(b:Nat)(B:Array Value)(f:Operand),f∈o.op.operands/\ρ f=.func (.yield b) #[] #[]/\ρT f=.bf id/\m id=.func (.yield b) #[] #[]/\(execOp ρ o).run P w=(Instr.yield b B).run P w/\B.size=ts.length/\∀(i:Nat) v x,B[i]?=some v->ts[i]?=some x->ar I m l v x:=by
 unfold jL at h
 split at h
 ·rename_i c N
  split at h
  ·rename_i f G
   have Y:f∈o.op.operands:=by simp[N,Op.operands,Call.operands,G]
   have M:=Z f Y
   have ad:∀(i:Nat) v x,(c.args.toList.map ρ)[i]?=some v->(c.args.toList.map ρT)[i]?=some x->ar I m l v x:=by
    intro i v x j k
    rw[et]at j k
    cases F:c.args.toList[i]? with
    |none=>simp[F]at j
    |some a=>
     simp[F]at j k
     subst j;subst k
     refine Z a ?_
     simp only[N,Op.operands,Call.operands,G]
     have:=dk F
     simp at this⊢
     exact .inr this
   obtain⟨af,ae⟩:=BW (E:=E) c.argTypes.toList _ _ ad
   generalize aa:ρ f=aj at M
   split at h
   ·rename_i ah U
    rw[U]at M
    injection h with h;injection h with ab O;subst ab
    cases M with
    |bf _ b ai ag=>
     refine⟨b,c.args.map ρ,f,Y,aa,U,ag,?_,?_,λi v x j k=>?_⟩
     ·unfold execOp
      simp only[N,resolve,G,aa,Deferred.ofValue,fv,Sem.run_pure,Result.andThen_ok,invoke]
      simp
     ·rw[<-O];simp[af]
     rw[<-O]at k
     exact ae i v x (by simpa using j) k
   cases h
  cases h
 cases h
def kW(ps:List Tmp)(ts:List T)(tm:Tm):Tm:=(ps.zip ts).foldl (λs p=>(p.1,p.2)::s) tm
theorem Gm:∀(ps:List Tmp)(B:List Value)(ts:List T)(j:Array Value)(tm:Tm),B.length=ts.length->(∀(i:Nat) v x,B[i]?=some v->ts[i]?=some x->ar I m l v x)->(∀p∈ps,p<j.size)->(∀k,ar I m l (j.getD k undef) (get tm k)) ->
  ((ps.zip B).foldl (λt(p:Tmp×Value)=>t.setIfInBounds p.1 p.2) j).size=j.size/\∀k,ar I m l (((ps.zip B).foldl (λt(p:Tmp×Value)=>t.setIfInBounds p.1 p.2) j).getD k undef) (get (kW ps ts tm) k)
 | [],B,ts,j,tm,_,_,_,h=>⟨rfl,by simpa [kW]using h⟩
 |p::ps,[],[],j,tm,_,_,_,h=>⟨by simp,by simpa [kW]using h⟩
 |p::ps,v::B,t::ts,j,tm,F,N,M,h=>by
  have Y:p<j.size:=M p (by simp)
  obtain⟨O,U⟩:=Gm ps B ts (j.setIfInBounds p v) ((p,t)::tm) (by simpa using F) (λi u x aa ab=>N (i+1) u x (by simpa using aa) (by simpa using ab)) (λq Z=>by simpa using M q (by simp[Z])) (λk=>by
   simp only[get]
   by_cases G:p=k
   ·subst G
    rw[if_pos rfl,gg,Array.getElem?_setIfInBounds_self_of_lt Y]
    exact N 0 v t rfl rfl
   rw[if_neg G,gg,Array.getElem?_setIfInBounds_ne G,<-gg]
   exact h k)
  refine⟨by simpa using O,?_⟩
  simpa [kW]using U
 |p::ps,[],_::_,_,_,F,_,_,_=>by simp at F
 |p::ps,_::_,[],_,_,F,_,_,_=>by simp at F
def oD:Exit->Option (Option Code)
 |.normal=>some none
 |.ret=>some (some .ret)
 |.exit id=>some (some (.exit id))
 |.goto t=>some (some (.goto t))
 |_=>none
def uf(K:St->Prop):Exit->St->Prop
 |.normal,s=>K s
 |_,_=>False
def sO(s2:St)(at_:Nat)(vals:Nat->Value)(ft:Tm)(id base k:Nat)(ps:Array Tmp)(bc B:Code)(tm:Tm)(F:Option Code)(K:List AO->Prop):Prop:=∃j,Sub s2 j/\j.l[at_]?=some (.frame at_ vals ft)/\j.l[id]?=some (.loop base k ps bc B tm .busy none)/\K (j.l.set id (.loop base k ps bc B tm (if F.isNone then .ready else .done) F))
theorem dC.bf(bU:cA P V){ops:List Oper}{K:St->Prop}{o:Oper}{r:List Oper}{s:St}{id base k:Nat}{ts:List T}{ps:Array Tmp}{bc M:Code}{tm:Tm}{pc:PC}(bb:dA ops s.t o.guard=some pc)(ak:holds pc)(aU:dJ n o.dst=true)(an:jL V.E (bN s.t) o=some (id,ts))(bj:s.l[id]?=some (.loop base k ps bc M tm .ready none))(bq:ps.size=ts.length)(bp:ps.toList.all (λp=>decide (p<k))=true)(
   h:∀aq:Option Code->List AO->Prop,(∀B l',dC P n ops r ⟨bR s.t o.dst (.d (.bool B.isNone)),l'⟩ K->aq B l')->∀(R:bX)(w0:World)(I0:ay)(vals:Nat->Value)(ft:Tm)(Q:Exit->St->Prop),(∀e B s2,oD e=some B->sO s2 s.l.length vals ft id base k ps bc M tm B (aq B)->Q e s2) ->
   @aL _ R P w0 I0 k bc ⟨kW ps.toList ts tm,s.l++[.frame s.l.length vals ft]⟩ (uf λs1=>∃s2,Sub s1 s2/\s2.l[s.l.length]?=some (.frame s.l.length vals ft)/\s2.l[id]?=some (.loop base k ps bc M tm .ready none)/\@aL _ R P w0 I0 k M ⟨s2.t,s2.l.set id (.loop base k ps bc M tm .busy none)⟩ Q)):dC P n ops (o::r) s K:=by
 intro st bx ar w0 I0 a w Q aG bu aM
 have Y:∀x∈o.op.operands,bN st.t x=bN s.t x:=λx Y=>Db λt ht=>ar t (q0 _ (q3.2 ⟨x,by simpa using Y,by rw[ht]⟩))
 obtain⟨aB,I,m,af,aV,ht⟩:=bu
 have bH:=(ph (ops:=ops) (a:=a) ht ((DR ar).trans bb)).2 ak
 rw[if_pos bH]
 rw[bx]at af ht
 obtain⟨b,ad,f,bW,ba,G,bn,bw,ax,aO⟩:=OV (P:=P) (w:=w) (ρ:=a.eval) (λx _=>mg af.sat.dz ht x) ((abd Y).trans an)
 obtain⟨O,aQ,bt,bV,bE,_,_⟩:=af.qz (st':=.ready) (pend':=none) bj bn
 obtain⟨bZ,bY,az,has,aR,aC⟩:=bt
 obtain⟨j,rfl⟩:∃j,f=.tmp j:=by
  cases f with
  |tmp j=>exact⟨j,rfl⟩
  |const v=>
   exfalso
   simp only[bN,qT]at G
   split at G<;>cases G
  |global g=>
   exfalso
   simp only[bN]at G
   split at G<;>cases G
  |func g=>simp[bN]at G
 have bg:a.tmps.getD j undef=.func (.yield b) #[] #[]:=ba
 have bd:get st.t j=.bf id:=G
 have av:∀{ab:ay}{aa:Nat->Value}{ao:World}{l1:List AO},aH w0 I0 ao ab aa l1->l1[s.l.length]?=some (.frame s.l.length (λj=>a.tmps.getD j undef) st.t)->aa id=.func (.yield b) #[] #[]:=λ{ab aa ao l1} ag a1=>by
  have ae:=(ag.obj _ _ a1).2.2 j
  simp only[bg,bd]at ae
  cases ae with
  |bf _ _ _ ai=>exact ai
 unfold Oper.wpIn
 refine⟨λ_ _=>l8 _,?_⟩
 rw[Oper.semAt_eq _ _ _ (OU an),bw,run_yield aQ (by rw[az,ax,bq]),Oper.uponIn_round]
 refine⟨λh=>by simp[dc,Fence.wide]at h,?_⟩
 obtain⟨bI,aw⟩:=af.frame (vals:=λj=>a.tmps.getD j undef) (ft:=st.t) ht
 have aA:=Gm (m:=aP m s.l.length (.bool false)) (l:=s.l++[.frame s.l.length (λj=>a.tmps.getD j undef) st.t]) (I:=I) ps.toList ad.toList ts O.tmps tm (by simpa using ax) (λi v x bF Y=>(aO i v x (by simpa using bF) Y).mono aw) (λp ak=>by rw[aC];simpa using dT.1 bp p ak) (λq=>((bE q).mono (Le.vg I m s.l base)).mono aw)
 have a7:(O.params.zip ad).foldl (λtmps(x:Tmp×Value)=>tmps.setIfInBounds x.1 x.2) O.tmps=(ps.toList.zip ad.toList).foldl (λt(p:Tmp×Value)=>t.setIfInBounds p.1 p.2) O.tmps:=by rw[<-LB,Array.toList_zip,az]
 have bz:@Rel _ ⟨some b,I.df⟩ w0 I0 k ⟨kW ps.toList ts tm,s.l++[.frame s.l.length (λj=>a.tmps.getD j undef) st.t]⟩ {tmps:=(O.params.zip ad).foldl (λtmps(x:Tmp×Value)=>tmps.setIfInBounds x.1 x.2) O.tmps,defers:=[]} w:=by
  rw[a7]
  exact @Rel.mk _ ⟨some b,I.df⟩ _ _ _ _ _ _ (aA.1.trans aC) ⟨I,_,bI,@ei.nil _ ⟨some b,I.df⟩ _ _ λ_ h=>h,aA.2⟩
 have bG:=h (λB l'=>dC P n ops r ⟨bR s.t o.dst (.d (.bool B.isNone)),l'⟩ K) (λ_ _ h=>h) ⟨some b,I.df⟩ w0 I0 (λj=>a.tmps.getD j undef) st.t (λe s2=>∃B,oD e=some B/\@sO _ ⟨some b,I.df⟩ s2 s.l.length (λj=>a.tmps.getD j undef) st.t id base k ps bc M tm B (λl'=>dC P n ops r ⟨bR s.t o.dst (.d (.bool B.isNone)),l'⟩ K)) (λe B s2 ae ai=>⟨B,ae,ai⟩) _ _ bz
 refine roundIn_of_wpIn (F:=dc) (l8 _) ?_
 rw[has,aR]
 refine n4 (λe aI ao N=>?_) bG
 obtain⟨s1,N,br⟩:=N
 cases e<;>simp only[uf]at N
 obtain⟨s2,bA,a8,bl,aS⟩:=N
 obtain⟨bC,ab,aa,ag,aW,bD⟩:=bA _ _ _ _ _ br
 obtain⟨aF,bJ,aE,b1,b2,bK,bL⟩:=ag.qz (st':=.busy) (pend':=none) bl (av ag a8)
 have aT:=run_beginRound (P:=P) bJ aE.1
 refine⟨_,aT,?_⟩
 have aJ:({aF with state:=.busy}:Loop)={aF with state:=.busy,pending:=none}:=by rw[<-aE.2.1]
 rw[aJ]
 refine n4 (λe bT bS N=>?_) (aS aI _ (@Rel.mk _ ⟨some b,I.df⟩ _ _ _ _ _ _ bC ⟨ab,aa,bL,aW,λq=>(bD q).mono bK⟩))
 obtain⟨s',⟨B,aj,bQ,bB,au,bm,aN⟩,bs⟩:=N
 obtain⟨_,ah,aD,al,aX,b0⟩:=bB _ _ _ _ _ bs
 obtain⟨b6,bM,b3,b4,b5,bO,bP⟩:=al.qz (st':=if B.isNone then .ready else .done) (pend':=B) bm (av al au)
 have aY:=run_endRound (P:=P) B bM
 have bh:∀b,I.df b->ah.df b:=by
  obtain⟨_,_,_,_,aK⟩:=aX
  exact aK
 have a6:=(al.obj _ _ au).2.2
 have fin:∃v w',(Instr.endRound b B).run P bS=.ok v w'/\aG (a.put o.dst v) w':=by
  refine⟨_,_,aY,aM _ _ _ _ aN (λU=>?_) ⟨by cases o.dst<;>simp[Act.put,aB],ah,aD,bP,aV.xr bh,?_⟩⟩
  ·exfalso
   have Z:=an
   unfold jL at Z
   unfold mn ml at U
   split at Z
   ·rename_i c bo
    rw[bo]at U
    simp only[q9]at U
    split at Z
    ·rename_i f aZ;rw[aZ]at U;simp at U
    cases Z
   cases Z
  exact lU aB aU (λq=>((a6 q).mono (Le.vg ah aD bQ.l s.l.length)).mono bO) (.d _ _ (.bool _))
 cases e<;>simp only[oD,c4]at aj<;>first| (subst aj;exact fin)|cases aj
theorem dy.bf(N:cA P V){i:Nat}{ops:List Oper}{M:List Nat}{K:St->Prop}{o:Oper}(id:Nat)(ts:List T){base k:Nat}{ps:Array Tmp}{bc B:Code}{tm:Tm}{pc:PC}(G:ops[i]?=some o)(U:dA ops s.t o.guard=some pc)(aa:holds pc)(O:dJ n o.dst=true)(ae:jL V.E (bN s.t) o=some (id,ts))(Z:s.l[id]?=some (.loop base k ps bc B tm .ready none))(ad:ps.size=ts.length)(ab:ps.toList.all (λp=>decide (p<k))=true)(
   h:∀F:Option Code->List AO->Prop,(∀j l',dy P n ops (i+1) M ⟨bR s.t o.dst (.d (.bool j.isNone)),l'⟩ K->F j l')->∀(R:bX)(w0:World)(I0:ay)(vals:Nat->Value)(ft:Tm)(Q:Exit->St->Prop),(∀e j s2,oD e=some j->sO s2 s.l.length vals ft id base k ps bc B tm j (F j)->Q e s2) ->
   @aL _ R P w0 I0 k bc ⟨kW ps.toList ts tm,s.l++[.frame s.l.length vals ft]⟩ (uf λs1=>∃s2,Sub s1 s2/\s2.l[s.l.length]?=some (.frame s.l.length vals ft)/\s2.l[id]?=some (.loop base k ps bc B tm .ready none)/\@aL _ R P w0 I0 k B ⟨s2.t,s2.l.set id (.loop base k ps bc B tm .busy none)⟩ Q)):dy P n ops i M s K:=by
 unfold dy
 have Y:=(c5.1 G).1
 rw[hT Y,(c5.1 G).2]
 exact dC.bf N U aa O ae Z ad ab h
end
end Go.ag
namespace Go.ag
open Go Go.RowKit bP
variable [bq]
structure Bx(α:Type) where
 v:α
instance {α:Type} [bP α]:bP (Bx α):=⟨λb=>.box (enc b.v),λd=>match d with |.box d=>⟨dec d⟩|d=>⟨dec d⟩,1,λb=>by simp only[vG],λ_=>rfl,by simp[D.cells,D.one]⟩
theorem Jl{α:Type}[bP α](b:Bx α):enc b=.box (enc b.v):=rfl
theorem I7{α:Type}[bP α](d:D):(dec (.box d):Bx α)=⟨dec d⟩:=rfl
theorem NB{α:Type}[bP α]:size (Bx α)=1:=rfl
def CR(g:FuncId):Option D->Bool
 |some (.aD g' _)=>g == g'
 |some (.fn g')=>g == g'
 |_=>false
def Nq(i:Nat)(g:FuncId)(s t:Spec):Spec:=λds=>if CR g ds[i]?=true then s ds else t ds
section
variable [bX]{P:Program}{g:FuncId}
end
section
variable {w0 w:World}{I0 I:ay}{m:Nat->Value}{l:List AO}
def aH.Y6(h:aH w0 I0 w I m l){g:Nat}{cur:Array Value}{e:TypeId}{Z:Nat×Nat}(ah:w0.heap.size<=g)(ad:w.heap[g]?=some (.cells cur e Z))(G:I.dY g)(ab:∀id,alive l id=true->own (m id)≠some g) :
  aH w0 I0 w (I.dH g cur.toList) m l/\Le I m l (I.dH g cur.toList) m l:=by
 let J:=I.dH g cur.toList
 have B:∀b,b≠g->J.cell b=I.cell b:=λb j=>by funext o;simp[J,ay.dH,j]
 have F:I.le J:=⟨λb o v k=>by
  have j:b≠g:=by rintro rfl;rw[G.1 o]at k;cases k
  rw[B b j];exact k,λ_ _ h=>h,λ_ h=>h⟩
 have N:Le I m l J m l:=⟨F,eb _,λ_ _ h=>⟨h,rfl⟩,λ_ _ h=>⟨h,rfl⟩,λ_ _ _ els _ h=>⟨els,h⟩⟩
 have ag:du w J:=⟨λb o v k=>by
  by_cases j:b=g
  ·subst j
   simp only[J,ay.dH,hK]at k
   cases M:cur[o]? with
   |none=>simp[M,G.1 o]at k
   |some x=>simp[M]at k;subst k;simp[World.cell?,ad,M]
  rw[B b j]at k;exact h.sat.cell b o v k,h.sat.mp,h.sat.df,λg d aa=>(h.sat.dz g d aa).mono F⟩
 refine⟨⟨h.below,ag,⟨λb o v k=>F.cell b o v (h.ext.lc b o v k),h.ext.lm,h.ext.ld,λb j=>(B b (by omega)).trans (h.ext.cell b j),h.ext.mp⟩,λid o O=>?_,h.sep⟩,N⟩
 have U:=h.obj id o O
 have key:(∀b,own (m id)=some b->b≠g)->dW w0.heap.size w J m l (m id) o:=λae=>U.cM N (λ_ _=>rfl) (λb j=>⟨B b (ae b j),rfl⟩) ⟨λb u Y _=>⟨rfl,B b (λe=>by subst e;rw[G.1]at Y;cases Y),rfl⟩,λq b af j=>.inl ⟨q,af,j⟩⟩
 cases o with
 |dead=>trivial
 |frame base vals t=>exact key λb j=>by rw[U.1]at j;cases j
 |_=>exact key λb j e=>ab id (bM.2 ⟨_,O,by simp[AO.isVar,AO.isRow]⟩) (e▸j)
variable [bX]{s:St}
end
end Go.ag
namespace Go.Sy
open Go Go.ag
mutual
def eI:T->List Nat
 |.ptr id _=>[id]
 |.row id=>[id]
 |.bw id _ _=>[id]
 |.map id=>[id]
 |.bf id=>[id]
 |.cE id _=>[id]
 |.sub id _ _=>[id]
 |.bJ id _=>[id]
 |.aN ts=>mT ts
 |.cond _ t=>eI t
 |.aD _ ts=>mT ts
 |.agg ts=>mT ts
 |_=>[]
def mT:List T->List Nat
 | []=>[]
 |t::ts=>eI t++mT ts
end
def x9:∀{ts:List T}{i:Nat}{t:T}{r:Nat},ts[i]?=some t->r∈eI t->r∈mT ts
 | [],i,t,r,h,_=>by simp at h
 |u::ts,i,t,r,h,j=>by
  simp only[mT,hP]
  cases i with
  |zero=>simp at h;subst h;exact .inl j
  |succ i=>exact .inr (x9 (by simpa using h) j)
variable [bq][bX]
structure O2(m:Nat->Value)(l:List AO)(m':Nat->Value)(l':List AO)(r:Nat):Prop where
 lt:r<l'.length
 var:ag.isVar l r=true->ag.isVar l' r=true
 row:ag.isRow l' r=true->ag.isRow l r=true
 rows:∀e size els,(l'[r]?=some (.row e size els)\/l'[r]?=some (.br e size els))->∃els',(l[r]?=some (.row e size els')\/l[r]?=some (.br e size els'))
 val:m' r=m r
def ar.loc{I:ay}{m m':Nat->Value}{l l':List AO}{v:Value}{t:T}(h:ar I m l v t)(F:∀r∈eI t,O2 m l m' l' r):ar I m' l' v t:=by
 induction h with
 |undef v=>exact .undef v
 |d v x r=>exact .d v x r
 |bC s=>exact .bC s
 |ptr id b off B j=>
  have k:=F id (by simp[eI])
  exact .ptr id b off (k.var B) (k.val.trans j)
 |bB b o size els k off val B j N Y=>exact .bB b o size els k off val B j N Y
 |row A n c id B j=>
  have k:=F id (by simp[eI])
  exact .row A n c id k.lt λG=>k.val.trans (j (k.row G))
 |bw a id q off B j=>
  have k:=F id (by simp[eI])
  refine .bw a id q off k.lt λe size els G=>?_
  obtain⟨els',U⟩:=k.rows e size els G
  obtain⟨b,n,c,Z,aa⟩:=j e size els' U
  exact⟨b,n,c,k.val.trans Z,aa⟩
 |sub A n c id lo hi B j=>
  have k:=F id (by simp[eI])
  refine .sub A n c id lo hi k.lt λe size els G=>?_
  obtain⟨els',U⟩:=k.rows e size els G
  obtain⟨ab,n0,ad,Z,aa⟩:=j e size els' U
  exact⟨ab,n0,ad,k.val.trans Z,aa⟩
 |bJ A n c id x B j N=>
  have k:=F id (by simp[eI])
  exact .bJ A n c id x k.lt (λG=>k.val.trans (j (k.row G))) N
 |map r id B j=>
  have k:=F id (by simp[eI])
  exact .map r id k.lt λG=>k.val.trans (j (k.row G))
 |aN vs ts B _ M=>exact .aN vs ts B λi v t O ht=>M i v t O ht λr h=>F r (by simp only[eI];exact x9 ht h)
 |cond v pc t _ ae M=>exact .cond v pc t (λaf=>M af λr h=>F r (by simpa [eI]using h)) ae
 |aD g vs ts B _ M=>exact .aD g vs ts B λi v t O ht=>M i v t O ht λr h=>F r (by simp only[eI];exact x9 ht h)
 |bf id b B j=>
  have k:=F id (by simp[eI])
  exact .bf id b (k.var B) (k.val.trans j)
 |cE id b n c B j N Y=>
  have k:=F id (by simp[eI])
  exact .cE id b n c (k.var B) (k.val.trans j) N Y
 |agg vs ts B j _ M=>exact .agg vs ts B j λi v t O ht=>M i v t O ht λr h=>F r (by simp only[eI];exact x9 ht h)
def J9:AO->Option (Nat×Tm)
 |.frame b _ t=>some (b,t)
 |.loop b _ _ _ _ t _ _=>some (b,t)
 |_=>none
def vl(ids:List Nat)(l:List AO):Prop:=∀id∈ids,∀o b t,l[id]?=some o->J9 o=some (b,t)->b<=ids.length/\∀k,∀r∈eI (get t k),r<b/\ids[r]?=some r
def MS{w0 w:World}{I0 I:ay}{m:Nat->Value}{l:List AO}{ids:List Nat}(h:aH w0 I0 w I m l)(aB:ids.Nodup)(az:vl ids l):aH w0 I0 w I (λk=>m ((ids[k]?).getD 0)) (c6 ids l):=by
 have ag:∀(k id:Nat),ids[k]?=some id->(λk:Nat=>m ((ids[k]?).getD 0)) k=m id:=λk id B=>by simp[B]
 have ae:∀{k:Nat}{o:AO},(c6 ids l)[k]?=some o->∃id,ids[k]?=some id:=λ{k o} B=>by
  cases hi:ids[k]? with
  |none=>simp[c6,hi]at B
  |some id=>exact⟨id,rfl⟩
 have an:∀{k id:Nat},ids[k]?=some id->alive (c6 ids l) k=alive l id:=λB=>by unfold alive;rw[lV B,nN B]
 refine⟨h.below,h.sat,h.ext,λk o aq=>?_,λi j b aA hi af=>?_⟩
 ·obtain⟨id,B⟩:=ae aq
  have O:=uL (l:=l) B
  rw[aq]at O
  cases ab:l[id]? with
  |none=>rw[ab]at O;simp[AO.bV]at O;subst O;trivial
  |some o'=>
   rw[ab]at O;simp only[Option.getD_some,c4]at O
   have F:=h.obj id o' ab
   show dW _ _ _ _ _ (m ((ids[k]?).getD 0)) o
   rw[B,O];simp only[Option.getD_some]
   have pre:∀(b:Nat)(t:Tm),J9 o'=some (b,t)->b<=(c6 ids l).length/\∀(v:Value)(j:Nat),ar I m (l.take b) v (get t j)->ar I (λk=>m ((ids[k]?).getD 0)) ((c6 ids l).take b) v (get t j):=λb t ax=>by
    obtain⟨Y,Z⟩:=az id (dk B) o' b t ab ax
    refine⟨by simpa [c6]using Y,λv j aE=>ar.loc aE λr aF=>?_⟩
    obtain⟨N,G⟩:=Z j r aF
    refine⟨by simp[c6];omega,λU=>?_,λU=>?_,λe size els ao=>⟨els,?_⟩,ag r r G⟩
    ·rw[zg N]at U⊢;exact(lV G).trans U
    ·rw[ze N]at U⊢;exact(nN G).symm.trans U
    rw[gl,if_pos N]at ao⊢;exact By G ao
   cases o' with
   |dead=>trivial
   |var ty cs=>
    obtain⟨b,vs,N,G,ai,av,ad,aj⟩:=F
    refine⟨b,vs,N,G,ai,by simp[av],λi x t au ht=>?_,aj⟩
    rw[et]at ht
    cases M:cs[i]? with
    |none=>rw[M]at ht;simp at ht
    |some t0=>
     rw[M]at ht;simp at ht;subst ht
     exact⟨(ad i x t0 au M).1.bV ag,(ad i x t0 au M).2⟩
   |row e size els=>exact F
   |br e size els=>exact F
   |map ah vs=>exact F
   |dR ah vs=>exact F
   |bz e size ah vs aN=>exact dW.gm (λq aD=>MT (m':=λk=>m ((ids[k]?).getD 0)) ag aD) F
   |iter ah vs done=>exact F
   |frame b vals t=>
    obtain⟨Y,Z⟩:=pre b t rfl
    exact⟨F.1,Y,λj=>Z _ j (F.2.2 j)⟩
   |loop b n ps bc aI t st cY=>
    obtain⟨aw,r,aG,N,G,ai,av,ad,aj⟩:=F
    obtain⟨Y,Z⟩:=pre b t rfl
    exact⟨aw,r,aG,N,G,ai,Y,λj=>Z _ j (ad j),aj⟩
 obtain⟨aL,N,_⟩:=bM.1 hi
 obtain⟨aM,G,_⟩:=bM.1 af
 obtain⟨a,aa⟩:=ae N
 obtain⟨c,M⟩:=ae G
 rw[an aa]at hi;rw[an M]at af
 have aC:a≠c:=λe=>by
  subst e
  have ak:=c5.1 aa
  have al:=c5.1 M
  obtain⟨ak,aJ⟩:=ak;obtain⟨al,aK⟩:=al
  exact aA (ES aB aa M)
 simp only[aa,M,Option.getD_some]
 exact h.sep a c b aC hi af
section
variable {P:Program}{V:Env}{s:St}
def ZR(ids:List Nat){t':Tm}{l':List AO}(Z:ids.Nodup)(O:vl ids s.l)(Y:c6 ids s.l=l')(N:kx ids s.t t'):Sub s ⟨t',l'⟩:=by
 subst Y
 intro w0 I0 n a w aa
 obtain⟨B,I,m,G,F,M⟩:=aa
 refine⟨B,I,_,MS G Z O,F,λj=>?_⟩
 rcases yU N j with h|h
 ·rw[h];exact .undef _
 rw[h];exact(M j).bV λk id U=>by simp[U]
def ZP(j id:Nat)(d:D)(ids:List Nat){ty:TypeId}{t':Tm}{l':List AO}(aq:get s.t j=.ptr id 0)(aa:s.l[id]?=some (.var ty (d.cells.map .d)))(aj:∀x∈d.cells,x.one=true)(ao:id∉ids)(au:ids.Nodup)(al:vl ids s.l)(ar:c6 ids s.l=l')(ak:kx ids s.t t') :
  Sub s ⟨(j,.d (.box d))::t',l'⟩:=by
 subst ar
 intro w0 I0 n a w ax
 obtain⟨ae,I,m,N,af,Z⟩:=ax
 obtain⟨b,vs,F,aB,aC,ad,aD,aE⟩:=N.obj id _ aa
 have az:=MS N au al
 have ai:alive s.l id=true:=bM.2 ⟨_,aa,by simp⟩
 have an:∀k,alive (c6 ids s.l) k=true->own (m ((ids[k]?).getD 0))≠some b:=by
  intro k B
  obtain⟨o,aw,_⟩:=bM.1 B
  have M:=(c5.1 aw).1
  have M:k<ids.length:=by simpa [c6]using M
  have O:ids[k]?=some ids[k]:=c3 M
  have av:ids[k]≠id:=λe=>ao (e▸h6 M)
  have ah:alive s.l ids[k]=true:=by unfold alive at B⊢;rw[lV O,nN O]at B;exact B
  rw[O]
  exact N.sep id ids[k] b (hS av) ai ah (by rw[F];rfl)
 obtain⟨aF,Y⟩:=az.Y6 aB aC aE an
 refine⟨ae,_,_,aF,af.mono Y.dg,λk=>?_⟩
 simp only[ag.get]
 by_cases B:j=k
 ·subst B
  rw[if_pos rfl]
  have G:=Z j
  rw[aq]at G
  generalize a.tmps.getD j undef=v at G
  cases G with
  |ptr _ aG _ aH aA=>
   rw[aA]at F;injection F with F;injection F with F;injection F with F;subst F
   refine .d _ _ (.box _ _ (λk=>(vs[k]?).getD undef) aj (λk B=>?_) λk x ab=>?_)
   ·have U:k<vs.size:=by rw[ad];simpa using B
    simp[ay.dH,U]
   have U:k<vs.size:=by rw[ad];simpa using (c5.1 ab).1
   have G:vs[k]?=some vs[k]:=e7 U
   rw[G]
   exact(cz (aD k _ (.d x) G (by simp[ab])).1).mono Y.dg
 rw[if_neg B]
 rcases yU ak k with h|h
 ·rw[h];exact .undef _
 rw[h];exact((Z k).bV λk id B=>by simp[B]).mono Y
def ZO{s:St}{t':Tm}(h:∀k,get t' k=.undef\/get t' k=get s.t k):Sub s ⟨t',s.l⟩:=by
 intro w0 I0 n a w M
 obtain⟨j,I,m,F,B,G⟩:=M
 refine⟨j,I,m,F,B,λk=>?_⟩
 rcases h k with e|e
 ·show ar I m s.l _ (get t' k);rw[e];exact .undef _
 show ar I m s.l _ (get t' k);rw[e];exact G k
end
end Go.Sy
namespace Go.Sy
open Go Go.ag
variable [aG]
inductive RX(ρ:aS):TX->T->Prop
 |undef (t):RX ρ .undef t
 |gone:RX ρ .gone ag.gone
 |d (t x) (v:t.den):isVal t->x.den ρ=some ⟨t,v⟩->RX ρ (.d t x) (.d (t.enc v))
 |bC (s):RX ρ (.bC s) (.bC s)
 |ev:RX ρ .ev (.d (.map [] []))
 |ptr (id off):RX ρ (.ptr id off) (.ptr id off)
 |bB (t e b off size els k) (v:t.den):isVal t->e.den ρ=some ⟨t,v⟩->k<els.length->((eK els k).cells.drop b).take t.size=(t.enc v).cells->b+t.size<=size->(b=0->size=t.size->eK els k=t.enc v) ->
   RX ρ (.bB t e off) (.bB size els k (b+off))
 |row (id):RX ρ (.row id) (.row id)
 |bw (id k off kk) (n:Int):k.den ρ=some ⟨.int kk,n⟩->RX ρ (.bw id k off) (.bw id n.toNat off)
 |map (id):RX ρ (.map id) (.map id)
 |bf (id):RX ρ (.bf id) (.bf id)
 |cE (id n):RX ρ (.cE id n) (.cE id n)
 |bJ (id t x) (xs:List t.den):x.den ρ=some ⟨.list t,xs⟩->RX ρ (.bJ id t x) (.bJ id (.slice t.size (xs.map t.enc)))
 |sub (id lo hi) (k1 k2:IntKind) (n h:Int):0<=n->lo.den ρ=some ⟨.int k1,n⟩->hi.den ρ=some ⟨.int k2,h⟩->RX ρ (.sub id lo hi) (.sub id n.toNat h.toNat)
 |agg (cs ts):cs.length=ts.length->(∀(i:Nat) c t,cs[i]?=some c->ts[i]?=some t->RX ρ c t)->RX ρ (.agg cs) (.agg ts)
 |jo (cs) (ds:List D):cs.length=ds.length->(∀(i:Nat) c d,cs[i]?=some c->ds[i]?=some d->RX ρ c (.d d))->RX ρ (.agg cs) (.d (.agg ds))
 |aN (cs ts):cs.length=ts.length->(∀(i:Nat) c t,cs[i]?=some c->ts[i]?=some t->RX ρ c t)->RX ρ (.aN cs) (.aN ts)
 |fW (cs) (ds:List D):cs.length=ds.length->(∀(i:Nat) c d,cs[i]?=some c->ds[i]?=some d->RX ρ c (.d d))->RX ρ (.aN cs) (.d (.aN ds))
 |ju (f cs) (ds:List D):cs.length=ds.length->(∀(i:Nat) c d,cs[i]?=some c->ds[i]?=some d->RX ρ c (.d d))->RX ρ (.aD f cs) (.d (.aD f ds))
 |aD (f cs ts):cs.length=ts.length->(∀(i:Nat) c t,cs[i]?=some c->ts[i]?=some t->RX ρ c t)->RX ρ (.aD f cs) (.aD f ts)
theorem RX.mono{ρ ρ':aS}(h:Ext ρ ρ'){c:TX}{t:T}(k:RX ρ c t):RX ρ' c t:=by
 induction k with
 |undef t=>exact .undef t
 |gone=>exact .gone
 |d t x v j F=>exact .d t x v j (X.eW h F)
 |bC s=>exact .bC s
 |ev=>exact .ev
 |ptr i o=>exact .ptr i o
 |bB t e b off size els k v j F M N O U=>exact .bB t e b off size els k v j (X.eW h F) M N O U
 |row i=>exact .row i
 |bw id k off kk n j=>exact .bw id k off kk n (X.eW h j)
 |map i=>exact .map i
 |bf i=>exact .bf i
 |cE i n=>exact .cE i n
 |bJ id t x xs j=>exact .bJ id t x xs (X.eW h j)
 |sub id lo hi Y Z n m G j F=>exact .sub id lo hi Y Z n m G (X.eW h j) (X.eW h F)
 |agg cs ts j _ B=>exact .agg cs ts j B
 |jo cs ds j _ B=>exact .jo cs ds j B
 |aN cs ts j _ B=>exact .aN cs ts j B
 |fW cs ds j _ B=>exact .fW cs ds j B
 |ju f cs ds j _ B=>exact .ju f cs ds j B
 |aD f cs ts j _ B=>exact .aD f cs ts j B
inductive LF where
 |frame (b:Nat) (vals:Nat->Value) (ft:Tm)
 |loop (b k:Nat) (ps:Array Tmp) (bc body:Code) (tm:Tm)
class cQ where
 lam:Nat->Option LF
instance (priority:=low) VM:cQ:=⟨λ_=>none⟩
def IV:Ex->Code
 |.ret=>.ret
 |.exit i=>.exit i
 |_=>.skip
def pX:Ls->LoopState
 |.ready=>.ready
 |.busy=>.busy
 |.done _=>.done
def rE:Ls->Option Code
 |.done e=>some (IV e)
 |_=>none
def mR(ft:Tm)(rs:List Nat):Prop:=∀k,∀r∈eI (get ft k),r∈rs
def Kz:AO->Bool
 |.frame .. =>true
 |.loop .. =>true
 |_=>false
variable [cQ]
inductive bT(ρ:aS):AX->AO->Prop
 |dead:bT ρ .dead .dead
 |var (ty cs ts):F2 (RX ρ) cs ts->bT ρ (.var ty cs) (.var ty ts)
 |row (e t x) (xs:List t.den):isVal t->x.den ρ=some ⟨.list t,xs⟩->bT ρ (.row false e t x) (.row e t.size (xs.map t.enc))
 |br (e t x) (xs:List t.den):isVal t->x.den ρ=some ⟨.list t,xs⟩->bT ρ (.row true e t x) (.br e t.size (xs.map t.enc))
 |map (k v x) (m:List (k.den×v.den)):isVal k->isVal v->x.den ρ=some ⟨.map k v,m⟩->bT ρ (.map false k v x) (.map (m.map λp=>k.enc p.1) (m.map λp=>v.enc p.2))
 |dR (k v x) (m:List (k.den×v.den)):isVal k->isVal v->x.den ρ=some ⟨.map k v,m⟩->bT ρ (.map true k v x) (.dR (m.map λp=>k.enc p.1) (m.map λp=>v.enc p.2))
 |bz (e kk t x) (m:List (Int×List t.den)):isVal t->0<t.size->x.den ρ=some ⟨.map (.int kk) (.list t),m⟩->bT ρ (.bz e kk t x) (.bz e t.size (m.map λp=>D.int kk p.1) (m.map λp=>(Ty.list t).enc p.2) none)
 |fz (e kk t x k) (m:List (Int×List t.den)) (n:Int):isVal t->0<t.size->x.den ρ=some ⟨.map (.int kk) (.list t),m⟩->k.den ρ=some ⟨.int kk,n⟩->bT ρ (.fz e kk t x k) (.bz e t.size (m.map λp=>D.int kk p.1) (m.map λp=>(Ty.list t).enc p.2) (some ((eu n (m.map λp=>D.int kk p.1) 0).getD (m.map λp=>D.int kk p.1).length)))
 |dD (j b rs vals ft):cQ.lam j=some (.frame b vals ft)->mR ft rs->bT ρ (.dD j b rs) (.frame b vals ft)
 |lp (j b rs st k ps bc body tm):cQ.lam j=some (.loop b k ps bc body tm)->mR tm rs->bT ρ (.lp j b rs st) (.loop b k ps bc body tm (pX st) (rE st))
 |eO (o):Kz o=true->bT ρ .eO o
theorem bT.mono{ρ ρ':aS}(h:Ext ρ ρ'){a:AX}{o:AO}(k:bT ρ a o):bT ρ' a o:=by
 cases k with
 |dead=>exact .dead
 |var ty cs ts B=>exact .var ty cs ts (B.mono λ_ _=>RX.mono h)
 |row e t x xs F B=>exact .row e t x xs F (X.eW h B)
 |br e t x xs F B=>exact .br e t x xs F (X.eW h B)
 |map k v x m F G B=>exact .map k v x m F G (X.eW h B)
 |dR k v x m F G B=>exact .dR k v x m F G (X.eW h B)
 |bz e kk t x m F G B=>exact .bz e kk t x m F G (X.eW h B)
 |fz e kk t x k m n F G B N=>exact .fz e kk t x k m n F G (X.eW h B) (X.eW h N)
 |dD j b rs vals ft B G=>exact .dD j b rs vals ft B G
 |lp j b rs st k ps bc M tm B G=>exact .lp j b rs st k ps bc M tm B G
 |eO o h=>exact .eO o h
abbrev RL(ρ:aS):List AX->List AO->Prop:=F2 (bT ρ)
theorem RL.mono{ρ ρ':aS}(h:Ext ρ ρ'){l:List AX}{m:List AO}(k:RL ρ l m):RL ρ' l m:=F2.mono (λ_ _=>bT.mono h) k
structure bn(ρ:aS)(σ:Sk)(s:St):Prop where
 eT:ey σ.n ρ
 t:∀k,RX ρ (bd σ.t k) (get s.t k)
 l:RL ρ σ.l s.l
theorem th(t:Ty)(xs:List t.den):Ty.enc (.list t) xs=.slice t.size (xs.map t.enc):=rfl
def I2{t:TX}{p:Ty×X}(h:tf t=some p):t=.d p.1 p.2:=by
 cases t<;>simp[tf]at h
 subst h;rfl
def YM{ρ:aS}{cs:List (Ty×X)}{ds:List D}(h:F2 (RC ρ) cs ds):F2 (RX ρ) (cs.map λp=>.d p.1 p.2) (ds.map .d):=by
 induction h with
 |nil=>exact .nil
 |cons j _ F=>
  obtain⟨k,v,B,rfl⟩:=j
  exact .cons (.d _ _ v k B) F
def MK{ρ:aS}:∀{cs:List TX}{ts:List T}{ps:List (Ty×X)},F2 (RX ρ) cs ts->cs.mapM tf=some ps->∃ds,ts=ds.map .d/\F2 (RC ρ) ps ds
 | [],[],ps,_,h=>by simp at h;subst h;exact⟨[],rfl,.nil⟩
 |c::cs,t::ts,ps,.cons j k,h=>by
  simp only[k8,Option.bind_eq_bind,k3,Option.pure_def,c4]at h
  obtain⟨p,B,O,F,rfl⟩:=h
  have:=I2 B
  subst this
  obtain⟨ds,rfl,N⟩:=MK k F
  cases j with
  |d t x v G M=>exact⟨_::ds,rfl,.cons ⟨G,v,M,rfl⟩ N⟩
def kq{ρ:aS}{t:Ty}{x:X}{u:T}(h:RX ρ (.d t x) u):isVal t/\∃v:t.den,x.den ρ=some ⟨t,v⟩/\u=.d (t.enc v):=by
 cases h with
 |d t x v j k=>exact⟨j,v,k,rfl⟩
theorem SE(t:Ty)(v:t.den):bx (.d (t.enc v))=(t.enc v).cells.map .d:=rfl
def vH[cK]{t:Ty}(B:isVal t)(v:t.den):∀d∈(t.enc v).cells,d.one=true:=by
 by_cases k:ct t=true
 ·cases t<;>simp[ct]at k
  exact cK.zO _ v
 have:=lC (by simpa using k) B.1 B.2 v
 rw[this.1];intro d j;simp at j;subst j;exact this.2
def ku[cK]{t:Ty}(k:isVal t)(v:t.den):(t.enc v).cells.length=t.size:=by
 by_cases j:ct t=true
 ·cases t<;>simp[ct]at j
  exact cK.len _ v
 rw[(lC (by simpa using j) k.1 k.2 v).1]
 cases t<;>simp_all [ct,Ty.size]
def W4[cK]{ρ:aS}{x:TX}{u:T}(h:RX ρ x u)(j:wG x=true):u.fS=true:=by
 cases h<;>simp[wG]at j<;>try rfl
 rename_i t x v k B
 exact(lC (by simpa using j) k.1 k.2 v).2
def W5[cK]{ρ:aS}{xs:List TX}{k:List T}(h:F2 (RX ρ) xs k)(j:xs.all wG=true):k.all T.fS=true:=by
 induction h with
 |nil=>rfl
 |cons B _ F=>
  simp only[List.all_cons,db]at j⊢
  exact⟨W4 B j.1,F j.2⟩
def SD[cK][dw]{ρ:aS}{x:TX}{u:T}{cs:List TX}(h:RX ρ x u)(j:iR x=some cs):F2 (RX ρ) cs (bx u):=by
 cases h with
 |undef t=>simp[iR]at j
 |gone=>simp[iR]at j
 |d t x v B F=>
  simp only[iR,e5]at j
  obtain⟨ps,Z,rfl⟩:=j
  exact YM (qO _ B F Z)
 |agg G ts B F=>
  simp only[iR,c4]at j
  subst j
  exact F2.of B F
 |jo G ds B F=>
  simp only[iR,c4]at j
  subst j
  exact F2.of (by simpa [bx,D.cells]using B) λi c t j ht=>by
   simp only[bx,D.cells,et,e5]at ht
   obtain⟨d,Y,rfl⟩:=ht
   exact F i c d j Y
 |aN G ts B F=>simp[iR]at j
 |fW G ts B F=>simp[iR]at j
 |ev=>simp only[iR,c4]at j;subst j;exact .cons .ev .nil
 |bB t e b off size els k v B F M N O U=>simp only[iR,c4]at j;subst j;exact .cons (.bB t e b off size els k v B F M N O U) .nil
 |bw id k off kk n B=>simp only[iR,c4]at j;subst j;exact .cons (.bw id k off kk n B) .nil
 |bJ id t x xs B=>simp only[iR,c4]at j;subst j;exact .cons (.bJ id t x xs B) .nil
 |ju f G ds B F=>simp only[iR,c4]at j;subst j;exact .cons (.ju f G ds B F) .nil
 |aD f G ts B F=>simp only[iR,c4]at j;subst j;exact .cons (.aD f G ts B F) .nil
 |_=>simp only[iR,c4]at j;subst j;exact .cons (by constructor<;>assumption) .nil
def yA[cK][dw]{ρ:aS}{x:TX}{u:T}{cs:List TX}(h:RX ρ x u)(j:qN x=some cs):F2 (RX ρ) cs (bx u)/\(bx u).all T.fS=true:=by
 unfold qN at j
 split at j
 ·rename_i B F
  cases k:B.all wG with
  |true=>
   simp only[k,cond_true,c4]at j
   subst j
   have:=SD h F
   exact⟨this,W5 this k⟩
  |false=>simp[k]at j
 cases j
def Ez:∀{ts:List T}{ds:List D},ts.mapM fi=some ds->ts=ds.map .d
 | [],ds,h=>by simp at h;subst h;rfl
 |t::ts,ds,h=>by
  simp only[k8,Option.bind_eq_bind,k3,Option.pure_def,c4]at h
  obtain⟨x,j,xs,k,rfl⟩:=h
  rw[Ez k]
  cases t<;>simp[fi]at j
  subst j;rfl
def zw[cK][dw]{ρ:aS}{t:Ty}(O:isVal t){cs:List TX}{ts:List T}{x:TX}(h:F2 (RX ρ) cs ts)(j:rJ t cs=some x):RX ρ x (gk (ct t) ts):=by
 unfold rJ at j
 cases N:ct t with
 |true=>
  simp only[N,cond_true]at j
  obtain⟨i,rfl⟩:∃i,t=.st i:=by cases t<;>simp_all [ct]
  split at j
  ·rename_i ps G
   obtain⟨ds,rfl,M⟩:=MK h G
   simp only[e5]at j
   obtain⟨y,U,rfl⟩:=j
   obtain⟨v,B,k⟩:=EJ O U M
   have e:(ds.map T.d).mapM fi=some ds:=by
    clear G h M U k
    induction ds with
    |nil=>rfl
    |cons d ds aa=>simp[fi,aa]
   simp only[gk,e,hK]
   have Y:D.agg ds=Ty.enc (.st i) v:=by rw[k];rfl
   rw[Y]
   exact .d _ _ v O B
  simp only[c4]at j
  subst j
  simp only[gk,hK]
  cases e:ts.mapM fi with
  |none=>exact .agg cs ts h.len λi c t F ht=>h.get F ht
  |some ds=>
   have:=Ez e
   subst this
   refine .jo cs ds (by simpa using h.len) λi c d F Z=>h.get F (by simp[Z])
 |false=>
  simp only[N,cond_false]at j
  split at j
  ·rename_i c
   simp only[c4]at j
   subst j
   cases h with
   |cons B k=>cases k;simpa [gk]using B
  cases j
def pS{t:Ty}(j:ct t=true)(v:t.den):t.enc v=.agg (t.enc v).cells:=by
 cases t<;>simp[ct]at j
 rfl
def Ma[cK][dw]{ρ:aS}{u t:Ty}{e:X}{v:u.den}{off:Nat}{x:TX}(k:isVal u)(ht:isVal t)(U:e.den ρ=some ⟨u,v⟩)(h:qp u e off t=some x) :
  ∃(y:X)(w:t.den),x=.d t y/\y.den ρ=some ⟨t,w⟩/\(t.enc w).cells=((u.enc v).cells.drop off).take t.size/\off+t.size<=u.size/\(off=0->t.size=u.size->t.enc w=u.enc v):=by
 unfold qp at h
 cases F:(Nat.beq off 0&&decide (t=u))with
 |true=>
  simp only[F,cond_true,c4]at h
  simp only[db,ea]at F
  obtain⟨j,rfl⟩:=F
  have:=er j
  subst this
  exact⟨e,v,h.symm,U,by rw[rr,k5 (by rw[ku k];exact eb _)],by omega,λ_ _=>rfl⟩
 |false=>
  simp only[F,cond_false]at h
  cases j:(Nat.beq off 0&&Nat.beq t.size u.size&&(ct t != ct u))with
  |true=>simp[j]at h
  |false=>
   simp only[j,cond_false]at h
   split at h
   ·rename_i cs ab
    have O:=qO _ k U ab
    cases M:Nat.ble (off+t.size) cs.length with
    |false=>simp[M]at h
    |true=>
     simp only[M,cond_true,e5]at h
     obtain⟨y,ad,rfl⟩:=h
     have ag:=hg M
     have ah:cs.length=u.size:=by rw[O.len,ku k]
     obtain⟨w,aa,B⟩:=EJ ht ad ((O.drop off).take t.size)
     refine⟨y,w,rfl,aa,B.symm,by omega,λZ N=>?_⟩
     subst Z
     rw[rr,k5 (by rw[ku k,N];exact eb _)]at B
     simp only[ia,n2,N]at j
     have Y:ct t=ct u:=by simpa using j
     cases G:ct u with
     |true=>rw[pS G v,pS (Y.trans G) w,B]
     |false=>
      have ae:=(lC G k.1 k.2 v).1
      have af:=(lC (Y.trans G) ht.1 ht.2 w).1
      rw[ae,af]at B
      simpa using B.symm
   cases h
end Go.Sy
namespace Go.Sy
open Go Go.ag
variable [aG][cQ]
inductive cu(cs:List Callee):Nat->aS->List Ins->aS->Prop
 |nil (n ρ):cu cs n ρ [] ρ
 |bS (n ρ x r ρ'):x.den ρ=some ⟨.bool,true⟩->cu cs n ρ r ρ'->cu cs n ρ (.bS x::r) ρ'
 |get (n ρ xs k r ρ') (t:Ty) (l:List t.den) (kk:IntKind) (i:Int) (e:t.den):xs.den ρ=some ⟨.list t,l⟩->k.den ρ=some ⟨.int kk,i⟩->au l i=some e->cu cs (n+1) ((n,⟨t,e⟩)::ρ) r ρ'->cu cs n ρ (.get xs k::r) ρ'
 |call (n ρ c x r ρ') (C:Callee) (a:(ba C.args).den) (y:(ba C.res).den):cs[c]?=some C->x.den ρ=some ⟨ba C.args,a⟩->C.fn a=some y->cu cs (n+1) ((n,⟨ba C.res,y⟩)::ρ) r ρ'->cu cs n ρ (.call c x::r) ρ'
def cu.ext{cs:List Callee}{n:Nat}{ρ ρ':aS}{is:List Ins}(h:cu cs n ρ is ρ'):ey n ρ->Ext ρ ρ'/\ey (kC n is) ρ':=by
 induction h with
 |nil n ρ=>intro j;exact⟨.refl ρ,j⟩
 |bS n ρ x r ρ' _ _ B=>intro j;exact B j
 |get n ρ xs k r ρ' t l kk i e _ _ _ _ B=>
  intro j
  obtain⟨F,G⟩:=B (j.push (rv n) _)
  exact⟨(Ext.push j _).trans F,G⟩
 |call n ρ c x r ρ' C a y _ _ _ _ B=>
  intro j
  obtain⟨F,G⟩:=B (j.push (rv n) _)
  exact⟨(Ext.push j _).trans F,G⟩
def ec:(ts:List Ty)->(ba ts).den->List D
 | [],_=>[]
 | [t],x=>[t.enc x]
 |t::u::ts,x=>t.enc x.1::ec (u::ts) x.2
variable [bq]
structure ij(P:Program)(C:Callee):Prop where
 enters:Enters P C.f
 ly:∀a r,C.fn a=some r->fE P C.f (ec C.args a) ((ba C.res).enc r)
 args:∀t∈C.args,isVal t
 res:∀t∈C.res,isVal t
structure nZ(P:Program)(f:FuncId)(t:Ty)(args:List Ty)(fn:(ba (.list t::args)).den->Option (List t.den)):Prop where
 enters:Enters P f
 val:isVal t
 ly:∀(a:(ba (.list t::args)).den)(r:List t.den),fn a=some r->∀(l:List AO)(id e:Nat)(els ds:List D),ec (.list t::args) a=.slice t.size els::ds->l[id]?=some (.row e t.size els)->sL P f (.row id::ds.map .d) l (.d (.aN [])) (l.set id (.row e t.size (r.map t.enc)))
structure jm where
 f:FuncId
 t:Ty
 args:List Ty
 fn:(ba (.list t::args)).den->Option (List t.den)
def jm.pA(c:jm):Callee:=⟨c.f,.list c.t::c.args,[.list c.t],c.fn⟩
def cn(P:Program)(o:Oper)(ρT:Operand->T)(l:List AO)(t:T)(l':List AO):Prop:=
 (
  ∀c,o.op ≠ .defer c)/\∀(w0:World)(I0:ay)(w:World)(I:ay)(m:Nat->Value)(ρ:Operand->Value),aH w0 I0 w I m l->(∀x∈o.op.operands,ar I m l (ρ x) (ρT x)) ->
  cp P ((execOp ρ o).run P w) λv w'=>∃J m',Le I m l J m' l'/\aH w0 I0 w' J m' l'/\ar J m' l' v t
section
variable {P:Program}{V:Env}{o:Oper}{ρT:Operand->T}{l:List AO}{nid:Nat}
theorem cn.none(M:cA P V){r:R}(O:aX V ρT l nid o=r)(k:r.ob)(N:r.bA=.none):cn P o ρT l r.t l:=by
 subst O
 refine⟨qW k,λw0 I0 w I m ρ U Y=>?_⟩
 have j:=ox M U (eH.refl _) Y k
 unfold cg at j
 rw[N]at j
 exact j.mono λv w' ⟨J,B,F,G⟩=>⟨J,m,B,F,G⟩
theorem cn.aP(M:cA P V){r:R}(U:aX V ρT l nid o=r)(k:r.ob){l':List AO}(N:r.bA=.aP l')(O:nid=l.length):cn P o ρT l r.t l':=by
 subst U
 refine⟨qW k,λw0 I0 w I m ρ Y Z=>?_⟩
 have j:=ox M Y (eH.refl _) Z k
 unfold cg at j
 rw[N]at j
 exact(j rfl O).mono λv w' ⟨J,m',B,F,G⟩=>⟨J,m',B,F,G⟩
theorem cn.set(M:cA P V){r:R}(U:aX V ρT l nid o=r)(k:r.ob){a:AO}(N:r.bA=.new a)(O:l[nid]?=some .dead):cn P o ρT l r.t (l.set nid a):=by
 subst U
 refine⟨qW k,λw0 I0 w I m ρ Y Z=>?_⟩
 have j:=ox M Y (eH.refl _) Z k
 unfold cg at j
 rw[N]at j
 exact(j O).mono λv w' ⟨m',B,F,G⟩=>⟨I,m',B,F,G⟩
theorem cn.new(N:cA P V){r:R}(Z:aX V ρT l nid o=r)(B:r.ob){a:AO}(O:r.bA=.new a)(Y:nid=l.length):cn P o ρT l r.t (l++[a]):=by
 subst Z;subst Y
 refine⟨qW B,λw0 I0 w I m ρ aa ae=>?_⟩
 obtain⟨ad,k⟩:=aa.push
 have j:=ox (nid:=l.length) N ad (L:=l++[.dead]) (λid U=>e1 U) (λx h=>(ae x h).mono k) B
 unfold cg at j
 rw[O]at j
 have ab:(l++[AO.dead]).set l.length a=l++[a]:=by simp
 dsimp only at j
 rw[ab]at j
 exact(j (by simp)).mono λv w' ⟨m',F,G,M⟩=>⟨I,m',k.trans F,G,M⟩
end
def cO(P:Program)(o:Oper)(ρT:Operand->T)(l:List AO)(nid:Nat)(ρ':aS)(q:dB):Prop:=∃t,RX ρ' q.t t/\match q.bA with
 |.none=>cn P o ρT l t l
 |.new a=>∃j,bT ρ' a j/\(nid=l.length->cn P o ρT l t (l++[j]))/\(l[nid]?=some .dead->cn P o ρT l t (l.set nid j))
 |.aP k=>∃l',RL ρ' k l'/\(nid=l.length->cn P o ρT l t l')
def cP{t:Ty}(h:dV t=true):isVal t:=by cases t<;>simp_all [dV,isVal]
def vj(p:Ty×X)(d:D):Bool:=match p.1,p.2,d with
 |.int k,.int j n,.int B m=>decide (k=j)&&decide (j=B)&&decide (n=m)
 |.bool,.bool b,.bool c=>b == c
 |.str,.str [],.str s=>s.data.toList.isEmpty
 |.list t,.nil u,.slice s []=>decide (t=u)&&Nat.beq s t.size
 |.map k v,.kM j F,.map [] []=>decide (k=j)&&decide (v=F)
 |_,_,_=>false
def ll:List (Ty×X)->List D->Bool
 | [],[]=>true
 |x::xs,d::ds=>vj x d&&ll xs ds
 |_,_=>false
def pn(t:Ty)(ds:List D):Bool:=match ki gb t with
 |some x=>match fO gb t x with
  |some ps=>ll ps ds
  |none=>false
 |none=>false
def oq(C:Cx)(t:Ty)(d:TD):Bool:=match t,d with
 |.int k,.dS B=>decide (k=B)
 |.str,.string=>true
 |.bool,.jc=>true
 |.list u,.slice e=>decide (C.ty e=some u)&&dV u&&Nat.ble 1 u.size&&(C.E e).isSome
 |.map k v,.map kt j=>decide (C.ty kt=some k)&&decide (C.ty j=some v)&&dV k&&dV v&&(C.E kt).isSome&&(C.E j).isSome
 |.st _,.struct fs=>fs.all λf=>(C.E f.2).isSome
 |_,_=>false
def sF(C:Cx)(ty:TypeId)(t:Ty):Bool:=match C.E ty with
 |some i=>Nat.beq i.size t.size&&(i.desc.agg == ct t)&&dV t&&oq C t i.desc&&pn t i.zero
 |none=>false
structure bU(P:Program)(V:Env)(C:Cx):Prop where
 ok:cA P V
 E:V.E=C.E
 eq:V.jA=C.eqs
 sub:V.sub=false
 ty:∀ty t,C.ty ty=some t->sF C ty t=true
def abh{ρ:aS}{p:Ty×X}{d:D}(h:vj p d=true):RX ρ (xW p) (iO d):=by
 obtain⟨t,x⟩:=p
 unfold vj at h
 split at h
 ·rename_i j B;simp only at j B;subst j;subst B
  simp only[db,ea]at h
  obtain⟨⟨rfl,rfl⟩,rfl⟩:=h
  exact .d (.int _) _ _ (cP rfl) rfl
 ·rename_i j B;simp only at j B;subst j;subst B
  simp only[sk]at h;subst h
  exact .d .bool _ _ (cP rfl) rfl
 ·rename_i s j B;simp only at j B;subst j;subst B
  have:s=⟨⟨[]⟩⟩:=by cases s with|mk d=>cases d with|mk l=>simp at h;subst h;rfl
  subst this
  exact .d .str _ _ (cP rfl) rfl
 ·rename_i j B;simp only at j B;subst j;subst B
  simp only[db,ea]at h
  obtain⟨rfl,F⟩:=h
  have:=er F
  subst this
  simp only[xW,hK]
  exact .bC _
 ·rename_i k v G M j B;simp only at j B;subst j;subst B
  simp only[db,ea]at h
  obtain⟨rfl,rfl⟩:=h
  exact .d (.map k v) (.kM k v) ([]:List (k.den×v.den)) (cP rfl) rfl
 cases h
def abg{ρ:aS}{p:Ty×X}{d e:D}(h:vj p e=true)(M:RC ρ p d):e=d:=by
 obtain⟨t,x⟩:=p
 obtain⟨_,v,F,rfl⟩:=M
 simp only at v F⊢
 unfold vj at h
 split at h
 ·rename_i j B;simp only at j B;subst j;subst B
  simp only[db,ea]at h
  obtain⟨⟨rfl,rfl⟩,rfl⟩:=h
  simp only[X.den,c4]at F;cases F;rfl
 ·rename_i j B;simp only at j B;subst j;subst B
  simp only[sk]at h;subst h
  simp only[X.den,c4]at F;cases F;rfl
 ·rename_i s j B;simp only at j B;subst j;subst B
  have:s=⟨⟨[]⟩⟩:=by cases s with|mk d=>cases d with|mk l=>simp at h;subst h;rfl
  subst this
  simp only[X.den,c4]at F;cases F;rfl
 ·rename_i j B;simp only at j B;subst j;subst B
  simp only[db,ea]at h
  obtain⟨rfl,G⟩:=h
  have:=er G
  subst this
  simp only[X.den,c4]at F;cases F;rfl
 ·rename_i k v N O j B;simp only at j B;subst j;subst B
  simp only[db,ea]at h
  obtain⟨rfl,rfl⟩:=h
  simp only[X.den,c4]at F;cases F;rfl
 cases h
def O0{ρ:aS}:∀{ps:List (Ty×X)}{ds:List D},ll ps ds=true->F2 (RX ρ) (ps.map xW) (ds.map iO)
 | [],[],_=>.nil
 |p::ps,d::ds,h=>by
  simp only[ll,db]at h
  exact .cons (abh h.1) (O0 h.2)
 | [],_::_,h=>by simp[ll]at h
 |_::_,[],h=>by simp[ll]at h
def OZ{ρ:aS}:∀{ps:List (Ty×X)}{ds j:List D},ll ps j=true->F2 (RC ρ) ps ds->j=ds
 | [],[],[],_,_=>rfl
 |p::ps,d::ds,e::j,h,.cons h1 k=>by
  simp only[ll,db]at h
  rw[abg h.1 h1,OZ h.2 k]
 | [],[],_::_,h,_=>by simp[ll]at h
 |_::_,_::_,[],h,_=>by simp[ll]at h
 | [],_::_,_,_,h=>by cases h
 |_::_,[],_,_,h=>by cases h
theorem OW{ρ:aS}{t:Ty}{ds:List D}(h:pn t ds=true):∃z,zeroCells t=some z/\F2 (RX ρ) z (ds.map iO):=by
 unfold pn at h
 split at h
 ·rename_i x k
  split at h
  ·rename_i ps j
   exact⟨ps.map xW,by simp[zeroCells,k,j],O0 h⟩
  cases h
 cases h
section
variable {P:Program}{V:Env}{C:Cx}
def bU.info(h:bU P V C){ty:TypeId}{t:Ty}(ht:C.ty ty=some t):∃i,V.E ty=some i/\i.size=t.size/\i.desc.agg=ct t/\isVal t/\oq C t i.desc=true/\pn t i.zero=true:=by
 have k:=h.ty ty t ht
 unfold sF at k
 split at k
 ·rename_i i hi
  simp only[db,sk]at k
  obtain⟨⟨⟨⟨j,B⟩,F⟩,G⟩,M⟩:=k
  exact⟨i,by rw[h.E];exact hi,er j,B,cP F,G,M⟩
 cases k
end
end Go.Sy
namespace Go.Sy
open Go Go.ag
variable [aG][cQ][cK][dw][bq]
section
variable {P:Program}{V:Env}{C:Cx}{o:Oper}{ρX:Operand->TX}{ρT:Operand->T}{lX:List AX}{l:List AO}{n nid:Nat}{cs:List Callee}{ρ ρ':aS}{q:dB}
theorem aap{u:Ty}{x:X}(v:u.den)(j:x.den ρ=some ⟨.box u,v⟩):RX ρ (hZ (.d (.box u) x)) (unbox (.d (Ty.enc (.box u) v))):=by
 cases k:dV u with
 |false=>
  have:hZ (.d (.box u) x)=.undef:=by simp[hZ,k]
  rw[this];exact .undef _
 |true=>
  have F:=cP k
  have key:∀e:X,e.den ρ=some ⟨u,v⟩->RX ρ (.bB u e 0) (unbox (.d (Ty.enc (.box u) v))):=λe B=>by
   have:unbox (.d (Ty.enc (.box u) v))=.bB (u.enc v).cells.length [u.enc v] 0 (0+0):=rfl
   rw[this,ku F]
   exact .bB u e 0 0 u.size [u.enc v] 0 v F B (by simp) (by simp only[eK,List.getElem?_cons_zero,Option.getD_some,rr];rw[k5 (by rw[ku F];exact eb _)]) (by omega) (λ_ _=>rfl)
  by_cases G:∃e,x=.box e
  ·obtain⟨e,rfl⟩:=G
   have:hZ (.d (.box u) (.box e))=.bB u e 0:=by simp[hZ,k]
   rw[this]
   refine key e ?_
   simp only[X.den]at j
   cases B:X.den ρ e with
   |none=>simp[B]at j
   |some w=>simp only[B,c4]at j;cases j;rfl
  have:hZ (.d (.box u) x)=.bB u (.u1 .unbox x) 0:=by
   cases x<;>simp[hZ,k]
   exact absurd ⟨_,rfl⟩ G
  rw[this]
  exact key _ (by simp only[X.den,j];rfl)
def G0{x:TX}{t:T}(h:RX ρ x t):RX ρ (hZ x) (unbox t):=by
 cases h with
 |d t x v U F=>
  cases t with
  |box u=>exact aap (u:=u) v F
  |_=>exact .d _ x v U F
 |ev=>exact .ev
 |jo cs ds j B=>exact .jo cs ds j B
 |fW cs ds j B=>exact .fW cs ds j B
 |undef t=>exact .undef _
 |bB t e b off size els k v j B G M N O=>exact .bB t e b off size els k v j B G M N O
 |bw id k off kk n j=>exact .bw id k off kk n j
 |bJ id t x xs j=>exact .bJ id t x xs j
 |agg cs ts j B=>exact .agg cs ts j B
 |aN cs ts j B=>exact .aN cs ts j B
 |ju f cs ts j B=>exact .ju f cs ts j B
 |aD f cs ts j B=>exact .aD f cs ts j B
 |gone=>exact .gone
 |_=>constructor<;>assumption
def EK{t:Ty}(k:isVal t)(w:t.den):eM (ct t) (t.enc w).cells=t.enc w:=by
 cases j:ct t with
 |true=>exact(pS j w).symm
 |false=>rw[(lC j k.1 k.2 w).1];rfl
def Vo{t:Ty}(k:isVal t)(w:t.den):rp (t.enc w)=ct t:=by
 cases j:ct t with
 |true=>rw[pS j w];rfl
 |false=>
  have:=(lC j k.1 k.2 w).2
  cases h:t.enc w<;>simp_all [rp,D.one]
theorem Ep{u t:Ty}{e:X}{b off size k:Nat}{els:List D}{v:u.den}{x:TX}{i:TI}(ag:isVal u)(ht:isVal t)(ad:e.den ρ=some ⟨u,v⟩)(M:k<els.length)(Y:((eK els k).cells.drop b).take u.size=(u.enc v).cells)(ah:b+u.size<=size)(Z:b=0->size=u.size->eK els k=u.enc v)(af:qp u e off t=some x)(ae:i.size=t.size)(G:i.desc.agg=ct t) :
  ∃r,iD i size els k (b+off)=r/\r.ob/\r.bA=.none/\RX ρ x r.t:=by
 obtain⟨y,w,rfl,U,ab,ai,B⟩:=Ma ag ht ad af
 unfold iD
 by_cases F:size=i.size/\b+off=0
 ·rw[if_pos F]
  have aa:b=0:=by omega
  have N:off=0:=by omega
  have O:t.size=u.size:=by omega
  have j:=Z aa (by omega)
  refine⟨_,rfl,⟨M,?_⟩,rfl,?_⟩
  ·rw[j,<-B N O,Vo ht,G]
  rw[j,<-B N O];exact .d t y w ht U
 rw[if_neg F]
 refine⟨_,rfl,⟨M,by omega⟩,rfl,?_⟩
 have:((eK els k).cells.drop (b+off)).take i.size=(t.enc w).cells:=by
  rw[ae,ab,<-Y,List.drop_take,vy,ti]
  congr 1;omega
 rw[this,G,EK ht]
 exact .d t y w ht U
def vp{α:Type}{l:List α}{i:Int}{e:α}(h:au l i=some e):0<=i/\i.toNat<l.length/\l[i.toNat]?=some e:=by
 unfold au at h
 split at h
 ·rename_i j
  exact⟨j,(c5.1 h).1,h⟩
 cases h
def C2{t:Ty}{xs:List t.den}{k:Nat}{e:t.den}(h:xs[k]?=some e):eK (xs.map t.enc) k=t.enc e:=by simp[eK,h]
def VV(M:bU P V C){ty:TypeId}{a:Operand}(aL:o.op=.load ty a)(az:RL ρ lX l)(aJ:RX ρ (ρX a) (ρT a))(h:Er C ty lX n (hZ (ρX a))=some q)(hi:cu cs n ρ q.ins ρ')(aS:Ext ρ ρ'):cO P o ρT l nid ρ' q:=by
 have j:aX V ρT l nid o=fo V.E ty l (unbox (ρT a)):=by simp only[aX,aL]
 have O:=G0 aJ
 unfold Er at h
 cases aA:C.ty ty with
 |none=>
  simp only[aA]at h
  generalize hZ (ρX a)=A at h O
  generalize unbox (ρT a)=aE at j O
  split at h
  ·rename_i u e off i ax
   cases B:(Nat.beq i.size u.size&&(i.desc.agg == ct u)&&dV u)with
   |false=>rw[B]at h;cases h
   |true=>
    rw[B]at h
    simp only[cond_true,e5]at h
    obtain⟨x,F,rfl⟩:=h
    cases hi
    rw[db,db]at B
    cases O with
    |bB _ _ b _ size els k v N aq ar au av aw=>
     simp only[fo,M.E,ax]at j
     obtain⟨r,Y,af,ag,ah⟩:=Ep N (cP B.2) aq ar au av aw F (er B.1.1) (by simpa using B.1.2)
     exact⟨_,ah,cn.none M.ok (j.trans Y) af ag⟩
  ·rename_i id off i ax
   cases O
   split at h
   ·rename_i aQ aR G
    obtain⟨aB,U,Z⟩:=F2.left az G
    cases Z with
    |var _ _ ts F=>
     cases B:(Nat.beq i.size 1 && !i.desc.agg)with
     |false=>rw[B]at h;cases h
     |true=>
      rw[B]at h
      simp only[cond_true,e5]at h
      obtain⟨v,ad,rfl⟩:=h
      cases hi
      rw[db,gL]at B
      have N:=er B.1
      obtain⟨u,ab,aM⟩:=F.left ad
      have aT:=(c5.1 ab).1
      have ai:(ts.drop off).take 1=[u]:=by rw[List.take_one,List.head?_drop,ab];rfl
      simp only[fo,M.E,ax,U,N,B.2]at j
      rw[if_pos (by omega),ai]at j
      exact⟨u,aM,cn.none M.ok j trivial rfl⟩
   cases h
  cases h
 |some t=>
  obtain⟨i,al,an,ay,ad,_⟩:=M.info aA
  simp only[aA]at h
  generalize hZ (ρX a)=A at h O
  generalize unbox (ρT a)=aE at j O
  cases O with
  |ptr id off=>
   simp only at h
   cases G:lX[id]? with
   |none=>simp[G]at h
   |some aF=>
    obtain⟨aB,U,Z⟩:=F2.left az G
    simp only[G]at h
    cases Z with
    |var aQ xs ts F=>
     simp only at h
     cases aa:Nat.ble (off+t.size) xs.length with
     |false=>simp[aa]at h
     |true=>
      simp only[aa,cond_true,e5]at h
      obtain⟨v,aN,rfl⟩:=h
      have aa:=hg aa
      cases hi
      have aK:=zw ad ((F.drop off).take t.size) aN
      simp only[fo,al,U]at j
      rw[if_pos (by rw[an,<-F.len];exact aa),an,ay]at j
      exact⟨_,aK,cn.none M.ok j trivial rfl⟩
    |_=>simp at h
  |bB u e b off size els k v N aq ar au av aw=>
   simp only[e5]at h
   obtain⟨x,F,rfl⟩:=h
   cases hi
   simp only[fo,al]at j
   obtain⟨r,Y,af,ag,ah⟩:=Ep N ad aq ar au av aw F an ay
   exact⟨_,ah,cn.none M.ok (j.trans Y) af ag⟩
  |bw id k off kk m N=>
   simp only at h
   cases G:lX[id]? with
   |none=>simp[G]at h
   |some aF=>
    obtain⟨aB,U,Z⟩:=F2.left az G
    simp only[G]at h
    have key:∀(u:Ty)(y:X)(zs:List u.den),isVal u->y.den ρ=some ⟨.list u,zs⟩->(qp u (.var n) off t).map (λv=>(⟨[.get y k],v,.none⟩:dB))=some q->fo V.E ty l (.bw id m.toNat off)=iD i u.size (zs.map u.enc) m.toNat off->cO P o ρT l nid ρ' q:=by
     intro u y zs ab ae aD aI
     simp only[e5]at aD
     obtain⟨x,F,rfl⟩:=aD
     cases hi with
     |get _ _ _ _ _ _ t2 aW aV aU ai aj ak aG aH=>
      cases aH
      rw[ae]at aj;injection aj with aj;cases aj
      rw[N]at ak;injection ak with ak;cases ak
      obtain⟨aY,aO,aP⟩:=vp aG
      have aC:=C2 aP
      obtain⟨r,Y,af,ag,ah⟩:=Ep (ρ:=(n,⟨u,ai⟩)::ρ) (b:=0) (off:=off) (size:=u.size) (k:=m.toNat) (els:=zs.map u.enc) ab ad (show(X.var n).den _=_ from jZ n ⟨u,ai⟩ ρ) (by simpa using aO) (by rw[aC,rr,k5 (by rw[ku ab];exact eb _)]) (by omega) (λ_ _=>aC) F an ay
      rw[hV]at Y
      exact⟨_,ah,cn.none M.ok (j.trans (aI.trans Y)) af ag⟩
    cases Z with
    |row e u y zs ao ae=>exact key u y zs ao ae h (by simp only[fo,al,U])
    |br e u y zs ao ae=>exact key u y zs ao ae h (by simp only[fo,al,U])
    |_=>simp at h
  |_=>simp at h
def Gy{xs ys:List TX}{ts j:List T}{off:Nat}(h:F2 (RX ρ) xs ts)(k:F2 (RX ρ) ys j):F2 (RX ρ) (xG xs off ys) (setAt ts off j):=by
 unfold xG setAt
 rw[k.len]
 exact((h.take off).app k).app (h.drop _)
def Y1{xs ys:List (Ty×X)}{ts j:List D}{off:Nat}(h:F2 (RC ρ) xs ts)(k:F2 (RC ρ) ys j):F2 (RC ρ) (xs.take off++ys++xs.drop (off+ys.length)) (setAt ts off j):=by
 unfold setAt
 rw[k.len]
 exact((h.take off).app k).app (h.drop _)
def Zg{u:Ty}(h:1<u.size):ct u=true:=by cases u<;>simp_all [Ty.size,ct]
theorem GJ(
         Z:bU P V C){ty:TypeId}{a x:Operand}(aR:o.op=.store ty a x)(aa:RL ρ lX l)(ah:RX ρ (ρX a) (ρT a))(az:RX ρ (ρX x) (ρT x))(h:GI C ty lX n (ρX a) (ρX x)=some q)(hi:cu cs n ρ q.ins ρ')(bc:Ext ρ ρ'):cO P o ρT l nid ρ' q:=by
 have G:=bc
 unfold GI at h
 cases ab:C.ty ty with
 |none=>
  cases B:qN (ρX x)with
  |none=>simp[ab,B]at h
  |some vs=>
   obtain⟨ag,aE⟩:=yA az B
   match vs with
   | []=>simp[ab,B]at h
   |_::_::_=>simp[ab,B]at h
   | [y]=>
    simp only[ab,B]at h
    generalize bn:ρX a=A at h ah
    generalize bb:ρT a=a8 at ah
    cases ah with
    |ptr id off=>
     simp only at h
     cases N:lX[id]? with
     |none=>simp[N]at h
     |some aL=>
      obtain⟨aK,af,ao⟩:=F2.left aa N
      simp only[N]at h
      cases ao with
      |var aJ xs ts au=>
       simp only at h
       cases M:(Nat.beq (bD C.E ty) 1&&Nat.ble (off+1) xs.length)with
       |false=>simp[M]at h
       |true=>
        simp only[M,cond_true,c4]at h
        simp only[db]at M
        subst h
        have aw:=er M.1;have aM:=hg M.2
        have ay:(bx (ρT x)).length=1:=by rw[<-ag.len];rfl
        have j:aX V ρT l nid o=mL l (ρT a) (ρT x):=by
         simp only[aX,aR]
         rw[if_pos ⟨by rw[Z.E,ay,aw],by rw[Z.E,aw];omega⟩]
        cases hi
        rw[bb]at j
        simp only[mL,af]at j
        rw[if_pos (by rw[ay,<-au.len];exact aM)]at j
        exact⟨_,.undef _,_,F2.set aa (.var aJ _ _ (Gy au ag)) id,λO=>cn.aP Z.ok j aE rfl O⟩
      |_=>simp at h
    |_=>simp at h
 |some t=>
  obtain⟨i,bd,bf,bo,bs,_⟩:=Z.info ab
  cases B:qN (ρX x)with
  |none=>simp[ab,B]at h
  |some vs=>
   obtain⟨ag,aE⟩:=yA az B
   cases M:(Nat.beq vs.length t.size&&Nat.ble 1 vs.length)with
   |false=>simp[ab,B,M]at h
   |true=>
    simp only[ab,B,M,cond_true]at h
    simp only[db]at M
    have aw:=er M.1;have aM:=hg M.2
    have aS:bD V.E ty=t.size:=by simp[bD,bd,bf]
    have j:aX V ρT l nid o=mL l (ρT a) (ρT x):=by
     simp only[aX,aR]
     rw[if_pos ⟨by rw[aS,<-ag.len,aw],by rw[aS];omega⟩]
    generalize ρX a=A at h ah
    generalize ρT a=a8 at j ah
    cases ah with
    |ptr id off=>
     simp only at h
     cases N:lX[id]? with
     |none=>simp[N]at h
     |some aL=>
      obtain⟨aK,af,ao⟩:=F2.left aa N
      simp only[N]at h
      cases ao with
      |var aJ xs ts au=>
       simp only at h
       cases F:Nat.ble (off+vs.length) xs.length with
       |false=>simp[F]at h
       |true=>
        simp only[F,cond_true,c4]at h
        subst h
        have F:=hg F
        cases hi
        simp only[mL,af]at j
        rw[if_pos (by rw[<-ag.len,<-au.len];exact F)]at j
        exact⟨_,.undef _,_,F2.set aa (.var aJ _ _ (Gy au ag)) id,λO=>cn.aP Z.ok j aE rfl O⟩
      |_=>simp at h
    |bw id k off kk m an=>
     cases N:lX[id]? with
     |none=>simp[N]at h
     |some aL=>
      obtain⟨aK,af,ao⟩:=F2.left aa N
      simp only[N]at h
      cases ao with
      |row e u y zs ae aj=>
       cases aW:ρX x with
       |d ak a7=>
        rw[aW]at az h
        obtain⟨ai,w0,aT,aN⟩:=kq az
        rw[aN]at j
        simp only at h
        by_cases aG:off=0/\ak=u
        ·rw[if_pos aG]at h
         obtain⟨rfl,aB⟩:=aG
         subst aB
         simp only[c4]at h
         subst h
         cases hi with
         |get _ _ _ _ _ _ t2 bl bj bh ad U Y aH aI=>
          cases aI
          rw[aj]at U;injection U with U;cases U
          rw[an]at Y;injection Y with Y;cases Y
          obtain⟨bm,aA,aY⟩:=vp aH
          simp only[mL,af]at j
          rw[if_pos (ku ai w0)]at j
          refine⟨_,.undef _,_,F2.set (RL.mono G aa) (a:=.row false e ak (.u3 .set y k a7)) (b:=.row e ak.size ((zs.set m.toNat w0).map ak.enc)) (.row e ak _ (zs.set m.toNat w0) ae ?_) id,λO=>cn.aP Z.ok j ⟨?_,?_,by simpa using aA⟩ (by rw[tt]) O⟩
          ·simp only[X.den,X.eW G aj,X.eW G an,X.eW G aT,nS,fZ]
          ·exact ku ai w0
          rw[dT];exact λd ar=>vH ai w0 d ar
        rw[if_neg aG]at h
        cases aq:fO gb u (.var n)with
        |none=>simp[aq]at h
        |some av=>
         cases ax:fO gb ak a7 with
         |none=>simp[aq,ax]at h
         |some al=>
          cases F:(Nat.ble (off+al.length) av.length && !(Nat.beq off 0&&Nat.beq al.length av.length))with
          |false=>simp only[aq,ax,F,cond_false,reduceCtorEq]at h
          |true=>
           simp only[aq,ax,F,cond_true,e5]at h
           obtain⟨a6,bg,rfl⟩:=h
           rw[db]at F
           have aQ:=F.2
           have F:=hg F.1
           cases hi with
           |get _ _ _ _ _ _ t2 bl bj bh ad U Y aH aI=>
            cases aI
            rw[aj]at U;injection U with U;cases U
            rw[an]at Y;injection Y with Y;cases Y
            obtain⟨bm,aA,aY⟩:=vp aH
            have ba:(X.var n).den ((n,⟨u,ad⟩)::ρ)=some ⟨u,ad⟩:=jZ n ⟨u,ad⟩ ρ
            have aZ:=qO _ ae ba aq
            have a1:=qO _ ai (X.eW G aT) ax
            have ay:=aZ.len;have aD:=a1.len
            rw[ku ae]at ay
            obtain⟨w,aU,aV⟩:=EJ ae bg (Y1 aZ a1 (off:=off))
            have bq:0<al.length:=by
             have aO:=ag.len
             rw[aN,SE]at aO
             simp only[hG]at aO
             omega
            have bp:off≠0\/al.length≠av.length:=by
             apply hf;intro B
             have aB:off=0:=hf λh=>B (.inl h)
             have ad:al.length=av.length:=hf λh=>B (.inr h)
             rw[aB,ad]at aQ;simp at aQ
            have aF:ct u=true:=Zg (by omega)
            have aC:=C2 aY
            rw[pS aF ad]at aC
            cases off with
            |zero=>
             simp only[mL,af,aC]at j
             rw[if_neg (by rw[<-aD];omega)]at j
             refine⟨_,.undef _,_,F2.set (RL.mono G aa) (a:=.row false e u (.u3 .set y k a6)) (b:=.row e u.size ((zs.set m.toNat w).map u.enc)) (.row e u _ (zs.set m.toNat w) ae ?_) id,λO=>cn.aP Z.ok j ⟨?_,?_,by simpa using aA⟩ ?_ O⟩
             ·simp only[X.den,X.eW G aj,X.eW G an,aU,nS,fZ]
             ·rw[<-aD];omega
             ·rw[dT];exact λd ar=>vH ai w0 d ar
             rw[tt,pS aF w,<-aV]
            |succ off=>
             simp only[mL,af,aC]at j
             refine⟨_,.undef _,_,F2.set (RL.mono G aa) (a:=.row false e u (.u3 .set y k a6)) (b:=.row e u.size ((zs.set m.toNat w).map u.enc)) (.row e u _ (zs.set m.toNat w) ae ?_) id,λO=>cn.aP Z.ok j ⟨?_,?_,by simpa using aA⟩ ?_ O⟩
             ·simp only[X.den,X.eW G aj,X.eW G an,aU,nS,fZ]
             ·rw[<-aD];omega
             ·rw[dT];exact λd ar=>vH ai w0 d ar
             rw[tt,pS aF w,<-aV]
       |_=>rw[aW]at h;simp at h
      |br e u y zs ae aj=>simp at h
      |_=>simp at h
    |_=>simp at h
end
end Go.Sy
namespace Go.Sy
open Go Go.ag
variable [aG][cQ][cK][dw][bq]
section
variable {P:Program}{V:Env}{C:Cx}{o:Oper}{ρX:Operand->TX}{ρT:Operand->T}{lX:List AX}{l:List AO}{n nid:Nat}{cs:List Callee}{ρ ρ':aS}{q:dB}
theorem cO.val(j:cA P V){x:TX}{r:R}(k:aX V ρT l nid o=r)(F:r.ob)(B:r.bA=.none)(G:RX ρ' x r.t){is:List Ins}:cO P o ρT l nid ρ' ⟨is,x,.none⟩:=⟨_,G,cn.none j k F B⟩
def BX(U:bU P V C){x:TX}{t:T}(h:RX ρ x t)(ty:TypeId):RX ρ (sG C.E ty x) (typed V.E ty t):=by
 rw[U.E]
 cases h with
 |bC s=>exact .bC _
 |undef t=>exact .undef _
 |d t x v j B=>
  have:typed C.E ty (.d (t.enc v))=.d (t.enc v):=rfl
  rw[this];exact .d t x v j B
 |gone=>exact .gone
 |ev=>exact .ev
 |ptr=>exact .ptr _ _
 |bB t e b off size els k v j B G M N O=>exact .bB t e b off size els k v j B G M N O
 |row=>exact .row _
 |bw id k off kk n j=>exact .bw id k off kk n j
 |map=>exact .map _
 |bf=>exact .bf _
 |cE=>exact .cE _ _
 |bJ id t x xs j=>exact .bJ id t x xs j
 |sub id lo hi Y Z n m F j B=>exact .sub id lo hi Y Z n m F j B
 |agg cs ts j B=>exact .agg cs ts j B
 |jo cs ts j B=>exact .jo cs ts j B
 |aN cs ts j B=>exact .aN cs ts j B
 |fW cs ts j B=>exact .fW cs ts j B
 |ju f cs ts j B=>exact .ju f cs ts j B
 |aD f cs ts j B=>exact .aD f cs ts j B
def gY{t:TX}(h:eY t=some q):q=⟨[],t,.none⟩:=by simp only[eY,c4]at h;exact h.symm
def Lj(j:bU P V C){x:Operand}(ho:o.op=.move x\/o.op=.assign x)(B:RX ρ (ρX x) (ρT x))(h:eY (sG C.E o.type (ρX x))=some q)(hi:cu cs n ρ q.ins ρ'):cO P o ρT l nid ρ' q:=by
 have:=gY h;subst this
 cases hi
 have k:aX V ρT l nid o=.ok (typed V.E o.type (ρT x)):=by rcases ho with ho|ho<;>simp only[aX,ho]
 exact .val j.ok k trivial rfl (BX j B _)
def iQ{x:X}{u:T}(h:RX ρ (.d .bool x) u):∃b:Bool,x.den ρ=some ⟨.bool,b⟩/\u=.d (.bool b):=by
 obtain⟨_,v,j,k⟩:=kq h
 exact⟨v,j,k⟩
def gh{k:IntKind}{x:X}{u:T}(h:RX ρ (.d (.int k) x) u):∃n:Int,x.den ρ=some ⟨.int k,n⟩/\u=.d (.int k n):=by
 obtain⟨_,v,j,B⟩:=kq h
 exact⟨v,j,B⟩
def GK{x:X}{u:T}(h:RX ρ (.d .str x) u):∃s:ByteArray,x.den ρ=some ⟨.str,s⟩/\u=.d (.str s):=by
 obtain⟨_,v,j,k⟩:=kq h
 exact⟨v,j,k⟩
def Em{t:Ty}{x:X}{u:T}(h:RX ρ (.d (.list t) x) u):∃xs:List t.den,x.den ρ=some ⟨.list t,xs⟩/\u=.d (.slice t.size (xs.map t.enc)):=by
 obtain⟨_,v,j,k⟩:=kq h
 exact⟨v,j,k⟩
def Wf{k v:Ty}{x:X}{u:T}(h:RX ρ (.d (.map k v) x) u):∃m:List (k.den×v.den),x.den ρ=some ⟨.map k v,m⟩/\u=.d (.map (m.map λp=>k.enc p.1) (m.map λp=>v.enc p.2)):=by
 obtain⟨_,m,j,B⟩:=kq h
 exact⟨m,j,B⟩
theorem fu{x:X}{b:Bool}(h:x.den ρ=some ⟨.bool,b⟩):RX ρ (.d .bool x) (.d (.bool b)):=.d .bool x b (cP rfl) h
def iK{k:IntKind}{x:X}{n:Int}(h:x.den ρ=some ⟨.int k,n⟩):RX ρ (.d (.int k) x) (.d (.int k n)):=.d (.int k) x n (cP rfl) h
theorem YN{x:X}{s:ByteArray}(h:x.den ρ=some ⟨.str,s⟩):RX ρ (.d .str x) (.d (.str s)):=.d .str x s (cP rfl) h
def sq{t:Ty}{x:X}{xs:List t.den}(h:x.den ρ=some ⟨.list t,xs⟩):RX ρ (.d (.list t) x) (.d (.slice t.size (xs.map t.enc))):=.d (.list t) x xs (cP rfl) h
def DN{u:T}(h:RX ρ .gone u):u=ag.gone:=by cases h;rfl
def Vr{t:TX}{b:Bool}(h:isLit t=some b):t=.d .bool (.bool b):=by
 unfold isLit at h
 split at h
 ·simp only[c4]at h;subst h;rfl
 cases h
def FV(Z:bU P V C){c a b:Operand}(O:o.op=.pick c a b)(ae:∀x∈o.op.operands,RX ρ (ρX x) (ρT x))(h:dQ C ρX lX n nid o=some q)(hi:cu cs n ρ q.ins ρ'):cO P o ρT l nid ρ' q:=by
 have ah:=ae c (by simp[O,Op.operands]);have M:=ae a (by simp[O,Op.operands]);have N:=ae b (by simp[O,Op.operands])
 have j:aX V ρT l nid o=nI (ρT c) (ρT a) (ρT b):=by simp only[aX,O]
 simp only[dQ,O]at h
 have key:∀(G:Bool)(x:X),isLit (ρX c)=some G->(if G then ρX a else ρX b)=.d .bool x->eY (.d .bool x)=some q->((∃y,(if G then ρX b else ρX a)=.d .bool y)\/(if G then ρX b else ρX a)=.gone)->cO P o ρT l nid ρ' q:=by
  intro G x F ad aj ab
  have:=gY aj;subst this
  cases hi
  rw[Vr F]at ah
  obtain⟨ag,ai,aa⟩:=iQ ah
  simp only[X.den,c4]at ai
  have:ag=G:=by cases ai;rfl
  subst this
  cases ag with
  |true=>
   simp only[hK]at ad ab
   rw[ad]at M
   obtain⟨v,U,Y⟩:=iQ M
   rcases ab with ⟨y,hy⟩|hy<;>rw[hy]at N
   ·obtain⟨u,ak,af⟩:=iQ N
    rw[aa,Y,af]at j
    exact .val Z.ok j ⟨trivial,trivial⟩ rfl (fu U)
   rw[aa,Y,DN N]at j
   exact .val Z.ok j ⟨rfl,trivial⟩ rfl (fu U)
  |false=>
   simp only[hQ,h8]at ad ab
   rw[ad]at N
   obtain⟨v,U,Y⟩:=iQ N
   rcases ab with ⟨y,hy⟩|hy<;>rw[hy]at M
   ·obtain⟨u,ak,af⟩:=iQ M
    rw[aa,Y,af]at j
    exact .val Z.ok j ⟨trivial,trivial⟩ rfl (fu U)
   rw[aa,Y,DN M]at j
   exact .val Z.ok j ⟨rfl,trivial⟩ rfl (fu U)
 split at h
 ·rename_i F
  split at h
  ·rename_i x y k B
   exact key true x F (by simpa using k) h (.inl ⟨y,by simpa using B⟩)
  ·rename_i x k B
   exact key true x F (by simpa using k) h (.inr (by simpa using B))
  cases h
 ·rename_i F
  split at h
  ·rename_i x y k B
   exact key false x F (by simpa using k) h (.inl ⟨y,by simpa using B⟩)
  ·rename_i x k B
   exact key false x F (by simpa using k) h (.inr (by simpa using B))
  cases h
 cases h
def Sa(B:bU P V C){e:TypeId}{x:Operand}(G:o.op=.box e x)(O:RX ρ (ρX x) (ρT x))(h:dQ C ρX lX n nid o=some q)(hi:cu cs n ρ q.ins ρ'):cO P o ρT l nid ρ' q:=by
 have F:aX V ρT l nid o=⟨.ptr nid 0,.new (.var e (bx (ρT x))),((bx (ρT x)).all T.fS)=true⟩:=by simp only[aX,G]
 simp only[dQ,G,e5]at h
 obtain⟨ds,N,rfl⟩:=h
 cases hi
 obtain⟨M,k⟩:=yA O N
 exact⟨_,.ptr nid 0,_,.var e _ _ M,λj=>cn.new B.ok F k rfl j,λj=>cn.set B.ok F k rfl j⟩
def O9(k:bU P V C){e:TypeId}(F:o.op=.alloc e)(h:dQ C ρX lX n nid o=some q)(hi:cu cs n ρ q.ins ρ'):cO P o ρT l nid ρ' q:=by
 simp only[dQ,F]at h
 cases G:C.ty e with
 |none=>
  simp only[G]at h
  split at h
  ·rename_i a b z d M
   simp only[c4]at h
   subst h
   cases hi
   rw[<-k.E]at M
   have B:aX V ρT l nid o=⟨.ptr nid 0,.new (.var e ([z].map iO)),True⟩:=by simp only[aX,F,M]
   exact⟨_,.ptr nid 0,_,.var e _ _ (.cons (.undef _) .nil),λj=>cn.new k.ok B trivial rfl j,λj=>cn.set k.ok B trivial rfl j⟩
  cases h
 |some t=>
  obtain⟨i,N,Z,aa,ab,_,O⟩:=k.info G
  obtain⟨z,U,Y⟩:=OW (ρ:=ρ) O
  simp only[G,U,Option.map_some,c4]at h
  subst h
  cases hi
  have B:aX V ρT l nid o=⟨.ptr nid 0,.new (.var e (i.zero.map iO)),True⟩:=by simp only[aX,F,N]
  exact⟨_,.ptr nid 0,_,.var e _ _ Y,λj=>cn.new k.ok B trivial rfl j,λj=>cn.set k.ok B trivial rfl j⟩
def Uo(F:bU P V C){s:TypeId}{x:Operand}{f:Nat}(ae:o.op=.fieldAddr s x f)(af:RX ρ (ρX x) (ρT x))(h:Df C s f (hZ (ρX x))=some q)(hi:cu cs n ρ q.ins ρ'):cO P o ρT l nid ρ' q:=by
 have j:aX V ρT l nid o=kv V.E s f (unbox (ρT x)):=by simp only[aX,ae]
 have N:=G0 af
 unfold Df at h
 rw[F.E]at j
 generalize hZ (ρX x)=A at h N
 generalize unbox (ρT x)=ag at j N
 split at h
 ·rename_i s1 s2 ah fs M
  cases B:fs[f]? with
  |none=>simp[B]at h
  |some p=>
   simp only[B]at h
   cases O:Nat.ble 1 (bD C.E p.2)with
   |false=>simp[O]at h
   |true=>
    simp only[O,cond_true]at h
    have U:0<bD C.E p.2:=hg O
    cases N with
    |ptr id off=>
     have:=gY h;subst this;cases hi
     simp only[kv,M,B,if_pos U]at j
     exact .val F.ok j trivial rfl (.ptr _ _)
    |bB u e b off size els k v G Y Z aa ab ad=>
     have:=gY h;subst this;cases hi
     simp only[kv,M,B,if_pos U]at j
     rw[r4]at j
     exact .val F.ok j trivial rfl (.bB u e b (off+p.1) size els k v G Y Z aa ab ad)
    |bw id k off kk m G=>
     have:=gY h;subst this;cases hi
     simp only[kv,M,B,if_pos U]at j
     exact .val F.ok j trivial rfl (.bw id k (off+p.1) kk m G)
    |_=>simp at h
 cases h
def Uq(B:bU P V C){s:TypeId}{x:Operand}{f:Nat}(ag:o.op=.field s x f)(U:RX ρ (ρX x) (ρT x))(h:Dg C s f (ρX x)=some q)(hi:cu cs n ρ q.ins ρ'):cO P o ρT l nid ρ' q:=by
 have j:aX V ρT l nid o=mh V.E s f (ρT x):=by simp only[aX,ag]
 unfold Dg at h
 split at h
 ·rename_i s1 s2 an fs u e Z Y
  rw[Y]at U
  obtain⟨O,v,ah,ai⟩:=kq U
  rw[ai]at j
  cases F:fs[f]? with
  |none=>simp[F]at h
  |some p=>
   cases G:C.ty p.2 with
   |none=>simp[F,G]at h
   |some t=>
    obtain⟨i,ab,N,ae,M,_⟩:=B.info G
    simp only[F,G]at h
    cases k:(ct u&&Nat.ble 1 t.size)with
    |false=>simp[k]at h
    |true=>
     simp only[k,cond_true,e5]at h
     obtain⟨w,aj,rfl⟩:=h
     cases hi
     simp only[db]at k
     have al:=hg k.2
     obtain⟨y,b,rfl,ak,aa,af,_⟩:=Ma O M ah aj
     rw[pS k.1 v]at j
     rw[B.E]at j
     have ad:C.E p.2=some i:=by rw[<-B.E];exact ab
     simp only[mh,Z,F,ad]at j
     rw[if_pos ⟨by rw[ku O,N];exact af,by omega⟩,N,<-aa,ae,EK M]at j
     exact .val B.ok j trivial rfl (.d t y b M ak)
 cases h
end
end Go.Sy
namespace Go.Sy
open Go Go.ag
variable [aG][cQ][cK][dw][bq]
section
variable {P:Program}{V:Env}{C:Cx}{o:Oper}{ρX:Operand->TX}{ρT:Operand->T}{lX:List AX}{l:List AO}{n nid:Nat}{cs:List Callee}{ρ ρ':aS}{q:dB}
def fN{a b:Ty.den .bool}(h:(some (⟨.bool,a⟩:Sy.V))=some ⟨.bool,b⟩):a=b:=by
 injection h with h
 injection h
def Vf{k xs:X}{m:Int}{kk:IntKind}{t:Ty}{zs:List t.den}(j:k.den ρ=some ⟨.int kk,m⟩)(B:xs.den ρ=some ⟨.list t,zs⟩)(h:(y5 k (gD xs)).den ρ=some ⟨.bool,true⟩):0<=m/\m<zs.length:=by
 simp only[y5,gD,iX,X.den,j,B,gx,cN]at h
 have h:(leI 0 m&&ah m (zs.length:Int))=true:=fN h
 simpa using h
def jx{x:X}{r:List Ins}(h:cu cs n ρ (.bS x::r) ρ'):x.den ρ=some ⟨.bool,true⟩/\cu cs n ρ r ρ':=by cases h with|bS _ _ _ _ _ j k=>exact⟨j,k⟩
def Vi(Y:bU P V C){t:TypeId}{x i:Operand}(ax:o.op=.indexAddr t x i)(av:RL ρ lX l)(ay:RX ρ (ρX x) (ρT x))(ah:RX ρ (ρX i) (ρT i))(h:DW C t lX n (hZ (ρX x)) (ρX i)=some q)(hi:cu cs n ρ q.ins ρ')(au:Ext ρ ρ'):cO P o ρT l nid ρ' q:=by
 have aM:=au
 have B:aX V ρT l nid o=jV V.E t l (unbox (ρT x)) (ρT i):=by simp only[aX,ax]
 have M:=G0 ay
 rw[Y.E]at B
 unfold DW at h
 generalize hZ (ρX x)=A at h M
 generalize aL:unbox (ρT x)=aj at B M
 split at h
 ·rename_i s1 s2 aQ e kk k Z an
  rw[an]at ah
  obtain⟨m,ad,aw⟩:=gh ah
  have ab:dm (ρT i)=some (kk,m):=by rw[aw];rfl
  cases A with
  |d aI xs=>
   cases aI with
   |list u=>
    simp only at h
    obtain⟨zs,az,aA⟩:=Em M
    cases j:(Nat.beq (bD C.E e) u.size&&Nat.ble 1 u.size&&dV u)with
    |false=>simp[j]at h
    |true=>
     simp only[j,cond_true,c4]at h
     subst h
     simp only[db]at j
     have U:=er j.1.1;have ak:=hg j.1.2
     cases hi with
     |get _ _ _ _ _ _ t2 aP aO aN G N O aG aH=>
      cases aH
      rw[az]at N;injection N with N;cases N
      rw[ad]at O;injection O with O;cases O
      obtain⟨aD,aE,aF⟩:=vp aG
      have ag:=C2 aF
      rw[aA]at B
      simp only[jV,Z,ab]at B
      rw[if_pos ⟨U.symm,by omega⟩]at B
      have ai:isVal u:=cP j.2
      exact .val Y.ok B ⟨aD,by simp;omega⟩ rfl (.bB u (.var n) 0 0 u.size _ m.toNat G ai (jZ n ⟨u,G⟩ ρ) (by simpa using aE) (by rw[ag,rr,k5 (by rw[ku ai];exact eb _)]) (by omega) (λ_ _=>ag))
   |_=>simp at h
  |row id=>
   have aq:aj=.row id:=by cases M;rfl
   rw[aq]at B
   simp only at h
   cases aa:lX[id]? with
   |none=>simp[aa]at h
   |some aK=>
    obtain⟨aJ,af,ar⟩:=F2.left av aa
    simp only[aa]at h
    have key:∀(u:Ty)(y:X)(zs:List u.den),y.den ρ=some ⟨.list u,zs⟩->(bif Nat.beq (bD C.E e) u.size&&Nat.ble 1 u.size then some (⟨[.bS (y5 k (gD y))],.bw id k 0,.none⟩:dB)else none)=some q->(∀s els,u.size=s->zs.map u.enc=els->jV C.E t l (.row id) (ρT i)=if s=bD C.E e/\0<s then⟨.bw id m.toNat 0,.none,0<=m/\m<els.length⟩else .bad)->cO P o ρT l nid ρ' q:=by
     intro u y zs F ae ao
     cases j:(Nat.beq (bD C.E e) u.size&&Nat.ble 1 u.size)with
     |false=>simp[j]at ae
     |true=>
      simp only[j,cond_true,c4]at ae
      subst ae
      simp only[db]at j
      have U:=er j.1;have ak:=hg j.2
      obtain⟨aB,aC⟩:=jx hi
      cases aC
      have:=Vf ad F aB
      rw[ao _ _ rfl rfl,if_pos ⟨U.symm,by omega⟩]at B
      exact .val Y.ok B ⟨this.1,by simpa using this.2⟩ rfl (.bw id k 0 kk m ad)
    cases ar with
    |row G u y zs al F=>exact key u y zs F h (by rintro _ _ rfl rfl;simp only[jV,Z,ab,af])
    |br G u y zs al F=>exact key u y zs F h (by rintro _ _ rfl rfl;simp only[jV,Z,ab,af])
    |_=>simp at h
  |_=>simp at h
 cases h
def KQ:∀(ls:List Int),(zl ls).den ρ=some ⟨.list (.int .i64),ls⟩
 | []=>rfl
 |x::xs=>by
  simp only[zl,X.den,KQ xs,iX,cN,dr]
  rfl
def Vh(Y:bU P V C){t:TypeId}{g:Nat}{i:Operand}(al:o.op=.indexAddr t (.global g) i)(ae:∀g ls,aG.eG g=some ls->ρT (.global g)=.bB ls.length [.agg (ls.map (.int .i64))] 0 0)(Z:RX ρ (ρX i) (ρT i))(h:DV C t g n (ρX i)=some q)(hi:cu cs n ρ q.ins ρ')(ax:Ext ρ ρ'):cO P o ρT l nid ρ' q:=by
 have B:aX V ρT l nid o=jV V.E t l (unbox (ρT (.global g))) (ρT i):=by simp only[aX,al]
 rw[Y.E]at B
 unfold DV at h
 split at h
 ·rename_i s1 s2 aC len e ls kk k ad ag af
  rw[af]at Z
  obtain⟨m,aj,ak⟩:=gh Z
  have ai:dm (ρT i)=some (kk,m):=by rw[ak];rfl
  cases F:(Nat.beq len ls.length&&Nat.beq (bD C.E e) 1&&Nat.ble 2 len&&(C.E e).isSome)with
  |false=>rw[F]at h;cases h
  |true=>
   rw[F]at h
   simp only[cond_true,c4]at h
   subst h
   simp only[db]at F
   obtain⟨⟨⟨O,N⟩,U⟩,aa⟩:=F
   have O:=er O
   have N:=er N
   have U:=hg U
   rw[ae g ls ag]at B
   cases hi with
   |get _ _ _ _ _ _ t2 aA az ay j G M au av=>
    cases av
    rw[KQ]at G;injection G with G;cases G
    rw[aj]at M;injection M with M;cases M
    obtain⟨an,ao,aq⟩:=vp au
    simp only[unbox,jV,ad,ai,aa,hK,N,Nat.mul_one,hV]at B
    have aB:m.toNat<ls.length:=ao
    have ar:ls[m.toNat]?=some (show Int from j):=aq
    refine .val Y.ok B ⟨an,by omega⟩ rfl ?_
    have ah:((eK [D.agg (List.map (D.int .i64) ls)] 0).cells.drop m.toNat).take 1=[D.int .i64 (show Int from j)]:=by
     show((List.map (D.int .i64) ls).drop m.toNat).take 1=_
     rw[List.take_one,List.head?_drop,et,ar];rfl
    exact .bB (.int .i64) (.var n) m.toNat 0 ls.length _ 0 j (cP rfl) (jZ n ⟨.int .i64,j⟩ ρ) (by simp) ah (by show m.toNat+1<=_;omega) (λaw ab=>by have:ls.length=1:=ab;omega)
 cases h
def Kw{x:X}{k:IntKind}{m:Int}(j:x.den ρ=some ⟨.int k,m⟩)(h:(X.u1 .iC x).den ρ=some ⟨.bool,true⟩): -9223372036854775808<=m/\m<=9223372036854775807:=by
 simp only[X.den,j,gx]at h
 have h:ai m=true:=fN h
 simpa [ag.iC]using h
def yd{k:IntKind}{x:X}{m:Int}(F:x.den ρ=some ⟨.int k,mU k m⟩)(h:cu cs n ρ (vo k x) ρ'):(arith k m).2/\(arith k m).1=.int k (mU k m)/\ρ'=ρ:=by
 cases k with
 |i64=>
  obtain⟨j,B⟩:=jx h
  cases B
  exact⟨Kw F j,rfl,rfl⟩
 |_=>cases h;exact⟨trivial,rfl,rfl⟩
def El:∀{ls:List Lf}{ps:List (Ty×X)}{ds:List D},F2 (RC ρ) ps ds->rA ls ps=true->fH ls ds=true
 | [],[],[],_,_=>rfl
 |a::r,p::s,d::ds,.cons h1 j,h=>by
  simp only[rA,db]at h
  obtain⟨_,v,_,rfl⟩:=h1
  simp only[fH,db]
  refine⟨?_,El j h.2⟩
  obtain⟨t,x⟩:=p
  have k:=h.1
  cases a<;>cases t<;>simp_all [KO,rz,Ty.enc,Ty.ff]
 | [],_::_,_,_,h=>by simp[rA]at h
 |_::_,[],_,_,h=>by simp[rA]at h
def R8(N:bU P V C){ai:BinOp}{ty az:TypeId}{x y:Operand}(ao:o.op=.binOp ai ty x y az)(ab:RX ρ (ρX x) (ρT x))(ad:RX ρ (ρX y) (ρT y))(h:dQ C ρX lX n nid o=some q)(hi:cu cs n ρ q.ins ρ'):cO P o ρT l nid ρ' q:=by
 have ak:∀a b,ρT x=.d a->ρT y=.d b->aX V ρT l nid o=kN (eS V.jA ai ty a b):=by intro a b Z aa;simp only[aX,ao,Z,aa]
 simp only[dQ,ao,e5]at h
 obtain⟨⟨is,aC⟩,h,rfl⟩:=h
 unfold Ix at h
 split at h
 ·rename_i k a aq b Z aa
  rw[Z]at ab;rw[aa]at ad
  obtain⟨u,G,af⟩:=gh ab
  obtain⟨v,F,ag⟩:=gh ad
  have B:=ak _ _ af ag
  have shr:∀{q:List Ins×TX},q=([.bS (.u2 .le (.int aq 0) b)],.d (.int k) (.u2 (.shr k) a b))->cu cs n ρ q.1 ρ'->aX V ρT l nid o=kN (some (.int k (uS k u v),0<=v))->cO P o ρT l nid ρ' ⟨q.1,q.2,.none⟩:=by
   rintro q rfl hi B
   obtain⟨M,U⟩:=jx hi
   cases U
   have al:0<=v:=by
    simp only[X.den,F,cN]at M
    have M:leI 0 v=true:=fN M
    simpa using M
   exact .val N.ok B al rfl (iK (by simp only[X.den,G,F,cN]))
  split at h
  ·rename_i aj
   split at h
   ·simp only[c4]at h
    simp only[eS,if_pos aj,Gz]at B
    exact shr h.symm hi B
   cases h
  rename_i aj
  have aj:k=aq:=by simpa using aj
  subst aj
  cases ai with
  |shr=>
   simp only[c4]at h
   simp only[eS,ne_eq,ib,h8]at B
   exact shr h.symm hi B
  |and=>
   simp only[c4,e0]at h
   obtain⟨rfl,rfl⟩:=h
   cases hi
   simp only[eS,ne_eq,ib,h8]at B
   exact .val N.ok B trivial rfl (iK (by simp only[X.den,G,F,cN]))
  |add=> 
   simp only[c4,e0]at h
   obtain⟨rfl,rfl⟩:=h
   have O:(X.u2 (.add k) a b).den ρ=some ⟨.int k,mU k (u+v)⟩:=by simp only[X.den,G,F,cN];rfl
   obtain⟨M,U,rfl⟩:=yd O hi
   simp only[eS,ne_eq,ib,h8]at B
   exact .val N.ok B M rfl (by show RX ρ' _ (.d (arith k (u+v)).1);rw[U];exact iK O)
  |sub=>
   simp only[c4,e0]at h
   obtain⟨rfl,rfl⟩:=h
   have O:(X.u2 (.sub k) a b).den ρ=some ⟨.int k,mU k (u-v)⟩:=by simp only[X.den,G,F,cN];rfl
   obtain⟨M,U,rfl⟩:=yd O hi
   simp only[eS,ne_eq,ib,h8]at B
   exact .val N.ok B M rfl (by show RX ρ' _ (.d (arith k (u-v)).1);rw[U];exact iK O)
  |mul=>
   simp only[c4,e0]at h
   obtain⟨rfl,rfl⟩:=h
   have O:(X.u2 (.mul k) a b).den ρ=some ⟨.int k,mU k (u*v)⟩:=by simp only[X.den,G,F,cN];rfl
   obtain⟨M,U,rfl⟩:=yd O hi
   simp only[eS,ne_eq,ib,h8]at B
   exact .val N.ok B M rfl (by show RX ρ' _ (.d (arith k (u*v)).1);rw[U];exact iK O)
  |quo=>
   cases k with
   |i64=>
    simp only[c4,e0]at h
    obtain⟨rfl,rfl⟩:=h
    have O:(X.u2 (.quo .i64) a b).den ρ=some ⟨.int .i64,u.tdiv v⟩:=by simp only[X.den,G,F,cN]
    obtain⟨M,U⟩:=jx hi
    obtain⟨ax,ay⟩:=jx U
    cases ay
    have ah:v≠0:=by
     simp only[X.den,F,iX,gx,cN]at M
     have M:(!aF v 0)=true:=fN M
     simpa using M
    simp only[eS,ne_eq,ib,h8]at B
    exact .val N.ok B ⟨ah,Kw O ax⟩ rfl (iK O)
   |_=>simp at h
  |rem=>
   simp only[c4,e0]at h
   obtain⟨rfl,rfl⟩:=h
   have O:(X.u2 (.rem k) a b).den ρ=some ⟨.int k,u.tmod v⟩:=by simp only[X.den,G,F,cN]
   obtain⟨M,U⟩:=jx hi
   cases U
   have ah:v≠0:=by
    simp only[X.den,F,gx,cN]at M
    have M:(!aF v 0)=true:=fN M
    simpa using M
   simp only[eS,ne_eq,ib,h8]at B
   exact .val N.ok B ah rfl (iK O)
  |eql=>
   simp only[c4,e0]at h
   obtain⟨rfl,rfl⟩:=h
   cases hi
   simp only[eS,ne_eq,ib,h8]at B
   exact .val N.ok B trivial rfl (fu (b:=decide (u=v)) (by simp only[X.den,G,F,cN]))
  |neq=>
   simp only[c4,e0]at h
   obtain⟨rfl,rfl⟩:=h
   cases hi
   simp only[eS,ne_eq,ib,h8]at B
   exact .val N.ok B trivial rfl (fu (b:= !decide (u=v)) (by simp only[X.den,G,F,cN,gx]))
  |lss=>
   simp only[c4,e0]at h
   obtain⟨rfl,rfl⟩:=h
   cases hi
   simp only[eS,ne_eq,ib,h8]at B
   exact .val N.ok B trivial rfl (fu (b:=decide (u<v)) (by simp only[X.den,G,F,cN]))
  |leq=>
   simp only[c4,e0]at h
   obtain⟨rfl,rfl⟩:=h
   cases hi
   simp only[eS,ne_eq,ib,h8]at B
   exact .val N.ok B trivial rfl (fu (b:=decide (u<=v)) (by simp only[X.den,G,F,cN]))
  |gtr=>
   simp only[c4,e0]at h
   obtain⟨rfl,rfl⟩:=h
   cases hi
   simp only[eS,ne_eq,ib,h8]at B
   exact .val N.ok B trivial rfl (fu (b:=decide (v<u)) (by simp only[X.den,G,F,cN]))
  |geq=>
   simp only[c4,e0]at h
   obtain⟨rfl,rfl⟩:=h
   cases hi
   simp only[eS,ne_eq,ib,h8]at B
   exact .val N.ok B trivial rfl (fu (b:=decide (v<=u)) (by simp only[X.den,G,F,cN]))
  |_=>simp at h
 ·rename_i a b Z aa
  rw[Z]at ab;rw[aa]at ad
  obtain⟨u,G,af⟩:=iQ ab
  obtain⟨v,F,ag⟩:=iQ ad
  have B:=ak _ _ af ag
  rw[N.eq]at B
  cases Y:decide (C.eqs ty=some [.bool])with
  |false=>simp[Y]at h
  |true=>
   simp only[Y,cond_true]at h
   have Y:=hA Y
   cases ai with
   |eql=>
    simp only[c4,e0]at h
    obtain⟨rfl,rfl⟩:=h
    cases hi
    simp only[eS,if_pos Y]at B
    exact .val N.ok B trivial rfl (fu (b:=u == v) (by simp only[X.den,G,F,cN]))
   |neq=>
    simp only[c4,e0]at h
    obtain⟨rfl,rfl⟩:=h
    cases hi
    simp only[eS,if_pos Y]at B
    exact .val N.ok B trivial rfl (fu (b:= !(u == v)) (by simp only[X.den,G,F,cN,gx]))
   |_=>simp at h
 ·rename_i a b Z aa
  rw[Z]at ab;rw[aa]at ad
  obtain⟨u,G,af⟩:=GK ab
  obtain⟨v,F,ag⟩:=GK ad
  have B:=ak _ _ af ag
  cases ai with
  |eql=>
   simp only[c4,e0]at h
   obtain⟨rfl,rfl⟩:=h
   cases hi
   simp only[eS]at B
   exact .val N.ok B trivial rfl (fu (b:=u == v) (by simp only[X.den,G,F,cN]))
  |neq=>
   simp only[c4,e0]at h
   obtain⟨rfl,rfl⟩:=h
   cases hi
   simp only[eS]at B
   exact .val N.ok B trivial rfl (fu (b:= !(u == v)) (by simp only[X.den,G,F,cN,gx]))
  |add=>
   simp only[c4,e0]at h
   obtain⟨rfl,rfl⟩:=h
   obtain⟨M,U⟩:=jx hi
   cases U
   simp only[X.den,G,F,cN]at M
   have M:decide ((u.size:Int)+(v.size:Int)<=9223372036854775807)=true:=fN M
   simp only[eS]at B
   exact .val N.ok B (show(u.size:Int)+(v.size:Int)<=9223372036854775807 by simpa using M) rfl (YN (s:=u++v) (by simp only[X.den,G,F,cN];rfl))
  |_=>simp at h
 ·rename_i i a j b Z aa
  cases Y:(Nat.beq i j&&C9 C ty i a b)with
  |false=>simp[Y]at h
  |true=>
   simp only[Y,cond_true]at h
   simp only[db]at Y
   have:=er Y.1
   subst this
   rw[Z]at ab;rw[aa]at ad
   obtain⟨al,u,G,af⟩:=kq ab
   obtain⟨_,v,F,ag⟩:=kq ad
   have ae:=Y.2
   unfold C9 at ae
   split at ae
   ·rename_i ls aA aB an av aw
    simp only[db]at ae
    have ar:=El (qO _ al G av) ae.1.1
    have au:=El (qO _ al F aw) ae.1.2
    have ah:ls≠[.bool]:=by simpa using ae.2
    have s1:Ty.enc (.st i) u=.agg (aG.cells i u):=rfl
    have s2:Ty.enc (.st i) v=.agg (aG.cells i v):=rfl
    have B:=ak _ _ af ag
    rw[s1,s2,N.eq]at B
    cases ai with
    |eql=>
     simp only[c4,e0]at h
     obtain⟨rfl,rfl⟩:=h
     cases hi
     simp only[eS,an,if_neg ah]at B
     refine .val N.ok B ⟨ar,au⟩ rfl (fu (b:=di (aG.cells i u) (aG.cells i v)) ?_)
     simp only[X.den,G,F,cN]
     rw[fZ (.st i) u,fZ (.st i) v]
    |neq=>
     simp only[c4,e0]at h
     obtain⟨rfl,rfl⟩:=h
     cases hi
     simp only[eS,an,if_neg ah]at B
     refine .val N.ok B ⟨ar,au⟩ rfl (fu (b:= !(di (aG.cells i u) (aG.cells i v))) ?_)
     simp only[X.den,G,F,cN]
     rw[fZ (.st i) u,fZ (.st i) v]
     rfl
    |_=>simp at h
   cases ae
 cases h
end
end Go.Sy
namespace Go.Sy
open Go Go.ag
variable [aG][cQ][cK][dw][bq]
section
variable {P:Program}{V:Env}{C:Cx}{o:Oper}{ρX:Operand->TX}{ρT:Operand->T}{lX:List AX}{l:List AO}{n nid:Nat}{cs:List Callee}{ρ ρ':aS}{q:dB}
def WI{a:X}{b:Bool}(h:a.den ρ=some ⟨.bool,b⟩):(ET a).den ρ=some ⟨.bool,!b⟩:=by
 unfold ET
 split
 ·have:_=b:=fN ((rfl:(X.bool _).den ρ=_).symm.trans h)
  subst this;rfl
 simp only[X.den,h,gx]
def aao(M:bU P V C){Y:UnOp}{ty:TypeId}{x:Operand}(U:o.op=.unOp Y ty x)(B:RX ρ (ρX x) (ρT x))(h:dQ C ρX lX n nid o=some q)(hi:cu cs n ρ q.ins ρ'):cO P o ρT l nid ρ' q:=by
 have O:∀a,ρT x=.d a->aX V ρT l nid o=kN (ve Y a):=by intro a j;simp only[aX,U,j]
 simp only[dQ,U]at h
 split at h
 ·rename_i a j
  rw[j]at B
  obtain⟨b,F,G⟩:=iQ B
  have:=gY h;subst this;cases hi
  exact .val M.ok (O _ G) trivial rfl (fu (b:= !b) (WI F))
 ·rename_i k a j
  rw[j]at B
  obtain⟨u,F,G⟩:=gh B
  simp only[c4]at h;subst h
  have N:(X.u1 (.neg k) a).den ρ=some ⟨.int k,mU k (0-u)⟩:=by simp only[X.den,F,gx]
  obtain⟨Z,aa,rfl⟩:=yd N hi
  exact .val M.ok (O _ G) Z rfl (by show RX ρ' _ (.d (arith k (0-u)).1);rw[aa];exact iK N)
 cases h
def Ue(U:bU P V C){x:Operand}{i:Nat}(N:o.op=.extract x i)(O:RX ρ (ρX x) (ρT x))(h:dQ C ρX lX n nid o=some q)(hi:cu cs n ρ q.ins ρ'):cO P o ρT l nid ρ' q:=by
 simp only[dQ,N]at h
 split at h
 ·rename_i ts Z
  rw[Z]at O
  simp only[e5]at h
  obtain⟨t,ht,rfl⟩:=h
  cases hi
  generalize Y:ρT x=aa at O
  cases O with
  |aN _ j B F=>
   have M:i<j.length:=by rw[<-B];exact(c5.1 ht).1
   have k:j[i]?=some j[i]:=c3 M
   have G:aX V ρT l nid o=.ok j[i]:=by simp only[aX,N,Y,k]
   exact .val U.ok G trivial rfl (F i _ _ ht k)
  |fW _ j B F=>
   have M:i<j.length:=by rw[<-B];exact(c5.1 ht).1
   have k:j[i]?=some j[i]:=c3 M
   have G:aX V ρT l nid o=.ok (.d j[i]):=by simp only[aX,N,Y,k]
   exact .val U.ok G trivial rfl (F i _ _ ht k)
 cases h
def EB(N:RL ρ lX l){k v:Ty}{x:TX}{u:T}{m:X}(M:RX ρ x u)(h:wx lX k v x=some m):∃mm:List (k.den×v.den),m.den ρ=some ⟨.map k v,mm⟩/\mapOf l u=some (mm.map λp=>k.enc p.1,mm.map λp=>v.enc p.2):=by
 unfold wx at h
 split at h
 ·rename_i Z aa y
  split at h
  ·rename_i e
   obtain⟨rfl,rfl⟩:=e
   simp only[c4]at h;subst h
   obtain⟨mm,U,rfl⟩:=Wf M
   exact⟨mm,U,rfl⟩
  cases h
 ·simp only[c4]at h;subst h
  cases M
  exact⟨[],rfl,rfl⟩
 ·rename_i id
  have Y:u=.map id:=by cases M;rfl
  subst Y
  split at h
  ·rename_i ad Z aa y G
   split at h
   ·rename_i e
    obtain⟨rfl,rfl⟩:=e
    simp only[c4]at h;subst h
    obtain⟨O,B,F⟩:=F2.left N G
    cases F with
    |map _ _ _ mm _ _ j=>exact⟨mm,j,by simp only[mapOf,B]⟩
    |dR _ _ _ mm _ _ j=>exact⟨mm,j,by simp only[mapOf,B]⟩
   cases h
  ·rename_i ab ae t' y G
   split at h
   ·rename_i e
    obtain⟨rfl,rfl⟩:=e
    simp only[c4]at h;subst h
    obtain⟨O,B,F⟩:=F2.left N G
    cases F with
    |bz _ _ _ _ mm _ _ j=>exact⟨mm,j,by simp only[mapOf,B];rfl⟩
   cases h
  cases h
 cases h
def pY{t:TypeId}{k v:Ty}(h:oI C t=some (k,v)):C.ty t=some (.map k v):=by
 unfold oI at h
 split at h
 ·rename_i e;simp only[c4,e0]at h;obtain⟨rfl,rfl⟩:=h;exact e
 cases h
def VS(F:bU P V C){c:Call}{x:Operand}{t:TypeId}(ai:o.op=.call c)(af:c.callee=.builtin .len)(ad:c.args.toList=[x])(ht:c.argTypes.toList=[t])(Y:RL ρ lX l)(G:RX ρ (ρX x) (ρT x))(h:Eg C t lX (ρX x)=some q)(hi:cu cs n ρ q.ins ρ'):cO P o ρT l nid ρ' q:=by
 have j:aX V ρT l nid o=jY V.E t l (ρT x):=by simp only[aX,ai,af,ad,ht]
 rw[F.E]at j
 unfold Eg at h
 generalize ρX x=A at h G
 generalize ρT x=Z at j G
 split at h
 ·rename_i s1 s2 N s B
  obtain⟨v,M,rfl⟩:=GK G
  have:=gY h;subst this;cases hi
  simp only[jY,B]at j
  exact .val F.ok j trivial rfl (iK (by simp only[X.den,M,gx]))
 ·rename_i s1 s2 N e u xs B
  obtain⟨v,M,rfl⟩:=Em G
  have:=gY h;subst this;cases hi
  simp only[jY,B,hG]at j
  exact .val F.ok j trivial rfl (iK (by simp only[X.den,M,gx]))
 ·rename_i s1 s2 N e s B
  cases G
  have:=gY h;subst this;cases hi
  simp only[jY,B]at j
  exact .val F.ok j trivial rfl (iK rfl)
 ·rename_i s1 s2 N e id B
  have ab:Z=.row id:=by cases G;rfl
  subst ab
  split at h
  ·rename_i an al u xs ag
   obtain⟨ak,U,ae⟩:=F2.left Y ag
   have:=gY h;subst this;cases hi
   cases ae with
   |row _ _ _ zs _ O=>
    simp only[jY,B,U,hG]at j
    exact .val F.ok j trivial rfl (iK (by simp only[X.den,O,gx]))
   |br _ _ _ zs _ O=>
    simp only[jY,B,U,hG]at j
    exact .val F.ok j trivial rfl (iK (by simp only[X.den,O,gx]))
  cases h
 ·rename_i s1 s2 N aq ar aj B
  split at h
  ·rename_i k v ao
   simp only[e5]at h
   obtain⟨m,ah,rfl⟩:=h
   cases hi
   obtain⟨mm,M,aa⟩:=EB Y G ah
   simp only[jY,B,aa,hG]at j
   exact .val F.ok j trivial rfl (iK (by simp only[X.den,M,gx]))
  cases h
 cases h
def CX(B:bU P V C){M t:TypeId}{x:Operand}(F:o.op=.convert M t x)(G:RX ρ (ρX x) (ρT x))(h:dQ C ρX lX n nid o=some q)(hi:cu cs n ρ q.ins ρ'):cO P o ρT l nid ρ' q:=by
 have j:aX V ρT l nid o=pE V.E M t (ρT x):=by simp only[aX,F]
 rw[B.E]at j
 simp only[dQ,F]at h
 split at h
 ·rename_i aa ab ad ah ae af ag k ai a N O U
  rw[U]at G
  obtain⟨u,Y,Z⟩:=gh G
  have:=gY h;subst this;cases hi
  simp only[pE,N,O,Z]at j
  exact .val B.ok j trivial rfl (iK (by simp only[X.den,Y,gx]))
 cases h
def K9(Y:bU P V C){c:Call}(G:o.op=.call c)(aa:∀x∈o.op.operands,RX ρ (ρX x) (ρT x))(hc:c.callee=.builtin .max\/c.callee=.builtin .min)(h:dQ C ρX lX n nid o=some q)(hi:cu cs n ρ q.ins ρ'):cO P o ρT l nid ρ' q:=by
 have U:∀x∈c.args.toList,RX ρ (ρX x) (ρT x):=λx Z=>aa x (by simp[G,Op.operands,Call.operands,Z];rcases hc with e|e<;>simp[e]<;>simpa using Z)
 have key:∀(k j:IntKind)(a b:X),c.args.toList.map ρX=[.d (.int k) a,.d (.int j) b]->∃u v:Int,a.den ρ=some ⟨.int k,u⟩/\b.den ρ=some ⟨.int j,v⟩/\c.args.toList.map ρT=[.d (.int k u),.d (.int j v)]:=by
  intro k j a b e
  generalize c.args.toList=as at e U
  rcases as with _| ⟨x,_| ⟨y,_| ⟨z,w⟩⟩⟩
  ·simp at e
  ·simp at e
  ·simp only[fa,abr,o3,and_true]at e
   have B:=U x (by simp);have F:=U y (by simp)
   rw[e.1]at B;rw[e.2]at F
   obtain⟨u,ab,ad⟩:=gh B
   obtain⟨v,ae,af⟩:=gh F
   exact⟨u,v,ab,ae,by simp[ad,af]⟩
  simp at e
 rcases hc with hc|hc
 ·simp only[dQ,G,hc]at h
  split at h
  ·rename_i k a j b e
   obtain⟨u,v,B,F,N⟩:=key k j a b e
   split at h
   ·rename_i M;subst M
    have:=gY h;subst this;cases hi
    have O:aX V ρT l nid o=.ok (.d (.int k (max u v))):=by simp only[aX,G,hc,N,hK]
    exact .val Y.ok O trivial rfl (iK (by simp only[X.den,B,F,cN]))
   cases h
  cases h
 simp only[dQ,G,hc]at h
 split at h
 ·rename_i k a j b e
  obtain⟨u,v,B,F,N⟩:=key k j a b e
  split at h
  ·rename_i M;subst M
   have:=gY h;subst this;cases hi
   have O:aX V ρT l nid o=.ok (.d (.int k (min u v))):=by simp only[aX,G,hc,N,hK]
   exact .val Y.ok O trivial rfl (iK (by simp only[X.den,B,F,cN]))
  cases h
 cases h
def GU(j:RL ρ lX l){t:Ty}{x:TX}{u:T}{y:X}{ab:List AX}(af:RX ρ x u)(h:gI lX t x=some (y,ab))(aa:∀cs,x ≠ .agg cs):∃(v:t.den)(l':List AO),y.den ρ=some ⟨t,v⟩/\cV l u=some (t.enc v,l')/\dx l u=some (t.enc v,l')/\RL ρ ab l':=by
 cases af with
 |d t' x v F O=>
  simp only[gI]at h
  split at h
  ·rename_i e;subst e
   simp only[c4,e0]at h
   obtain⟨rfl,rfl⟩:=h
   exact⟨v,l,O,rfl,rfl,j⟩
  cases h
 |bC s=>
  simp only[gI]at h
  split at h
  ·rename_i u
   cases Z:Nat.beq s u.size with
   |false=>simp[Z]at h
   |true=>
    simp only[Z,cond_true,c4,e0]at h
    obtain⟨rfl,rfl⟩:=h
    have:=er Z
    subst this
    exact⟨([]:List u.den),l,rfl,rfl,rfl,j⟩
  cases h
 |ev=>
  simp only[gI]at h
  split at h
  ·rename_i k v
   simp only[c4,e0]at h
   obtain⟨rfl,rfl⟩:=h
   exact⟨([]:List (k.den×v.den)),l,rfl,rfl,rfl,j⟩
  cases h
 |row id=>
  simp only[gI]at h
  split at h
  ·rename_i ae e u ag Y
   split at h
   ·rename_i e;subst e
    simp only[c4,e0]at h
    obtain⟨rfl,rfl⟩:=h
    obtain⟨ad,B,U⟩:=F2.left j Y
    cases U with
    |row _ _ _ zs G N=>exact⟨zs,l.set id (.br e u.size (zs.map u.enc)),N,by simp only[cV,B];rfl,by simp only[dx,cV,B];rfl,F2.set j (.br e u _ zs G N) id⟩
    |br _ _ _ zs G N=>exact⟨zs,l,N,by simp only[cV,B];rfl,by simp only[dx,cV,B];rfl,j⟩
   cases h
  cases h
 |bJ id t' x xs F=>
  simp only[gI]at h
  split at h
  ·rename_i e;subst e
   simp only[c4,e0]at h
   obtain⟨rfl,rfl⟩:=h
   exact⟨xs,l,F,rfl,rfl,j⟩
  cases h
 |map id=>
  simp only[gI]at h
  split at h
  ·rename_i ae k v ag Y
   split at h
   ·rename_i e;subst e
    simp only[c4,e0]at h
    obtain⟨rfl,rfl⟩:=h
    obtain⟨ad,B,U⟩:=F2.left j Y
    cases U with
    |map _ _ _ mm G F M=>exact⟨mm,l.set id (.dR (mm.map λp:k.den×v.den=>k.enc p.1) (mm.map λp:k.den×v.den=>v.enc p.2)),M,by simp only[cV,B];rfl,by simp only[dx,cV,B];rfl,F2.set j (.dR k v _ mm G F M) id⟩
    |dR _ _ _ mm G F M=>exact⟨mm,l,M,by simp only[cV,B];rfl,by simp only[dx,cV,B];rfl,j⟩
   cases h
  cases h
 |agg cs ts F O=>exact absurd rfl (aa cs)
 |jo cs ts F O=>exact absurd rfl (aa cs)
 |_=>simp[gI]at h
def HI:∀(a b:List T)(l l1 j:List AO)(xs ys:List D),dq l a=some (xs,l1)->dq l1 b=some (ys,j)->dq l (a++b)=some (xs++ys,j)
 | [],b,l,l1,j,xs,ys,h1,k=>by simp[dq]at h1;obtain⟨rfl,rfl⟩:=h1;exact k
 |t::a,b,l,l1,j,xs,ys,h1,k=>by
  simp only[dq]at h1
  cases ht:cV l t with
  |none=>simp[ht]at h1
  |some p=>
   obtain⟨x,l'⟩:=p
   simp only[ht]at h1
   cases B:dq l' a with
   |none=>simp[B]at h1
   |some p=>
    obtain⟨zs,F⟩:=p
    simp only[B,c4,e0]at h1
    obtain⟨rfl,rfl⟩:=h1
    simp only[List.cons_append,dq,ht,HI a b l' F j zs ys B k]
theorem CL{t:Ty}{ts:List Ty}{x:X}{xs:List X}{v:t.den}{a:(ba ts).den}(F:x.den ρ=some ⟨t,v⟩)(B:kc ρ ts xs a):∃b:(ba (t::ts)).den,kc ρ (t::ts) (x::xs) b/\cellsOf (t::ts) b=(t.enc v).cells++cellsOf ts a:=by
 cases ts with
 |nil=>
  refine⟨v,⟨by simp[B.1],λj w k=>?_⟩,by simp[cellsOf]⟩
  cases j with
  |zero=>simp at k;subst k;exact⟨x,rfl,by simpa [cW]using F⟩
  |succ j=>simp at k
 |cons u ts=>
  refine⟨(v,a),⟨by simp[B.1],λj w k=>?_⟩,rfl⟩
  cases j with
  |zero=>simp at k;subst k;exact⟨x,rfl,by simpa [cW]using F⟩
  |succ j=>
   obtain⟨y,M,G⟩:=B.2 j w (by simpa using k)
   exact⟨y,by simpa using M,by simpa [cW]using G⟩
def aae:∀(f:Nat){lX:List AX}{l:List AO}{fX:List Ty}{cs r:List TX}{ts:List T}{xs:List X}{F:List AX},(∀t∈fX,isVal t)->RL ρ lX l->F2 (RX ρ) cs ts->kh f lX fX cs=some (xs,r,F) ->
  ∃(a:(ba fX).den)(G ak:List T)(l':List AO),ts=G++ak/\kc ρ fX xs a/\dq l G=some (cellsOf fX a,l')/\F2 (RX ρ) r ak/\RL ρ F l':=by
 intro f
 induction f with
 |zero=>intro lX l fX cs r ts xs F _ _ _ h;simp[kh]at h
 |succ f Z=>
  intro lX l fX cs r ts xs F Y U O h
  cases fX with
  |nil=>
   simp only[kh,c4,e0]at h
   obtain⟨rfl,rfl,rfl⟩:=h
   exact⟨(),[],ts,l,rfl,⟨rfl,λj t h=>by simp at h⟩,rfl,O,U⟩
  |cons t fX=>
   by_cases ao:∃i,t=.st i
   ·obtain⟨i,rfl⟩:=ao
    simp only[kh]at h
    cases k:kh f lX (aG.cj i) cs with
    |none=>simp[k]at h
    |some p=>
     obtain⟨ys,ar,l1⟩:=p
     simp only[k]at h
     cases B:kh f l1 fX ar with
     |none=>simp[B]at h
     |some p=>
      obtain⟨zs,aB,ae⟩:=p
      simp only[B,c4,e0]at h
      obtain⟨rfl,rfl,rfl⟩:=h
      obtain⟨a,G,ak,aA,rfl,aa,ab,az,ad⟩:=Z (λt ht=>dw.val i t ht) U O k
      obtain⟨b,al,an,af,rfl,ag,ah,ai,aj⟩:=Z (λt ht=>Y t (by simp[ht])) ad az B
      obtain⟨c,M,N⟩:=CL (t:=.st i) (v:=aG.eN i a) (yN aa) ag
      refine⟨c,G++al,an,af,by simp,M,?_,ai,aj⟩
      rw[N]
      have e:((Ty.st i).enc (aG.eN i a)).cells=cellsOf (aG.cj i) (aG.un i (aG.eN i a)):=cK.cells i (aG.eN i a)
      rw[e,aG.pg]
      exact HI _ _ _ _ _ _ _ ab ah
   cases O with
   |nil=>exfalso;cases t<;>simp_all [kh]
   |cons av ax=>
    rename_i c u cs aC
    have aw:kh (f+1) lX (t::fX) (c::cs)=match gI lX t c with
     |some (x,l1)=>(match kh f l1 fX cs with|some (ys,r,ae)=>some (x::ys,r,ae)|none=>none)
     |none=>none:=by cases t<;>first|rfl|exact absurd ⟨_,rfl⟩ ao
    rw[aw]at h
    cases k:gI lX t c with
    |none=>simp[k]at h
    |some p=>
     obtain⟨x,l1⟩:=p
     simp only[k]at h
     cases B:kh f l1 fX cs with
     |none=>simp[B]at h
     |some p=>
      obtain⟨ys,ar,ae⟩:=p
      simp only[B,c4,e0]at h
      obtain⟨rfl,rfl,rfl⟩:=h
      obtain⟨v,aA,aa,ab,_,ad⟩:=GU U av k (λcs e=>by subst e;simp[gI]at k)
      obtain⟨b,al,an,af,rfl,ag,ah,ai,aj⟩:=Z (λt ht=>Y t (by simp[ht])) ad ax B
      obtain⟨au,M,N⟩:=CL aa ag
      refine⟨au,u::al,an,af,rfl,M,?_,ai,aj⟩
      have ay:ct t=false:=by cases t<;>simp_all [ct]
      have aq:=Y t (by simp)
      rw[N,(lC ay aq.1 aq.2 v).1]
      simp only[dq,ab,ah]
      rfl
def BQ(aa:RL ρ lX l){t:Ty}{x:TX}{u:T}{y:X}{ad:List AX}(ab:RX ρ x u)(h:l3 lX t x=some (y,ad)):∃(v:t.den)(l':List AO),y.den ρ=some ⟨t,v⟩/\dx l u=some (t.enc v,l')/\RL ρ ad l':=by
 by_cases Z:∃cs,x=.agg cs
 ·obtain⟨cs,rfl⟩:=Z
  simp only[l3]at h
  split at h
  ·rename_i i
   split at h
   ·rename_i xs l1 N
    simp only[c4,e0]at h
    obtain⟨rfl,rfl⟩:=h
    have ae:∀ts:List T,F2 (RX ρ) cs ts->∃(a:(ba (aG.cj i)).den)(l':List AO),kc ρ (aG.cj i) xs a/\dq l ts=some (cellsOf (aG.cj i) a,l')/\RL ρ l1 l':=by
     intro ts ai
     obtain⟨a,al,an,M,rfl,F,k,G,ak⟩:=aae _ (λt ht=>dw.val i t ht) aa ai N
     cases G
     exact⟨a,M,F,by simpa using k,ak⟩
    have Y:∀a:(ba (aG.cj i)).den,D.agg (cellsOf (aG.cj i) a)=Ty.enc (.st i) (aG.eN i a):=λa=>by
     have e:Ty.enc (.st i) (aG.eN i a)=.agg (aG.cells i (aG.eN i a)):=rfl
     rw[e,cK.cells,aG.pg]
    cases ab with
    |agg _ ts O B=>
     obtain⟨a,M,F,k,G⟩:=ae ts (F2.of O B)
     exact⟨aG.eN i a,M,yN F,by simp only[dx,k];rw[Y],G⟩
    |jo _ ds O B=>
     obtain⟨a,M,F,k,G⟩:=ae (ds.map .d) (F2.of (by simpa using O) λj c t ah ht=>by
      simp only[et,e5]at ht
      obtain⟨d,U,rfl⟩:=ht
      exact B j c d ah U)
     have U:∀ds:List D,dq l (ds.map .d)=some (ds,l):=by
      intro ds
      induction ds with
      |nil=>rfl
      |cons d ds aj=>simp only[fa,dq,cV,aj]
     rw[U]at k
     simp only[c4,e0]at k
     obtain⟨af,rfl⟩:=k
     exact⟨aG.eN i a,l,yN F,by rw[<-Y,<-af];rfl,G⟩
   cases h
  cases h
 have:l3 lX t x=gI lX t x:=by cases x<;>simp_all [l3]
 rw[this]at h
 obtain⟨v,l',N,_,B,ag⟩:=GU aa ab h (λcs e=>Z ⟨cs,e⟩)
 exact⟨v,l',N,B,ag⟩
end
end Go.Sy
namespace Go.Sy
open Go Go.ag
variable [aG][cQ][cK][dw][bq]
section
variable {P:Program}{V:Env}{C:Cx}{o:Oper}{ρX:Operand->TX}{ρT:Operand->T}{lX:List AX}{l:List AO}{n nid:Nat}{cs:List Callee}{ρ ρ':aS}{q:dB}
def ry{a b:X}{i j:IntKind}{u v:Int}(k:a.den ρ=some ⟨.int i,u⟩)(B:b.den ρ=some ⟨.int j,v⟩):(X.u2 .le a b).den ρ=some ⟨.bool,leI u v⟩:=by simp only[X.den,k,B,cN]
def yb{a b:X}{u v:Bool}(j:a.den ρ=some ⟨.bool,u⟩)(k:b.den ρ=some ⟨.bool,v⟩):(X.u2 .and a b).den ρ=some ⟨.bool,u&&v⟩:=by simp only[X.den,j,k,cN]
def Eh{a:X}{t:Ty}{zs:List t.den}(h:a.den ρ=some ⟨.list t,zs⟩):(gD a).den ρ=some ⟨.int .i64,(zs.length:Int)⟩:=by simp only[gD,X.den,h,gx]
theorem DS(m:Int):(iX m).den ρ=some ⟨.int .i64,m⟩:=rfl
theorem NF{u:Ty}{zs:List u.den}{xs y:X}{lo hi:Option Operand}{is:List Ins}(M:xs.den ρ=some ⟨.list u,zs⟩)(ah:∀a,lo=some a->RX ρ (ρX a) (ρT a))(ag:∀a,hi=some a->RX ρ (ρX a) (ρT a))(h:BH xs (lo.map ρX) (hi.map ρX)=some (is,y))(Z:cu cs n ρ is ρ'):ρ'=ρ/\∃r,jH (.d (.slice u.size (zs.map u.enc))) (lo.map ρT) (hi.map ρT)=r/\r.ob/\r.bA=.none/\RX ρ (.d (.list u) y) r.t:=by
 unfold BH at h
 split at h
 ·rename_i F G
  simp only[c4,e0]at h
  obtain⟨rfl,rfl⟩:=h
  cases Z
  have:lo=none:=by simpa using F
  subst this
  have:hi=none:=by simpa using G
  subst this
  exact⟨rfl,_,rfl,trivial,rfl,sq M⟩
 ·rename_i k a F G
  simp only[c4,e0]at h
  obtain⟨rfl,rfl⟩:=h
  have:hi=none:=by simpa using G
  subst this
  obtain⟨ae,rfl,aa⟩:=e5.1 F
  have N:=ah ae rfl
  rw[aa]at N
  obtain⟨m,B,U⟩:=gh N
  obtain⟨j,Y⟩:=jx Z
  cases Y
  rw[yb (ry (DS 0) B) (ry B (Eh M))]at j
  have j:(leI 0 m&&leI m (zs.length:Int))=true:=fN j
  refine⟨rfl,⟨.d (.slice u.size ((zs.map u.enc).drop m.toNat)),.none,0<=m/\m<=(zs.map u.enc).length⟩,by simp only[jH,Option.map_some,Option.map_none,U,dm],by simpa using j,rfl,?_⟩
  show RX _ _ (.d (.slice u.size ((zs.map u.enc).drop m.toNat)))
  rw[<-List.map_drop]
  exact sq (by simp only[X.den,M,B,cN])
 ·rename_i k b F G
  simp only[c4,e0]at h
  obtain⟨rfl,rfl⟩:=h
  have:lo=none:=by simpa using F
  subst this
  obtain⟨af,rfl,ab⟩:=e5.1 G
  have O:=ag af rfl
  rw[ab]at O
  obtain⟨m,B,U⟩:=gh O
  obtain⟨j,Y⟩:=jx Z
  cases Y
  rw[yb (ry (DS 0) B) (ry B (Eh M))]at j
  have j:(leI 0 m&&leI m (zs.length:Int))=true:=fN j
  refine⟨rfl,⟨.d (.slice u.size ((zs.map u.enc).take m.toNat)),.none,0<=m/\m<=(zs.map u.enc).length⟩,by simp only[jH,Option.map_some,Option.map_none,U,dm],by simpa using j,rfl,?_⟩
  show RX _ _ (.d (.slice u.size ((zs.map u.enc).take m.toNat)))
  rw[<-List.map_take]
  exact sq (by simp only[X.den,M,B,cN])
 ·rename_i k a aj b F G
  simp only[c4,e0]at h
  obtain⟨rfl,rfl⟩:=h
  obtain⟨ae,rfl,aa⟩:=e5.1 F
  obtain⟨af,rfl,ab⟩:=e5.1 G
  have N:=ah ae rfl
  rw[aa]at N
  obtain⟨m,B,U⟩:=gh N
  have O:=ag af rfl
  rw[ab]at O
  obtain⟨m',ad,ai⟩:=gh O
  obtain⟨j,Y⟩:=jx Z
  cases Y
  rw[yb (ry (DS 0) B) (yb (ry B ad) (ry ad (Eh M)))]at j
  have j:(leI 0 m&&(leI m m'&&leI m' (zs.length:Int)))=true:=fN j
  refine⟨rfl,⟨.d (.slice u.size (((zs.map u.enc).take m'.toNat).drop m.toNat)),.none,0<=m/\m<=m'/\m'<=(zs.map u.enc).length⟩,by simp only[jH,Option.map_some,U,ai,dm],by simpa using j,rfl,?_⟩
  show RX _ _ (.d (.slice u.size (((zs.map u.enc).take m'.toNat).drop m.toNat)))
  rw[<-List.map_take,<-List.map_drop]
  exact sq (by simp only[X.den,M,B,ad,cN])
 cases h
theorem bU.list(B:bU P V C){t:TypeId}{u:Ty}(ht:C.ty t=some (.list u)):∃sz j z e i,V.E t=some ⟨sz,j,z,.slice e⟩/\V.E e=some i/\i.size=u.size/\i.desc.agg=ct u/\isVal u/\0<u.size/\C.ty e=some u:=by
 obtain⟨i,G,ad,ae,af,F,M⟩:=B.info ht
 clear M
 obtain⟨sz,j,z,d⟩:=i
 cases d<;>simp[oq]at F
 rename_i e
 obtain⟨⟨⟨k,Z⟩,aa⟩,ab⟩:=F
 obtain⟨i,N,O,U,Y,_⟩:=B.info k
 exact⟨sz,j,z,e,i,G,N,O,U,Y,by omega,k⟩
def xC{id:Nat}{u:T}(h:RX ρ (.row id) u):u=.row id:=by cases h;rfl
def wy{id:Nat}{u:T}(h:RX ρ (.map id) u):u=.map id:=by cases h;rfl
def Zj(F:bU P V C){t:TypeId}{x:Operand}{lo hi:Option Operand}(j:o.op=.slice t x lo hi none)(ay:RL ρ lX l)(Y:∀x∈o.op.operands,RX ρ (ρX x) (ρT x))(h:dQ C ρX lX n nid o=some q)(aj:cu cs n ρ q.ins ρ'):cO P o ρT l nid ρ' q:=by
 have k:=Y x (by simp[j,Op.operands])
 have ak:∀a,lo=some a->RX ρ (ρX a) (ρT a):=λa e=>Y a (by subst e;simp[j,Op.operands])
 have ai:∀a,hi=some a->RX ρ (ρX a) (ρT a):=λa e=>Y a (by subst e;simp[j,Op.operands])
 simp only[dQ,j]at h
 split at h
 ·rename_i u aA xs ab G
  split at h
  ·rename_i ao;subst ao
   obtain⟨sz,an,z,e,i,M,B,N,aq,ar,au,_⟩:=F.list ab
   simp only[e5]at h
   obtain⟨⟨is,y⟩,aa,rfl⟩:=h
   rw[G]at k
   obtain⟨zs,O,av⟩:=Em k
   obtain⟨rfl,r,ad,ae,al,af⟩:=NF O ak ai aa aj
   have Z:aX V ρT l nid o=r:=by
    simp only[aX,j,M,av]
    rw[if_pos ⟨by simp[bD,B,N],by simp[B]⟩]
    exact ad
   exact .val F.ok Z ae al af
  cases h
 ·rename_i u id ab G
  obtain⟨sz,an,z,e,i,M,B,N,aq,ar,au,_⟩:=F.list ab
  split at h
  ·rename_i xs l' ax
   simp only[e5]at h
   obtain⟨⟨is,y⟩,aa,rfl⟩:=h
   rw[G]at k
   have ah:ρT x=.row id:=xC k
   rw[ah]at k
   obtain⟨v,ag,O,_,U,aw⟩:=GU ay k ax (λ_ e=>by cases e)
   obtain⟨rfl,r,ad,ae,al,af⟩:=NF (u:=u) (zs:=v) O ak ai aa aj
   have U:dx l (.row id)=some (.slice u.size (List.map u.enc v),ag):=U
   have Z:aX V ρT l nid o=⟨r.t,.aP ag,r.ob⟩:=by
    simp only[aX,j,M,ah,F.sub,U]
    rw[if_neg (by simp)]
    rw[if_pos ⟨by simp[bD,B,N],by simp[B]⟩,ad]
   exact⟨_,af,ag,aw,λaz=>cn.aP F.ok Z ae rfl az⟩
  cases h
 cases h
theorem Mb{U:Nat->Option (Nat×Nat)}:∀{ps:List (Nat×Operand)}{k G:List TX}{j:List T},(∀p∈ps,RX ρ (ρX p.2) (ρT p.2))->F2 (RX ρ) k j->xn U k (ps.map λp=>(p.1,ρX p.2))=some G ->
  ∃F,lF U j (ps.map λp=>(p.1,ρT p.2))=some F/\F2 (RX ρ) G F
 | [],k,G,j,_,M,h=>by simp[xn]at h;subst h;exact⟨j,rfl,M⟩
 |p::ps,k,G,j,N,M,h=>by
  simp only[fa,xn]at h
  split at h
  ·rename_i off size vs Y Z
   cases B:(Nat.beq vs.length size&&Nat.ble (off+size) k.length)with
   |false=>simp[B]at h
   |true=>
    simp only[B,cond_true]at h
    simp only[db]at B
    have aa:=er B.1;have ab:=hg B.2
    obtain⟨O,ag⟩:=yA (N p (by simp)) Z
    obtain⟨F,ad,ae⟩:=Mb (λq af=>N q (by simp[af])) (Gy (off:=off) M O) h
    refine⟨F,?_,ae⟩
    simp only[fa,lF,Y]
    rw[if_pos ⟨by rw[<-O.len,aa],by rw[<-M.len];exact ab,ag⟩]
    exact ad
  cases h
def Sf(j:bU P V C){t:TypeId}{parts:Array (Nat×Operand)}(B:o.op=.build t parts)(ab:∀x∈o.op.operands,RX ρ (ρX x) (ρT x))(h:dQ C ρX lX n nid o=some q)(hi:cu cs n ρ q.ins ρ'):cO P o ρT l nid ρ' q:=by
 have F:∀p∈parts.toList,RX ρ (ρX p.2) (ρT p.2):=λp F=>ab p.2 (by simp[B,Op.operands];exact⟨p.1,by simpa using F⟩)
 simp only[dQ,B]at h
 split at h
 ·rename_i s1 s2 z fs u G af
  obtain⟨i,k,an,ae,ag,N,ah⟩:=j.info af
  obtain⟨ao,ai,aj⟩:=OW (ρ:=ρ) ah
  rw[j.E,G]at k
  simp only[c4]at k
  subst k
  rw[ai]at h
  simp only[k3,e5]at h
  obtain⟨ds,Z,v,aa,rfl⟩:=h
  cases hi
  obtain⟨Y,ak,al⟩:=Mb (ρX:=ρX) (ρT:=ρT) F aj Z
  have U:ct u=true:=by
   have:(TD.struct fs).agg=true:=rfl
   rw[<-ae];rfl
  have M:fs.all (λf=>(V.E f.2).isSome)=true:=by
   rw[j.E]
   cases u<;>first|exact N| (simp[oq]at N;done)| (simp[ct]at U;done)
  have O:=zw ag al aa
  rw[U]at O
  have ad:aX V ρT l nid o=.ok (gk true Y):=by
   simp only[aX,B,j.E,G]
   rw[j.E]at M
   rw[if_pos M,ak]
  exact .val j.ok ad trivial rfl O
 cases h
theorem u9:∀{fX:List Ty}{xs:List TX}{ad:List T}{ys:List X}{lX F:List AX}{l:List AO},RL ρ lX l->F2 (RX ρ) xs ad->hY lX fX xs=some (ys,F) ->
  ∃(a:(ba fX).den)(l':List AO),kc ρ fX ys a/\fh l ad=some (ec fX a,l')/\RL ρ F l'
 | [],[],[],ys,lX,F,l,N,B,h=>by
  simp only[hY,c4,e0]at h
  obtain⟨rfl,rfl⟩:=h
  exact⟨(),l,⟨rfl,λj t h=>by simp at h⟩,rfl,N⟩
 |t::ts,x::xs,u::ak,ys,lX,F,l,N,.cons B af,h=>by
  simp only[hY]at h
  cases G:l3 lX t x with
  |none=>simp[G]at h
  |some p=>
   obtain⟨y,l1⟩:=p
   simp only[G]at h
   cases M:hY l1 ts xs with
   |none=>simp[M]at h
   |some p=>
    obtain⟨zs,ai⟩:=p
    simp only[M,c4,e0]at h
    obtain⟨rfl,rfl⟩:=h
    obtain⟨v,aj,U,Y,ah⟩:=BQ N B G
    obtain⟨a,Z,O,aa,ab⟩:=u9 ah af M
    cases ts with
    |nil=>
     refine⟨v,Z,⟨by simp[O.1],λj w k=>?_⟩,?_,ab⟩
     ·cases j with
      |zero=>simp at k;subst k;exact⟨y,rfl,by simpa [cW]using U⟩
      |succ j=>simp at k
     simp only[fh,Y,aa,ec]
    |cons t' ts=>
     refine⟨(v,a),Z,⟨by simp[O.1],λj w k=>?_⟩,?_,ab⟩
     ·cases j with
      |zero=>simp at k;subst k;exact⟨y,rfl,by simpa [cW]using U⟩
      |succ j=>
       obtain⟨z,ag,ae⟩:=O.2 j w (by simpa using k)
       exact⟨z,by simpa using ag,by simpa [cW]using ae⟩
     simp only[fh,Y,aa];rfl
 | [],[],_::_,_,_,_,_,_,B,_=>by cases B
 |_::_,_::_,[],_,_,_,_,_,B,_=>by cases B
 | [],_::_,_,_,_,_,_,_,_,h=>by simp[hY]at h
 |_::_,[],_,_,_,_,_,_,_,h=>by simp[hY]at h
theorem KP{u:Ty}:∀{k:Nat}{xs:List X}{a:(ba (List.replicate k u)).den},kc ρ (List.replicate k u) xs a->∃zs:List u.den,(wm u xs).den ρ=some ⟨.list u,zs⟩/\ec (List.replicate k u) a=zs.map u.enc/\zs.length=k
 |0,xs,a,h=>by
  have:xs=[]:=by simpa using h.1
  subst this
  exact⟨[],rfl,rfl,rfl⟩
 |1,xs,a,h=>by
  obtain⟨x,rfl⟩:∃x,xs=[x]:=by
   have:=h.1
   match xs,this with
   | [x],_=>exact⟨x,rfl⟩
  obtain⟨y,F,B⟩:=h.2 0 u rfl
  simp at F;subst F
  refine⟨[a],?_,rfl,rfl⟩
  have B:x.den ρ=some ⟨u,a⟩:=B
  have G:dr u ⟨u,a⟩=some a:=fZ u a
  simp only[wm,X.den,B,cN,G]
 |k+2,xs,a,h=>by
  obtain⟨x,r,rfl⟩:∃x r,xs=x::r:=by
   have:=h.1
   match xs,this with
   |x::r,_=>exact⟨x,r,rfl⟩
  obtain⟨y,F,B⟩:=h.2 0 u (by simp[List.replicate_succ])
  simp at F;subst F
  have B:x.den ρ=some ⟨u,a.1⟩:=B
  obtain⟨zs,M,N,O⟩:=KP (k:=k+1) (xs:=r) (a:=a.2) ⟨by have:=h.1;simpa using this,λj t ht=>by
   obtain⟨z,U,Y⟩:=h.2 (j+1) t (by simpa [List.replicate_succ]using ht)
   exact⟨z,by simpa using U,by simpa [cW,List.replicate_succ]using Y⟩⟩
  refine⟨a.1::zs,?_,?_,by simp[O]⟩
  ·have G:dr u ⟨u,a.1⟩=some a.1:=fZ u a.1
   simp only[wm,X.den,B,M,cN,G]
  show u.enc a.1::ec (List.replicate (k+1) u) a.2=_
  rw[N];rfl
end
end Go.Sy
namespace Go.Sy
open Go Go.ag
variable [aG][cQ][cK][dw][bq]
section
variable {P:Program}{V:Env}{C:Cx}{o:Oper}{ρX:Operand->TX}{ρT:Operand->T}{lX:List AX}{l:List AO}{n nid:Nat}{cs:List Callee}{ρ ρ':aS}{q:dB}
theorem OE:∀{j:List T}{ds:List D},j.mapM gJ=some ds->fh l j=some (ds,l)
 | [],ds,h=>by simp at h;subst h;rfl
 |u::j,ds,h=>by
  simp only[k8,Option.bind_eq_bind,k3,Option.pure_def,c4]at h
  obtain⟨x,k,xs,B,rfl⟩:=h
  have:dx l u=some (x,l):=by cases u<;>simp[gJ]at k<;>subst k<;>rfl
  simp only[fh,this,OE B]
theorem Uf{ps:List (Nat×Operand)}(h:∀p∈ps,RX ρ (ρX p.2) (ρT p.2)):F2 (RX ρ) (ps.map λp=>ρX p.2) (ps.map λp=>ρT p.2):=by
 induction ps with
 |nil=>exact .nil
 |cons p ps k=>exact .cons (h p (by simp)) (k λq j=>h q (by simp[j]))
def Sc(j:bU P V C){t:TypeId}{len:Nat}{parts:Array (Nat×Operand)}(G:o.op=.buildSlice t len parts)(aj:RL ρ lX l)(aq:∀x∈o.op.operands,RX ρ (ρX x) (ρT x))(h:dQ C ρX lX n nid o=some q)(hi:cu cs n ρ q.ins ρ'):cO P o ρT l nid ρ' q:=by
 have af:∀p∈parts.toList,RX ρ (ρX p.2) (ρT p.2):=λp af=>aq p.2 (by simp[G,Op.operands];exact⟨p.1,by simpa using af⟩)
 simp only[dQ,G]at h
 split at h
 ·rename_i s1 s2 z e u O av
  obtain⟨sz,az,z',aB,i,Y,N,ao,aC,Z,aa,aD⟩:=j.list av
  rw[j.E,O]at Y
  simp only[c4,TI.mk.injEq,TD.slice.injEq]at Y
  obtain⟨rfl,rfl,rfl,rfl⟩:=Y
  have B:bD V.E e=u.size:=by simp[bD,N,ao]
  cases ad:Nat.beq len 0 with
  |true=>
   have:=er ad
   subst this
   simp only[ia,cond_true]at h
   cases ag:parts.toList.isEmpty with
   |false=>simp[ag]at h
   |true=>
    simp only[ag,cond_true,c4]at h
    subst h
    cases hi
    have k:aX V ρT l nid o=⟨.row nid,.aP (l++[.row e (bD V.E e) []]),parts.toList.isEmpty=true⟩:=by
     simp only[aX,G,j.E,O]
     rw[if_pos (by rw[<-j.E];exact⟨by simp[N],by rw[B];exact aa⟩)]
     simp
    rw[B]at k
    exact⟨_,.row nid,_,F2.app aj (.cons (.row e u _ ([]:List u.den) Z rfl) .nil),λU=>cn.aP j.ok k ag rfl U⟩
  |false=>
   simp only[ad,cond_false]at h
   cases F:(decide (parts.toList.map (·.1)=List.range len)&&Nat.ble (len*u.size) 16777216)with
   |false=>simp[F]at h
   |true=>
    simp only[F,cond_true]at h
    simp only[db,ea]at F
    have aw:=hg F.2
    split at h
    ·rename_i xs l1 ab
     simp only[c4]at h
     subst h
     cases hi
     obtain⟨a,ax,ay,M,al⟩:=u9 aj (Uf (ρX:=ρX) (ρT:=ρT) af) ab
     obtain⟨zs,ah,an,aA⟩:=KP ay
     have ak:len≠0:=by rintro rfl;simp at ad
     have ar:(zs.map u.enc).all (λd=>d.cells.length == u.size&&d.cells.all D.one)=true:=by
      rw[dT]
      intro d ab
      obtain⟨z,_,rfl⟩:=gj.1 ab
      rw[ku Z]
      simp only[beq_self_eq_true,n2,dT]
      exact vH Z z
     rw[an]at M
     have ai:parts.toList.map (·.1)=List.range len/\len*u.size<=16777216/\(zs.map u.enc).all (λd=>d.cells.length == u.size&&d.cells.all D.one)=true:=⟨F.1,aw,ar⟩
     cases ae:parts.toList.mapM (λp=>gJ (ρT p.2))with
     |some ds=>
      have au:(parts.toList.map λp=>ρT p.2).mapM gJ=some ds:=by rw[List.mapM_map];exact ae
      have:=OE (l:=l) au
      rw[this]at M
      simp only[c4,e0]at M
      obtain⟨rfl,rfl⟩:=M
      have k:aX V ρT l nid o=.ok (.d (.slice u.size (zs.map u.enc))):=by
       simp only[aX,G,j.E,O,ae]
       rw[if_pos (by rw[<-j.E];exact⟨by simp[N],by rw[B];exact aa⟩),if_neg ak,<-j.E,B,if_pos ai]
      exact⟨_,sq ah,_,al,λU=>cn.none j.ok k trivial rfl⟩
     |none=>
      have k:aX V ρT l nid o=⟨.d (.slice u.size (zs.map u.enc)),.aP ax,True⟩:=by
       simp only[aX,G,j.E,O,ae,M]
       rw[if_pos (by rw[<-j.E];exact⟨by simp[N],by rw[B];exact aa⟩),if_neg ak,<-j.E,B,if_pos ai]
      exact⟨_,sq ah,_,al,λU=>cn.aP j.ok k trivial rfl U⟩
    cases h
 cases h
def cn.Hh{k B:Operand->T}{t t':T}{l':List AO}(h:cn P o k l t l')(N:∀(w0:World)(I0:ay)(w:World)(I:ay)(m:Nat->Value) x v,aH w0 I0 w I m l->ar I m l v (B x)->ar I m l v (k x))(ht:∀(I:ay)(m:Nat->Value) v,ar I m l' v t->ar I m l' v t'):cn P o B l t' l':=⟨h.1,λw0 I0 w I m ρ j U=>(h.2 w0 I0 w I m ρ j λx O=>N w0 I0 w I m x _ j (U x O)).mono λv w' ⟨J,m',F,G,M⟩=>⟨J,m',F,G,ht _ _ _ M⟩⟩
def nq(l:List AO):T->T
 |.row id=>match l[id]? with
  |some (.br _ s els)=>.bJ id (.slice s els)
  |_=>.row id
 |t=>t
def VJ{w0 w:World}{I0 I:ay}{m:Nat->Value}{v:Value}{t:T}(Y:aH w0 I0 w I m l)(h:ar I m l v t):ar I m l v (nq l t):=by
 unfold nq
 split
 ·rename_i id
  split
  ·rename_i e s els B
   have ad:=h
   cases h with
   |row A n c _ M k=>
    have U:isRow l id=true:=by simp[isRow,B,AO.isRow]
    obtain⟨xs,F,aa,ab,G⟩:=Y.obj id _ B
    have O:=k U
    rw[O]at F G
    exact .bJ _ _ _ _ _ M k (uK F aa ab λb N j x Z=>(G b N).2.1 j x Z)
  exact h
 exact h
def VK(t:T):dx l (nq l t)=dx l t:=by
 unfold nq
 split
 ·rename_i id
  cases h:l[id]? with
  |none=>rfl
  |some o=>cases o<;>simp[dx,cV,h]
 rfl
def yS{y:X}{b:Nat}{t:Ty}{zs:List t.den}(j:y.den ρ=some ⟨.list t,zs⟩)(h:(X.u1 (.fit b) y).den ρ=some ⟨.bool,true⟩):zs.length*b<=140737488355328/\zs.length<=9223372036854775807:=by
 simp only[X.den,j,gx]at h
 have h:decide (zs.length*b<=140737488355328/\zs.length<=9223372036854775807)=true:=fN h
 simpa using h
def Cj{x y:X}{t:Ty}{xs ys:List t.den}(j:x.den ρ=some ⟨.list t,xs⟩)(k:y.den ρ=some ⟨.list t,ys⟩):(X.u2 .app x y).den ρ=some ⟨.list t,xs++ys⟩:=by
 have B:dr (.list t) ⟨.list t,ys⟩=some ys:=fZ (.list t) ys
 simp only[X.den,j,k,cN,B]
 rfl
def Ol{t:T}{d:D}{l':List AO}{id e s:Nat}{els:List D}(j:l[id]?=some (.br e s els))(h:cV l t=some (d,l')):l'[id]?=some (.br e s els):=by
 cases t with
 |d x=>simp only[cV,c4,e0]at h;rw[<-h.2];exact j
 |bC s=>simp only[cV,c4,e0]at h;rw[<-h.2];exact j
 |bJ i x=>simp only[cV,c4,e0]at h;rw[<-h.2];exact j
 |row i=>
  simp only[cV]at h
  split at h
  ·simp only[c4,e0]at h;rw[<-h.2];exact j
  ·rename_i k
   simp only[c4,e0]at h;rw[<-h.2]
   have:i≠id:=by rintro rfl;rw[j]at k;cases k
   rw[List.getElem?_set_ne this];exact j
  cases h
 |map i=>
  simp only[cV]at h
  split at h
  ·simp only[c4,e0]at h;rw[<-h.2];exact j
  ·rename_i k
   simp only[c4,e0]at h;rw[<-h.2]
   have:i≠id:=by rintro rfl;rw[j]at k;cases k
   rw[List.getElem?_set_ne this];exact j
  cases h
 |_=>simp[cV]at h
def HK{id e s:Nat}{els:List D}:∀{ts:List T}{ds:List D}{l l':List AO},l[id]?=some (.br e s els)->dq l ts=some (ds,l')->l'[id]?=some (.br e s els)
 | [],ds,l,l',B,h=>by simp only[dq,c4,e0]at h;rw[<-h.2];exact B
 |t::ts,ds,l,l',B,h=>by
  simp only[dq]at h
  cases j:cV l t with
  |none=>simp[j]at h
  |some p=>
   obtain⟨x,F⟩:=p
   simp only[j]at h
   cases k:dq F ts with
   |none=>simp[k]at h
   |some p=>
    obtain⟨xs,G⟩:=p
    simp only[k,c4,e0]at h
    rw[<-h.2]
    exact HK (Ol B j) k
def aac{t:T}{d:D}{l':List AO}{id e s:Nat}{els:List D}(j:l[id]?=some (.br e s els))(h:dx l t=some (d,l')):l'[id]?=some (.br e s els):=by
 by_cases ht:∃ts,t=.agg ts
 ·obtain⟨ts,rfl⟩:=ht
  obtain⟨ds,_,k⟩:=xQ h
  exact HK j k
 rw[xR (λts e=>ht ⟨ts,e⟩)]at h
 exact Ol j h
def zD{k:Nat}{u:T}(h:RX ρ (.bC k) u):u=.bC k:=by cases h;rfl
def Pg(N:bU P V C){c:Call}{s x:Operand}{t:TypeId}(aR:o.op=.call c)(aL:c.callee=.builtin .append)(aH:c.args.toList=[s,x])(aK:c.argTypes.toList=[t,t])(aA:RL ρ lX l)(ai:RX ρ (ρX s) (ρT s))(aU:RX ρ (ρX x) (ρT x))(h:Ck C t lX nid (ρX s) (ρX x)=some q)(hi:cu cs n ρ q.ins ρ'):cO P o ρT l nid ρ' q:=by
 have ar:∀ρT:Operand->T,aX V ρT l nid o=iq V.E t l nid (ρT s) (ρT x):=by intro ρT;simp only[aX,aR,aL,aH,aK,hK]
 unfold Ck at h
 split at h
 ·rename_i s1 s2 z e u aF aT
  obtain⟨sz,a6,z',a7,i,ak,ad,ae,ba,al,bb,bc⟩:=N.list aT
  have af:V.E t=some ⟨s1,s2,z,.slice e⟩:=by rw[N.E];exact aF
  rw[af]at ak
  simp only[c4,TI.mk.injEq,TD.slice.injEq]at ak
  obtain⟨rfl,rfl,rfl,rfl⟩:=ak
  have ao:bytesOf C.E e=i.bytes:=by rw[<-N.E];simp[bytesOf,ad]
  split at h
  ·rename_i y l1 aN
   obtain⟨new,B,aa,ab,M⟩:∃(new:List u.den)(B:List AO),y.den ρ=some ⟨.list u,new⟩/\dx l (ρT x)=some (.slice u.size (List.map u.enc new),B)/\RL ρ l1 B:=BQ aA aU aN
   have aq:(u.size=i.size\/(List.map u.enc new).isEmpty=true)/\0<i.size:=⟨.inl ae.symm,by omega⟩
   cases av:ρX s with
   |bC k=>
    rw[av]at ai h
    have ag:ρT s=.bC k:=zD ai
    simp only[c4]at h
    subst h
    obtain⟨aj,ay⟩:=jx hi
    cases ay
    have:=yS aa aj
    have F:aX V ρT l nid o=⟨.row nid,.aP (B++[.row e i.size (List.map u.enc new)]),(List.map u.enc new).length*i.bytes<=140737488355328/\(List.map u.enc new).length<=9223372036854775807⟩:=by
     rw[ar,ag]
     simp only[iq,af,ad,ab]
     rw[if_pos aq]
    rw[ae]at F
    exact⟨_,.row nid,_,F2.app M (.cons (.row e u y new al aa) .nil),λY=>cn.aP N.ok F (by rw[ao]at this;show(List.map u.enc new).length*i.bytes<=140737488355328/\(List.map u.enc new).length<=9223372036854775807;rw[hG];exact this) rfl Y⟩
   |row id=>
    rw[av]at ai h
    have ag:=xC ai
    simp only at h
    split at h
    ·rename_i aC O j bm aO
     split at h
     ·rename_i aM
      obtain⟨rfl,rfl⟩:=aM
      cases G:(Nat.beq nid l1.length&&(DA lX id == aC))with
      |false=>simp[G]at h
      |true=>
       simp only[G,cond_true,c4]at h
       simp only[db]at G
       have ah:=G.2
       have G:=er G.1
       subst h
       obtain⟨aj,ay⟩:=jx hi
       cases ay
       obtain⟨aZ,an,aI⟩:=F2.left M aO
       have aB:nid=B.length:=by rw[G];exact M.len
       have bd:(l1.set id .dead).length=(B.set id .dead).length:=by simp[M.len]
       cases aI with
       |row _ _ _ zs _ ax=>
        have Z:=Cj ax aa
        have U:=yS Z aj
        have F:aX V ρT l nid o=⟨.row nid,.aP (B.set id .dead++[.row O j.size (List.map j.enc zs++List.map j.enc new)]),((List.map j.enc zs).length+(List.map j.enc new).length)*i.bytes<=140737488355328/\(List.map j.enc zs).length+(List.map j.enc new).length<=9223372036854775807⟩:=by
         rw[ar,ag]
         simp only[iq,af,ad,ab]
         rw[if_pos aq]
         simp only[an]
         rw[if_pos ⟨trivial,ae.symm,aB⟩]
        have au:List.map j.enc zs++List.map j.enc new=List.map j.enc (zs++new):=q7.symm
        rw[au]at F
        exact⟨_,.row nid,_,F2.app (F2.set M .dead id) (.cons (.row O j _ (zs++new) al Z) .nil),λY=>cn.aP N.ok F (by rw[ao]at U;simpa using U) rfl Y⟩
       |br _ _ _ zs _ ax=>
        have Z:=Cj ax aa
        have U:=yS Z aj
        have aQ:l[id]?=some (.br O j.size (zs.map j.enc)):=by
         unfold DA at ah
         split at ah
         ·rename_i aD a8 bh bj aE
          have:aD=true:=by simpa using ah
          subst this
          obtain⟨a1,az,aJ⟩:=F2.left aA aE
          cases aJ with
          |br _ _ _ bl _ bf=>
           have:=aac az ab
           rw[an]at this
           rw[az,<-this]
         simp at ah
        have aG:nq l (ρT s)=.bJ id (.slice j.size (zs.map j.enc)):=by rw[ag];simp only[nq,aQ]
        have aV:dx l (nq l (ρT x))=some (.slice j.size (List.map j.enc new),B):=by rw[VK,ab]
        have F:aX V (λy=>nq l (ρT y)) l nid o=⟨.bJ nid (.slice j.size (List.map j.enc zs++List.map j.enc new)),.aP (B.set id .dead++[.br O j.size (List.map j.enc zs++List.map j.enc new)]),((List.map j.enc zs).length+(List.map j.enc new).length)*i.bytes<=140737488355328/\(List.map j.enc zs).length+(List.map j.enc new).length<=9223372036854775807⟩:=by
         rw[ar]
         show iq V.E t l nid (nq l (ρT s)) (nq l (ρT x))=_
         rw[aG]
         simp only[iq,af,ad,aV]
         rw[if_pos aq]
         simp only[an]
         rw[if_pos ⟨trivial,ae.symm,aB⟩]
        have au:List.map j.enc zs++List.map j.enc new=List.map j.enc (zs++new):=q7.symm
        rw[au]at F
        refine⟨.row nid,.row nid,_,F2.app (F2.set M .dead id) (.cons (.br O j _ (zs++new) al Z) .nil),λY=>?_⟩
        refine(cn.aP N.ok F (by rw[ao]at U;simpa using U) rfl Y).Hh (λw0 I0 w I m x v aS aw=>VJ aS aw) (λI m v aw=>?_)
        cases aw with
        |bJ A a b _ _ aW aY bg=>exact .row A a b _ aW aY
     cases h
    cases h
   |_=>rw[av]at h;simp at h
  cases h
 cases h
end
end Go.Sy
namespace Go.Sy
open Go Go.ag
variable [aG][cQ][cK][dw][bq]
def wi{α:Type}{kk:IntKind}{n:Int}:∀{m:List (Int×α)}{i j:Nat},eu n (m.map λp=>D.int kk p.1) i=some j->∃k e,j=i+k/\m[k]?=some e/\e.1=n/\(∀d,aq m n d=e.2)/\dG m n=true/\(∀y,aM m n y=m.set k (n,y))/\fA m n=m.eraseIdx k
 | [],i,j,h=>by simp[eu]at h
 |p::m,i,j,h=>by
  simp only[fa,eu]at h
  by_cases e:n=p.1
  ·rw[if_pos e]at h
   simp only[c4]at h
   exact⟨0,p,by omega,rfl,e.symm,λd=>by simp[aq,e],by simp[dG,e],λy=>by simp[aM,e],by simp[fA,e]⟩
  rw[if_neg e]at h
  obtain⟨k,F,Z,G,M,N,O,U,Y⟩:=wi h
  have B:¬p.1=n:=λx=>e x.symm
  exact⟨k+1,F,by omega,by simpa using G,M,λd=>by have:=N d;simpa [aq,List.find?_cons,B]using this,by simpa [dG,B]using O,λy=>by simp[aM,B,U],by simp[fA,B,Y]⟩
def wh{α:Type}{kk:IntKind}{n:Int}:∀{m:List (Int×α)}{i:Nat},eu n (m.map λp=>D.int kk p.1) i=none->(∀d,aq m n d=d)/\dG m n=false/\(∀y,aM m n y=m++[(n,y)])/\fA m n=m
 | [],i,h=>⟨λd=>rfl,rfl,λy=>rfl,rfl⟩
 |p::m,i,h=>by
  simp only[fa,eu]at h
  by_cases e:n=p.1
  ·rw[if_pos e]at h;cases h
  rw[if_neg e]at h
  obtain⟨k,B,F,G⟩:=wh h
  have j:¬p.1=n:=λx=>e x.symm
  exact⟨λd=>by have:=k d;simpa [aq,List.find?_cons,j]using this,by simpa [dG,j]using B,λy=>by simp[aM,j,F],by simp[fA,j,G]⟩
def tV{α:Type}{kk:IntKind}(m:List (Int×α)):np kk (m.map λp=>D.int kk p.1)=true:=by simp[np]
theorem Ml{α:Type}{kk:IntKind}{m:Int}{w:α}(zs:List (Int×α))(f:α->D):(match eu m (zs.map λp=>D.int kk p.1) 0 with|some j=>AO.map (zs.map λp=>D.int kk p.1) ((zs.map λp=>f p.2).set j (f w))|none=>AO.map ((zs.map λp=>D.int kk p.1)++[.int kk m]) ((zs.map λp=>f p.2)++[f w])) =
  AO.map ((aM zs m w).map λp=>D.int kk p.1) ((aM zs m w).map λp=>f p.2):=by
 cases F:eu m (zs.map λp=>D.int kk p.1) 0 with
 |some j=>
  obtain⟨N,O,U,B,G,_,_,k,_⟩:=wi F
  have:j=N:=by omega
  subst this
  simp only
  rw[k]
  congr 1
  ·rw[tt]
   refine hW λq=>?_
   rw[e4]
   split
   ·rename_i M
    subst M
    have:=(c5.1 B).1
    rw[et,B,if_pos (by simpa using this)]
    simp only[Option.map_some];rw[<-G]
   rfl
  rw[tt]
 |none=>
  obtain⟨_,_,k,_⟩:=wh F
  simp only
  rw[k]
  simp
def Da{α β:Type}(f:α->β):∀(l:List α)(k:Nat),(l.eraseIdx k).map f=(l.map f).eraseIdx k
 | [],k=>by simp
 |x::l,0=>rfl
 |x::l,k+1=>by simp[Da f l k]
theorem Tk{α:Type}{kk:IntKind}{m:Int}(zs:List (Int×α))(f:α->D):(match eu m (zs.map λp=>D.int kk p.1) 0 with|some j=>AO.map ((zs.map λp=>D.int kk p.1).eraseIdx j) ((zs.map λp=>f p.2).eraseIdx j)|none=>AO.map (zs.map λp=>D.int kk p.1) (zs.map λp=>f p.2)) =
  AO.map ((fA zs m).map λp=>D.int kk p.1) ((fA zs m).map λp=>f p.2):=by
 cases B:eu m (zs.map λp=>D.int kk p.1) 0 with
 |some j=>
  obtain⟨F,G,M,N,O,_,_,_,k⟩:=wi B
  have:j=F:=by omega
  subst this
  simp only
  rw[k,Da,Da]
 |none=>
  obtain⟨_,_,_,k⟩:=wh B
  simp only
  rw[k]
section
variable {P:Program}{V:Env}{C:Cx}{o:Oper}{ρX:Operand->TX}{ρT:Operand->T}{lX:List AX}{l:List AO}{n nid:Nat}{cs:List Callee}{ρ ρ':aS}{q:dB}
theorem abf:∀(f:Nat){t:Ty}{x:X},ki f t=some x->∃v:t.den,x.den ρ=some ⟨t,v⟩:=by
 intro f
 induction f with
 |zero=>intro t x h;simp[ki]at h
 |succ f O=>
  intro t x h
  cases t with
  |st i=>
   simp only[ki,e5]at h
   obtain⟨xs,M,rfl⟩:=h
   have key:∀(ts:List Ty)(xs:List X),ts.mapM (ki f)=some xs->∃a:(ba ts).den,kc ρ ts xs a:=by
    intro ts
    induction ts with
    |nil=>intro xs h;simp at h;subst h;exact⟨(),rfl,λj t h=>by simp at h⟩
    |cons t ts U=>
     intro xs h
     simp only[k8,Option.bind_eq_bind,k3,Option.pure_def,c4]at h
     obtain⟨x,G,ys,N,rfl⟩:=h
     obtain⟨v,F⟩:=O G
     obtain⟨a,k⟩:=U ys N
     obtain⟨b,B,_⟩:=CL F k
     exact⟨b,B⟩
   obtain⟨a,k⟩:=key _ _ M
   exact⟨aG.eN i a,Li (qy k.1 k.2)⟩
  |_=>simp[ki]at h<;>subst h<;>exact⟨_,rfl⟩
theorem Ca{v:Ty}{i:TI}{z:X}(B:isVal v)(j:pn v i.zero=true)(M:i.desc.agg=ct v)(F:ki gb v=some z):∃k:v.den,z.den ρ=some ⟨v,k⟩/\eM i.desc.agg i.zero=v.enc k:=by
 obtain⟨k,G⟩:=abf (ρ:=ρ) _ F
 refine⟨k,G,?_⟩
 unfold pn at j
 rw[F]at j
 simp only at j
 split at j
 ·rename_i ps N
  rw[OZ j (qO _ B G N),M,EK B]
 cases j
theorem bU.map(j:bU P V C){t:TypeId}{kk:IntKind}{v:Ty}(ht:C.ty t=some (.map (.int kk) v)):∃i,kJ V.E t=some (kk,i)/\nB V.E t=none/\isVal v/\i.desc.agg=ct v/\pn v i.zero=true:=by
 obtain⟨i,G,aq,ar,au,F,Z⟩:=j.info ht
 clear Z
 obtain⟨sz,aj,z,d⟩:=i
 cases d<;>simp[oq]at F
 rename_i ax az
 obtain⟨⟨⟨⟨⟨U,Y⟩,ak⟩,al⟩,an⟩,ao⟩:=F
 obtain⟨aa,k,ae,af,ag,B,_⟩:=j.info U
 obtain⟨ab,b0,ah,M,N,ai,O⟩:=j.info Y
 obtain⟨aw,av,ay,ad⟩:=aa
 cases ad<;>simp[oq]at B
 subst B
 exact⟨ab,by simp only[kJ,G,k,b0],by simp only[nB,zj,G,k,b0],N,M,O⟩
def IK{kk:IntKind}:∀(n:Nat)(x:(ba (List.replicate n (Ty.int kk))).den),(cellsOf (List.replicate n (Ty.int kk)) x).length=n/\(cellsOf (List.replicate n (Ty.int kk)) x).all (pR kk)=true
 |0,_=>⟨rfl,rfl⟩
 |1,x=>⟨rfl,by show(pR kk (.int kk x)&&true)=true;simp[pR]⟩
 |n+2,x=>by
  obtain⟨j,k⟩:=IK (n+1) x.2
  have e:cellsOf (List.replicate (n+2) (Ty.int kk)) x=[D.int kk x.1]++cellsOf (List.replicate (n+1) (Ty.int kk)) x.2:=rfl
  rw[e]
  exact⟨by simp only[e3,List.length_singleton,j];omega,by rw[abz,k];simp[pR]⟩
def D9{i n:Nat}{kk:IntKind}(B:aG.cj i=List.replicate n (Ty.int kk))(a:bY.cB i):oF n kk ((Ty.st i).enc a)=true:=by
 have e:(Ty.st i).enc a=.agg (aG.cells i a):=rfl
 rw[e]
 have key:∀(ts:List Ty)(x:(ba ts).den),ts=List.replicate n (Ty.int kk)->oF n kk (.agg (cellsOf ts x))=true:=by
  rintro _ x rfl
  obtain⟨j,k⟩:=IK n x
  simp only[oF,j,k,K2,Bool.and_self]
 rw[cK.cells]
 exact key _ _ B
def Ed{i n:Nat}{kk:IntKind}{α:Type}(k:aG.cj i=List.replicate n (Ty.int kk))(m:List (bY.cB i×α)):wj n kk (m.map λp=>(Ty.st i).enc p.1)=true:=by
 unfold wj
 rw[dT]
 intro d j
 obtain⟨p,_,rfl⟩:=gj.1 j
 exact D9 k p.1
def Ec{i:Nat}{α:Type}{k:bY.cB i}:∀{m:List (bY.cB i×α)}{q j:Nat},jz ((Ty.st i).enc k) (m.map λp=>(Ty.st i).enc p.1) q=some j->∃e r,j=q+r/\m[r]?=some e/\(∀d,my i m k d=e.2)/\p8 i m k=true/\∀y,kL i m k y=m.set r (e.1,y)
 | [],q,j,h=>by cases h
 |p::m,q,j,h=>by
  simp only[fa,jz]at h
  have F:tR ((Ty.st i).enc k) ((Ty.st i).enc p.1)=lE i k p.1:=rfl
  rw[F]at h
  cases B:lE i k p.1 with
  |true=>
   rw[if_pos B]at h
   injection h with h
   exact⟨p,0,by omega,rfl,λd=>by simp[my,List.find?_cons,B],by simp[p8,B],λy=>by simp[kL,B]⟩
  |false=>
   rw[if_neg (by simp[B])]at h
   obtain⟨e,r,U,G,M,N,O⟩:=Ec h
   exact⟨e,r+1,by omega,by simpa using G,λd=>by have:=M d;simpa [my,List.find?_cons,B]using this,by simpa [p8,B]using N,λy=>by simp[kL,B,O]⟩
def Eb{i:Nat}{α:Type}{k:bY.cB i}:∀{m:List (bY.cB i×α)}{q:Nat},jz ((Ty.st i).enc k) (m.map λp=>(Ty.st i).enc p.1) q=none->(∀d,my i m k d=d)/\p8 i m k=false/\∀y,kL i m k y=m++[(k,y)]
 | [],q,h=>⟨λd=>rfl,rfl,λy=>rfl⟩
 |p::m,q,h=>by
  simp only[fa,jz]at h
  have B:tR ((Ty.st i).enc k) ((Ty.st i).enc p.1)=lE i k p.1:=rfl
  rw[B]at h
  cases j:lE i k p.1 with
  |true=>rw[if_pos j]at h;cases h
  |false=>
   rw[if_neg (by simp[j])]at h
   obtain⟨F,G,M⟩:=Eb h
   exact⟨λd=>by have:=F d;simpa [my,List.find?_cons,j]using this,by simpa [p8,j]using G,λy=>by simp[kL,j,M]⟩
theorem XK{i:Nat}{α:Type}{m:bY.cB i}{w:α}(zs:List (bY.cB i×α))(f:α->D):(match jz ((Ty.st i).enc m) (zs.map λp=>(Ty.st i).enc p.1) 0 with|some j=>AO.map (zs.map λp=>(Ty.st i).enc p.1) ((zs.map λp=>f p.2).set j (f w))|none=>AO.map ((zs.map λp=>(Ty.st i).enc p.1)++[(Ty.st i).enc m]) ((zs.map λp=>f p.2)++[f w])) =
  AO.map ((kL i zs m w).map λp=>(Ty.st i).enc p.1) ((kL i zs m w).map λp=>f p.2):=by
 cases F:jz ((Ty.st i).enc m) (zs.map λp=>(Ty.st i).enc p.1) 0 with
 |some j=>
  obtain⟨N,M,O,B,_,_,k⟩:=Ec F
  have:j=M:=by omega
  subst this
  simp only
  rw[k]
  congr 1
  ·rw[tt]
   refine hW λq=>?_
   rw[e4]
   split
   ·rename_i G
    subst G
    have:=(c5.1 B).1
    rw[et,B,if_pos (by simpa using this)]
    rfl
   rfl
  rw[tt]
 |none=>
  obtain⟨_,_,k⟩:=Eb F
  simp only
  rw[k]
  simp
def bU.K6(B:bU P V C){t:TypeId}{j:Nat}{v:Ty}(ht:C.ty t=some (.map (.st j) v))(k:tT C t j=true):∃n kk i,nB V.E t=some (n,kk,i)/\aG.cj j=List.replicate n (.int kk)/\isVal v/\i.desc.agg=ct v/\pn v i.zero=true:=by
 obtain⟨i,G,ak,al,an,F,Z⟩:=B.info ht
 clear Z
 obtain⟨sz,ae,z,d⟩:=i
 cases d<;>simp[oq]at F
 rename_i ao aq
 obtain⟨⟨⟨⟨⟨af,U⟩,ag⟩,ah⟩,ai⟩,aj⟩:=F
 obtain⟨aa,b0,ab,M,N,ad,O⟩:=B.info U
 unfold tT at k
 rw[<-B.E,G]at k
 simp only at k
 split at k
 ·rename_i n kk Y
  exact⟨n,kk,aa,by simp only[nB,G,Y,b0],hA k,N,M,O⟩
 cases k
def N2{i:Nat}{x:X}{u:T}(h:RX ρ (.d (.st i) x) u):∃a:bY.cB i,x.den ρ=some ⟨.st i,a⟩/\u=.d ((Ty.st i).enc a):=by
 obtain⟨_,v,j,k⟩:=kq h
 exact⟨v,j,k⟩
def VY(ad:bU P V C){t:TypeId}{x k:Operand}{ok:Bool}(aF:o.op=.lookup t x k ok)(aE:RL ρ lX l)(aG:RX ρ (ρX x) (ρT x))(ai:RX ρ (ρX k) (ρT k))(h:dQ C ρX lX n nid o=some q)(hi:cu cs n ρ q.ins ρ'):cO P o ρT l nid ρ' q:=by
 have F:aX V ρT l nid o=pU V.E t l (ρT x) (ρT k) ok:=by simp only[aX,aF]
 simp only[dQ,aF]at h
 split at h
 ·rename_i kk v aK key av af
  rw[af]at ai
  obtain⟨m,ah,aw⟩:=gh ai
  split at h
  ·rename_i Y;subst Y
   obtain⟨i,ak,aH,ab,al,an⟩:=ad.map (pY av)
   split at h
   ·rename_i mx z ay az
    have:=gY h;subst this;cases hi
    obtain⟨mm,ae,U⟩:=EB aE aG ay
    have U:mapOf l (ρT x)=some (mm.map (λp=>D.int kk p.1),mm.map λp=>v.enc p.2):=U
    obtain⟨G,aB,aC⟩:=Ca (ρ:=ρ) ab an al az
    have B:dr v ⟨v,G⟩=some G:=fZ v G
    have ag:(X.u3 .j7 mx key z).den ρ=some ⟨v,aq mm m G⟩:=by simp only[X.den,ae,ah,aB,nS,B]
    have ar:(X.u2 .oL mx key).den ρ=some ⟨.bool,dG mm m⟩:=by simp only[X.den,ae,ah,cN]
    have hint:dm (ρT k)=some (kk,m):=by rw[aw];rfl
    simp only[pU,aH,Option.isSome_none,hQ,h8,rD,ak,U,hint,hK]at F
    have fin:∀(a:D)(b:Bool),a=v.enc (aq mm m G)->b=dG mm m->RX ρ (bif ok then TX.aN [.d v (.u3 .j7 mx key z),.d .bool (.u2 .oL mx key)]else .d v (.u3 .j7 mx key z)) (if ok then .d (.aN [a,.bool b])else .d a):=by
     rintro a b rfl rfl
     cases ok with
     |true=>
      refine .fW _ _ rfl λj c d B N=>?_
      rcases j with _|_|j
      ·simp at B N;subst B;subst N;exact .d v _ _ ab ag
      ·simp at B N;subst B;subst N;exact fu ar
      simp at B
     |false=>exact .d v _ _ ab ag
    cases O:eu m (mm.map λp=>D.int kk p.1) 0 with
    |some j=>
     obtain⟨aA,aj,af,Y,aI,Z,aa,_,_⟩:=wi O
     rw[O]at F
     simp only at F
     have ao:eK (mm.map λp=>v.enc p.2) j=v.enc (aq mm m G):=by
      rw[Z]
      have:j=aA:=by omega
      subst this
      have ax:(mm.map λp=>v.enc p.2)[j]?=some (v.enc aj.2):=by rw[et];exact dn (Option.map _) Y
      show((mm.map λp=>v.enc p.2)[j]?).getD .dX=_
      rw[ax]
      rfl
     exact .val ad.ok F (tV mm) rfl (fin _ _ ao aa.symm)
    |none=>
     obtain⟨Z,aa,_,_⟩:=wh O
     rw[O]at F
     simp only at F
     exact .val ad.ok F (tV mm) rfl (fin _ _ (by rw[Z];exact aC) aa.symm)
   cases h
  cases h
 ·rename_i M v aJ key av af
  rw[af]at ai
  obtain⟨m,ah,aw⟩:=N2 ai
  split at h
  ·rename_i Y;subst Y
   cases au:tT C t M with
   |false=>simp[au]at h
   |true=>
    simp only[au,cond_true]at h
    obtain⟨aL,kk,i,ak,gf,ab,al,an⟩:=ad.K6 (pY av) au
    split at h
    ·rename_i mx z ay az
     have:=gY h;subst this;cases hi
     obtain⟨mm,ae,U⟩:=EB aE aG ay
     have U:mapOf l (ρT x)=some (mm.map (λp=>(Ty.st M).enc p.1),mm.map λp=>v.enc p.2):=U
     obtain⟨G,aB,aC⟩:=Ca (ρ:=ρ) ab an al az
     have B:dr v ⟨v,G⟩=some G:=fZ v G
     have aD:dr (.st M) ⟨.st M,m⟩=some m:=fZ (.st M) m
     have ag:(X.u3 .j7 mx key z).den ρ=some ⟨v,my M mm m G⟩:=by simp only[X.den,ae,ah,aB,nS,B,aD]
     have ar:(X.u2 .oL mx key).den ρ=some ⟨.bool,p8 M mm m⟩:=by simp only[X.den,ae,ah,cN,aD]
     simp only[pU,ak,Option.isSome_some,hK,tY,U,aw,D9 gf m]at F
     have fin:∀(a:D)(b:Bool),a=v.enc (my M mm m G)->b=p8 M mm m->RX ρ (bif ok then TX.aN [.d v (.u3 .j7 mx key z),.d .bool (.u2 .oL mx key)]else .d v (.u3 .j7 mx key z)) (if ok then .d (.aN [a,.bool b])else .d a):=by
      rintro a b rfl rfl
      cases ok with
      |true=>
       refine .fW _ _ rfl λj c d B N=>?_
       rcases j with _|_|j
       ·simp at B N;subst B;subst N;exact .d v _ _ ab ag
       ·simp at B N;subst B;subst N;exact fu ar
       simp at B
      |false=>exact .d v _ _ ab ag
     cases O:jz ((Ty.st M).enc m) (mm.map λp=>(Ty.st M).enc p.1) 0 with
     |some j=>
      obtain⟨aj,aA,af,Y,Z,aa,_⟩:=Ec O
      rw[O]at F
      simp only at F
      have ao:eK (mm.map λp=>v.enc p.2) j=v.enc (my M mm m G):=by
       rw[Z]
       have:j=aA:=by omega
       subst this
       have ax:(mm.map λp=>v.enc p.2)[j]?=some (v.enc aj.2):=by rw[et];exact dn (Option.map _) Y
       show((mm.map λp=>v.enc p.2)[j]?).getD .dX=_
       rw[ax]
       rfl
      exact .val ad.ok F (Ed gf mm) rfl (fin _ _ ao aa.symm)
     |none=>
      obtain⟨Z,aa,_⟩:=Eb O
      rw[O]at F
      simp only at F
      exact .val ad.ok F (Ed gf mm) rfl (fin _ _ (by rw[Z];exact aC) aa.symm)
    cases h
  cases h
 cases h
theorem Ew(B:bU P V C){t:TypeId}(G:o.op=.makeMap t none)(N:RL ρ lX l)(h:dQ C ρX lX n nid o=some q)(hi:cu cs n ρ q.ins ρ'):cO P o ρT l nid ρ' q:=by
 have M:aX V ρT l nid o=⟨.map nid,.aP (l++[.map [] []]),True⟩:=by simp only[aX,G]
 simp only[dQ,G]at h
 split at h
 ·rename_i k v O
  simp only[c4]at h
  subst h
  cases hi
  obtain⟨i,Z,aa,ab,ad,j,_⟩:=B.info (pY O)
  have F:isVal k/\isVal v:=by
   obtain⟨sz,Y,z,d⟩:=i
   cases d<;>simp[oq]at j
   exact⟨cP j.1.1.1.2,cP j.1.1.2⟩
  exact⟨_,.map nid,_,F2.app N (.cons (.map k v _ ([]:List (k.den×v.den)) F.1 F.2 rfl) .nil),λU=>cn.aP B.ok M trivial rfl U⟩
 cases h
def Wa(j:bU P V C){t:TypeId}{a b:Operand}(az:o.op=.makeSlice t a b)(aw:RL ρ lX l)(ab:RX ρ (ρX a) (ρT a))(ad:RX ρ (ρX b) (ρT b))(h:Ey C t lX nid (ρX a) (ρX b)=some q)(hi:cu cs n ρ q.ins ρ'):cO P o ρT l nid ρ' q:=by
 have k:aX V ρT l nid o=lN V.E t l nid (ρT a) (ρT b):=by simp only[aX,az]
 unfold Ey at h
 split at h
 ·rename_i s1 s2 aG e u aR nx aS cx au aA ai aj
  rw[ai]at ab;rw[aj]at ad
  obtain⟨m,N,ag⟩:=gh ab
  obtain⟨m',B,ah⟩:=gh ad
  split at h
  ·rename_i z aB
   cases Y:X.beq nx cx with
   |false=>simp[Y]at h
   |true=>
    simp only[Y,cond_true,c4]at h
    have:=X.beq_eq Y
    subst this
    rw[N]at B
    injection B with B
    cases B
    subst h
    obtain⟨G,aD⟩:=jx hi
    obtain⟨aE,aF⟩:=jx aD
    cases aF
    obtain⟨sz,aJ,z',aK,i,O,U,ao,aq,Z,aL,ar⟩:=j.list aA
    have aa:V.E t=some ⟨s1,s2,aG,.slice e⟩:=by rw[j.E];exact au
    rw[aa]at O
    simp only[c4,TI.mk.injEq,TD.slice.injEq]at O
    obtain⟨rfl,rfl,rfl,rfl⟩:=O
    obtain⟨aQ,F,aM,aN,aO,_,aC⟩:=j.info ar
    rw[U]at F
    injection F with F;subst F
    obtain⟨M,aH,aI⟩:=Ca (ρ:=ρ) Z aC aq aB
    have ae:0<=m:=by
     simp only[iX,X.den,N,cN]at G
     have G:leI 0 m=true:=fN G
     simpa using G
    have af:(X.u2 .rep nx z).den ρ=some ⟨.list u,List.replicate m.toNat M⟩:=by simp only[X.den,N,aH,cN]
    have av:bytesOf C.E e=i.bytes:=by rw[<-j.E];simp[bytesOf,U]
    obtain⟨ak,al⟩:=yS af aE
    rw[av,r3]at ak
    rw[r3]at al
    rw[ag,ah]at k
    simp only[lN,aa,dm,U]at k
    rw[if_pos (by omega),aI,ao]at k
    have ax:List.replicate m.toNat (u.enc M)=(List.replicate m.toNat M).map u.enc:=List.map_replicate.symm
    rw[ax]at k
    have an:m*(i.bytes:Int)<=140737488355328:=by
     have:((m.toNat*i.bytes:Nat):Int)=m*i.bytes:=by rw[Int.natCast_mul,Int.toNat_of_nonneg ae]
     omega
    exact⟨_,.row nid,_,F2.app aw (.cons (.row e u _ (List.replicate m.toNat M) Z af) .nil),λay=>cn.aP j.ok k ⟨ae,trivial,an,by omega⟩ rfl ay⟩
  cases h
 cases h
def Md{v:Ty}{x:TX}{u:T}{y:X}(B:RX ρ x u)(h:uF v x=some y):∃w:v.den,y.den ρ=some ⟨v,w⟩/\gJ u=some (v.enc w):=by
 cases B with
 |d t x w F k=>
  simp only[uF]at h
  split at h
  ·rename_i e;subst e
   simp only[c4]at h;subst h
   exact⟨w,k,rfl⟩
  cases h
 |bC s=>
  simp only[uF]at h
  split at h
  ·rename_i u
   cases j:Nat.beq s u.size with
   |false=>simp[j]at h
   |true=>
    simp only[j,cond_true,c4]at h
    subst h
    have:=er j
    subst this
    exact⟨([]:List u.den),rfl,rfl⟩
  cases h
 |_=>simp[uF]at h
def K8(F:bU P V C){t:TypeId}{B k x:Operand}(ho:o.op=.mapUpdate t B k x\/o.op=.insert t B k x)(N:RL ρ lX l)(O:RX ρ (ρX B) (ρT B))(M:RX ρ (ρX k) (ρT k))(ay:RX ρ (ρX x) (ρT x))(h:Bo C t lX (ρX B) (ρX k) (ρX x)=some q)(hi:cu cs n ρ q.ins ρ'):cO P o ρT l nid ρ' q:=by
 have G:aX V ρT l nid o=sg V.E t l (ρT B) (ρT k) (ρT x):=by rcases ho with ho|ho<;>simp only[aX,ho]
 unfold Bo at h
 split at h
 ·rename_i kk v id aI key ao U Y
  rw[U]at O;rw[Y]at M
  obtain⟨m,al,an⟩:=gh M
  have ae:=wy O
  split at h
  ·rename_i y aF aG mm ar aj
   split at h
   ·rename_i Z
    obtain⟨rfl,rfl,rfl⟩:=Z
    simp only[c4]at h;subst h
    cases hi
    obtain⟨i,aa,aA,aB,aC,aD⟩:=F.map (pY ao)
    obtain⟨w,aw,ax⟩:=Md ay ar
    obtain⟨az,af,ah⟩:=F2.left N aj
    cases ah with
    |map _ _ _ zs ab ad av=>
     have hint:dm (ρT k)=some (kk,m):=by rw[an];rfl
     have ai:dr v ⟨v,w⟩=some w:=fZ v w
     have au:(X.u3 .oN mm key y).den ρ=some ⟨.map (.int kk) v,aM zs m w⟩:=by simp only[X.den,av,al,aw,nS,ai]
     have ag:l[id]?=some (.map (zs.map λp=>D.int kk p.1) (zs.map λp=>v.enc p.2)):=af
     simp only[sg,aA,Option.isSome_none,hQ,h8,mu,aa,ae,hint,ax,hK,ag]at G
     refine⟨_,.undef _,_,F2.set N (.map (.int kk) v _ (aM zs m w) ab ad au) id,λaq=>cn.aP F.ok G (tV zs) ?_ aq⟩
     exact dn (λx=>qE.aP (l.set id x)) (Ml (kk:=kk) (m:=m) (w:=w) zs v.enc)
   cases h
  cases h
 ·rename_i j v id aH key ao U Y
  rw[U]at O;rw[Y]at M
  obtain⟨m,al,an⟩:=N2 M
  have ae:=wy O
  split at h
  ·rename_i y aF aG mm ar aj
   split at h
   ·rename_i Z
    obtain⟨rfl,rfl,rfl⟩:=Z
    cases ak:tT C t j with
    |false=>simp[ak]at h
    |true=>
     simp only[ak,cond_true,c4]at h;subst h
     cases hi
     obtain⟨aJ,kk,i,aa,gf,aB,aC,aD⟩:=F.K6 (pY ao) ak
     obtain⟨w,aw,ax⟩:=Md ay ar
     obtain⟨az,af,ah⟩:=F2.left N aj
     cases ah with
     |map _ _ _ zs ab ad av=>
      have ai:dr v ⟨v,w⟩=some w:=fZ v w
      have aE:dr (.st j) ⟨.st j,m⟩=some m:=fZ (.st j) m
      have au:(X.u3 .oN mm key y).den ρ=some ⟨.map (.st j) v,kL j zs m w⟩:=by simp only[X.den,av,al,aw,nS,ai,aE]
      have ag:l[id]?=some (.map (zs.map λp=>(Ty.st j).enc p.1) (zs.map λp=>v.enc p.2)):=af
      simp only[sg,aa,Option.isSome_some,hK,nA,ae,an,ax,D9 gf m,ag]at G
      refine⟨_,.undef _,_,F2.set N (.map (.st j) v _ (kL j zs m w) ab ad au) id,λaq=>cn.aP F.ok G (Ed gf zs) ?_ aq⟩
      exact dn (λx=>qE.aP (l.set id x)) (XK (m:=m) (w:=w) zs v.enc)
   cases h
  cases h
 cases h
def Tn(G:bU P V C){c:Call}{t t':TypeId}{B k:Operand}(av:o.op=.call c)(F:c.callee=.builtin .delete)(ag:c.args.toList=[B,k])(ak:c.argTypes.toList=[t,t'])(O:RL ρ lX l)(U:RX ρ (ρX B) (ρT B))(N:RX ρ (ρX k) (ρT k))(h:CZ C t lX (ρX B) (ρX k)=some q)(hi:cu cs n ρ q.ins ρ'):cO P o ρT l nid ρ' q:=by
 have M:aX V ρT l nid o=nz V.E t l (ρT B) (ρT k):=by simp only[aX,av,F,ag,ak]
 unfold CZ at h
 split at h
 ·rename_i kk v id aD key ar Y Z
  rw[Y]at U;rw[Z]at N
  obtain⟨m,ao,aq⟩:=gh N
  have af:=wy U
  split at h
  ·rename_i aC aE mm an
   split at h
   ·rename_i aa
    obtain⟨rfl,rfl,rfl⟩:=aa
    simp only[c4]at h;subst h
    cases hi
    obtain⟨i,ab,ay,az,aA,aB⟩:=G.map (pY ar)
    obtain⟨ax,ah,aj⟩:=F2.left O an
    cases aj with
    |map _ _ _ zs ad ae aw=>
     have hint:dm (ρT k)=some (kk,m):=by rw[aq];rfl
     have al:(X.u2 .zq mm key).den ρ=some ⟨.map (.int kk) v,fA zs m⟩:=by simp only[X.den,aw,ao,cN]
     have ai:l[id]?=some (.map (zs.map λp=>D.int kk p.1) (zs.map λp=>v.enc p.2)):=ah
     simp only[nz,ab,af,hint,hK,ai]at M
     refine⟨_,.fW [] [] rfl (λj c d F=>by simp at F),_,F2.set O (.map (.int kk) v _ (fA zs m) ad ae al) id,λau=>cn.aP G.ok M (tV zs) ?_ au⟩
     exact dn (λx=>qE.aP (l.set id x)) (Tk (kk:=kk) (m:=m) zs v.enc)
   cases h
  cases h
 cases h
end
end Go.Sy