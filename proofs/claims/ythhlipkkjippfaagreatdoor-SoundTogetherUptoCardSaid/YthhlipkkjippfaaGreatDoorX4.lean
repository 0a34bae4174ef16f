import Derived.Test.YthhlipkkjippfaaGreatDoorX3
import Derived.RangeFuncIn
set_option linter.all false
namespace Go.ag
open Go Go.RowKit bG
variable [bd][bP]
def iterM{σ ρ ε:Type}(step:σ->ε->Option (σ⊕ρ)):List ε->σ->Option (σ⊕ρ)
 | [],z=>some (.inl z)
 |e::l,z=>match step z e with
  |some (.inl z')=>iterM step l z'
  |some (.inr r)=>some (.inr r)
  |none=>none
open Classical in
noncomputable def yP{σ ρ ε:Type}(step:σ->ε->Option (σ⊕ρ))(m:List ε)(z:σ):Option (σ⊕ρ):=if h:∃r,∀l,l.Perm m->iterM step l z=some r then some (Classical.choose h)else none
def Vz{σ ρ ε:Type}{step:σ->ε->Option (σ⊕ρ)}{m:List ε}{z:σ}{r:σ⊕ρ}(h:yP step m z=some r):∀l,l.Perm m->iterM step l z=some r:=by
 unfold yP at h
 split at h
 ·rename_i j
  injection h with h
  rw[<-h];exact n2 j
 cases h
def hY{ε:Type}(done:List Nat):Nat->List ε->List ε
 |_,[]=>[]
 |k,e::l=>if k∈done then hY done (k+1) l else e::hY done (k+1) l
def FM{ε:Type}:∀(k:Nat)(m:List ε),hY [] k m=m
 |_,[]=>rfl
 |k,e::l=>by simp[hY,FM (k+1) l]
def FL{ε:Type}{done:List Nat}:∀{k:Nat}{m:List ε},(∀i,i<m.length->k+i∈done)->hY done k m=[]
 |_,[],_=>rfl
 |k,e::l,h=>by
  have j:=h 0 (by simp)
  simp only[Nat.add_zero]at j
  simp only[hY,if_pos j]
  exact FL λi hi=>by have:=h (i+1) (by simp;omega);rwa [show k+(i+1)=k+1+i by omega]at this
def Mx{ε:Type}{done:List Nat}{j:Nat}:∀{k:Nat}{m:List ε},j<k->hY (done++[j]) k m=hY done k m
 |_,[],_=>rfl
 |k,e::l,h=>by
  have B:(k∈done++[j])=(k∈done):=by simp;omega
  simp only[hY,B,Mx (show j<k+1 by omega)]
theorem FN{ε:Type}{done:List Nat}:∀{k i:Nat}{m:List ε}{e:ε},m[i]?=some e->k+i∉done->(e::hY (done++[k+i]) k m).Perm (hY done k m)
 |k,i,[],e,h,_=>by simp at h
 |k,0,x::l,e,h,j=>by
  simp at h;subst h
  simp only[Nat.add_zero]at j⊢
  have:k∈done++[k]:=by simp
  simp only[hY,if_pos this,if_neg j,Mx (r4 k)]
  exact .refl _
 |k,i+1,x::l,e,h,j=>by
  have B:=FN (k:=k+1) (i:=i) (m:=l) (e:=e) (by simpa using h) (by rwa [show k+1+i=k+(i+1) by omega])
  rw[show k+1+i=k+(i+1) by omega]at B
  have F:(k∈done++[k+(i+1)])=(k∈done):=by simp
  simp only[hY,F]
  split
  ·exact B
  exact(List.Perm.swap _ _ _).trans (B.cons _)
theorem K8{done:List Nat}{n:Nat}(j:done.Nodup)(h:∀i∈done,i<n):done.length<=n:=by
 have:done.Perm ((List.range n).filter λi=>done.contains i):=(vf j (List.nodup_range.filter _)).2 λx=>by simp;exact h x
 rw[this.length_eq]
 exact hF (j4 _ _) (by simp)
def Vi{α:Type}[bG α]{m:List (Int×α)}{i:Nat}{F vd:D}(j:(m.map kE)[i]?=some F)(k:(m.map vE)[i]?=some vd):∃e,m[i]?=some e/\F=kE e/\vd=vE e:=by
 rw[e0]at j k
 cases B:m[i]? with
 |none=>rw[B]at j;cases j
 |some e=>rw[B]at j k;simp at j k;exact⟨e,rfl,j.symm,k.symm⟩
theorem U5{α:Type}(k:Int)(v:α):kE (k,v) = .int .i64 k:=rfl
theorem aaE{α:Type}[bG α](k:Int)(v:α):vE (k,v)=enc v:=rfl
section
variable {P:Program}{V:Env}{w0 w:World}{I0 I:av}{m:Nat->Value}{l:List AO}
theorem V7(Z:aE w0 I0 w I m l){id:Nat}{F vs:List D}{done:List Nat}(Y:l[id]?=some (.iter F vs done)){b:Nat}(ad:m id = .pointer (some ⟨b,0,none⟩))(ty:TypeId) :
  ((∀i,i<F.length->i∈done)/\(Instr.next (.pointer (some ⟨b,0,none⟩)) false ty).run P w = .ok (.tuple #[.bool false]) w) \/
  ∃i key val ar vd w',F[i]?=some ar/\vs[i]?=some vd/\i∉done/\(Instr.next (.pointer (some ⟨b,0,none⟩)) false ty).run P w = .ok (.tuple #[.bool true,key,val]) w'/\Rd I key ar/\Rd I val vd /\
   Le I m l I m (l.set id (.iter F vs (done++[i])))/\aE w0 I0 w' I m (l.set id (.iter F vs (done++[i]))):=by
 obtain⟨aN,G,B,seen,M,aL,af,ag,aw,aM,ax,ay,⟨az,au⟩,av⟩:=Z.obj id _ Y
 rw[ad]at M;injection M with M;injection M with M;injection M with M;subst M
 cases G with
 |none=>
  have aa:=ag.2 rfl
  have aO:F.length=0:=by rw[<-aw,aa];rfl
  refine .inl ⟨λi hi=>by omega,?_⟩
  simp[Instr.next,getObj,gj,Sem.run,af,Result.andThen]
 |some G=>
 have ab:=Z.sat.mp G B (ag.1 G rfl)
 have an:∀x,seen.contains x=true↔∃i∈done,uO B i=x:=λx=>by
  rw[<-Array.contains_toList,az];simp
 have aG:∀(i j:Nat)(hi:i<B.1.size)(N:j<B.1.size),B.1[i].born=B.1[j].born->i=j:=λi j hi N h=>by
  refine Ev ab.2.2.1 (a:=B.1[i].born) ?_ ?_
  ·simp[hi]
  simp[N,h]
 rcases run_next_at (P:=P) w ty b G B.2 B.2 seen B.1 B.2 af ab.1 ab.2.1 (eb _)with ⟨aB,ae⟩| ⟨e,aa,aA,ah,ae⟩
 ·refine .inl ⟨λi hi=>?_,ae⟩
  have U:i<B.1.size:=by omega
  have:=all_seen B.1 seen aB B.1[i] (by simp)
  obtain⟨j,N,ai⟩:=(an _).1 this
  have ak:=au j N
  rw[xT (e8 ak)]at ai
  rw[aG i j U ak ai.symm];exact N
 obtain⟨aF,aj⟩:=mem_left aa
 obtain⟨i,hi,aD⟩:=hA.1 aF
 have U:i<B.1.size:=by simpa using hi
 have O:B.1[i]?=some e:=by rw[e8 U];simpa using aD
 have aI:i∉done:=λaC=>by
  have:=(an e.born).2 ⟨i,aC,xT O⟩
  rw[this]at aj;cases aj
 have al:F[i]?=some F[i]:=c4 (by omega)
 have aq:vs[i]?=some vs[i]:=c4 (by omega)
 refine .inr ⟨i,e.key,e.val,F[i],vs[i],_,al,aq,aI,ae,ax i e _ O al,ay i e _ O aq,Le.setKind Y rfl rfl (by simp),?_⟩
 have aK:aE w0 I0 aA I m l:=by rcases ah with rfl|rfl;exact Z;exact Z.drew
 have aJ:aA.heap[b]?=some (.mapIter (some G) B.2 seen B.2):=by rcases ah with rfl|rfl<;>exact af
 have ao:=p4 (o':=.mapIter (some G) B.2 (seen.push e.born) B.2) aJ
 refine aK.kv Y (by simp) (b:=b) (by rw[ad];rfl) av rfl rfl (Le.setKind Y rfl rfl (by simp)) rfl rfl rfl (eb _) (by simp[ChangeMaps.setBlock]) (λk aH=>ao.2 k aH) ?_
 exact⟨b,G,B,seen.push e.born,ad,aL,ao.1,ag,aw,aM,ax,ay,⟨by simp[az,xT O],λj N=>by
  rcases h5.1 N with h|h
  ·exact au j h
  simp at h;subst h;exact U⟩,av⟩
end
section
variable {P:Program}{V:Env}{w0:World}{I0:av}{n:Nat}{Q:Exit->St->Prop}{s:St}{x y:Code}
def aG.VI(aH:cn P V){id E Y d F k:Nat}{aa vs:List D}{done:List Nat}{o M:Oper}(ag:o.op = .next (.tmp Y) false)(ao:o.dst=some d)(aN:o.guard=none)(aS:M.op = .extract (.tmp d) 0)(aK:M.dst=some F)(aO:M.guard=none)(aL:d<n)(aM:F<n)(B:get s.t d = .undef)(aW:get s.t F = .undef)(aP:get s.t Y = .ptr k 0)(aQ:s.l[k]?=some (.iter aa vs done))(aD:∀i Z vd,aa[i]?=some Z->vs[i]?=some vd->i∉done->aG P w0 I0 n y ⟨s.t,s.l.set k (.iter aa vs (done++[i]))⟩ Q)(aF:(∀i,i<aa.length->i∈done)->Q (.exit E) ⟨(F,.d (.bool false))::(d,.d (.aJ [.bool false]))::s.t,s.l⟩):aG P w0 I0 n ((Code.region id #[o,M] false).seq ((Code.cond (.tmp F) .skip (.exit E)).seq y)) s Q:=by
 refine aG.seq λa w U=>?_
 obtain⟨au,I,m,av,a6,aw⟩:=U
 have ah:=aw Y
 rw[aP]at ah
 generalize aY:a.tmps.getD Y undef=a8 at ah
 cases ah with
 |ptr _ b _ a7 a1=>
 have aV:∀(v:Value)(j:Nat),(a.put (some d) v).tmps.getD j undef=if j=d then v else a.tmps.getD j undef:=λv j=>by
  by_cases h:j=d
  ·subst h;simp[Act.put,hf,au,aL]
  have:d≠j:=hW h
  simp[Act.put,hf,this,h]
 have ak:∀(v:Value)(w':World)(l':List AO)(t:T),Le I m s.l I m l'->aE w0 I0 w' I m l'->ar I m l' v t->Rel w0 I0 n ⟨bH s.t (some d) t,l'⟩ (a.put (some d) v) w':=λv w' l' t aR aj aX=>by
  refine⟨by simp[Act.put,au],I,m,aj,a6,λj=>?_⟩
  rw[aV]
  simp only[bH,get]
  by_cases h:j=d
  ·subst h;simp;exact aX
  rw[if_neg h,if_neg (hW h)];exact(aw j).mono aR
 refine J1 (l:=[o,M]) ?_
 unfold wpListIn
 have aj:Region.wanted o (yielded [o,M].toArray a.tmps)=true:=by simp[Region.wanted,aN]
 rw[if_pos aj]
 have aq:a.eval (.tmp Y) = .pointer (some ⟨b,0,none⟩):=by simpa [Act.eval,hf]using aY
 have ax:∀(O:Bool)(ds:List D)(l':List AO)(N:Act)(w':World),Rel w0 I0 n ⟨bH s.t (some d) (.d (.aJ (.bool O::ds))),l'⟩ N w'->aG P w0 I0 n ((Code.cond (.tmp F) .skip (.exit E)).seq y) ⟨(F,.d (.bool O))::(d,.d (.aJ (.bool O::ds)))::s.t,l'⟩ Q ->
   wpListIn cO 0 P [o,M].toArray (λe N w'=>∃s',p7 (λs'=>aG P w0 I0 n ((Code.cond (.tmp F) .skip (.exit E)).seq y) s' Q) Q e s'/\Rel w0 I0 n s' N w') [M] N w':=λO ds l' N w' aU aZ=>by
  refine CQ (K:=λq=>q=⟨(F,.d (.bool O))::(d,.d (.aJ (.bool O::ds)))::s.t,l'⟩) (md:=none) aH (λq a w aT U=>?_) [M] _ N w' aU ?_
  ·subst aT;exact⟨_,aZ,U⟩
  simp[dC,aO,dg,fB,evalOp,aS,bE,bH,get,R.ok,holds,du,aK,aM,after]
 refine bY.wpIn (by simp[ag]) ?_
 rcases V7 (P:=P) av aQ a1 o.type with ⟨aI,ai⟩| ⟨i,key,val,Z,vd,w',ab,ad,ae,ai,az,aA,aB,aC⟩
 ·have af:(execOp a.eval o).run P w = .ok (.value (.tuple #[.bool false])) w:=by unfold execOp;simp[ag,aq,ai]
  rw[af]
  simp only[bY,ao]
  refine ax false [] s.l _ _ (ak _ w s.l _ (.refl ..) av (.d _ _ (.aJ _ _ rfl λj u x B G=>?_))) ?_
  ·rcases j with _|j
   ·simp at B G;subst B;subst G;exact .bool _
   simp at B
  exact aG.seq (aG.cond (b:=false) (by simp[bE,get,xS]) (λh=>by cases h) (λ_=>aG.exit (aF aI)))
 have af:(execOp a.eval o).run P w = .ok (.value (.tuple #[.bool true,key,val])) w':=by unfold execOp;simp[ag,aq,ai]
 rw[af]
 simp only[bY,ao]
 refine ax true [Z,vd] _ _ _ (ak _ w' _ _ aB aC (.d _ _ (.aJ _ _ rfl λj u x B G=>?_))) ?_
 ·rcases j with _|_|_|j
  ·simp at B G;subst B;subst G;exact .bool _
  ·simp at B G;subst B;subst G;exact az
  ·simp at B G;subst B;subst G;exact aA
  simp at B
 refine aG.seq (aG.cond (b:=true) (by simp[bE,get,xS]) (λ_=>aG.skip ?_) (λh=>by cases h))
 refine aG.sub ?_ (aD i Z vd ab ad ae)
 intro w0 I0 n a w U
 obtain⟨ab,I,m,ae,ad,ay⟩:=U
 refine⟨ab,I,m,ae,ad,λj=>?_⟩
 have:=ay j
 simp only[get]at this
 by_cases an:F=j
 ·subst an;rw[aW];exact .undef _
 rw[if_neg an]at this
 by_cases al:d=j
 ·subst al;rw[B];exact .undef _
 rw[if_neg al]at this;exact this
def aG.yP{σ ρ α:Type}[bG α](mm:List (Int×α))(F:List Nat->σ->St)(step:σ->Int×α->Option (σ⊕ρ))(Z:σ){out:σ⊕ρ}(h:ag.yP step mm Z=some out)(an:Sub s (F [] Z))(
   aq:∀(done:List Nat)(z:σ)(K:St->Prop),((∀i,i<mm.length->i∈done)->out = .inl z)->(∀i e,mm[i]?=some e->i∉done->∃o,step z e=some o/\(∀r,o = .inr r->out = .inr r)/\∀s' z',o = .inl z'->Sub s' (F (done++[i]) z')->K s') ->
   aG P w0 I0 n x (F done z) (p7 K Q)):aG P w0 I0 n (.loop x) s Q:=by
 have ai:=Vz h
 refine aG.loop (X:=List Nat×σ) (λz=>F z.1 z.2) (λz=>z.1.Nodup/\(∀i∈z.1,i<mm.length)/\∀l,l.Perm (hY z.1 0 mm)->iterM step l z.2=some out) (λz=>mm.length-z.1.length) ([],Z) ⟨by simp,by simp,λl G=>ai l (by rwa [FM]at G)⟩ an λz Y=>?_
 obtain⟨done,z⟩:=z
 obtain⟨ae,aa,ah⟩:=Y
 refine aq done z _ (λaj=>?_) (λi e ab hi=>?_)
 ·have:=ah [] (by rw[FL λi hi=>by simpa using aj i hi])
  simp only[iterM]at this
  injection this with this;exact this.symm
 have af:=FN (done:=done) (k:=0) (i:=i) (m:=mm) ab (by simpa using hi)
 simp only[ia]at af
 have G:∀l,l.Perm (hY (done++[i]) 0 mm)->iterM step (e::l) z=some out:=λl G=>ah _ ((G.cons e).trans af)
 have B:=G _ (.refl _)
 simp only[iterM]at B G
 have ad:i<mm.length:=(da.1 ab).1
 cases U:step z e with
 |none=>rw[U]at B;cases B
 |some o=>
  refine⟨o,rfl,λr al=>?_,λs' z' Y ao=>⟨(done++[i],z'),⟨?_,?_,λl ak=>?_⟩,?_,ao⟩⟩
  ·subst al;rw[U]at B;injection B with B;exact B.symm
  ·rw[sx];exact⟨ae,by simp,λa N b M=>by simp at M;subst M;exact λe=>hi (e▸N)⟩
  ·intro j O
   rcases h5.1 O with h|h
   ·exact aa j h
   simp at h;subst h;exact ad
  ·have:=G l ak
   rw[U,Y]at this;exact this
  have:=K8 (done:=done++[i]) (n:=mm.length) (by rw[sx];exact⟨ae,by simp,λa N b M=>by simp at M;subst M;exact λe=>hi (e▸N)⟩) (λj O=>by
   rcases h5.1 O with h|h
   ·exact aa j h
   simp at h;subst h;exact ad)
  simp at this⊢;omega
def aG.VA{σ ρ α:Type}[bG α](mm:List (Int×α))(F:List Nat->σ->St)(step:σ->Int×α->Option (σ⊕ρ))(Z:σ)(Good:σ⊕ρ->Prop)(h:∀l,l.Perm mm->∃out,iterM step l Z=some out/\Good out)(an:Sub s (F [] Z))(
   aq:∀(done:List Nat)(z:σ)(K:St->Prop),((∀i,i<mm.length->i∈done)->Good (.inl z))->(∀i e,mm[i]?=some e->i∉done->∃o,step z e=some o/\(∀r,o = .inr r->Good (.inr r))/\∀s' z',o = .inl z'->Sub s' (F (done++[i]) z')->K s') ->
   aG P w0 I0 n x (F done z) (p7 K Q)):aG P w0 I0 n (.loop x) s Q:=by
 refine aG.loop (X:=List Nat×σ) (λz=>F z.1 z.2) (λz=>z.1.Nodup/\(∀i∈z.1,i<mm.length)/\∀l,l.Perm (hY z.1 0 mm)->∃out,iterM step l z.2=some out/\Good out) (λz=>mm.length-z.1.length) ([],Z) ⟨by simp,by simp,λl G=>h l (by rwa [FM]at G)⟩ an λz Y=>?_
 obtain⟨done,z⟩:=z
 obtain⟨ae,aa,ag⟩:=Y
 refine aq done z _ (λah=>?_) (λi e ab hi=>?_)
 ·obtain⟨out,this,ai⟩:=ag [] (by rw[FL λi hi=>by simpa using ah i hi])
  simp only[iterM]at this
  injection this with this;rw[this];exact ai
 have af:=FN (done:=done) (k:=0) (i:=i) (m:=mm) ab (by simpa using hi)
 simp only[ia]at af
 have G:∀l,l.Perm (hY (done++[i]) 0 mm)->∃out,iterM step (e::l) z=some out/\Good out:=λl G=>ag _ ((G.cons e).trans af)
 obtain⟨ar,B,aj⟩:=G _ (.refl _)
 simp only[iterM]at B G
 have ad:i<mm.length:=(da.1 ab).1
 cases U:step z e with
 |none=>rw[U]at B;cases B
 |some o=>
  refine⟨o,rfl,λr al=>?_,λs' z' Y ao=>⟨(done++[i],z'),⟨?_,?_,λl ak=>?_⟩,?_,ao⟩⟩
  ·subst al;rw[U]at B;injection B with B;rw[B];exact aj
  ·rw[sx];exact⟨ae,by simp,λa N b M=>by simp at M;subst M;exact λe=>hi (e▸N)⟩
  ·intro j O
   rcases h5.1 O with h|h
   ·exact aa j h
   simp at h;subst h;exact ad
  ·have:=G l ak
   rw[U,Y]at this;exact this
  have:=K8 (done:=done++[i]) (n:=mm.length) (by rw[sx];exact⟨ae,by simp,λa N b M=>by simp at M;subst M;exact λe=>hi (e▸N)⟩) (λj O=>by
   rcases h5.1 O with h|h
   ·exact aa j h
   simp at h;subst h;exact ad)
  simp at this⊢;omega
end
end Go.ag
namespace Go.ag
open Go Go.RowKit
variable [bd][bP]
def sD:T->Option (FuncId×List T)
 |.aB g ts=>some (g,ts)
 |.d (.fn g)=>some (g,[])
 |.d (.aB g ds)=>some (g,ds.map .d)
 |_=>none
def Ip{I:av}{m:Nat->Value}{l:List AO}{v:Value}{t:T}{g:FuncId}{ts:List T}(h:ar I m l v t)(j:sD t=some (g,ts)) :
  ∃vs:Array Value,v = .func (.func g) #[] vs/\vs.size=ts.length/\∀(i:Nat) u x,vs[i]?=some u->ts[i]?=some x->ar I m l u x:=by
 unfold sD at j
 split at j
 ·injection j with j;injection j with B F;subst B;subst F
  cases h with
  |aB _ vs _ M N=>exact⟨vs,rfl,M,N⟩
 ·injection j with j;injection j with B F;subst B;subst F
  have:=cm h;cases this
  exact⟨#[],rfl,rfl,by simp⟩
 ·injection j with j;injection j with B F;subst B;subst F
  have:=cm h
  cases this with
  |aB _ vs _ M N=>
   refine⟨vs,rfl,by simpa using M,λi u x O k=>?_⟩
   rw[e0]at k
   rename_i ds
   cases G:ds[i]? with
   |none=>rw[G]at k;cases k
   |some d=>rw[G]at k;simp at k;subst k;exact .d _ _ (N i u d O G)
 cases j
section
variable {P:Program}{V:Env}{w0 w:World}{I0 I:av}{m:Nat->Value}{l:List AO}{n:Nat}{Q:Exit->St->Prop}{s:St}{x y:Code}
theorem aE.frame(N:aE w0 I0 w I m l){vals:Nat->Value}{ft:Tm}(aj:∀k,ar I m l (vals k) (get ft k)) :
  aE w0 I0 w I (aK m l.length (.bool false)) (l++[.frame l.length vals ft])/\Le I m l I (aK m l.length (.bool false)) (l++[.frame l.length vals ft]):=by
 have G:∀k,k<l.length->(l++[AO.frame l.length vals ft])[k]?=l[k]?:=λk af=>e3 af
 have ao:(l++[AO.frame l.length vals ft])[l.length]?=some (.frame l.length vals ft):=by simp
 have ag:Le I m l I (aK m l.length (.bool false)) (l++[.frame l.length vals ft]):=by
  refine⟨.refl I,by simp,λid F Z=>⟨?_,bO m _ (by omega)⟩,λid F M=>⟨?_,bO m _ (by omega)⟩,λid ah s' els' F Y=>⟨els',?_⟩⟩
  ·unfold isVar at Z⊢;rw[G id F];exact Z
  ·unfold isRow at M⊢;rw[G id F]at M;exact M
  rw[G id F]at Y;exact Y
 have ae:∀k,k≠l.length->alive (l++[AO.frame l.length vals ft]) k=true->alive l k=true:=by
  intro k af ai
  obtain⟨o,B,ad⟩:=bD.1 ai
  have an:k<l.length:=by have:=(da.1 B).1;simp at this;omega
  rw[G k an]at B
  exact bD.2 ⟨o,B,ad⟩
 refine⟨⟨N.below,N.sat,N.ext,λid o B=>?_,λi j b ak hi al O U=>?_⟩,ag⟩
 ·by_cases F:id<l.length
  ·rw[G id F]at B;rw[bO m _ (by omega)]
   by_cases ad:o = .dead
   ·subst ad;trivial
   exact(N.obj id o B).cC ag (λ_ _=>rfl) (λ_ _=>⟨rfl,rfl⟩) (.push (λ_ _ _=>rfl) rfl)
  have:id=l.length:=by
   have:=(da.1 B).1;simp at this;omega
  subst this
  rw[ao]at B;injection B with B;subst B
  rw[dy]
  refine⟨rfl,by simp,λk=>?_⟩
  have e:(l++[AO.frame l.length vals ft]).take l.length=l:=by simp
  rw[e]
  refine(aj k).mono ⟨.refl I,eb _,λid F Z=>⟨Z,bO m _ (by omega)⟩,λid F M=>⟨M,bO m _ (by omega)⟩,λid ah s' els' F Y=>⟨els',Y⟩⟩
 by_cases aa:i=l.length
 ·subst aa;rw[dy]at O;cases O
 by_cases ab:j=l.length
 ·subst ab;rw[dy]at U;cases U
 rw[bO m _ aa]at O;rw[bO m _ ab]at U
 exact N.sep i j b ak (ae i aa hi) (ae j ab al) O U
def aE.Hl(h:aE w0 I0 w I m l):∃J:av,aE w0 I0 (w.alloc (.deferred (some []))) J m l/\Le I m l J m l/\J.df w.heap.size/\¬I.df w.heap.size:=by
 let J:av:=⟨I.cell,I.mp,λb=>I.df b\/b=w.heap.size⟩
 have B:I.le J:=⟨λ_ _ _ h=>h,λ_ _ h=>h,λ_ h=>.inl h⟩
 have M:(w.alloc (.deferred (some []))).heap[w.heap.size]?=some (.deferred (some [])):=J2 w _
 obtain⟨N,O⟩:=h.call (J:=J) (dz.alloc (dz.refl _ _) (eb _) (.deferred (some []))) (.of B (λ_ _=>rfl) (λ_ _=>rfl))
  ⟨λb o v k=>by rw[vb w _ _ (h.sat.lt k)];exact h.sat.cell b o v k,λb F k=>dL.to (Below.heap_alloc w _ b (h.sat.mR k)) (h.sat.mp b F k),
   λb j=>by
   rcases j with j|rfl
   ·exact(Below.heap_alloc w _ b (h.sat.j7 j)).trans (h.sat.df b j)
   exact M,λg d G=>(h.sat.c7 g d G).mono B⟩
 exact⟨J,N,O,.inr rfl,λj=>absurd (h.sat.j7 j) (Nat.lt_irrefl _)⟩
def BN(P:Program)(w0:World)(I0:av)(n:Nat)(Q:Exit->St->Prop)(s:St)(id:Nat)(l':List AO):Prop:=
 ∃base k ps aU j tm st cJ,l'[id]?=some (.loop base k ps aU j tm st cJ)/\st ≠ .busy /\
  match cJ with
  |none=>Q .normal ⟨s.t,l'.set id (.loop base k ps aU j tm .exhausted cJ)⟩
  |some c=>aG P w0 I0 n c ⟨s.t,l'.set id (.loop base k ps aU j tm .exhausted cJ)⟩ Q
def Sa{w:World}{b:Nat}{r:Loop}{o:Obj}(h:w.heap[b]?=some (.loop r)):(w.putObj b o).heap[b]?=some o:=World.putObj_heap_same (e7.1 h).1
def aE.qb(U:aE w0 I0 w I m l){id b base k:Nat}{ps:Array Tmp}{aU F:Code}{tm:Tm}{st st':LoopState}{cJ pend':Option Code}(O:l[id]?=some (.loop base k ps aU F tm st cJ))(N:m id = .func (.yield b) #[] #[]) :
  ∃r,w.heap[b]?=some (.loop r)/\(r.state=st/\r.pending=cJ/\r.params=ps/\r.assign=aU/\r.body=F/\r.tmps.size=k)/\base<=l.length/\(∀j,ar I m (l.take base) (r.tmps.getD j undef) (get tm j)) /\
   Le I m l I m (l.set id (.loop base k ps aU F tm st' pend'))/\aE w0 I0 (w.putObj b (.loop {r with state:=st',pending:=pend' })) I m (l.set id (.loop base k ps aU F tm st' pend')):=by
 obtain⟨af,r,B,ae,Y,G,Z,aa,ab⟩:=U.obj id _ O
 rw[N]at B;injection B with B;injection B with B;subst B
 have M:Le I m l I m (l.set id (.loop base k ps aU F tm st' pend')):=Le.setKind O rfl rfl (λe size els h=>by rcases h with h|h<;>cases h)
 refine⟨r,Y,G,Z,aa,M,?_⟩
 refine U.kv (w':=w.putObj b (.loop {r with state:=st',pending:=pend' })) O (by simp) (by rw[N];rfl) ab rfl rfl M rfl rfl rfl (eb _) (by simp) (λj ad=>World.putObj_heap_other ad) ?_
 exact⟨b,_,N,ae,Sa Y,⟨rfl,rfl,G.2.2.1,G.2.2.2.1,G.2.2.2.2.1,G.2.2.2.2.2⟩,by simpa using Z,λj=>(aa j).mono (M.take base),ab⟩
def Di(t:Tm):∃F,get t F = .undef:=by
 have:∃B,∀k,B<=k->get t k = .undef:=by
  induction t with
  |nil=>exact⟨0,λ_ _=>rfl⟩
  |cons p r G=>
   obtain⟨i,t⟩:=p
   obtain⟨B,j⟩:=G
   exact⟨B+i+1,λk M=>by simp only[get];rw[if_neg (by omega)];exact j k (by omega)⟩
 obtain⟨B,j⟩:=this
 exact⟨B,j B (eb _)⟩
theorem aG.X6(aQ:bP.r=none){g:Operand}{ps:Array Tmp}{assign body:Code}{gf:FuncId}{caps:List T}(az:sD (bE s.t g)=some (gf,caps))(h:∀aU gw,aU=assign->gw=body->∀K:T->List AO->Prop,(∀u l',BN P w0 I0 n Q s s.l.length l'->K u l')->im P gf (.aW s.l.length::caps) (s.l++[.loop s.l.length n ps aU gw s.t .ready none]) K) :
  aG P w0 I0 n (.rangeFunc g ps assign body) s Q:=λa w U=>by
 obtain⟨ag,I,m,N,aC,ht⟩:=U
 obtain⟨vs,aI,aV,aB⟩:=Ip (lK N.sat.c7 ht g) az
 obtain⟨aE,aA⟩:=h assign body rfl rfl _ (λ_ _ h=>h)
 refine wpIn_rangeFunc ?_
 intro fn ba
 have aR:cO.round=none:=aQ
 rw[aR]
 obtain⟨J,ah,M,aw,av⟩:=N.Hl
 obtain⟨j,Y⟩:∃j:Loop,j={state:=.ready,pending:=none,fn,tmps:=a.tmps,params:=ps,assign,body,defers:=w.heap.size}:=⟨_,rfl⟩
 have aN:((w.alloc (.deferred (some []))).alloc (.loop j)).heap[w.heap.size+1]?=some (.loop j):=by
  have:=J2 (w.alloc (.deferred (some []))) (.loop j);rwa [World.size_alloc]at this
 have aO:=ah.sat.dJ (b:=w.heap.size+1) (by simp)
 have aP:dH w0.heap.size ((w.alloc (.deferred (some []))).alloc (.loop j)) J (aK m s.l.length (.func (.yield (w.heap.size+1)) #[] #[])) (s.l++[.loop s.l.length n ps assign body s.t .ready none]) (.func (.yield (w.heap.size+1)) #[] #[]) (.loop s.l.length n ps assign body s.t .ready none):=by
  refine⟨w.heap.size+1,j,rfl,?_,aN,?_,by simp,λk=>?_,aO⟩
  ·have:=N.below.size;omega
  ·rw[Y];exact⟨rfl,rfl,rfl,rfl,rfl,ag⟩
  have e:(s.l++[AO.loop s.l.length n ps assign body s.t .ready none]).take s.l.length=s.l:=by simp
  rw[e,Y]
  exact((ht k).mono M).mono ⟨.refl J,eb _,λid aa F=>⟨F,bO m _ (by omega)⟩,λid aa U=>⟨U,bO m _ (by omega)⟩,λid a8 s' els' aa aJ=>⟨els',aJ⟩⟩
 have aH:World.grownBy (w.alloc (.deferred (some []))) ((w.alloc (.deferred (some []))).alloc (.loop j)) none:=q7 _ _ _
 obtain⟨ab,aY⟩:=ah.wN (b0:=w.heap.size+1) rfl (by simp) aH (eb _) (by simp) aP
 have aj:ar J (aK m s.l.length (.func (.yield (w.heap.size+1)) #[] #[])) (s.l++[.loop s.l.length n ps assign body s.t .ready none]) (.func (.yield (w.heap.size+1)) #[] #[]) (.aW s.l.length):=
  .aW _ _ (by simp[isVar,AO.isVar]) (dy m _ _)
 refine⟨w.heap.size+1,[mark w.heap.size],(w.alloc (.deferred (some []))).alloc (.loop j),{target:=.fn (.func gf) vs,args:= #[.func (.yield (w.heap.size+1)) #[] #[]]},(w.alloc (.deferred (some []))).alloc (.loop j),gf,
  #[.func (.yield (w.heap.size+1)) #[] #[]]++vs,(w.alloc (.deferred (some []))).alloc (.loop j),?_,?_,λal _=>lC al,?_,λh=>by simp[cO,Fence.wide]at h,?_⟩
 ·rw[Y];exact run_enterLoop_outer _ _ _ _ _
 ·simp only[resolve,aI]
  simp[go_sem]
 ·simp[invoke,aE _ _]
 refine Ch ?_ _
 obtain⟨G,ax⟩:=Di s.t
 have ao:∀(i:Nat) v x,(#[Value.func (.yield (w.heap.size+1)) #[] #[]]++vs)[i]?=some v->(T.aW s.l.length::caps)[i]?=some x->ar J (aK m s.l.length (.func (.yield (w.heap.size+1)) #[] #[])) (s.l++[.loop s.l.length n ps assign body s.t .ready none]) v x:=λi v x F O=>by
  rcases i with _|i
  ·rw[j0 (by simp)]at F
   simp at F O;subst F;subst O;exact aj
  have aT:vs[i]?=some v:=by
   rw[q5 (by simp)]at F
   simpa using F
  simp at O
  exact((aB i v x aT O).mono M).mono ab
 have aq:∀k,ar J (aK m s.l.length (.func (.yield (w.heap.size+1)) #[] #[])) (s.l++[.loop s.l.length n ps assign body s.t .ready none]) (if k=G then .func (.yield (w.heap.size+1)) #[] #[]else a.tmps.getD k undef) (get ((G,.aW s.l.length)::s.t) k):=λk=>by
  simp only[get]
  by_cases B:G=k
  ·subst B;simp only[hQ];exact aj
  rw[if_neg B,if_neg (hW B)]
  exact((ht k).mono M).mono ab
 have au:=aA w0 I0 _ J _ (#[Value.func (.yield (w.heap.size+1)) #[] #[]]++vs) (λk=>if k=G then .func (.yield (w.heap.size+1)) #[] #[]else a.tmps.getD k undef) ((G,.aW s.l.length)::s.t) aY (by simp[aV];omega) ao aq
 refine au.mono ?_
 rintro e w' ⟨v,rfl,t,l',J',m',B,aX,F,aD,af⟩
 obtain⟨base,k,aZ,aU,gw,tm,st,cJ,aL,aS,Z⟩:=B
 have ai:=af G
 simp only[get,hQ]at ai
 have aM:m' s.l.length = .func (.yield (w.heap.size+1)) #[] #[]:=by
  cases ai with
  |aW _ _ _ an=>exact an
 obtain⟨r,a1,ak,bb,bc,a6,a7⟩:=aX.qb (st':=.exhausted) (pend':=cJ) aL aM
 have aF:=run_endLoop (P:=P) a1 (by rw[ak.1];exact aS)
 have ad:r.pending=cJ:=ak.2.1
 refine⟨cJ,_,by rw[<-ad];exact aF,?_⟩
 have ae:Rel w0 I0 n ⟨s.t,l'.set s.l.length (.loop base k aZ aU gw tm .exhausted cJ)⟩ {a with defers:=[mark w.heap.size]++a.defers} (w'.putObj (w.heap.size+1) (.loop {r with state:=.exhausted})):=by
  refine⟨ag,J',m',?_,?_,λk=>?_⟩
  ·have:({r with state:=.exhausted}:Loop)={r with state:=.exhausted,pending:=cJ}:=by rw[<-ad]
   rw[this];exact a7
  ·refine dR.oe (I:=J) (dR.cons (aC.oe (J:=I) λ_ h=>h) (λb ay=>M.cR.df b ay) (by exact N.below.size) av aw) aD
  have:=af k
  simp only[get]at this
  by_cases B:G=k
  ·subst B
   rw[ax];exact .undef _
  rw[if_neg B,if_neg (hW B)]at this
  exact this.mono a6
 cases cJ with
 |none=>exact⟨_,Z,ae⟩
 |some c=>exact Z _ _ ae
def jk(E:bW)(ρ:Operand->T)(o:Oper):Option (Nat×List T):=match o.op with
 |.call c=>(match c.callee with
  |.value f=>(match ρ f with
   |.aW id=>some (id,fq E c.argTypes.toList (c.args.toList.map ρ))
   |_=>none)
  |_=>none)
 |_=>none
def aa0{E:bW}{ρ ρ':Operand->T}{o:Oper}(h:∀x∈o.op.operands,ρ x=ρ' x):jk E ρ o=jk E ρ' o:=by
 unfold jk
 split
 ·rename_i c j
  split
  ·rename_i f F
   have k:=h f (by simp[j,Op.operands,Call.operands,F])
   have B:c.args.toList.map ρ=c.args.toList.map ρ':=hP λx G=>h x (by simp[j,Op.operands,Call.operands];right;simpa using G)
   rw[k,B]
  rfl
 rfl
def Ou{E:bW}{ρT:Operand->T}{o:Oper}{x:Nat×List T}(h:jk E ρT o=some x):∀c,o.op ≠ .defer c:=by
 intro c j
 unfold jk at h
 rw[j]at h;cases h
theorem Ov{E:bW}{o:Oper}{ρ:Operand->Value}{ρT:Operand->T}{id:Nat}{ts:List T}(Z:∀x∈o.op.operands,ar I m l (ρ x) (ρT x))(h:jk E ρT o=some (id,ts)) :
  ∃(b:Nat)(B:Array Value)(f:Operand),f∈o.op.operands/\ρ f = .func (.yield b) #[] #[]/\ρT f = .aW id/\m id = .func (.yield b) #[] #[]/\(execOp ρ o).run P w=(Instr.yield b B).run P w/\B.size=ts.length/\∀(i:Nat) v x,B[i]?=some v->ts[i]?=some x->ar I m l v x:=by
 unfold jk at h
 split at h
 ·rename_i c N
  split at h
  ·rename_i f G
   have Y:f∈o.op.operands:=by simp[N,Op.operands,Call.operands,G]
   have M:=Z f Y
   have ad:∀(i:Nat) v x,(c.args.toList.map ρ)[i]?=some v->(c.args.toList.map ρT)[i]?=some x->ar I m l v x:=by
    intro i v x j k
    rw[e0]at j k
    cases F:c.args.toList[i]? with
    |none=>simp[F]at j
    |some a=>
     simp[F]at j k
     subst j;subst k
     refine Z a ?_
     simp only[N,Op.operands,Call.operands,G]
     have:=dn F
     simp at this⊢
     exact .inr this
   obtain⟨af,ae⟩:=Bu (E:=E) c.argTypes.toList _ _ ad
   generalize aa:ρ f=aj at M
   split at h
   ·rename_i ah U
    rw[U]at M
    injection h with h;injection h with ab O;subst ab
    cases M with
    |aW _ b ai ag=>
     refine⟨b,c.args.map ρ,f,Y,aa,U,ag,?_,?_,λi v x j k=>?_⟩
     ·unfold execOp
      simp only[N,resolve,G,aa,Deferred.ofValue,gj,Sem.run_pure,Result.andThen_ok,invoke]
      simp
     ·rw[<-O];simp[af]
     rw[<-O]at k
     exact ae i v x (by simpa using j) k
   cases h
  cases h
 cases h
def ko(ps:List Tmp)(ts:List T)(tm:Tm):Tm:=(ps.zip ts).foldl (λs p=>(p.1,p.2)::s) tm
theorem FU:∀(ps:List Tmp)(B:List Value)(ts:List T)(j:Array Value)(tm:Tm),B.length=ts.length->(∀(i:Nat) v x,B[i]?=some v->ts[i]?=some x->ar I m l v x)->(∀p∈ps,p<j.size)->(∀k,ar I m l (j.getD k undef) (get tm k)) ->
  ((ps.zip B).foldl (λt(p:Tmp×Value)=>t.setIfInBounds p.1 p.2) j).size=j.size/\∀k,ar I m l (((ps.zip B).foldl (λt(p:Tmp×Value)=>t.setIfInBounds p.1 p.2) j).getD k undef) (get (ko ps ts tm) k)
 | [],B,ts,j,tm,_,_,_,h=>⟨rfl,by simpa [ko]using h⟩
 |p::ps,[],[],j,tm,_,_,_,h=>⟨by simp,by simpa [ko]using h⟩
 |p::ps,v::B,t::ts,j,tm,F,N,M,h=>by
  have Y:p<j.size:=M p (by simp)
  obtain⟨O,U⟩:=FU ps B ts (j.setIfInBounds p v) ((p,t)::tm) (by simpa using F) (λi u x aa ab=>N (i+1) u x (by simpa using aa) (by simpa using ab)) (λq Z=>by simpa using M q (by simp[Z])) (λk=>by
   simp only[get]
   by_cases G:p=k
   ·subst G
    rw[if_pos rfl,hf,Array.getElem?_setIfInBounds_self_of_lt Y]
    exact N 0 v t rfl rfl
   rw[if_neg G,hf,Array.getElem?_setIfInBounds_ne G,<-hf]
   exact h k)
  refine⟨by simpa using O,?_⟩
  simpa [ko]using U
 |p::ps,[],_::_,_,_,F,_,_,_=>by simp at F
 |p::ps,_::_,[],_,_,F,_,_,_=>by simp at F
def nT:Exit->Option (Option Code)
 |.normal=>some none
 |.ret=>some (some .ret)
 |.exit id=>some (some (.exit id))
 |.goto t=>some (some (.goto t))
 |_=>none
def tD(K:St->Prop):Exit->St->Prop
 |.normal,s=>K s
 |_,_=>False
def si(s2:St)(at_:Nat)(vals:Nat->Value)(ft:Tm)(id base k:Nat)(ps:Array Tmp)(aU B:Code)(tm:Tm)(F:Option Code)(K:List AO->Prop):Prop:=
 ∃j,Sub s2 j/\j.l[at_]?=some (.frame at_ vals ft)/\j.l[id]?=some (.loop base k ps aU B tm .busy none)/\K (j.l.set id (.loop base k ps aU B tm (if F.isNone then .ready else .done) F))
theorem dh.aW(bV:cn P V){ops:List Oper}{K:St->Prop}{o:Oper}{r:List Oper}{s:St}{id base k:Nat}{ts:List T}{ps:Array Tmp}{aU M:Code}{tm:Tm}{pc:PC}(bd:dg ops s.t o.guard=some pc)(ak:holds pc)(aV:du n o.dst=true)(an:jk V.E (bE s.t) o=some (id,ts))(bj:s.l[id]?=some (.loop base k ps aU M tm .ready none))(bq:ps.size=ts.length)(bp:ps.toList.all (λp=>decide (p<k))=true)(
   h:∀aq:Option Code->List AO->Prop,(∀B l',dh P n ops r ⟨bH s.t o.dst (.d (.bool B.isNone)),l'⟩ K->aq B l')->∀(R:bP)(w0:World)(I0:av)(vals:Nat->Value)(ft:Tm)(Q:Exit->St->Prop),(∀e B s2,nT e=some B->si s2 s.l.length vals ft id base k ps aU M tm B (aq B)->Q e s2) ->
   @aG _ R P w0 I0 k aU ⟨ko ps.toList ts tm,s.l++[.frame s.l.length vals ft]⟩ (tD λs1=>∃s2,Sub s1 s2/\s2.l[s.l.length]?=some (.frame s.l.length vals ft)/\s2.l[id]?=some (.loop base k ps aU M tm .ready none)/\@aG _ R P w0 I0 k M ⟨s2.t,s2.l.set id (.loop base k ps aU M tm .busy none)⟩ Q)):dh P n ops (o::r) s K:=by
 intro st bx ar w0 I0 a w Q aI bu aN
 have Y:∀x∈o.op.operands,bE st.t x=bE s.t x:=λx Y=>CP λt ht=>ar t (q2 _ (ra.2 ⟨x,by simpa using Y,by rw[ht]⟩))
 obtain⟨aB,I,m,af,aX,ht⟩:=bu
 have bJ:=(oK (ops:=ops) (a:=a) ht ((Du ar).trans bd)).2 ak
 rw[if_pos bJ]
 rw[bx]at af ht
 obtain⟨b,ad,f,bX,bc,G,bn,bw,ay,aP⟩:=Ov (P:=P) (w:=w) (ρ:=a.eval) (λx _=>lK af.sat.c7 ht x) ((aa0 Y).trans an)
 obtain⟨O,aQ,bt,bW,bF,_,_⟩:=af.qb (st':=.ready) (pend':=none) bj bn
 obtain⟨bZ,bY,az,has,aR,aC⟩:=bt
 obtain⟨j,rfl⟩:∃j,f = .tmp j:=by
  cases f with
  |tmp j=>exact⟨j,rfl⟩
  |const v=>
   exfalso
   simp only[bE,qB]at G
   split at G<;>cases G
  |global g=>
   exfalso
   simp only[bE]at G
   split at G<;>cases G
  |func g=>simp[bE]at G
 have bg:a.tmps.getD j undef = .func (.yield b) #[] #[]:=bc
 have bf:get st.t j = .aW id:=G
 have aw:∀{ab:av}{aa:Nat->Value}{ao:World}{l1:List AO},aE w0 I0 ao ab aa l1->l1[s.l.length]?=some (.frame s.l.length (λj=>a.tmps.getD j undef) st.t)->aa id = .func (.yield b) #[] #[]:=λ{ab aa ao l1} ag a7=>by
  have ae:=(ag.obj _ _ a7).2.2 j
  simp only[bg,bf]at ae
  cases ae with
  |aW _ _ _ ai=>exact ai
 unfold Oper.wpIn
 refine⟨λ_ _=>lC _,?_⟩
 rw[Oper.semAt_eq _ _ _ (Ou an),bw,run_yield aQ (by rw[az,ay,bq]),Oper.uponIn_round]
 refine⟨λh=>by simp[cO,Fence.wide]at h,?_⟩
 obtain⟨bK,ax⟩:=af.frame (vals:=λj=>a.tmps.getD j undef) (ft:=st.t) ht
 have aA:=FU (m:=aK m s.l.length (.bool false)) (l:=s.l++[.frame s.l.length (λj=>a.tmps.getD j undef) st.t]) (I:=I) ps.toList ad.toList ts O.tmps tm (by simpa using ay) (λi v x bG Y=>(aP i v x (by simpa using bG) Y).mono ax) (λp ak=>by rw[aC];simpa using dT.1 bp p ak) (λq=>((bF q).mono (Le.uD I m s.l base)).mono ax)
 have ba:(O.params.zip ad).foldl (λtmps(x:Tmp×Value)=>tmps.setIfInBounds x.1 x.2) O.tmps=(ps.toList.zip ad.toList).foldl (λt(p:Tmp×Value)=>t.setIfInBounds p.1 p.2) O.tmps:=by
  rw[<-abc,Array.toList_zip,az]
 have bz:@Rel _ ⟨some b,I.df⟩ w0 I0 k ⟨ko ps.toList ts tm,s.l++[.frame s.l.length (λj=>a.tmps.getD j undef) st.t]⟩ {tmps:=(O.params.zip ad).foldl (λtmps(x:Tmp×Value)=>tmps.setIfInBounds x.1 x.2) O.tmps,defers:=[]} w:=by
  rw[ba]
  exact @Rel.mk _ ⟨some b,I.df⟩ _ _ _ _ _ _ (aA.1.trans aC) ⟨I,_,bK,@dR.nil _ ⟨some b,I.df⟩ _ _ λ_ h=>h,aA.2⟩
 have bI:=h (λB l'=>dh P n ops r ⟨bH s.t o.dst (.d (.bool B.isNone)),l'⟩ K) (λ_ _ h=>h) ⟨some b,I.df⟩ w0 I0 (λj=>a.tmps.getD j undef) st.t (λe s2=>∃B,nT e=some B/\@si _ ⟨some b,I.df⟩ s2 s.l.length (λj=>a.tmps.getD j undef) st.t id base k ps aU M tm B (λl'=>dh P n ops r ⟨bH s.t o.dst (.d (.bool B.isNone)),l'⟩ K)) (λe B s2 ae ai=>⟨B,ae,ai⟩) _ _ bz
 refine roundIn_of_wpIn (F:=cO) (lC _) ?_
 rw[has,aR]
 refine o2 (λe aJ ao N=>?_) bI
 obtain⟨s1,N,br⟩:=N
 cases e<;>simp only[tD]at N
 obtain⟨s2,bA,bb,bl,aS⟩:=N
 obtain⟨bC,ab,aa,ag,aY,bD⟩:=bA _ _ _ _ _ br
 obtain⟨aH,bL,aF,b1,b2,bM,bN⟩:=ag.qb (st':=.busy) (pend':=none) bl (aw ag bb)
 have aT:=run_beginRound (P:=P) bL aF.1
 refine⟨_,aT,?_⟩
 have aL:({aH with state:=.busy}:Loop)={aH with state:=.busy,pending:=none}:=by rw[<-aF.2.1]
 rw[aL]
 refine o2 (λe bU bT N=>?_) (aS aJ _ (@Rel.mk _ ⟨some b,I.df⟩ _ _ _ _ _ _ bC ⟨ab,aa,bN,aY,λq=>(bD q).mono bM⟩))
 obtain⟨s',⟨B,aj,bS,bB,au,bm,aO⟩,bs⟩:=N
 obtain⟨_,ah,aD,al,aZ,b0⟩:=bB _ _ _ _ _ bs
 obtain⟨b6,bO,b3,b4,b5,bQ,bR⟩:=al.qb (st':=if B.isNone then .ready else .done) (pend':=B) bm (aw al au)
 have a1:=run_endRound (P:=P) B bO
 have bh:∀b,I.df b->ah.df b:=by
  obtain⟨_,_,_,_,aM⟩:=aZ
  exact aM
 have a8:=(al.obj _ _ au).2.2
 have fin:∃v w',(Instr.endRound b B).run P bT = .ok v w'/\aI (a.put o.dst v) w':=by
  refine⟨_,_,a1,aN _ _ _ _ aO (λU=>?_) ⟨by cases o.dst<;>simp[Act.put,aB],ah,aD,bR,aX.wP bh,?_⟩⟩
  ·exfalso
   have Z:=an
   unfold jk at Z
   unfold lQ lP at U
   split at Z
   ·rename_i c bo
    rw[bo]at U
    simp only[q9]at U
    split at Z
    ·rename_i f a6;rw[a6]at U;simp at U
    cases Z
   cases Z
  exact lh aB aV (λq=>((a8 q).mono (Le.uD ah aD bS.l s.l.length)).mono bQ) (.d _ _ (.bool _))
 cases e<;>simp only[nT,c5]at aj<;>first| (subst aj;exact fin)|cases aj
theorem de.aW(N:cn P V){i:Nat}{ops:List Oper}{M:List Nat}{K:St->Prop}{o:Oper}(id:Nat)(ts:List T){base k:Nat}{ps:Array Tmp}{aU B:Code}{tm:Tm}{pc:PC}(G:ops[i]?=some o)(U:dg ops s.t o.guard=some pc)(aa:holds pc)(O:du n o.dst=true)(ae:jk V.E (bE s.t) o=some (id,ts))(Z:s.l[id]?=some (.loop base k ps aU B tm .ready none))(ad:ps.size=ts.length)(ab:ps.toList.all (λp=>decide (p<k))=true)(
   h:∀F:Option Code->List AO->Prop,(∀j l',de P n ops (i+1) M ⟨bH s.t o.dst (.d (.bool j.isNone)),l'⟩ K->F j l')->∀(R:bP)(w0:World)(I0:av)(vals:Nat->Value)(ft:Tm)(Q:Exit->St->Prop),(∀e j s2,nT e=some j->si s2 s.l.length vals ft id base k ps aU B tm j (F j)->Q e s2) ->
   @aG _ R P w0 I0 k aU ⟨ko ps.toList ts tm,s.l++[.frame s.l.length vals ft]⟩ (tD λs1=>∃s2,Sub s1 s2/\s2.l[s.l.length]?=some (.frame s.l.length vals ft)/\s2.l[id]?=some (.loop base k ps aU B tm .ready none)/\@aG _ R P w0 I0 k B ⟨s2.t,s2.l.set id (.loop base k ps aU B tm .busy none)⟩ Q)):de P n ops i M s K:=by
 unfold de
 have Y:=(da.1 G).1
 rw[h9 Y,(da.1 G).2]
 exact dh.aW N U aa O ae Z ad ab h
end
end Go.ag
namespace Go.ag
open Go Go.RowKit bG
variable [bd]
structure Bx(α:Type) where
 v:α
instance {α:Type} [bG α]:bG (Bx α):=⟨λb=>.box (enc b.v),λd=>match d with |.box d=>⟨dec d⟩|d=>⟨dec d⟩,1,λb=>by simp only[uT],λ_=>rfl,by simp[D.cells,D.one]⟩
theorem IW{α:Type}[bG α](b:Bx α):enc b = .box (enc b.v):=rfl
theorem IA{α:Type}[bG α](d:D):(dec (.box d):Bx α)=⟨dec d⟩:=rfl
theorem Nb{α:Type}[bG α]:size (Bx α)=1:=rfl
def Cu(g:FuncId):Option D->Bool
 |some (.aB g' _)=>g == g'
 |some (.fn g')=>g == g'
 |_=>false
def MZ(i:Nat)(g:FuncId)(s t:Spec):Spec:=λds=>if Cu g ds[i]?=true then s ds else t ds
section
variable [bP]{P:Program}{g:FuncId}
end
section
variable {w0 w:World}{I0 I:av}{m:Nat->Value}{l:List AO}
def aE.YO(h:aE w0 I0 w I m l){g:Nat}{cur:Array Value}{e:TypeId}{Z:Nat×Nat}(ah:w0.heap.size<=g)(ad:w.heap[g]?=some (.cells cur e Z))(G:I.dJ g)(ab:∀id,alive l id=true->own (m id)≠some g) :
  aE w0 I0 w (I.dr g cur.toList) m l/\Le I m l (I.dr g cur.toList) m l:=by
 let J:=I.dr g cur.toList
 have B:∀b,b≠g->J.cell b=I.cell b:=λb j=>by funext o;simp[J,av.dr,j]
 have F:I.le J:=⟨λb o v k=>by
  have j:b≠g:=by rintro rfl;rw[G.1 o]at k;cases k
  rw[B b j];exact k,λ_ _ h=>h,λ_ h=>h⟩
 have N:Le I m l J m l:=⟨F,eb _,λ_ _ h=>⟨h,rfl⟩,λ_ _ h=>⟨h,rfl⟩,λ_ _ _ els _ h=>⟨els,h⟩⟩
 have ag:c8 w J:=⟨λb o v k=>by
  by_cases j:b=g
  ·subst j
   simp only[J,av.dr,hQ]at k
   cases M:cur[o]? with
   |none=>simp[M,G.1 o]at k
   |some x=>simp[M]at k;subst k;simp[World.cell?,ad,M]
  rw[B b j]at k;exact h.sat.cell b o v k,h.sat.mp,h.sat.df,λg d aa=>(h.sat.c7 g d aa).mono F⟩
 refine⟨⟨h.below,ag,⟨λb o v k=>F.cell b o v (h.ext.lc b o v k),h.ext.lm,h.ext.ld,λb j=>(B b (by omega)).trans (h.ext.cell b j),h.ext.mp⟩,λid o O=>?_,h.sep⟩,N⟩
 have U:=h.obj id o O
 have key:(∀b,own (m id)=some b->b≠g)->dH w0.heap.size w J m l (m id) o:=λae=>U.cC N (λ_ _=>rfl) (λb j=>⟨B b (ae b j),rfl⟩) ⟨λb u Y _=>⟨rfl,B b (λe=>by subst e;rw[G.1]at Y;cases Y),rfl⟩,λq b af j=>.inl ⟨q,af,j⟩⟩
 cases o with
 |dead=>trivial
 |frame base vals t=>exact key λb j=>by rw[U.1]at j;cases j
 |_=>exact key λb j e=>ab id (bD.2 ⟨_,O,by simp[AO.isVar,AO.isRow]⟩) (e▸j)
variable [bP]{s:St}
end
end Go.ag
namespace Go.Sy
open Go Go.ag
mutual
def ej:T->List Nat
 |.ptr id _=>[id]
 |.row id=>[id]
 |.bj id _ _=>[id]
 |.map id=>[id]
 |.aW id=>[id]
 |.cw id _=>[id]
 |.sub id _ _=>[id]
 |.bB id _=>[id]
 |.aJ ts=>mn ts
 |.cond _ t=>ej t
 |.aB _ ts=>mn ts
 |.agg ts=>mn ts
 |_=>[]
def mn:List T->List Nat
 | []=>[]
 |t::ts=>ej t++mn ts
end
def xB:∀{ts:List T}{i:Nat}{t:T}{r:Nat},ts[i]?=some t->r∈ej t->r∈mn ts
 | [],i,t,r,h,_=>by simp at h
 |u::ts,i,t,r,h,j=>by
  simp only[mn,h5]
  cases i with
  |zero=>simp at h;subst h;exact .inl j
  |succ i=>exact .inr (xB (by simpa using h) j)
variable [bd][bP]
structure OC(m:Nat->Value)(l:List AO)(m':Nat->Value)(l':List AO)(r:Nat):Prop where
 lt:r<l'.length
 var:ag.isVar l r=true->ag.isVar l' r=true
 row:ag.isRow l' r=true->ag.isRow l r=true
 rows:∀e size els,(l'[r]?=some (.row e size els)\/l'[r]?=some (.bg e size els))->∃els',(l[r]?=some (.row e size els')\/l[r]?=some (.bg e size els'))
 val:m' r=m r
def ar.loc{I:av}{m m':Nat->Value}{l l':List AO}{v:Value}{t:T}(h:ar I m l v t)(F:∀r∈ej t,OC m l m' l' r):ar I m' l' v t:=by
 induction h with
 |undef v=>exact .undef v
 |d v x r=>exact .d v x r
 |bu s=>exact .bu s
 |ptr id b off B j=>
  have k:=F id (by simp[ej])
  exact .ptr id b off (k.var B) (k.val.trans j)
 |br b o size els k off val B j N Y=>exact .br b o size els k off val B j N Y
 |row A n c id B j=>
  have k:=F id (by simp[ej])
  exact .row A n c id k.lt λG=>k.val.trans (j (k.row G))
 |bj a id q off B j=>
  have k:=F id (by simp[ej])
  refine .bj a id q off k.lt λe size els G=>?_
  obtain⟨els',U⟩:=k.rows e size els G
  obtain⟨b,n,c,Z,aa⟩:=j e size els' U
  exact⟨b,n,c,k.val.trans Z,aa⟩
 |sub A n c id lo hi B j=>
  have k:=F id (by simp[ej])
  refine .sub A n c id lo hi k.lt λe size els G=>?_
  obtain⟨els',U⟩:=k.rows e size els G
  obtain⟨ab,n0,ad,Z,aa⟩:=j e size els' U
  exact⟨ab,n0,ad,k.val.trans Z,aa⟩
 |bB A n c id x B j N=>
  have k:=F id (by simp[ej])
  exact .bB A n c id x k.lt (λG=>k.val.trans (j (k.row G))) N
 |map r id B j=>
  have k:=F id (by simp[ej])
  exact .map r id k.lt λG=>k.val.trans (j (k.row G))
 |aJ vs ts B _ M=>exact .aJ vs ts B λi v t O ht=>M i v t O ht λr h=>F r (by simp only[ej];exact xB ht h)
 |cond v pc t _ ae M=>exact .cond v pc t (λaf=>M af λr h=>F r (by simpa [ej]using h)) ae
 |aB g vs ts B _ M=>exact .aB g vs ts B λi v t O ht=>M i v t O ht λr h=>F r (by simp only[ej];exact xB ht h)
 |aW id b B j=>
  have k:=F id (by simp[ej])
  exact .aW id b (k.var B) (k.val.trans j)
 |cw id b n c B j N Y=>
  have k:=F id (by simp[ej])
  exact .cw id b n c (k.var B) (k.val.trans j) N Y
 |agg vs ts B j _ M=>exact .agg vs ts B j λi v t O ht=>M i v t O ht λr h=>F r (by simp only[ej];exact xB ht h)
def JJ:AO->Option (Nat×Tm)
 |.frame b _ t=>some (b,t)
 |.loop b _ _ _ _ t _ _=>some (b,t)
 |_=>none
def uH(ids:List Nat)(l:List AO):Prop:=∀id∈ids,∀o b t,l[id]?=some o->JJ o=some (b,t)->b<=ids.length/\∀k,∀r∈ej (get t k),r<b/\ids[r]?=some r
def Ms{w0 w:World}{I0 I:av}{m:Nat->Value}{l:List AO}{ids:List Nat}(h:aE w0 I0 w I m l)(aB:ids.Nodup)(az:uH ids l):aE w0 I0 w I (λk=>m ((ids[k]?).getD 0)) (cL ids l):=by
 have ag:∀(k id:Nat),ids[k]?=some id->(λk:Nat=>m ((ids[k]?).getD 0)) k=m id:=λk id B=>by simp[B]
 have ae:∀{k:Nat}{o:AO},(cL ids l)[k]?=some o->∃id,ids[k]?=some id:=λ{k o} B=>by
  cases hi:ids[k]? with
  |none=>simp[cL,hi]at B
  |some id=>exact⟨id,rfl⟩
 have an:∀{k id:Nat},ids[k]?=some id->alive (cL ids l) k=alive l id:=λB=>by unfold alive;rw[lj B,ni B]
 refine⟨h.below,h.sat,h.ext,λk o aq=>?_,λi j b aA hi af=>?_⟩
 ·obtain⟨id,B⟩:=ae aq
  have O:=ui (l:=l) B
  rw[aq]at O
  cases ab:l[id]? with
  |none=>rw[ab]at O;simp[AO.bM]at O;subst O;trivial
  |some o'=>
   rw[ab]at O;simp only[Option.getD_some,c5]at O
   have F:=h.obj id o' ab
   show dH _ _ _ _ _ (m ((ids[k]?).getD 0)) o
   rw[B,O];simp only[Option.getD_some]
   have pre:∀(b:Nat)(t:Tm),JJ o'=some (b,t)->b<=(cL ids l).length/\∀(v:Value)(j:Nat),ar I m (l.take b) v (get t j)->ar I (λk=>m ((ids[k]?).getD 0)) ((cL ids l).take b) v (get t j):=λb t ay=>by
    obtain⟨Y,Z⟩:=az id (dn B) o' b t ab ay
    refine⟨by simpa [cL]using Y,λv j aF=>ar.loc aF λr aG=>?_⟩
    obtain⟨N,G⟩:=Z j r aG
    refine⟨by simp[cL];omega,λU=>?_,λU=>?_,λe size els ao=>⟨els,?_⟩,ag r r G⟩
    ·rw[yJ N]at U⊢;exact(lj G).trans U
    ·rw[yH N]at U⊢;exact(ni G).symm.trans U
    rw[hg,if_pos N]at ao⊢;exact A3 G ao
   cases o' with
   |dead=>trivial
   |var ty cs=>
    obtain⟨b,vs,N,G,ai,aw,ad,aj⟩:=F
    refine⟨b,vs,N,G,ai,by simp[aw],λi x t au ht=>?_,aj⟩
    rw[e0]at ht
    cases M:cs[i]? with
    |none=>rw[M]at ht;simp at ht
    |some t0=>
     rw[M]at ht;simp at ht;subst ht
     exact⟨(ad i x t0 au M).1.bM ag,(ad i x t0 au M).2⟩
   |row e size els=>exact F
   |bg e size els=>exact F
   |map ah vs=>exact F
   |dE ah vs=>exact F
   |bn e size ah vs aN=>exact dH.gm (λq aD=>Mt (m':=λk=>m ((ids[k]?).getD 0)) ag aD) F
   |iter ah vs done=>exact F
   |frame b vals t=>
    obtain⟨Y,Z⟩:=pre b t rfl
    exact⟨F.1,Y,λj=>Z _ j (F.2.2 j)⟩
   |loop b n ps aU aI t st cJ=>
    obtain⟨ax,r,aH,N,G,ai,aw,ad,aj⟩:=F
    obtain⟨Y,Z⟩:=pre b t rfl
    exact⟨ax,r,aH,N,G,ai,Y,λj=>Z _ j (ad j),aj⟩
 obtain⟨aL,N,_⟩:=bD.1 hi
 obtain⟨aM,G,_⟩:=bD.1 af
 obtain⟨a,aa⟩:=ae N
 obtain⟨c,M⟩:=ae G
 rw[an aa]at hi;rw[an M]at af
 have aC:a≠c:=λe=>by
  subst e
  have ak:=da.1 aa
  have al:=da.1 M
  obtain⟨ak,aJ⟩:=ak;obtain⟨al,aK⟩:=al
  exact aA (Ev aB aa M)
 simp only[aa,M,Option.getD_some]
 exact h.sep a c b aC hi af
section
variable {P:Program}{V:Env}{s:St}
def Zw(ids:List Nat){t':Tm}{l':List AO}(Z:ids.Nodup)(O:uH ids s.l)(Y:cL ids s.l=l')(N:jV ids s.t t'):Sub s ⟨t',l'⟩:=by
 subst Y
 intro w0 I0 n a w aa
 obtain⟨B,I,m,G,F,M⟩:=aa
 refine⟨B,I,_,Ms G Z O,F,λj=>?_⟩
 rcases yq N j with h|h
 ·rw[h];exact .undef _
 rw[h];exact(M j).bM λk id U=>by simp[U]
def Zu(j id:Nat)(d:D)(ids:List Nat){ty:TypeId}{t':Tm}{l':List AO}(aq:get s.t j = .ptr id 0)(aa:s.l[id]?=some (.var ty (d.cells.map .d)))(aj:∀x∈d.cells,x.one=true)(ao:id∉ids)(au:ids.Nodup)(al:uH ids s.l)(ar:cL ids s.l=l')(ak:jV ids s.t t') :
  Sub s ⟨(j,.d (.box d))::t',l'⟩:=by
 subst ar
 intro w0 I0 n a w ay
 obtain⟨ae,I,m,N,af,Z⟩:=ay
 obtain⟨b,vs,F,aB,aC,ad,aD,aE⟩:=N.obj id _ aa
 have az:=Ms N au al
 have ai:alive s.l id=true:=bD.2 ⟨_,aa,by simp⟩
 have an:∀k,alive (cL ids s.l) k=true->own (m ((ids[k]?).getD 0))≠some b:=by
  intro k B
  obtain⟨o,ax,_⟩:=bD.1 B
  have M:=(da.1 ax).1
  have M:k<ids.length:=by simpa [cL]using M
  have O:ids[k]?=some ids[k]:=c4 M
  have aw:ids[k]≠id:=λe=>ao (e▸hT M)
  have ah:alive s.l ids[k]=true:=by
   unfold alive at B⊢;rw[lj O,ni O]at B;exact B
  rw[O]
  exact N.sep id ids[k] b (hW aw) ai ah (by rw[F];rfl)
 obtain⟨aF,Y⟩:=az.YO aB aC aE an
 refine⟨ae,_,_,aF,af.mono Y.cR,λk=>?_⟩
 simp only[ag.get]
 by_cases B:j=k
 ·subst B
  rw[if_pos rfl]
  have G:=Z j
  rw[aq]at G
  generalize a.tmps.getD j undef=v at G
  cases G with
  |ptr _ aG _ aH aA=>
   rw[aA]at F;injection F with F;injection F with F;injection F with F;subst F
   refine .d _ _ (.box _ _ (λk=>(vs[k]?).getD undef) aj (λk B=>?_) λk x ab=>?_)
   ·have U:k<vs.size:=by rw[ad];simpa using B
    simp[av.dr,U]
   have U:k<vs.size:=by rw[ad];simpa using (da.1 ab).1
   have G:vs[k]?=some vs[k]:=e8 U
   rw[G]
   exact(cm (aD k _ (.d x) G (by simp[ab])).1).mono Y.cR
 rw[if_neg B]
 rcases yq ak k with h|h
 ·rw[h];exact .undef _
 rw[h];exact((Z k).bM λk id B=>by simp[B]).mono Y
def Zt{s:St}{t':Tm}(h:∀k,get t' k = .undef\/get t' k=get s.t k):Sub s ⟨t',s.l⟩:=by
 intro w0 I0 n a w M
 obtain⟨j,I,m,F,B,G⟩:=M
 refine⟨j,I,m,F,B,λk=>?_⟩
 rcases h k with e|e
 ·show ar I m s.l _ (get t' k);rw[e];exact .undef _
 show ar I m s.l _ (get t' k);rw[e];exact G k
end
end Go.Sy
namespace Go.Sy
open Go Go.ag
variable [aD]
inductive RX(ρ:aN):TX->T->Prop
 |undef (t):RX ρ .undef t
 |gone:RX ρ .gone ag.gone
 |d (t x) (v:t.den):isVal t->x.den ρ=some ⟨t,v⟩->RX ρ (.d t x) (.d (t.enc v))
 |bu (s):RX ρ (.bu s) (.bu s)
 |dV:RX ρ .dV (.d (.map [] []))
 |ptr (id off):RX ρ (.ptr id off) (.ptr id off)
 |br (t e b off size els k) (v:t.den):isVal t->e.den ρ=some ⟨t,v⟩->k<els.length->((ep els k).cells.drop b).take t.size=(t.enc v).cells->b+t.size<=size->(b=0->size=t.size->ep els k=t.enc v) ->
   RX ρ (.br t e off) (.br size els k (b+off))
 |row (id):RX ρ (.row id) (.row id)
 |bj (id k off kk) (n:Int):k.den ρ=some ⟨.int kk,n⟩->RX ρ (.bj id k off) (.bj id n.toNat off)
 |map (id):RX ρ (.map id) (.map id)
 |aW (id):RX ρ (.aW id) (.aW id)
 |cw (id n):RX ρ (.cw id n) (.cw id n)
 |bB (id t x) (xs:List t.den):x.den ρ=some ⟨.list t,xs⟩->RX ρ (.bB id t x) (.bB id (.slice t.size (xs.map t.enc)))
 |sub (id lo hi) (k1 k2:IntKind) (n h:Int):0<=n->lo.den ρ=some ⟨.int k1,n⟩->hi.den ρ=some ⟨.int k2,h⟩->RX ρ (.sub id lo hi) (.sub id n.toNat h.toNat)
 |agg (cs ts):cs.length=ts.length->(∀(i:Nat) c t,cs[i]?=some c->ts[i]?=some t->RX ρ c t)->RX ρ (.agg cs) (.agg ts)
 |iQ (cs) (ds:List D):cs.length=ds.length->(∀(i:Nat) c d,cs[i]?=some c->ds[i]?=some d->RX ρ c (.d d))->RX ρ (.agg cs) (.d (.agg ds))
 |aJ (cs ts):cs.length=ts.length->(∀(i:Nat) c t,cs[i]?=some c->ts[i]?=some t->RX ρ c t)->RX ρ (.aJ cs) (.aJ ts)
 |fE (cs) (ds:List D):cs.length=ds.length->(∀(i:Nat) c d,cs[i]?=some c->ds[i]?=some d->RX ρ c (.d d))->RX ρ (.aJ cs) (.d (.aJ ds))
 |iT (f cs) (ds:List D):cs.length=ds.length->(∀(i:Nat) c d,cs[i]?=some c->ds[i]?=some d->RX ρ c (.d d))->RX ρ (.aB f cs) (.d (.aB f ds))
 |aB (f cs ts):cs.length=ts.length->(∀(i:Nat) c t,cs[i]?=some c->ts[i]?=some t->RX ρ c t)->RX ρ (.aB f cs) (.aB f ts)
theorem RX.mono{ρ ρ':aN}(h:Ext ρ ρ'){c:TX}{t:T}(k:RX ρ c t):RX ρ' c t:=by
 induction k with
 |undef t=>exact .undef t
 |gone=>exact .gone
 |d t x v j F=>exact .d t x v j (X.eF h F)
 |bu s=>exact .bu s
 |dV=>exact .dV
 |ptr i o=>exact .ptr i o
 |br t e b off size els k v j F M N O U=>exact .br t e b off size els k v j (X.eF h F) M N O U
 |row i=>exact .row i
 |bj id k off kk n j=>exact .bj id k off kk n (X.eF h j)
 |map i=>exact .map i
 |aW i=>exact .aW i
 |cw i n=>exact .cw i n
 |bB id t x xs j=>exact .bB id t x xs (X.eF h j)
 |sub id lo hi Y Z n m G j F=>exact .sub id lo hi Y Z n m G (X.eF h j) (X.eF h F)
 |agg cs ts j _ B=>exact .agg cs ts j B
 |iQ cs ds j _ B=>exact .iQ cs ds j B
 |aJ cs ts j _ B=>exact .aJ cs ts j B
 |fE cs ds j _ B=>exact .fE cs ds j B
 |iT f cs ds j _ B=>exact .iT f cs ds j B
 |aB f cs ts j _ B=>exact .aB f cs ts j B
inductive LF where
 |frame (b:Nat) (vals:Nat->Value) (ft:Tm)
 |loop (b k:Nat) (ps:Array Tmp) (aU body:Code) (tm:Tm)
class cF where
 lam:Nat->Option LF
instance (priority:=low) Vj:cF:=⟨λ_=>none⟩
def Is:Ex->Code
 |.ret=>.ret
 |.exit i=>.exit i
 |_=>.skip
def py:Ls->LoopState
 |.ready=>.ready
 |.busy=>.busy
 |.done _=>.done
def qV:Ls->Option Code
 |.done e=>some (Is e)
 |_=>none
def mj(ft:Tm)(rs:List Nat):Prop:=∀k,∀r∈ej (get ft k),r∈rs
def Kc:AO->Bool
 |.frame .. =>true
 |.loop .. =>true
 |_=>false
variable [cF]
inductive bK(ρ:aN):AX->AO->Prop
 |dead:bK ρ .dead .dead
 |var (ty cs ts):F2 (RX ρ) cs ts->bK ρ (.var ty cs) (.var ty ts)
 |row (e t x) (xs:List t.den):isVal t->x.den ρ=some ⟨.list t,xs⟩->bK ρ (.row false e t x) (.row e t.size (xs.map t.enc))
 |bg (e t x) (xs:List t.den):isVal t->x.den ρ=some ⟨.list t,xs⟩->bK ρ (.row true e t x) (.bg e t.size (xs.map t.enc))
 |map (k v x) (m:List (k.den×v.den)):isVal k->isVal v->x.den ρ=some ⟨.map k v,m⟩->bK ρ (.map false k v x) (.map (m.map λp=>k.enc p.1) (m.map λp=>v.enc p.2))
 |dE (k v x) (m:List (k.den×v.den)):isVal k->isVal v->x.den ρ=some ⟨.map k v,m⟩->bK ρ (.map true k v x) (.dE (m.map λp=>k.enc p.1) (m.map λp=>v.enc p.2))
 |bn (e kk t x) (m:List (Int×List t.den)):isVal t->0<t.size->x.den ρ=some ⟨.map (.int kk) (.list t),m⟩->bK ρ (.bn e kk t x) (.bn e t.size (m.map λp=>D.int kk p.1) (m.map λp=>(Ty.list t).enc p.2) none)
 |fc (e kk t x k) (m:List (Int×List t.den)) (n:Int):isVal t->0<t.size->x.den ρ=some ⟨.map (.int kk) (.list t),m⟩->k.den ρ=some ⟨.int kk,n⟩->bK ρ (.fc e kk t x k) (.bn e t.size (m.map λp=>D.int kk p.1) (m.map λp=>(Ty.list t).enc p.2) (some ((dU n (m.map λp=>D.int kk p.1) 0).getD (m.map λp=>D.int kk p.1).length)))
 |dj (j b rs vals ft):cF.lam j=some (.frame b vals ft)->mj ft rs->bK ρ (.dj j b rs) (.frame b vals ft)
 |lp (j b rs st k ps aU body tm):cF.lam j=some (.loop b k ps aU body tm)->mj tm rs->bK ρ (.lp j b rs st) (.loop b k ps aU body tm (py st) (qV st))
 |ey (o):Kc o=true->bK ρ .ey o
theorem bK.mono{ρ ρ':aN}(h:Ext ρ ρ'){a:AX}{o:AO}(k:bK ρ a o):bK ρ' a o:=by
 cases k with
 |dead=>exact .dead
 |var ty cs ts B=>exact .var ty cs ts (B.mono λ_ _=>RX.mono h)
 |row e t x xs F B=>exact .row e t x xs F (X.eF h B)
 |bg e t x xs F B=>exact .bg e t x xs F (X.eF h B)
 |map k v x m F G B=>exact .map k v x m F G (X.eF h B)
 |dE k v x m F G B=>exact .dE k v x m F G (X.eF h B)
 |bn e kk t x m F G B=>exact .bn e kk t x m F G (X.eF h B)
 |fc e kk t x k m n F G B N=>exact .fc e kk t x k m n F G (X.eF h B) (X.eF h N)
 |dj j b rs vals ft B G=>exact .dj j b rs vals ft B G
 |lp j b rs st k ps aU M tm B G=>exact .lp j b rs st k ps aU M tm B G
 |ey o h=>exact .ey o h
abbrev RL(ρ:aN):List AX->List AO->Prop:=F2 (bK ρ)
theorem RL.mono{ρ ρ':aN}(h:Ext ρ ρ'){l:List AX}{m:List AO}(k:RL ρ l m):RL ρ' l m:=F2.mono (λ_ _=>bK.mono h) k
structure bf(ρ:aN)(σ:Sk)(s:St):Prop where
 eE:dY σ.n ρ
 t:∀k,RX ρ (aV σ.t k) (get s.t k)
 l:RL ρ σ.l s.l
theorem sH(t:Ty)(xs:List t.den):Ty.enc (.list t) xs = .slice t.size (xs.map t.enc):=rfl
def Iw{t:TX}{p:Ty×X}(h:sG t=some p):t = .d p.1 p.2:=by
 cases t<;>simp[sG]at h
 subst h;rfl
def Yu{ρ:aN}{cs:List (Ty×X)}{ds:List D}(h:F2 (RC ρ) cs ds):F2 (RX ρ) (cs.map λp=>.d p.1 p.2) (ds.map .d):=by
 induction h with
 |nil=>exact .nil
 |cons j _ F=>
  obtain⟨k,v,B,rfl⟩:=j
  exact .cons (.d _ _ v k B) F
def Ml{ρ:aN}:∀{cs:List TX}{ts:List T}{ps:List (Ty×X)},F2 (RX ρ) cs ts->cs.mapM sG=some ps->∃ds,ts=ds.map .d/\F2 (RC ρ) ps ds
 | [],[],ps,_,h=>by simp at h;subst h;exact⟨[],rfl,.nil⟩
 |c::cs,t::ts,ps,.cons j k,h=>by
  simp only[mo,Option.bind_eq_bind,la,Option.pure_def,c5]at h
  obtain⟨p,B,O,F,rfl⟩:=h
  have:=Iw B
  subst this
  obtain⟨ds,rfl,N⟩:=Ml k F
  cases j with
  |d t x v G M=>exact⟨_::ds,rfl,.cons ⟨G,v,M,rfl⟩ N⟩
def jS{ρ:aN}{t:Ty}{x:X}{u:T}(h:RX ρ (.d t x) u):isVal t/\∃v:t.den,x.den ρ=some ⟨t,v⟩/\u = .d (t.enc v):=by
 cases h with
 |d t x v j k=>exact⟨j,v,k,rfl⟩
theorem Sc(t:Ty)(v:t.den):bm (.d (t.enc v))=(t.enc v).cells.map .d:=rfl
def uV[cz]{t:Ty}(B:isVal t)(v:t.den):∀d∈(t.enc v).cells,d.one=true:=by
 by_cases k:cd t=true
 ·cases t<;>simp[cd]at k
  exact cz.zg _ v
 have:=kJ (by simpa using k) B.1 B.2 v
 rw[this.1];intro d j;simp at j;subst j;exact this.2
def jT[cz]{t:Ty}(k:isVal t)(v:t.den):(t.enc v).cells.length=t.size:=by
 by_cases j:cd t=true
 ·cases t<;>simp[cd]at j
  exact cz.len _ v
 rw[(kJ (by simpa using j) k.1 k.2 v).1]
 cases t<;>simp_all [cd,Ty.size]
def WC[cz]{ρ:aN}{x:TX}{u:T}(h:RX ρ x u)(j:vV x=true):u.fA=true:=by
 cases h<;>simp[vV]at j<;>try rfl
 rename_i t x v k B
 exact(kJ (by simpa using j) k.1 k.2 v).2
def WD[cz]{ρ:aN}{xs:List TX}{k:List T}(h:F2 (RX ρ) xs k)(j:xs.all vV=true):k.all T.fA=true:=by
 induction h with
 |nil=>rfl
 |cons B _ F=>
  simp only[List.all_cons,dd]at j⊢
  exact⟨WC B j.1,F j.2⟩
def Sb[cz][c9]{ρ:aN}{x:TX}{u:T}{cs:List TX}(h:RX ρ x u)(j:iw x=some cs):F2 (RX ρ) cs (bm u):=by
 cases h with
 |undef t=>simp[iw]at j
 |gone=>simp[iw]at j
 |d t x v B F=>
  simp only[iw,e6]at j
  obtain⟨ps,Z,rfl⟩:=j
  exact Yu (qw _ B F Z)
 |agg G ts B F=>
  simp only[iw,c5]at j
  subst j
  exact F2.of B F
 |iQ G ds B F=>
  simp only[iw,c5]at j
  subst j
  exact F2.of (by simpa [bm,D.cells]using B) λi c t j ht=>by
   simp only[bm,D.cells,e0,e6]at ht
   obtain⟨d,Y,rfl⟩:=ht
   exact F i c d j Y
 |aJ G ts B F=>simp[iw]at j
 |fE G ts B F=>simp[iw]at j
 |dV=>simp only[iw,c5]at j;subst j;exact .cons .dV .nil
 |br t e b off size els k v B F M N O U=>simp only[iw,c5]at j;subst j;exact .cons (.br t e b off size els k v B F M N O U) .nil
 |bj id k off kk n B=>simp only[iw,c5]at j;subst j;exact .cons (.bj id k off kk n B) .nil
 |bB id t x xs B=>simp only[iw,c5]at j;subst j;exact .cons (.bB id t x xs B) .nil
 |iT f G ds B F=>simp only[iw,c5]at j;subst j;exact .cons (.iT f G ds B F) .nil
 |aB f G ts B F=>simp only[iw,c5]at j;subst j;exact .cons (.aB f G ts B F) .nil
 |_=>simp only[iw,c5]at j;subst j;exact .cons (by constructor<;>assumption) .nil
def x6[cz][c9]{ρ:aN}{x:TX}{u:T}{cs:List TX}(h:RX ρ x u)(j:qv x=some cs):F2 (RX ρ) cs (bm u)/\(bm u).all T.fA=true:=by
 unfold qv at j
 split at j
 ·rename_i B F
  cases k:B.all vV with
  |true=>
   simp only[k,cond_true,c5]at j
   subst j
   have:=Sb h F
   exact⟨this,WD this k⟩
  |false=>simp[k]at j
 cases j
def Ec:∀{ts:List T}{ds:List D},ts.mapM eQ=some ds->ts=ds.map .d
 | [],ds,h=>by simp at h;subst h;rfl
 |t::ts,ds,h=>by
  simp only[mo,Option.bind_eq_bind,la,Option.pure_def,c5]at h
  obtain⟨x,j,xs,k,rfl⟩:=h
  rw[Ec k]
  cases t<;>simp[eQ]at j
  subst j;rfl
def yX[cz][c9]{ρ:aN}{t:Ty}(O:isVal t){cs:List TX}{ts:List T}{x:TX}(h:F2 (RX ρ) cs ts)(j:qZ t cs=some x):RX ρ x (fP (cd t) ts):=by
 unfold qZ at j
 cases N:cd t with
 |true=>
  simp only[N,cond_true]at j
  obtain⟨i,rfl⟩:∃i,t = .st i:=by cases t<;>simp_all [cd]
  split at j
  ·rename_i ps G
   obtain⟨ds,rfl,M⟩:=Ml h G
   simp only[e6]at j
   obtain⟨y,U,rfl⟩:=j
   obtain⟨v,B,k⟩:=Em O U M
   have e:(ds.map T.d).mapM eQ=some ds:=by
    clear G h M U k
    induction ds with
    |nil=>rfl
    |cons d ds aa=>simp[eQ,aa]
   simp only[fP,e,hQ]
   have Y:D.agg ds=Ty.enc (.st i) v:=by rw[k];rfl
   rw[Y]
   exact .d _ _ v O B
  simp only[c5]at j
  subst j
  simp only[fP,hQ]
  cases e:ts.mapM eQ with
  |none=>exact .agg cs ts h.len λi c t F ht=>h.get F ht
  |some ds=>
   have:=Ec e
   subst this
   refine .iQ cs ds (by simpa using h.len) λi c d F Z=>h.get F (by simp[Z])
 |false=>
  simp only[N,cond_false]at j
  split at j
  ·rename_i c
   simp only[c5]at j
   subst j
   cases h with
   |cons B k=>cases k;simpa [fP]using B
  cases j
def pt{t:Ty}(j:cd t=true)(v:t.den):t.enc v = .agg (t.enc v).cells:=by
 cases t<;>simp[cd]at j
 rfl
def LN[cz][c9]{ρ:aN}{u t:Ty}{e:X}{v:u.den}{off:Nat}{x:TX}(k:isVal u)(ht:isVal t)(U:e.den ρ=some ⟨u,v⟩)(h:pS u e off t=some x) :
  ∃(y:X)(w:t.den),x = .d t y/\y.den ρ=some ⟨t,w⟩/\(t.enc w).cells=((u.enc v).cells.drop off).take t.size/\off+t.size<=u.size/\(off=0->t.size=u.size->t.enc w=u.enc v):=by
 unfold pS at h
 cases F:(Nat.beq off 0&&decide (t=u))with
 |true=>
  simp only[F,cond_true,c5]at h
  simp only[dd,ek]at F
  obtain⟨j,rfl⟩:=F
  have:=et j
  subst this
  exact⟨e,v,h.symm,U,by rw[r2,lA (by rw[jT k];exact eb _)],by omega,λ_ _=>rfl⟩
 |false=>
  simp only[F,cond_false]at h
  cases j:(Nat.beq off 0&&Nat.beq t.size u.size&&(cd t != cd u))with
  |true=>simp[j]at h
  |false=>
   simp only[j,cond_false]at h
   split at h
   ·rename_i cs ab
    have O:=qw _ k U ab
    cases M:Nat.ble (off+t.size) cs.length with
    |false=>simp[M]at h
    |true=>
     simp only[M,cond_true,e6]at h
     obtain⟨y,ad,rfl⟩:=h
     have ag:=hG M
     have ah:cs.length=u.size:=by rw[O.len,jT k]
     obtain⟨w,aa,B⟩:=Em ht ad ((O.drop off).take t.size)
     refine⟨y,w,rfl,aa,B.symm,by omega,λZ N=>?_⟩
     subst Z
     rw[r2,lA (by rw[jT k,N];exact eb _)]at B
     simp only[ik,o0,N]at j
     have Y:cd t=cd u:=by simpa using j
     cases G:cd u with
     |true=>rw[pt G v,pt (Y.trans G) w,B]
     |false=>
      have ae:=(kJ G k.1 k.2 v).1
      have af:=(kJ (Y.trans G) ht.1 ht.2 w).1
      rw[ae,af]at B
      simpa using B.symm
   cases h
end Go.Sy
namespace Go.Sy
open Go Go.ag
variable [aD][cF]
inductive ch(cs:List Callee):Nat->aN->List Ins->aN->Prop
 |nil (n ρ):ch cs n ρ [] ρ
 |bJ (n ρ x r ρ'):x.den ρ=some ⟨.bool,true⟩->ch cs n ρ r ρ'->ch cs n ρ (.bJ x::r) ρ'
 |get (n ρ xs k r ρ') (t:Ty) (l:List t.den) (kk:IntKind) (i:Int) (e:t.den):xs.den ρ=some ⟨.list t,l⟩->k.den ρ=some ⟨.int kk,i⟩->au l i=some e->ch cs (n+1) ((n,⟨t,e⟩)::ρ) r ρ'->ch cs n ρ (.get xs k::r) ρ'
 |call (n ρ c x r ρ') (C:Callee) (a:(aT C.args).den) (y:(aT C.res).den):cs[c]?=some C->x.den ρ=some ⟨aT C.args,a⟩->C.fn a=some y->ch cs (n+1) ((n,⟨aT C.res,y⟩)::ρ) r ρ'->ch cs n ρ (.call c x::r) ρ'
def ch.ext{cs:List Callee}{n:Nat}{ρ ρ':aN}{is:List Ins}(h:ch cs n ρ is ρ'):dY n ρ->Ext ρ ρ'/\dY (jX n is) ρ':=by
 induction h with
 |nil n ρ=>intro j;exact⟨.refl ρ,j⟩
 |bJ n ρ x r ρ' _ _ B=>intro j;exact B j
 |get n ρ xs k r ρ' t l kk i e _ _ _ _ B=>
  intro j
  obtain⟨F,G⟩:=B (j.push (r4 n) _)
  exact⟨(Ext.push j _).trans F,G⟩
 |call n ρ c x r ρ' C a y _ _ _ _ B=>
  intro j
  obtain⟨F,G⟩:=B (j.push (r4 n) _)
  exact⟨(Ext.push j _).trans F,G⟩
def dM:(ts:List Ty)->(aT ts).den->List D
 | [],_=>[]
 | [t],x=>[t.enc x]
 |t::u::ts,x=>t.enc x.1::dM (u::ts) x.2
variable [bd]
structure gM(P:Program)(C:Callee):Prop where
 enters:Enters P C.f
 jv:∀a r,C.fn a=some r->eO P C.f (dM C.args a) ((aT C.res).enc r)
 args:∀t∈C.args,isVal t
 res:∀t∈C.res,isVal t
structure nB(P:Program)(f:FuncId)(t:Ty)(args:List Ty)(fn:(aT (.list t::args)).den->Option (List t.den)):Prop where
 enters:Enters P f
 val:isVal t
 jv:∀(a:(aT (.list t::args)).den)(r:List t.den),fn a=some r->∀(l:List AO)(id e:Nat)(els ds:List D),dM (.list t::args) a = .slice t.size els::ds->l[id]?=some (.row e t.size els)->sf P f (.row id::ds.map .d) l (.d (.aJ [])) (l.set id (.row e t.size (r.map t.enc)))
structure iO where
 f:FuncId
 t:Ty
 args:List Ty
 fn:(aT (.list t::args)).den->Option (List t.den)
def iO.oX(c:iO):Callee:=⟨c.f,.list c.t::c.args,[.list c.t],c.fn⟩
def bX(P:Program)(o:Oper)(ρT:Operand->T)(l:List AO)(t:T)(l':List AO):Prop:=
 (
  ∀c,o.op ≠ .defer c)/\∀(w0:World)(I0:av)(w:World)(I:av)(m:Nat->Value)(ρ:Operand->Value),aE w0 I0 w I m l->(∀x∈o.op.operands,ar I m l (ρ x) (ρT x)) ->
  bY P ((execOp ρ o).run P w) λv w'=>∃J m',Le I m l J m' l'/\aE w0 I0 w' J m' l'/\ar J m' l' v t
section
variable {P:Program}{V:Env}{o:Oper}{ρT:Operand->T}{l:List AO}{nid:Nat}
theorem bX.none(M:cn P V){r:R}(O:evalOp V ρT l nid o=r)(k:r.ob)(N:r.bq = .none):bX P o ρT l r.t l:=by
 subst O
 refine⟨qE k,λw0 I0 w I m ρ U Y=>?_⟩
 have j:=nO M U (ei.refl _) Y k
 unfold bS at j
 rw[N]at j
 exact j.mono λv w' ⟨J,B,F,G⟩=>⟨J,m,B,F,G⟩
theorem bX.aK(M:cn P V){r:R}(U:evalOp V ρT l nid o=r)(k:r.ob){l':List AO}(N:r.bq = .aK l')(O:nid=l.length):bX P o ρT l r.t l':=by
 subst U
 refine⟨qE k,λw0 I0 w I m ρ Y Z=>?_⟩
 have j:=nO M Y (ei.refl _) Z k
 unfold bS at j
 rw[N]at j
 exact(j rfl O).mono λv w' ⟨J,m',B,F,G⟩=>⟨J,m',B,F,G⟩
theorem bX.set(M:cn P V){r:R}(U:evalOp V ρT l nid o=r)(k:r.ob){a:AO}(N:r.bq = .new a)(O:l[nid]?=some .dead):bX P o ρT l r.t (l.set nid a):=by
 subst U
 refine⟨qE k,λw0 I0 w I m ρ Y Z=>?_⟩
 have j:=nO M Y (ei.refl _) Z k
 unfold bS at j
 rw[N]at j
 exact(j O).mono λv w' ⟨m',B,F,G⟩=>⟨I,m',B,F,G⟩
theorem bX.new(N:cn P V){r:R}(Z:evalOp V ρT l nid o=r)(B:r.ob){a:AO}(O:r.bq = .new a)(Y:nid=l.length):bX P o ρT l r.t (l++[a]):=by
 subst Z;subst Y
 refine⟨qE B,λw0 I0 w I m ρ aa ae=>?_⟩
 obtain⟨ad,k⟩:=aa.push
 have j:=nO (nid:=l.length) N ad (L:=l++[.dead]) (λid U=>e3 U) (λx h=>(ae x h).mono k) B
 unfold bS at j
 rw[O]at j
 have ab:(l++[AO.dead]).set l.length a=l++[a]:=by simp
 dsimp only at j
 rw[ab]at j
 exact(j (by simp)).mono λv w' ⟨m',F,G,M⟩=>⟨I,m',k.trans F,G,M⟩
end
def cG(P:Program)(o:Oper)(ρT:Operand->T)(l:List AO)(nid:Nat)(ρ':aN)(q:dA):Prop:=∃t,RX ρ' q.t t/\match q.bq with
 |.none=>bX P o ρT l t l
 |.new a=>∃j,bK ρ' a j/\(nid=l.length->bX P o ρT l t (l++[j]))/\(l[nid]?=some .dead->bX P o ρT l t (l.set nid j))
 |.aK k=>∃l',RL ρ' k l'/\(nid=l.length->bX P o ρT l t l')
def cE{t:Ty}(h:dG t=true):isVal t:=by
 cases t<;>simp_all [dG,isVal]
def uF(p:Ty×X)(d:D):Bool:=match p.1,p.2,d with
 |.int k,.int j n,.int B m=>decide (k=j)&&decide (j=B)&&decide (n=m)
 |.bool,.bool b,.bool c=>b == c
 |.str,.str [],.str s=>s.data.toList.isEmpty
 |.list t,.nil u,.slice s []=>decide (t=u)&&Nat.beq s t.size
 |.map k v,.ke j F,.map [] []=>decide (k=j)&&decide (v=F)
 |_,_,_=>false
def kC:List (Ty×X)->List D->Bool
 | [],[]=>true
 |x::xs,d::ds=>uF x d&&kC xs ds
 |_,_=>false
def oN(t:Ty)(ds:List D):Bool:=match jO fK t with
 |some x=>match fw fK t x with
  |some ps=>kC ps ds
  |none=>false
 |none=>false
def nI(C:Cx)(t:Ty)(d:TD):Bool:=match t,d with
 |.int k,.dF B=>decide (k=B)
 |.str,.string=>true
 |.bool,.iH=>true
 |.list u,.slice e=>decide (C.ty e=some u)&&dG u&&Nat.ble 1 u.size&&(C.E e).isSome
 |.map k v,.map kt j=>decide (C.ty kt=some k)&&decide (C.ty j=some v)&&dG k&&dG v&&(C.E kt).isSome&&(C.E j).isSome
 |.st _,.struct fs=>fs.all λf=>(C.E f.2).isSome
 |_,_=>false
def r6(C:Cx)(ty:TypeId)(t:Ty):Bool:=match C.E ty with
 |some i=>Nat.beq i.size t.size&&(i.desc.agg == cd t)&&dG t&&nI C t i.desc&&oN t i.zero
 |none=>false
structure bL(P:Program)(V:Env)(C:Cx):Prop where
 ok:cn P V
 E:V.E=C.E
 eq:V.ja=C.eqs
 sub:V.sub=false
 ty:∀ty t,C.ty ty=some t->r6 C ty t=true
def aa4{ρ:aN}{p:Ty×X}{d:D}(h:uF p d=true):RX ρ (xq p) (ij d):=by
 obtain⟨t,x⟩:=p
 unfold uF at h
 split at h
 ·rename_i j B;simp only at j B;subst j;subst B
  simp only[dd,ek]at h
  obtain⟨⟨rfl,rfl⟩,rfl⟩:=h
  exact .d (.int _) _ _ (cE rfl) rfl
 ·rename_i j B;simp only at j B;subst j;subst B
  simp only[s4]at h;subst h
  exact .d .bool _ _ (cE rfl) rfl
 ·rename_i s j B;simp only at j B;subst j;subst B
  have:s=⟨⟨[]⟩⟩:=by
   cases s with|mk d=>cases d with|mk l=>simp at h;subst h;rfl
  subst this
  exact .d .str _ _ (cE rfl) rfl
 ·rename_i j B;simp only at j B;subst j;subst B
  simp only[dd,ek]at h
  obtain⟨rfl,F⟩:=h
  have:=et F
  subst this
  simp only[xq,hQ]
  exact .bu _
 ·rename_i k v G M j B;simp only at j B;subst j;subst B
  simp only[dd,ek]at h
  obtain⟨rfl,rfl⟩:=h
  exact .d (.map k v) (.ke k v) ([]:List (k.den×v.den)) (cE rfl) rfl
 cases h
def aa3{ρ:aN}{p:Ty×X}{d e:D}(h:uF p e=true)(M:RC ρ p d):e=d:=by
 obtain⟨t,x⟩:=p
 obtain⟨_,v,F,rfl⟩:=M
 simp only at v F⊢
 unfold uF at h
 split at h
 ·rename_i j B;simp only at j B;subst j;subst B
  simp only[dd,ek]at h
  obtain⟨⟨rfl,rfl⟩,rfl⟩:=h
  simp only[X.den,c5]at F;cases F;rfl
 ·rename_i j B;simp only at j B;subst j;subst B
  simp only[s4]at h;subst h
  simp only[X.den,c5]at F;cases F;rfl
 ·rename_i s j B;simp only at j B;subst j;subst B
  have:s=⟨⟨[]⟩⟩:=by
   cases s with|mk d=>cases d with|mk l=>simp at h;subst h;rfl
  subst this
  simp only[X.den,c5]at F;cases F;rfl
 ·rename_i j B;simp only at j B;subst j;subst B
  simp only[dd,ek]at h
  obtain⟨rfl,G⟩:=h
  have:=et G
  subst this
  simp only[X.den,c5]at F;cases F;rfl
 ·rename_i k v N O j B;simp only at j B;subst j;subst B
  simp only[dd,ek]at h
  obtain⟨rfl,rfl⟩:=h
  simp only[X.den,c5]at F;cases F;rfl
 cases h
def OA{ρ:aN}:∀{ps:List (Ty×X)}{ds:List D},kC ps ds=true->F2 (RX ρ) (ps.map xq) (ds.map ij)
 | [],[],_=>.nil
 |p::ps,d::ds,h=>by
  simp only[kC,dd]at h
  exact .cons (aa4 h.1) (OA h.2)
 | [],_::_,h=>by simp[kC]at h
 |_::_,[],h=>by simp[kC]at h
def Oz{ρ:aN}:∀{ps:List (Ty×X)}{ds j:List D},kC ps j=true->F2 (RC ρ) ps ds->j=ds
 | [],[],[],_,_=>rfl
 |p::ps,d::ds,e::j,h,.cons h1 k=>by
  simp only[kC,dd]at h
  rw[aa3 h.1 h1,Oz h.2 k]
 | [],[],_::_,h,_=>by simp[kC]at h
 |_::_,_::_,[],h,_=>by simp[kC]at h
 | [],_::_,_,_,h=>by cases h
 |_::_,[],_,_,h=>by cases h
theorem Ow{ρ:aN}{t:Ty}{ds:List D}(h:oN t ds=true):∃z,zeroCells t=some z/\F2 (RX ρ) z (ds.map ij):=by
 unfold oN at h
 split at h
 ·rename_i x k
  split at h
  ·rename_i ps j
   exact⟨ps.map xq,by simp[zeroCells,k,j],OA h⟩
  cases h
 cases h
section
variable {P:Program}{V:Env}{C:Cx}
def bL.info(h:bL P V C){ty:TypeId}{t:Ty}(ht:C.ty ty=some t):∃i,V.E ty=some i/\i.size=t.size/\i.desc.agg=cd t/\isVal t/\nI C t i.desc=true/\oN t i.zero=true:=by
 have k:=h.ty ty t ht
 unfold r6 at k
 split at k
 ·rename_i i hi
  simp only[dd,s4]at k
  obtain⟨⟨⟨⟨j,B⟩,F⟩,G⟩,M⟩:=k
  exact⟨i,by rw[h.E];exact hi,et j,B,cE F,G,M⟩
 cases k
end
end Go.Sy
namespace Go.Sy
open Go Go.ag
variable [aD][cF][cz][c9][bd]
section
variable {P:Program}{V:Env}{C:Cx}{o:Oper}{ρX:Operand->TX}{ρT:Operand->T}{lX:List AX}{l:List AO}{n nid:Nat}{cs:List Callee}{ρ ρ':aN}{q:dA}
theorem aas{u:Ty}{x:X}(v:u.den)(j:x.den ρ=some ⟨.box u,v⟩):RX ρ (gI (.d (.box u) x)) (unbox (.d (Ty.enc (.box u) v))):=by
 cases k:dG u with
 |false=>
  have:gI (.d (.box u) x) = .undef:=by simp[gI,k]
  rw[this];exact .undef _
 |true=>
  have F:=cE k
  have key:∀e:X,e.den ρ=some ⟨u,v⟩->RX ρ (.br u e 0) (unbox (.d (Ty.enc (.box u) v))):=λe B=>by
   have:unbox (.d (Ty.enc (.box u) v)) = .br (u.enc v).cells.length [u.enc v] 0 (0+0):=rfl
   rw[this,jT F]
   exact .br u e 0 0 u.size [u.enc v] 0 v F B (by simp) (by simp only[ep,List.getElem?_cons_zero,Option.getD_some,r2];rw[lA (by rw[jT F];exact eb _)]) (by omega) (λ_ _=>rfl)
  by_cases G:∃e,x = .box e
  ·obtain⟨e,rfl⟩:=G
   have:gI (.d (.box u) (.box e)) = .br u e 0:=by simp[gI,k]
   rw[this]
   refine key e ?_
   simp only[X.den]at j
   cases B:X.den ρ e with
   |none=>simp[B]at j
   |some w=>simp only[B,c5]at j;cases j;rfl
  have:gI (.d (.box u) x) = .br u (.u1 .unbox x) 0:=by
   cases x<;>simp[gI,k]
   exact absurd ⟨_,rfl⟩ G
  rw[this]
  exact key _ (by simp only[X.den,j];rfl)
def GH{x:TX}{t:T}(h:RX ρ x t):RX ρ (gI x) (unbox t):=by
 cases h with
 |d t x v U F=>
  cases t with
  |box u=>exact aas (u:=u) v F
  |_=>exact .d _ x v U F
 |dV=>exact .dV
 |iQ cs ds j B=>exact .iQ cs ds j B
 |fE cs ds j B=>exact .fE cs ds j B
 |undef t=>exact .undef _
 |br t e b off size els k v j B G M N O=>exact .br t e b off size els k v j B G M N O
 |bj id k off kk n j=>exact .bj id k off kk n j
 |bB id t x xs j=>exact .bB id t x xs j
 |agg cs ts j B=>exact .agg cs ts j B
 |aJ cs ts j B=>exact .aJ cs ts j B
 |iT f cs ts j B=>exact .iT f cs ts j B
 |aB f cs ts j B=>exact .aB f cs ts j B
 |gone=>exact .gone
 |_=>constructor<;>assumption
def En{t:Ty}(k:isVal t)(w:t.den):ev (cd t) (t.enc w).cells=t.enc w:=by
 cases j:cd t with
 |true=>exact(pt j w).symm
 |false=>rw[(kJ j k.1 k.2 w).1];rfl
def UR{t:Ty}(k:isVal t)(w:t.den):qN (t.enc w)=cd t:=by
 cases j:cd t with
 |true=>rw[pt j w];rfl
 |false=>
  have:=(kJ j k.1 k.2 w).2
  cases h:t.enc w<;>simp_all [qN,D.one]
theorem D3{u t:Ty}{e:X}{b off size k:Nat}{els:List D}{v:u.den}{x:TX}{i:TI}(ag:isVal u)(ht:isVal t)(ad:e.den ρ=some ⟨u,v⟩)(M:k<els.length)(Y:((ep els k).cells.drop b).take u.size=(u.enc v).cells)(ah:b+u.size<=size)(Z:b=0->size=u.size->ep els k=u.enc v)(af:pS u e off t=some x)(ae:i.size=t.size)(G:i.desc.agg=cd t) :
  ∃r,gV i size els k (b+off)=r/\r.ob/\r.bq = .none/\RX ρ x r.t:=by
 obtain⟨y,w,rfl,U,ab,ai,B⟩:=LN ag ht ad af
 unfold gV
 by_cases F:size=i.size/\b+off=0
 ·rw[if_pos F]
  have aa:b=0:=by omega
  have N:off=0:=by omega
  have O:t.size=u.size:=by omega
  have j:=Z aa (by omega)
  refine⟨_,rfl,⟨M,?_⟩,rfl,?_⟩
  ·rw[j,<-B N O,UR ht,G]
  rw[j,<-B N O];exact .d t y w ht U
 rw[if_neg F]
 refine⟨_,rfl,⟨M,by omega⟩,rfl,?_⟩
 have:((ep els k).cells.drop (b+off)).take i.size=(t.enc w).cells:=by
  rw[ae,ab,<-Y,List.drop_take,x0,tx]
  congr 1;omega
 rw[this,G,En ht]
 exact .d t y w ht U
def uK{α:Type}{l:List α}{i:Int}{e:α}(h:au l i=some e):0<=i/\i.toNat<l.length/\l[i.toNat]?=some e:=by
 unfold au at h
 split at h
 ·rename_i j
  exact⟨j,(da.1 h).1,h⟩
 cases h
def CG{t:Ty}{xs:List t.den}{k:Nat}{e:t.den}(h:xs[k]?=some e):ep (xs.map t.enc) k=t.enc e:=by
 simp[ep,h]
def Vv(M:bL P V C){ty:TypeId}{a:Operand}(aL:o.op = .load ty a)(az:RL ρ lX l)(aJ:RX ρ (ρX a) (ρT a))(h:D4 C ty lX n (gI (ρX a))=some q)(hi:ch cs n ρ q.ins ρ')(aS:Ext ρ ρ'):cG P o ρT l nid ρ' q:=by
 have j:evalOp V ρT l nid o=eV V.E ty l (unbox (ρT a)):=by simp only[evalOp,aL]
 have O:=GH aJ
 unfold D4 at h
 cases aA:C.ty ty with
 |none=>
  simp only[aA]at h
  generalize gI (ρX a)=A at h O
  generalize unbox (ρT a)=aE at j O
  split at h
  ·rename_i u e off i ax
   cases B:(Nat.beq i.size u.size&&(i.desc.agg == cd u)&&dG u)with
   |false=>rw[B]at h;cases h
   |true=>
    rw[B]at h
    simp only[cond_true,e6]at h
    obtain⟨x,F,rfl⟩:=h
    cases hi
    rw[dd,dd]at B
    cases O with
    |br _ _ b _ size els k v N aq ar au av aw=>
     simp only[eV,M.E,ax]at j
     obtain⟨r,Y,af,ag,ah⟩:=D3 N (cE B.2) aq ar au av aw F (et B.1.1) (by simpa using B.1.2)
     exact⟨_,ah,bX.none M.ok (j.trans Y) af ag⟩
  ·rename_i id off i ax
   cases O
   split at h
   ·rename_i aQ aR G
    obtain⟨aB,U,Z⟩:=F2.left az G
    cases Z with
    |var _ _ ts F=>
     cases B:(Nat.beq i.size 1 && !i.desc.agg)with
     |false=>rw[B]at h;cases h
     |true=>
      rw[B]at h
      simp only[cond_true,e6]at h
      obtain⟨v,ad,rfl⟩:=h
      cases hi
      rw[dd,hC]at B
      have N:=et B.1
      obtain⟨u,ab,aM⟩:=F.left ad
      have aT:=(da.1 ab).1
      have ai:(ts.drop off).take 1=[u]:=by
       rw[List.take_one,List.head?_drop,ab];rfl
      simp only[eV,M.E,ax,U,N,B.2]at j
      rw[if_pos (by omega),ai]at j
      exact⟨u,aM,bX.none M.ok j trivial rfl⟩
   cases h
  cases h
 |some t=>
  obtain⟨i,al,an,ay,ad,_⟩:=M.info aA
  simp only[aA]at h
  generalize gI (ρX a)=A at h O
  generalize unbox (ρT a)=aE at j O
  cases O with
  |ptr id off=>
   simp only at h
   cases G:lX[id]? with
   |none=>simp[G]at h
   |some aF=>
    obtain⟨aB,U,Z⟩:=F2.left az G
    simp only[G]at h
    cases Z with
    |var aQ xs ts F=>
     simp only at h
     cases aa:Nat.ble (off+t.size) xs.length with
     |false=>simp[aa]at h
     |true=>
      simp only[aa,cond_true,e6]at h
      obtain⟨v,aN,rfl⟩:=h
      have aa:=hG aa
      cases hi
      have aK:=yX ad ((F.drop off).take t.size) aN
      simp only[eV,al,U]at j
      rw[if_pos (by rw[an,<-F.len];exact aa),an,ay]at j
      exact⟨_,aK,bX.none M.ok j trivial rfl⟩
    |_=>simp at h
  |br u e b off size els k v N aq ar au av aw=>
   simp only[e6]at h
   obtain⟨x,F,rfl⟩:=h
   cases hi
   simp only[eV,al]at j
   obtain⟨r,Y,af,ag,ah⟩:=D3 N ad aq ar au av aw F an ay
   exact⟨_,ah,bX.none M.ok (j.trans Y) af ag⟩
  |bj id k off kk m N=>
   simp only at h
   cases G:lX[id]? with
   |none=>simp[G]at h
   |some aF=>
    obtain⟨aB,U,Z⟩:=F2.left az G
    simp only[G]at h
    have key:∀(u:Ty)(y:X)(zs:List u.den),isVal u->y.den ρ=some ⟨.list u,zs⟩->(pS u (.var n) off t).map (λv=>(⟨[.get y k],v,.none⟩:dA))=some q->eV V.E ty l (.bj id m.toNat off)=gV i u.size (zs.map u.enc) m.toNat off->cG P o ρT l nid ρ' q:=by
     intro u y zs ab ae aD aI
     simp only[e6]at aD
     obtain⟨x,F,rfl⟩:=aD
     cases hi with
     |get _ _ _ _ _ _ t2 aW aV aU ai aj ak aG aH=>
      cases aH
      rw[ae]at aj;injection aj with aj;cases aj
      rw[N]at ak;injection ak with ak;cases ak
      obtain⟨aX,aO,aP⟩:=uK aG
      have aC:=CG aP
      obtain⟨r,Y,af,ag,ah⟩:=D3 (ρ:=(n,⟨u,ai⟩)::ρ) (b:=0) (off:=off) (size:=u.size) (k:=m.toNat) (els:=zs.map u.enc) ab ad (show(X.var n).den _=_ from jE n ⟨u,ai⟩ ρ) (by simpa using aO) (by rw[aC,r2,lA (by rw[jT ab];exact eb _)]) (by omega) (λ_ _=>aC) F an ay
      rw[ia]at Y
      exact⟨_,ah,bX.none M.ok (j.trans (aI.trans Y)) af ag⟩
    cases Z with
    |row e u y zs ao ae=>exact key u y zs ao ae h (by simp only[eV,al,U])
    |bg e u y zs ao ae=>exact key u y zs ao ae h (by simp only[eV,al,U])
    |_=>simp at h
  |_=>simp at h
def F9{xs ys:List TX}{ts j:List T}{off:Nat}(h:F2 (RX ρ) xs ts)(k:F2 (RX ρ) ys j):F2 (RX ρ) (w8 xs off ys) (setAt ts off j):=by
 unfold w8 setAt
 rw[k.len]
 exact((h.take off).app k).app (h.drop _)
def YJ{xs ys:List (Ty×X)}{ts j:List D}{off:Nat}(h:F2 (RC ρ) xs ts)(k:F2 (RC ρ) ys j):F2 (RC ρ) (xs.take off++ys++xs.drop (off+ys.length)) (setAt ts off j):=by
 unfold setAt
 rw[k.len]
 exact((h.take off).app k).app (h.drop _)
def YX{u:Ty}(h:1<u.size):cd u=true:=by
 cases u<;>simp_all [Ty.size,cd]
theorem Gm(
         Z:bL P V C){ty:TypeId}{a x:Operand}(aR:o.op = .store ty a x)(aa:RL ρ lX l)(ah:RX ρ (ρX a) (ρT a))(az:RX ρ (ρX x) (ρT x))(h:Gl C ty lX n (ρX a) (ρX x)=some q)(hi:ch cs n ρ q.ins ρ')(bb:Ext ρ ρ'):cG P o ρT l nid ρ' q:=by
 have G:=bb
 unfold Gl at h
 cases ab:C.ty ty with
 |none=>
  cases B:qv (ρX x)with
  |none=>simp[ab,B]at h
  |some vs=>
   obtain⟨ag,aE⟩:=x6 az B
   match vs with
   | []=>simp[ab,B]at h
   |_::_::_=>simp[ab,B]at h
   | [y]=>
    simp only[ab,B]at h
    generalize bp:ρX a=A at h ah
    generalize ba:ρT a=a7 at ah
    cases ah with
    |ptr id off=>
     simp only at h
     cases N:lX[id]? with
     |none=>simp[N]at h
     |some aM=>
      obtain⟨aL,af,ao⟩:=F2.left aa N
      simp only[N]at h
      cases ao with
      |var aJ xs ts au=>
       simp only at h
       cases M:(Nat.beq (bw C.E ty) 1&&Nat.ble (off+1) xs.length)with
       |false=>simp[M]at h
       |true=>
        simp only[M,cond_true,c5]at h
        simp only[dd]at M
        subst h
        have aw:=et M.1;have aN:=hG M.2
        have ay:(bm (ρT x)).length=1:=by rw[<-ag.len];rfl
        have j:evalOp V ρT l nid o=me l (ρT a) (ρT x):=by
         simp only[evalOp,aR]
         rw[if_pos ⟨by rw[Z.E,ay,aw],by rw[Z.E,aw];omega⟩]
        cases hi
        rw[ba]at j
        simp only[me,af]at j
        rw[if_pos (by rw[ay,<-au.len];exact aN)]at j
        exact⟨_,.undef _,_,F2.set aa (.var aJ _ _ (F9 au ag)) id,λO=>bX.aK Z.ok j aE rfl O⟩
      |_=>simp at h
    |_=>simp at h
 |some t=>
  obtain⟨i,bc,bd,bq,bt,_⟩:=Z.info ab
  cases B:qv (ρX x)with
  |none=>simp[ab,B]at h
  |some vs=>
   obtain⟨ag,aE⟩:=x6 az B
   cases M:(Nat.beq vs.length t.size&&Nat.ble 1 vs.length)with
   |false=>simp[ab,B,M]at h
   |true=>
    simp only[ab,B,M,cond_true]at h
    simp only[dd]at M
    have aw:=et M.1;have aN:=hG M.2
    have aS:bw V.E ty=t.size:=by simp[bw,bc,bd]
    have j:evalOp V ρT l nid o=me l (ρT a) (ρT x):=by
     simp only[evalOp,aR]
     rw[if_pos ⟨by rw[aS,<-ag.len,aw],by rw[aS];omega⟩]
    generalize ρX a=A at h ah
    generalize ρT a=a7 at j ah
    cases ah with
    |ptr id off=>
     simp only at h
     cases N:lX[id]? with
     |none=>simp[N]at h
     |some aM=>
      obtain⟨aL,af,ao⟩:=F2.left aa N
      simp only[N]at h
      cases ao with
      |var aJ xs ts au=>
       simp only at h
       cases F:Nat.ble (off+vs.length) xs.length with
       |false=>simp[F]at h
       |true=>
        simp only[F,cond_true,c5]at h
        subst h
        have F:=hG F
        cases hi
        simp only[me,af]at j
        rw[if_pos (by rw[<-ag.len,<-au.len];exact F)]at j
        exact⟨_,.undef _,_,F2.set aa (.var aJ _ _ (F9 au ag)) id,λO=>bX.aK Z.ok j aE rfl O⟩
      |_=>simp at h
    |bj id k off kk m an=>
     cases N:lX[id]? with
     |none=>simp[N]at h
     |some aM=>
      obtain⟨aL,af,ao⟩:=F2.left aa N
      simp only[N]at h
      cases ao with
      |row e u y zs ae aj=>
       cases aW:ρX x with
       |d ak a6=>
        rw[aW]at az h
        obtain⟨ai,w0,aT,aO⟩:=jS az
        rw[aO]at j
        simp only at h
        by_cases aG:off=0/\ak=u
        ·rw[if_pos aG]at h
         obtain⟨rfl,aB⟩:=aG
         subst aB
         simp only[c5]at h
         subst h
         cases hi with
         |get _ _ _ _ _ _ t2 bn bl bh ad U Y aH aI=>
          cases aI
          rw[aj]at U;injection U with U;cases U
          rw[an]at Y;injection Y with Y;cases Y
          obtain⟨bo,aA,aX⟩:=uK aH
          simp only[me,af]at j
          rw[if_pos (jT ai w0)]at j
          refine⟨_,.undef _,_,F2.set (RL.mono G aa) (a:=.row false e ak (.u3 .set y k a6)) (b:=.row e ak.size ((zs.set m.toNat w0).map ak.enc)) (.row e ak _ (zs.set m.toNat w0) ae ?_) id,λO=>bX.aK Z.ok j ⟨?_,?_,by simpa using aA⟩ (by rw[u5]) O⟩
          ·simp only[X.den,X.eF G aj,X.eF G an,X.eF G aT,nu,fH]
          ·exact jT ai w0
          rw[dT];exact λd ar=>uV ai w0 d ar
        rw[if_neg aG]at h
        cases aq:fw fK u (.var n)with
        |none=>simp[aq]at h
        |some av=>
         cases ax:fw fK ak a6 with
         |none=>simp[aq,ax]at h
         |some al=>
          cases F:(Nat.ble (off+al.length) av.length && !(Nat.beq off 0&&Nat.beq al.length av.length))with
          |false=>simp only[aq,ax,F,cond_false,reduceCtorEq]at h
          |true=>
           simp only[aq,ax,F,cond_true,e6]at h
           obtain⟨a1,bf,rfl⟩:=h
           rw[dd]at F
           have aQ:=F.2
           have F:=hG F.1
           cases hi with
           |get _ _ _ _ _ _ t2 bn bl bh ad U Y aH aI=>
            cases aI
            rw[aj]at U;injection U with U;cases U
            rw[an]at Y;injection Y with Y;cases Y
            obtain⟨bo,aA,aX⟩:=uK aH
            have a8:(X.var n).den ((n,⟨u,ad⟩)::ρ)=some ⟨u,ad⟩:=jE n ⟨u,ad⟩ ρ
            have aY:=qw _ ae a8 aq
            have aZ:=qw _ ai (X.eF G aT) ax
            have ay:=aY.len;have aD:=aZ.len
            rw[jT ae]at ay
            obtain⟨w,aU,aV⟩:=Em ae bf (YJ aY aZ (off:=off))
            have bs:0<al.length:=by
             have aP:=ag.len
             rw[aO,Sc]at aP
             simp only[hM]at aP
             omega
            have br:off≠0\/al.length≠av.length:=by
             apply hB;intro B
             have aB:off=0:=hB λh=>B (.inl h)
             have ad:al.length=av.length:=hB λh=>B (.inr h)
             rw[aB,ad]at aQ;simp at aQ
            have aF:cd u=true:=YX (by omega)
            have aC:=CG aX
            rw[pt aF ad]at aC
            cases off with
            |zero=>
             simp only[me,af,aC]at j
             rw[if_neg (by rw[<-aD];omega)]at j
             refine⟨_,.undef _,_,F2.set (RL.mono G aa) (a:=.row false e u (.u3 .set y k a1)) (b:=.row e u.size ((zs.set m.toNat w).map u.enc)) (.row e u _ (zs.set m.toNat w) ae ?_) id,λO=>bX.aK Z.ok j ⟨?_,?_,by simpa using aA⟩ ?_ O⟩
             ·simp only[X.den,X.eF G aj,X.eF G an,aU,nu,fH]
             ·rw[<-aD];omega
             ·rw[dT];exact λd ar=>uV ai w0 d ar
             rw[u5,pt aF w,<-aV]
            |succ off=>
             simp only[me,af,aC]at j
             refine⟨_,.undef _,_,F2.set (RL.mono G aa) (a:=.row false e u (.u3 .set y k a1)) (b:=.row e u.size ((zs.set m.toNat w).map u.enc)) (.row e u _ (zs.set m.toNat w) ae ?_) id,λO=>bX.aK Z.ok j ⟨?_,?_,by simpa using aA⟩ ?_ O⟩
             ·simp only[X.den,X.eF G aj,X.eF G an,aU,nu,fH]
             ·rw[<-aD];omega
             ·rw[dT];exact λd ar=>uV ai w0 d ar
             rw[u5,pt aF w,<-aV]
       |_=>rw[aW]at h;simp at h
      |bg e u y zs ae aj=>simp at h
      |_=>simp at h
    |_=>simp at h
end
end Go.Sy
namespace Go.Sy
open Go Go.ag
variable [aD][cF][cz][c9][bd]
section
variable {P:Program}{V:Env}{C:Cx}{o:Oper}{ρX:Operand->TX}{ρT:Operand->T}{lX:List AX}{l:List AO}{n nid:Nat}{cs:List Callee}{ρ ρ':aN}{q:dA}
theorem cG.val(j:cn P V){x:TX}{r:R}(k:evalOp V ρT l nid o=r)(F:r.ob)(B:r.bq = .none)(G:RX ρ' x r.t){is:List Ins}:cG P o ρT l nid ρ' ⟨is,x,.none⟩:=⟨_,G,bX.none j k F B⟩
def Bv(U:bL P V C){x:TX}{t:T}(h:RX ρ x t)(ty:TypeId):RX ρ (r7 C.E ty x) (typed V.E ty t):=by
 rw[U.E]
 cases h with
 |bu s=>exact .bu _
 |undef t=>exact .undef _
 |d t x v j B=>
  have:typed C.E ty (.d (t.enc v)) = .d (t.enc v):=rfl
  rw[this];exact .d t x v j B
 |gone=>exact .gone
 |dV=>exact .dV
 |ptr=>exact .ptr _ _
 |br t e b off size els k v j B G M N O=>exact .br t e b off size els k v j B G M N O
 |row=>exact .row _
 |bj id k off kk n j=>exact .bj id k off kk n j
 |map=>exact .map _
 |aW=>exact .aW _
 |cw=>exact .cw _ _
 |bB id t x xs j=>exact .bB id t x xs j
 |sub id lo hi Y Z n m F j B=>exact .sub id lo hi Y Z n m F j B
 |agg cs ts j B=>exact .agg cs ts j B
 |iQ cs ts j B=>exact .iQ cs ts j B
 |aJ cs ts j B=>exact .aJ cs ts j B
 |fE cs ts j B=>exact .fE cs ts j B
 |iT f cs ts j B=>exact .iT f cs ts j B
 |aB f cs ts j B=>exact .aB f cs ts j B
def gD{t:TX}(h:eG t=some q):q=⟨[],t,.none⟩:=by
 simp only[eG,c5]at h;exact h.symm
def KS(j:bL P V C){x:Operand}(ho:o.op = .move x\/o.op = .assign x)(B:RX ρ (ρX x) (ρT x))(h:eG (r7 C.E o.type (ρX x))=some q)(hi:ch cs n ρ q.ins ρ'):cG P o ρT l nid ρ' q:=by
 have:=gD h;subst this
 cases hi
 have k:evalOp V ρT l nid o = .ok (typed V.E o.type (ρT x)):=by rcases ho with ho|ho<;>simp only[evalOp,ho]
 exact .val j.ok k trivial rfl (Bv j B _)
def ir{x:X}{u:T}(h:RX ρ (.d .bool x) u):∃b:Bool,x.den ρ=some ⟨.bool,b⟩/\u = .d (.bool b):=by
 obtain⟨_,v,j,k⟩:=jS h
 exact⟨v,j,k⟩
def fM{k:IntKind}{x:X}{u:T}(h:RX ρ (.d (.int k) x) u):∃n:Int,x.den ρ=some ⟨.int k,n⟩/\u = .d (.int k n):=by
 obtain⟨_,v,j,B⟩:=jS h
 exact⟨v,j,B⟩
def Gn{x:X}{u:T}(h:RX ρ (.d .str x) u):∃s:ByteArray,x.den ρ=some ⟨.str,s⟩/\u = .d (.str s):=by
 obtain⟨_,v,j,k⟩:=jS h
 exact⟨v,j,k⟩
def DY{t:Ty}{x:X}{u:T}(h:RX ρ (.d (.list t) x) u):∃xs:List t.den,x.den ρ=some ⟨.list t,xs⟩/\u = .d (.slice t.size (xs.map t.enc)):=by
 obtain⟨_,v,j,k⟩:=jS h
 exact⟨v,j,k⟩
def VP{k v:Ty}{x:X}{u:T}(h:RX ρ (.d (.map k v) x) u):∃m:List (k.den×v.den),x.den ρ=some ⟨.map k v,m⟩/\u = .d (.map (m.map λp=>k.enc p.1) (m.map λp=>v.enc p.2)):=by
 obtain⟨_,m,j,B⟩:=jS h
 exact⟨m,j,B⟩
theorem eY{x:X}{b:Bool}(h:x.den ρ=some ⟨.bool,b⟩):RX ρ (.d .bool x) (.d (.bool b)):=.d .bool x b (cE rfl) h
def hZ{k:IntKind}{x:X}{n:Int}(h:x.den ρ=some ⟨.int k,n⟩):RX ρ (.d (.int k) x) (.d (.int k n)):=.d (.int k) x n (cE rfl) h
theorem Yv{x:X}{s:ByteArray}(h:x.den ρ=some ⟨.str,s⟩):RX ρ (.d .str x) (.d (.str s)):=.d .str x s (cE rfl) h
def rP{t:Ty}{x:X}{xs:List t.den}(h:x.den ρ=some ⟨.list t,xs⟩):RX ρ (.d (.list t) x) (.d (.slice t.size (xs.map t.enc))):=.d (.list t) x xs (cE rfl) h
def Dp{u:T}(h:RX ρ .gone u):u=ag.gone:=by cases h;rfl
def UT{t:TX}{b:Bool}(h:isLit t=some b):t = .d .bool (.bool b):=by
 unfold isLit at h
 split at h
 ·simp only[c5]at h;subst h;rfl
 cases h
def Fz(Z:bL P V C){c a b:Operand}(O:o.op = .pick c a b)(ae:∀x∈o.op.operands,RX ρ (ρX x) (ρT x))(h:dD C ρX lX n nid o=some q)(hi:ch cs n ρ q.ins ρ'):cG P o ρT l nid ρ' q:=by
 have ah:=ae c (by simp[O,Op.operands]);have M:=ae a (by simp[O,Op.operands]);have N:=ae b (by simp[O,Op.operands])
 have j:evalOp V ρT l nid o=nc (ρT c) (ρT a) (ρT b):=by simp only[evalOp,O]
 simp only[dD,O]at h
 have key:∀(G:Bool)(x:X),isLit (ρX c)=some G->(if G then ρX a else ρX b) = .d .bool x->eG (.d .bool x)=some q->((∃y,(if G then ρX b else ρX a) = .d .bool y)\/(if G then ρX b else ρX a) = .gone)->cG P o ρT l nid ρ' q:=by
  intro G x F ad aj ab
  have:=gD aj;subst this
  cases hi
  rw[UT F]at ah
  obtain⟨ag,ai,aa⟩:=ir ah
  simp only[X.den,c5]at ai
  have:ag=G:=by cases ai;rfl
  subst this
  cases ag with
  |true=>
   simp only[hQ]at ad ab
   rw[ad]at M
   obtain⟨v,U,Y⟩:=ir M
   rcases ab with ⟨y,hy⟩|hy<;>rw[hy]at N
   ·obtain⟨u,ak,af⟩:=ir N
    rw[aa,Y,af]at j
    exact .val Z.ok j ⟨trivial,trivial⟩ rfl (eY U)
   rw[aa,Y,Dp N]at j
   exact .val Z.ok j ⟨rfl,trivial⟩ rfl (eY U)
  |false=>
   simp only[hX,ih]at ad ab
   rw[ad]at N
   obtain⟨v,U,Y⟩:=ir N
   rcases ab with ⟨y,hy⟩|hy<;>rw[hy]at M
   ·obtain⟨u,ak,af⟩:=ir M
    rw[aa,Y,af]at j
    exact .val Z.ok j ⟨trivial,trivial⟩ rfl (eY U)
   rw[aa,Y,Dp M]at j
   exact .val Z.ok j ⟨rfl,trivial⟩ rfl (eY U)
 split at h
 ·rename_i F
  split at h
  ·rename_i x y k B
   exact key true x F (by simpa using k) h (.inl ⟨y,by simpa using B⟩)
  ·rename_i x k B
   exact key true x F (by simpa using k) h (.inr (by simpa using B))
  cases h
 ·rename_i F
  split at h
  ·rename_i x y k B
   exact key false x F (by simpa using k) h (.inl ⟨y,by simpa using B⟩)
  ·rename_i x k B
   exact key false x F (by simpa using k) h (.inr (by simpa using B))
  cases h
 cases h
def RK(B:bL P V C){e:TypeId}{x:Operand}(G:o.op = .box e x)(O:RX ρ (ρX x) (ρT x))(h:dD C ρX lX n nid o=some q)(hi:ch cs n ρ q.ins ρ'):cG P o ρT l nid ρ' q:=by
 have F:evalOp V ρT l nid o=⟨.ptr nid 0,.new (.var e (bm (ρT x))),((bm (ρT x)).all T.fA)=true⟩:=by simp only[evalOp,G]
 simp only[dD,G,e6]at h
 obtain⟨ds,N,rfl⟩:=h
 cases hi
 obtain⟨M,k⟩:=x6 O N
 exact⟨_,.ptr nid 0,_,.var e _ _ M,λj=>bX.new B.ok F k rfl j,λj=>bX.set B.ok F k rfl j⟩
def OJ(k:bL P V C){e:TypeId}(F:o.op = .alloc e)(h:dD C ρX lX n nid o=some q)(hi:ch cs n ρ q.ins ρ'):cG P o ρT l nid ρ' q:=by
 simp only[dD,F]at h
 cases G:C.ty e with
 |none=>
  simp only[G]at h
  split at h
  ·rename_i a b z d M
   simp only[c5]at h
   subst h
   cases hi
   rw[<-k.E]at M
   have B:evalOp V ρT l nid o=⟨.ptr nid 0,.new (.var e ([z].map ij)),True⟩:=by simp only[evalOp,F,M]
   exact⟨_,.ptr nid 0,_,.var e _ _ (.cons (.undef _) .nil),λj=>bX.new k.ok B trivial rfl j,λj=>bX.set k.ok B trivial rfl j⟩
  cases h
 |some t=>
  obtain⟨i,N,Z,aa,ab,_,O⟩:=k.info G
  obtain⟨z,U,Y⟩:=Ow (ρ:=ρ) O
  simp only[G,U,Option.map_some,c5]at h
  subst h
  cases hi
  have B:evalOp V ρT l nid o=⟨.ptr nid 0,.new (.var e (i.zero.map ij)),True⟩:=by simp only[evalOp,F,N]
  exact⟨_,.ptr nid 0,_,.var e _ _ Y,λj=>bX.new k.ok B trivial rfl j,λj=>bX.set k.ok B trivial rfl j⟩
def TU(F:bL P V C){s:TypeId}{x:Operand}{f:Nat}(ae:o.op = .fieldAddr s x f)(af:RX ρ (ρX x) (ρT x))(h:CS C s f (gI (ρX x))=some q)(hi:ch cs n ρ q.ins ρ'):cG P o ρT l nid ρ' q:=by
 have j:evalOp V ρT l nid o=jU V.E s f (unbox (ρT x)):=by simp only[evalOp,ae]
 have N:=GH af
 unfold CS at h
 rw[F.E]at j
 generalize gI (ρX x)=A at h N
 generalize unbox (ρT x)=ag at j N
 split at h
 ·rename_i s1 s2 ah fs M
  cases B:fs[f]? with
  |none=>simp[B]at h
  |some p=>
   simp only[B]at h
   cases O:Nat.ble 1 (bw C.E p.2)with
   |false=>simp[O]at h
   |true=>
    simp only[O,cond_true]at h
    have U:0<bw C.E p.2:=hG O
    cases N with
    |ptr id off=>
     have:=gD h;subst this;cases hi
     simp only[jU,M,B,if_pos U]at j
     exact .val F.ok j trivial rfl (.ptr _ _)
    |br u e b off size els k v G Y Z aa ab ad=>
     have:=gD h;subst this;cases hi
     simp only[jU,M,B,if_pos U]at j
     rw[sm]at j
     exact .val F.ok j trivial rfl (.br u e b (off+p.1) size els k v G Y Z aa ab ad)
    |bj id k off kk m G=>
     have:=gD h;subst this;cases hi
     simp only[jU,M,B,if_pos U]at j
     exact .val F.ok j trivial rfl (.bj id k (off+p.1) kk m G)
    |_=>simp at h
 cases h
def TW(B:bL P V C){s:TypeId}{x:Operand}{f:Nat}(ag:o.op = .field s x f)(U:RX ρ (ρX x) (ρT x))(h:CT C s f (ρX x)=some q)(hi:ch cs n ρ q.ins ρ'):cG P o ρT l nid ρ' q:=by
 have j:evalOp V ρT l nid o=lL V.E s f (ρT x):=by simp only[evalOp,ag]
 unfold CT at h
 split at h
 ·rename_i s1 s2 an fs u e Z Y
  rw[Y]at U
  obtain⟨O,v,ah,ai⟩:=jS U
  rw[ai]at j
  cases F:fs[f]? with
  |none=>simp[F]at h
  |some p=>
   cases G:C.ty p.2 with
   |none=>simp[F,G]at h
   |some t=>
    obtain⟨i,ab,N,ae,M,_⟩:=B.info G
    simp only[F,G]at h
    cases k:(cd u&&Nat.ble 1 t.size)with
    |false=>simp[k]at h
    |true=>
     simp only[k,cond_true,e6]at h
     obtain⟨w,aj,rfl⟩:=h
     cases hi
     simp only[dd]at k
     have al:=hG k.2
     obtain⟨y,b,rfl,ak,aa,af,_⟩:=LN O M ah aj
     rw[pt k.1 v]at j
     rw[B.E]at j
     have ad:C.E p.2=some i:=by rw[<-B.E];exact ab
     simp only[lL,Z,F,ad]at j
     rw[if_pos ⟨by rw[jT O,N];exact af,by omega⟩,N,<-aa,ae,En M]at j
     exact .val B.ok j trivial rfl (.d t y b M ak)
 cases h
end
end Go.Sy
namespace Go.Sy
open Go Go.ag
variable [aD][cF][cz][c9][bd]
section
variable {P:Program}{V:Env}{C:Cx}{o:Oper}{ρX:Operand->TX}{ρT:Operand->T}{lX:List AX}{l:List AO}{n nid:Nat}{cs:List Callee}{ρ ρ':aN}{q:dA}
def fu{a b:Ty.den .bool}(h:(some (⟨.bool,a⟩:Sy.V))=some ⟨.bool,b⟩):a=b:=by
 injection h with h
 injection h
def UI{k xs:X}{m:Int}{kk:IntKind}{t:Ty}{zs:List t.den}(j:k.den ρ=some ⟨.int kk,m⟩)(B:xs.den ρ=some ⟨.list t,zs⟩)(h:(yB k (gd xs)).den ρ=some ⟨.bool,true⟩):0<=m/\m<zs.length:=by
 simp only[yB,gd,iX,X.den,j,B,fY,cD]at h
 have h:(leI 0 m&&ah m (zs.length:Int))=true:=fu h
 simpa using h
def iV{x:X}{r:List Ins}(h:ch cs n ρ (.bJ x::r) ρ'):x.den ρ=some ⟨.bool,true⟩/\ch cs n ρ r ρ':=by
 cases h with|bJ _ _ _ _ _ j k=>exact⟨j,k⟩
def UL(Y:bL P V C){t:TypeId}{x i:Operand}(ax:o.op = .indexAddr t x i)(av:RL ρ lX l)(ay:RX ρ (ρX x) (ρT x))(ah:RX ρ (ρX i) (ρT i))(h:Dz C t lX n (gI (ρX x)) (ρX i)=some q)(hi:ch cs n ρ q.ins ρ')(au:Ext ρ ρ'):cG P o ρT l nid ρ' q:=by
 have aM:=au
 have B:evalOp V ρT l nid o=jB V.E t l (unbox (ρT x)) (ρT i):=by simp only[evalOp,ax]
 have M:=GH ay
 rw[Y.E]at B
 unfold Dz at h
 generalize gI (ρX x)=A at h M
 generalize aL:unbox (ρT x)=aj at B M
 split at h
 ·rename_i s1 s2 aQ e kk k Z an
  rw[an]at ah
  obtain⟨m,ad,aw⟩:=fM ah
  have ab:cY (ρT i)=some (kk,m):=by rw[aw];rfl
  cases A with
  |d aI xs=>
   cases aI with
   |list u=>
    simp only at h
    obtain⟨zs,az,aA⟩:=DY M
    cases j:(Nat.beq (bw C.E e) u.size&&Nat.ble 1 u.size&&dG u)with
    |false=>simp[j]at h
    |true=>
     simp only[j,cond_true,c5]at h
     subst h
     simp only[dd]at j
     have U:=et j.1.1;have ak:=hG j.1.2
     cases hi with
     |get _ _ _ _ _ _ t2 aP aO aN G N O aG aH=>
      cases aH
      rw[az]at N;injection N with N;cases N
      rw[ad]at O;injection O with O;cases O
      obtain⟨aD,aE,aF⟩:=uK aG
      have ag:=CG aF
      rw[aA]at B
      simp only[jB,Z,ab]at B
      rw[if_pos ⟨U.symm,by omega⟩]at B
      have ai:isVal u:=cE j.2
      exact .val Y.ok B ⟨aD,by simp;omega⟩ rfl (.br u (.var n) 0 0 u.size _ m.toNat G ai (jE n ⟨u,G⟩ ρ) (by simpa using aE) (by rw[ag,r2,lA (by rw[jT ai];exact eb _)]) (by omega) (λ_ _=>ag))
   |_=>simp at h
  |row id=>
   have aq:aj = .row id:=by cases M;rfl
   rw[aq]at B
   simp only at h
   cases aa:lX[id]? with
   |none=>simp[aa]at h
   |some aK=>
    obtain⟨aJ,af,ar⟩:=F2.left av aa
    simp only[aa]at h
    have key:∀(u:Ty)(y:X)(zs:List u.den),y.den ρ=some ⟨.list u,zs⟩->(bif Nat.beq (bw C.E e) u.size&&Nat.ble 1 u.size then some (⟨[.bJ (yB k (gd y))],.bj id k 0,.none⟩:dA)else none)=some q->(∀s els,u.size=s->zs.map u.enc=els->jB C.E t l (.row id) (ρT i)=if s=bw C.E e/\0<s then⟨.bj id m.toNat 0,.none,0<=m/\m<els.length⟩else .bad)->cG P o ρT l nid ρ' q:=by
     intro u y zs F ae ao
     cases j:(Nat.beq (bw C.E e) u.size&&Nat.ble 1 u.size)with
     |false=>simp[j]at ae
     |true=>
      simp only[j,cond_true,c5]at ae
      subst ae
      simp only[dd]at j
      have U:=et j.1;have ak:=hG j.2
      obtain⟨aB,aC⟩:=iV hi
      cases aC
      have:=UI ad F aB
      rw[ao _ _ rfl rfl,if_pos ⟨U.symm,by omega⟩]at B
      exact .val Y.ok B ⟨this.1,by simpa using this.2⟩ rfl (.bj id k 0 kk m ad)
    cases ar with
    |row G u y zs al F=>exact key u y zs F h (by rintro _ _ rfl rfl;simp only[jB,Z,ab,af])
    |bg G u y zs al F=>exact key u y zs F h (by rintro _ _ rfl rfl;simp only[jB,Z,ab,af])
    |_=>simp at h
  |_=>simp at h
 cases h
def Kv:∀(ls:List Int),(yO ls).den ρ=some ⟨.list (.int .i64),ls⟩
 | []=>rfl
 |x::xs=>by
  simp only[yO,X.den,Kv xs,iX,cD,c6]
  rfl
def UK(Y:bL P V C){t:TypeId}{g:Nat}{i:Operand}(al:o.op = .indexAddr t (.global g) i)(ae:∀g ls,aD.eA g=some ls->ρT (.global g) = .br ls.length [.agg (ls.map (.int .i64))] 0 0)(Z:RX ρ (ρX i) (ρT i))(h:Dy C t g n (ρX i)=some q)(hi:ch cs n ρ q.ins ρ')(ax:Ext ρ ρ'):cG P o ρT l nid ρ' q:=by
 have B:evalOp V ρT l nid o=jB V.E t l (unbox (ρT (.global g))) (ρT i):=by simp only[evalOp,al]
 rw[Y.E]at B
 unfold Dy at h
 split at h
 ·rename_i s1 s2 aC len e ls kk k ad ag af
  rw[af]at Z
  obtain⟨m,aj,ak⟩:=fM Z
  have ai:cY (ρT i)=some (kk,m):=by rw[ak];rfl
  cases F:(Nat.beq len ls.length&&Nat.beq (bw C.E e) 1&&Nat.ble 2 len&&(C.E e).isSome)with
  |false=>rw[F]at h;cases h
  |true=>
   rw[F]at h
   simp only[cond_true,c5]at h
   subst h
   simp only[dd]at F
   obtain⟨⟨⟨O,N⟩,U⟩,aa⟩:=F
   have O:=et O
   have N:=et N
   have U:=hG U
   rw[ae g ls ag]at B
   cases hi with
   |get _ _ _ _ _ _ t2 aA az ay j G M au av=>
    cases av
    rw[Kv]at G;injection G with G;cases G
    rw[aj]at M;injection M with M;cases M
    obtain⟨an,ao,aq⟩:=uK au
    simp only[unbox,jB,ad,ai,aa,hQ,N,Nat.mul_one,ia]at B
    have aB:m.toNat<ls.length:=ao
    have ar:ls[m.toNat]?=some (show Int from j):=aq
    refine .val Y.ok B ⟨an,by omega⟩ rfl ?_
    have ah:((ep [D.agg (List.map (D.int .i64) ls)] 0).cells.drop m.toNat).take 1=[D.int .i64 (show Int from j)]:=by
     show((List.map (D.int .i64) ls).drop m.toNat).take 1=_
     rw[List.take_one,List.head?_drop,e0,ar];rfl
    exact .br (.int .i64) (.var n) m.toNat 0 ls.length _ 0 j (cE rfl) (jE n ⟨.int .i64,j⟩ ρ) (by simp) ah (by show m.toNat+1<=_;omega) (λaw ab=>by have:ls.length=1:=ab;omega)
 cases h
def Ka{x:X}{k:IntKind}{m:Int}(j:x.den ρ=some ⟨.int k,m⟩)(h:(X.u1 .gT x).den ρ=some ⟨.bool,true⟩): -9223372036854775808<=m/\m<=9223372036854775807:=by
 simp only[X.den,j,fY]at h
 have h:ai m=true:=fu h
 simpa [ag.gT]using h
def xH{k:IntKind}{x:X}{m:Int}(F:x.den ρ=some ⟨.int k,mq k m⟩)(h:ch cs n ρ (uJ k x) ρ'):(arith k m).2/\(arith k m).1 = .int k (mq k m)/\ρ'=ρ:=by
 cases k with
 |i64=>
  obtain⟨j,B⟩:=iV h
  cases B
  exact⟨Ka F j,rfl,rfl⟩
 |_=>cases h;exact⟨trivial,rfl,rfl⟩
def DX:∀{ls:List Lf}{ps:List (Ty×X)}{ds:List D},F2 (RC ρ) ps ds->qS ls ps=true->fk ls ds=true
 | [],[],[],_,_=>rfl
 |a::r,p::s,d::ds,.cons h1 j,h=>by
  simp only[qS,dd]at h
  obtain⟨_,v,_,rfl⟩:=h1
  simp only[fk,dd]
  refine⟨?_,DX j h.2⟩
  obtain⟨t,x⟩:=p
  have k:=h.1
  cases a<;>cases t<;>simp_all [Kt,qR,Ty.enc,Ty.eL]
 | [],_::_,_,_,h=>by simp[qS]at h
 |_::_,[],_,_,h=>by simp[qS]at h
def RI(N:bL P V C){ai:BinOp}{ty az:TypeId}{x y:Operand}(ao:o.op = .binOp ai ty x y az)(ab:RX ρ (ρX x) (ρT x))(ad:RX ρ (ρX y) (ρT y))(h:dD C ρX lX n nid o=some q)(hi:ch cs n ρ q.ins ρ'):cG P o ρT l nid ρ' q:=by
 have ak:∀a b,ρT x = .d a->ρT y = .d b->evalOp V ρT l nid o=kf (eB V.ja ai ty a b):=by intro a b Z aa;simp only[evalOp,ao,Z,aa]
 simp only[dD,ao,e6]at h
 obtain⟨⟨is,aE⟩,h,rfl⟩:=h
 unfold H6 at h
 split at h
 ·rename_i k a aq b Z aa
  rw[Z]at ab;rw[aa]at ad
  obtain⟨u,G,af⟩:=fM ab
  obtain⟨v,F,ag⟩:=fM ad
  have B:=ak _ _ af ag
  have shr:∀{q:List Ins×TX},q=([.bJ (.u2 .le (.int aq 0) b)],.d (.int k) (.u2 (.shr k) a b))->ch cs n ρ q.1 ρ'->evalOp V ρT l nid o=kf (some (.int k (pW k u v),0<=v))->cG P o ρT l nid ρ' ⟨q.1,q.2,.none⟩:=by
   rintro q rfl hi B
   obtain⟨M,U⟩:=iV hi
   cases U
   have al:0<=v:=by
    simp only[X.den,F,cD]at M
    have M:leI 0 v=true:=fu M
    simpa using M
   exact .val N.ok B al rfl (hZ (by simp only[X.den,G,F,cD]))
  split at h
  ·rename_i aj
   split at h
   ·simp only[c5]at h
    simp only[eB,if_pos aj,Ga]at B
    exact shr h.symm hi B
   cases h
  rename_i aj
  have aj:k=aq:=by simpa using aj
  subst aj
  cases ai with
  |shr=>
   simp only[c5]at h
   simp only[eB,ne_eq,iv,ih]at B
   exact shr h.symm hi B
  |and=>
   simp only[c5,e1]at h
   obtain⟨rfl,rfl⟩:=h
   cases hi
   simp only[eB,ne_eq,iv,ih]at B
   exact .val N.ok B trivial rfl (hZ (by simp only[X.den,G,F,cD]))
  |add=> 
   simp only[c5,e1]at h
   obtain⟨rfl,rfl⟩:=h
   have O:(X.u2 (.add k) a b).den ρ=some ⟨.int k,mq k (u+v)⟩:=by simp only[X.den,G,F,cD];rfl
   obtain⟨M,U,rfl⟩:=xH O hi
   simp only[eB,ne_eq,iv,ih]at B
   exact .val N.ok B M rfl (by show RX ρ' _ (.d (arith k (u+v)).1);rw[U];exact hZ O)
  |sub=>
   simp only[c5,e1]at h
   obtain⟨rfl,rfl⟩:=h
   have O:(X.u2 (.sub k) a b).den ρ=some ⟨.int k,mq k (u-v)⟩:=by simp only[X.den,G,F,cD];rfl
   obtain⟨M,U,rfl⟩:=xH O hi
   simp only[eB,ne_eq,iv,ih]at B
   exact .val N.ok B M rfl (by show RX ρ' _ (.d (arith k (u-v)).1);rw[U];exact hZ O)
  |mul=>
   simp only[c5,e1]at h
   obtain⟨rfl,rfl⟩:=h
   have O:(X.u2 (.mul k) a b).den ρ=some ⟨.int k,mq k (u*v)⟩:=by simp only[X.den,G,F,cD];rfl
   obtain⟨M,U,rfl⟩:=xH O hi
   simp only[eB,ne_eq,iv,ih]at B
   exact .val N.ok B M rfl (by show RX ρ' _ (.d (arith k (u*v)).1);rw[U];exact hZ O)
  |quo=>
   cases k with
   |i64=>
    simp only[c5,e1]at h
    obtain⟨rfl,rfl⟩:=h
    have O:(X.u2 (.quo .i64) a b).den ρ=some ⟨.int .i64,u.tdiv v⟩:=by simp only[X.den,G,F,cD]
    obtain⟨M,U⟩:=iV hi
    obtain⟨ax,ay⟩:=iV U
    cases ay
    have ah:v≠0:=by
     simp only[X.den,F,iX,fY,cD]at M
     have M:(!aA v 0)=true:=fu M
     simpa using M
    simp only[eB,ne_eq,iv,ih]at B
    exact .val N.ok B ⟨ah,Ka O ax⟩ rfl (hZ O)
   |_=>simp at h
  |rem=>
   simp only[c5,e1]at h
   obtain⟨rfl,rfl⟩:=h
   have O:(X.u2 (.rem k) a b).den ρ=some ⟨.int k,u.tmod v⟩:=by simp only[X.den,G,F,cD]
   obtain⟨M,U⟩:=iV hi
   cases U
   have ah:v≠0:=by
    simp only[X.den,F,fY,cD]at M
    have M:(!aA v 0)=true:=fu M
    simpa using M
   simp only[eB,ne_eq,iv,ih]at B
   exact .val N.ok B ah rfl (hZ O)
  |eql=>
   simp only[c5,e1]at h
   obtain⟨rfl,rfl⟩:=h
   cases hi
   simp only[eB,ne_eq,iv,ih]at B
   exact .val N.ok B trivial rfl (eY (b:=decide (u=v)) (by simp only[X.den,G,F,cD]))
  |neq=>
   simp only[c5,e1]at h
   obtain⟨rfl,rfl⟩:=h
   cases hi
   simp only[eB,ne_eq,iv,ih]at B
   exact .val N.ok B trivial rfl (eY (b:= !decide (u=v)) (by simp only[X.den,G,F,cD,fY]))
  |lss=>
   simp only[c5,e1]at h
   obtain⟨rfl,rfl⟩:=h
   cases hi
   simp only[eB,ne_eq,iv,ih]at B
   exact .val N.ok B trivial rfl (eY (b:=decide (u<v)) (by simp only[X.den,G,F,cD]))
  |leq=>
   simp only[c5,e1]at h
   obtain⟨rfl,rfl⟩:=h
   cases hi
   simp only[eB,ne_eq,iv,ih]at B
   exact .val N.ok B trivial rfl (eY (b:=decide (u<=v)) (by simp only[X.den,G,F,cD]))
  |gtr=>
   simp only[c5,e1]at h
   obtain⟨rfl,rfl⟩:=h
   cases hi
   simp only[eB,ne_eq,iv,ih]at B
   exact .val N.ok B trivial rfl (eY (b:=decide (v<u)) (by simp only[X.den,G,F,cD]))
  |geq=>
   simp only[c5,e1]at h
   obtain⟨rfl,rfl⟩:=h
   cases hi
   simp only[eB,ne_eq,iv,ih]at B
   exact .val N.ok B trivial rfl (eY (b:=decide (v<=u)) (by simp only[X.den,G,F,cD]))
  |_=>simp at h
 ·rename_i a b Z aa
  rw[Z]at ab;rw[aa]at ad
  obtain⟨u,G,af⟩:=ir ab
  obtain⟨v,F,ag⟩:=ir ad
  have B:=ak _ _ af ag
  rw[N.eq]at B
  cases Y:decide (C.eqs ty=some [.bool])with
  |false=>simp[Y]at h
  |true=>
   simp only[Y,cond_true]at h
   have Y:=hD Y
   cases ai with
   |eql=>
    simp only[c5,e1]at h
    obtain⟨rfl,rfl⟩:=h
    cases hi
    simp only[eB,if_pos Y]at B
    exact .val N.ok B trivial rfl (eY (b:=u == v) (by simp only[X.den,G,F,cD]))
   |neq=>
    simp only[c5,e1]at h
    obtain⟨rfl,rfl⟩:=h
    cases hi
    simp only[eB,if_pos Y]at B
    exact .val N.ok B trivial rfl (eY (b:= !(u == v)) (by simp only[X.den,G,F,cD,fY]))
   |_=>simp at h
 ·rename_i a b Z aa
  rw[Z]at ab;rw[aa]at ad
  obtain⟨u,G,af⟩:=Gn ab
  obtain⟨v,F,ag⟩:=Gn ad
  have B:=ak _ _ af ag
  cases ai with
  |eql=>
   simp only[c5,e1]at h
   obtain⟨rfl,rfl⟩:=h
   cases hi
   simp only[eB]at B
   exact .val N.ok B trivial rfl (eY (b:=u == v) (by simp only[X.den,G,F,cD]))
  |neq=>
   simp only[c5,e1]at h
   obtain⟨rfl,rfl⟩:=h
   cases hi
   simp only[eB]at B
   exact .val N.ok B trivial rfl (eY (b:= !(u == v)) (by simp only[X.den,G,F,cD,fY]))
  |add=>
   simp only[c5,e1]at h
   obtain⟨rfl,rfl⟩:=h
   obtain⟨M,U⟩:=iV hi
   cases U
   simp only[X.den,G,F,cD]at M
   have M:decide ((u.size:Int)+(v.size:Int)<=9223372036854775807)=true:=fu M
   simp only[eB]at B
   exact .val N.ok B (show(u.size:Int)+(v.size:Int)<=9223372036854775807 by simpa using M) rfl (Yv (s:=u++v) (by simp only[X.den,G,F,cD];rfl))
  |_=>simp at h
 ·rename_i i a j b Z aa
  cases Y:(Nat.beq i j&&CN C ty i a b)with
  |false=>simp[Y]at h
  |true=>
   simp only[Y,cond_true]at h
   simp only[dd]at Y
   have:=et Y.1
   subst this
   rw[Z]at ab;rw[aa]at ad
   obtain⟨al,u,G,af⟩:=jS ab
   obtain⟨_,v,F,ag⟩:=jS ad
   have ae:=Y.2
   unfold CN at ae
   split at ae
   ·rename_i ls aB aC an av aw
    simp only[dd]at ae
    have ar:=DX (qw _ al G av) ae.1.1
    have au:=DX (qw _ al F aw) ae.1.2
    have ah:ls≠[.bool]:=by simpa using ae.2
    have s1:Ty.enc (.st i) u = .agg (aD.cells i u):=rfl
    have s2:Ty.enc (.st i) v = .agg (aD.cells i v):=rfl
    have B:=ak _ _ af ag
    rw[s1,s2,N.eq]at B
    cases ai with
    |eql=>
     simp only[c5,e1]at h
     obtain⟨rfl,rfl⟩:=h
     cases hi
     simp only[eB,an,if_neg ah]at B
     refine .val N.ok B ⟨ar,au⟩ rfl (eY (b:=cV (aD.cells i u) (aD.cells i v)) ?_)
     simp only[X.den,G,F,cD]
     rw[fH (.st i) u,fH (.st i) v]
    |neq=>
     simp only[c5,e1]at h
     obtain⟨rfl,rfl⟩:=h
     cases hi
     simp only[eB,an,if_neg ah]at B
     refine .val N.ok B ⟨ar,au⟩ rfl (eY (b:= !(cV (aD.cells i u) (aD.cells i v))) ?_)
     simp only[X.den,G,F,cD]
     rw[fH (.st i) u,fH (.st i) v]
     rfl
    |_=>simp at h
   cases ae
 cases h
end
end Go.Sy
namespace Go.Sy
open Go Go.ag
variable [aD][cF][cz][c9][bd]
section
variable {P:Program}{V:Env}{C:Cx}{o:Oper}{ρX:Operand->TX}{ρT:Operand->T}{lX:List AX}{l:List AO}{n nid:Nat}{cs:List Callee}{ρ ρ':aN}{q:dA}
def Wh{a:X}{b:Bool}(h:a.den ρ=some ⟨.bool,b⟩):(Ew a).den ρ=some ⟨.bool,!b⟩:=by
 unfold Ew
 split
 ·have:_=b:=fu ((rfl:(X.bool _).den ρ=_).symm.trans h)
  subst this;rfl
 simp only[X.den,h,fY]
def aar(M:bL P V C){Y:UnOp}{ty:TypeId}{x:Operand}(U:o.op = .unOp Y ty x)(B:RX ρ (ρX x) (ρT x))(h:dD C ρX lX n nid o=some q)(hi:ch cs n ρ q.ins ρ'):cG P o ρT l nid ρ' q:=by
 have O:∀a,ρT x = .d a->evalOp V ρT l nid o=kf (uC Y a):=by intro a j;simp only[evalOp,U,j]
 simp only[dD,U]at h
 split at h
 ·rename_i a j
  rw[j]at B
  obtain⟨b,F,G⟩:=ir B
  have:=gD h;subst this;cases hi
  exact .val M.ok (O _ G) trivial rfl (eY (b:= !b) (Wh F))
 ·rename_i k a j
  rw[j]at B
  obtain⟨u,F,G⟩:=fM B
  simp only[c5]at h;subst h
  have N:(X.u1 (.neg k) a).den ρ=some ⟨.int k,mq k (0-u)⟩:=by simp only[X.den,F,fY]
  obtain⟨Z,aa,rfl⟩:=xH N hi
  exact .val M.ok (O _ G) Z rfl (by show RX ρ' _ (.d (arith k (0-u)).1);rw[aa];exact hZ N)
 cases h
def TK(U:bL P V C){x:Operand}{i:Nat}(N:o.op = .extract x i)(O:RX ρ (ρX x) (ρT x))(h:dD C ρX lX n nid o=some q)(hi:ch cs n ρ q.ins ρ'):cG P o ρT l nid ρ' q:=by
 simp only[dD,N]at h
 split at h
 ·rename_i ts Z
  rw[Z]at O
  simp only[e6]at h
  obtain⟨t,ht,rfl⟩:=h
  cases hi
  generalize Y:ρT x=aa at O
  cases O with
  |aJ _ j B F=>
   have M:i<j.length:=by rw[<-B];exact(da.1 ht).1
   have k:j[i]?=some j[i]:=c4 M
   have G:evalOp V ρT l nid o = .ok j[i]:=by simp only[evalOp,N,Y,k]
   exact .val U.ok G trivial rfl (F i _ _ ht k)
  |fE _ j B F=>
   have M:i<j.length:=by rw[<-B];exact(da.1 ht).1
   have k:j[i]?=some j[i]:=c4 M
   have G:evalOp V ρT l nid o = .ok (.d j[i]):=by simp only[evalOp,N,Y,k]
   exact .val U.ok G trivial rfl (F i _ _ ht k)
 cases h
def Ee(N:RL ρ lX l){k v:Ty}{x:TX}{u:T}{m:X}(M:RX ρ x u)(h:vM lX k v x=some m):∃mm:List (k.den×v.den),m.den ρ=some ⟨.map k v,mm⟩/\mapOf l u=some (mm.map λp=>k.enc p.1,mm.map λp=>v.enc p.2):=by
 unfold vM at h
 split at h
 ·rename_i Z aa y
  split at h
  ·rename_i e
   obtain⟨rfl,rfl⟩:=e
   simp only[c5]at h;subst h
   obtain⟨mm,U,rfl⟩:=VP M
   exact⟨mm,U,rfl⟩
  cases h
 ·simp only[c5]at h;subst h
  cases M
  exact⟨[],rfl,rfl⟩
 ·rename_i id
  have Y:u = .map id:=by cases M;rfl
  subst Y
  split at h
  ·rename_i ad Z aa y G
   split at h
   ·rename_i e
    obtain⟨rfl,rfl⟩:=e
    simp only[c5]at h;subst h
    obtain⟨O,B,F⟩:=F2.left N G
    cases F with
    |map _ _ _ mm _ _ j=>exact⟨mm,j,by simp only[mapOf,B]⟩
    |dE _ _ _ mm _ _ j=>exact⟨mm,j,by simp only[mapOf,B]⟩
   cases h
  ·rename_i ab ae t' y G
   split at h
   ·rename_i e
    obtain⟨rfl,rfl⟩:=e
    simp only[c5]at h;subst h
    obtain⟨O,B,F⟩:=F2.left N G
    cases F with
    |bn _ _ _ _ mm _ _ j=>exact⟨mm,j,by simp only[mapOf,B];rfl⟩
   cases h
  cases h
 cases h
def pz{t:TypeId}{k v:Ty}(h:nZ C t=some (k,v)):C.ty t=some (.map k v):=by
 unfold nZ at h
 split at h
 ·rename_i e;simp only[c5,e1]at h;obtain⟨rfl,rfl⟩:=h;exact e
 cases h
def Vs(F:bL P V C){c:Call}{x:Operand}{t:TypeId}(ai:o.op = .call c)(af:c.callee = .builtin .len)(ad:c.args.toList=[x])(ht:c.argTypes.toList=[t])(Y:RL ρ lX l)(G:RX ρ (ρX x) (ρT x))(h:DS C t lX (ρX x)=some q)(hi:ch cs n ρ q.ins ρ'):cG P o ρT l nid ρ' q:=by
 have j:evalOp V ρT l nid o=jD V.E t l (ρT x):=by simp only[evalOp,ai,af,ad,ht]
 rw[F.E]at j
 unfold DS at h
 generalize ρX x=A at h G
 generalize ρT x=Z at j G
 split at h
 ·rename_i s1 s2 N s B
  obtain⟨v,M,rfl⟩:=Gn G
  have:=gD h;subst this;cases hi
  simp only[jD,B]at j
  exact .val F.ok j trivial rfl (hZ (by simp only[X.den,M,fY]))
 ·rename_i s1 s2 N e u xs B
  obtain⟨v,M,rfl⟩:=DY G
  have:=gD h;subst this;cases hi
  simp only[jD,B,hM]at j
  exact .val F.ok j trivial rfl (hZ (by simp only[X.den,M,fY]))
 ·rename_i s1 s2 N e s B
  cases G
  have:=gD h;subst this;cases hi
  simp only[jD,B]at j
  exact .val F.ok j trivial rfl (hZ rfl)
 ·rename_i s1 s2 N e id B
  have ab:Z = .row id:=by cases G;rfl
  subst ab
  split at h
  ·rename_i an al u xs ag
   obtain⟨ak,U,ae⟩:=F2.left Y ag
   have:=gD h;subst this;cases hi
   cases ae with
   |row _ _ _ zs _ O=>
    simp only[jD,B,U,hM]at j
    exact .val F.ok j trivial rfl (hZ (by simp only[X.den,O,fY]))
   |bg _ _ _ zs _ O=>
    simp only[jD,B,U,hM]at j
    exact .val F.ok j trivial rfl (hZ (by simp only[X.den,O,fY]))
  cases h
 ·rename_i s1 s2 N aq ar aj B
  split at h
  ·rename_i k v ao
   simp only[e6]at h
   obtain⟨m,ah,rfl⟩:=h
   cases hi
   obtain⟨mm,M,aa⟩:=Ee Y G ah
   simp only[jD,B,aa,hM]at j
   exact .val F.ok j trivial rfl (hZ (by simp only[X.den,M,fY]))
  cases h
 cases h
def CA(B:bL P V C){M t:TypeId}{x:Operand}(F:o.op = .convert M t x)(G:RX ρ (ρX x) (ρT x))(h:dD C ρX lX n nid o=some q)(hi:ch cs n ρ q.ins ρ'):cG P o ρT l nid ρ' q:=by
 have j:evalOp V ρT l nid o=o5 V.E M t (ρT x):=by simp only[evalOp,F]
 rw[B.E]at j
 simp only[dD,F]at h
 split at h
 ·rename_i aa ab ad ah ae af ag k ai a N O U
  rw[U]at G
  obtain⟨u,Y,Z⟩:=fM G
  have:=gD h;subst this;cases hi
  simp only[o5,N,O,Z]at j
  exact .val B.ok j trivial rfl (hZ (by simp only[X.den,Y,fY]))
 cases h
def KJ(Y:bL P V C){c:Call}(G:o.op = .call c)(aa:∀x∈o.op.operands,RX ρ (ρX x) (ρT x))(hc:c.callee = .builtin .max\/c.callee = .builtin .min)(h:dD C ρX lX n nid o=some q)(hi:ch cs n ρ q.ins ρ'):cG P o ρT l nid ρ' q:=by
 have U:∀x∈c.args.toList,RX ρ (ρX x) (ρT x):=λx Z=>aa x (by simp[G,Op.operands,Call.operands,Z];rcases hc with e|e<;>simp[e]<;>simpa using Z)
 have key:∀(k j:IntKind)(a b:X),c.args.toList.map ρX=[.d (.int k) a,.d (.int j) b]->∃u v:Int,a.den ρ=some ⟨.int k,u⟩/\b.den ρ=some ⟨.int j,v⟩/\c.args.toList.map ρT=[.d (.int k u),.d (.int j v)]:=by
  intro k j a b e
  generalize c.args.toList=as at e U
  rcases as with _| ⟨x,_| ⟨y,_| ⟨z,w⟩⟩⟩
  ·simp at e
  ·simp at e
  ·simp only[fv,abj,q6,and_true]at e
   have B:=U x (by simp);have F:=U y (by simp)
   rw[e.1]at B;rw[e.2]at F
   obtain⟨u,ab,ad⟩:=fM B
   obtain⟨v,ae,af⟩:=fM F
   exact⟨u,v,ab,ae,by simp[ad,af]⟩
  simp at e
 rcases hc with hc|hc
 ·simp only[dD,G,hc]at h
  split at h
  ·rename_i k a j b e
   obtain⟨u,v,B,F,N⟩:=key k j a b e
   split at h
   ·rename_i M;subst M
    have:=gD h;subst this;cases hi
    have O:evalOp V ρT l nid o = .ok (.d (.int k (max u v))):=by simp only[evalOp,G,hc,N,hQ]
    exact .val Y.ok O trivial rfl (hZ (by simp only[X.den,B,F,cD]))
   cases h
  cases h
 simp only[dD,G,hc]at h
 split at h
 ·rename_i k a j b e
  obtain⟨u,v,B,F,N⟩:=key k j a b e
  split at h
  ·rename_i M;subst M
   have:=gD h;subst this;cases hi
   have O:evalOp V ρT l nid o = .ok (.d (.int k (min u v))):=by simp only[evalOp,G,hc,N,hQ]
   exact .val Y.ok O trivial rfl (hZ (by simp only[X.den,B,F,cD]))
  cases h
 cases h
def Gz(j:RL ρ lX l){t:Ty}{x:TX}{u:T}{y:X}{ab:List AX}(af:RX ρ x u)(h:gn lX t x=some (y,ab))(aa:∀cs,x ≠ .agg cs):∃(v:t.den)(l':List AO),y.den ρ=some ⟨t,v⟩/\cH l u=some (t.enc v,l')/\dc l u=some (t.enc v,l')/\RL ρ ab l':=by
 cases af with
 |d t' x v F O=>
  simp only[gn]at h
  split at h
  ·rename_i e;subst e
   simp only[c5,e1]at h
   obtain⟨rfl,rfl⟩:=h
   exact⟨v,l,O,rfl,rfl,j⟩
  cases h
 |bu s=>
  simp only[gn]at h
  split at h
  ·rename_i u
   cases Z:Nat.beq s u.size with
   |false=>simp[Z]at h
   |true=>
    simp only[Z,cond_true,c5,e1]at h
    obtain⟨rfl,rfl⟩:=h
    have:=et Z
    subst this
    exact⟨([]:List u.den),l,rfl,rfl,rfl,j⟩
  cases h
 |dV=>
  simp only[gn]at h
  split at h
  ·rename_i k v
   simp only[c5,e1]at h
   obtain⟨rfl,rfl⟩:=h
   exact⟨([]:List (k.den×v.den)),l,rfl,rfl,rfl,j⟩
  cases h
 |row id=>
  simp only[gn]at h
  split at h
  ·rename_i ae e u ag Y
   split at h
   ·rename_i e;subst e
    simp only[c5,e1]at h
    obtain⟨rfl,rfl⟩:=h
    obtain⟨ad,B,U⟩:=F2.left j Y
    cases U with
    |row _ _ _ zs G N=>exact⟨zs,l.set id (.bg e u.size (zs.map u.enc)),N,by simp only[cH,B];rfl,by simp only[dc,cH,B];rfl,F2.set j (.bg e u _ zs G N) id⟩
    |bg _ _ _ zs G N=>exact⟨zs,l,N,by simp only[cH,B];rfl,by simp only[dc,cH,B];rfl,j⟩
   cases h
  cases h
 |bB id t' x xs F=>
  simp only[gn]at h
  split at h
  ·rename_i e;subst e
   simp only[c5,e1]at h
   obtain⟨rfl,rfl⟩:=h
   exact⟨xs,l,F,rfl,rfl,j⟩
  cases h
 |map id=>
  simp only[gn]at h
  split at h
  ·rename_i ae k v ag Y
   split at h
   ·rename_i e;subst e
    simp only[c5,e1]at h
    obtain⟨rfl,rfl⟩:=h
    obtain⟨ad,B,U⟩:=F2.left j Y
    cases U with
    |map _ _ _ mm G F M=>exact⟨mm,l.set id (.dE (mm.map λp:k.den×v.den=>k.enc p.1) (mm.map λp:k.den×v.den=>v.enc p.2)),M,by simp only[cH,B];rfl,by simp only[dc,cH,B];rfl,F2.set j (.dE k v _ mm G F M) id⟩
    |dE _ _ _ mm G F M=>exact⟨mm,l,M,by simp only[cH,B];rfl,by simp only[dc,cH,B];rfl,j⟩
   cases h
  cases h
 |agg cs ts F O=>exact absurd rfl (aa cs)
 |iQ cs ts F O=>exact absurd rfl (aa cs)
 |_=>simp[gn]at h
def Hq:∀(a b:List T)(l l1 j:List AO)(xs ys:List D),cZ l a=some (xs,l1)->cZ l1 b=some (ys,j)->cZ l (a++b)=some (xs++ys,j)
 | [],b,l,l1,j,xs,ys,h1,k=>by simp[cZ]at h1;obtain⟨rfl,rfl⟩:=h1;exact k
 |t::a,b,l,l1,j,xs,ys,h1,k=>by
  simp only[cZ]at h1
  cases ht:cH l t with
  |none=>simp[ht]at h1
  |some p=>
   obtain⟨x,l'⟩:=p
   simp only[ht]at h1
   cases B:cZ l' a with
   |none=>simp[B]at h1
   |some p=>
    obtain⟨zs,F⟩:=p
    simp only[B,c5,e1]at h1
    obtain⟨rfl,rfl⟩:=h1
    simp only[List.cons_append,cZ,ht,Hq a b l' F j zs ys B k]
theorem Cn{t:Ty}{ts:List Ty}{x:X}{xs:List X}{v:t.den}{a:(aT ts).den}(F:x.den ρ=some ⟨t,v⟩)(B:jI ρ ts xs a):∃b:(aT (t::ts)).den,jI ρ (t::ts) (x::xs) b/\cellsOf (t::ts) b=(t.enc v).cells++cellsOf ts a:=by
 cases ts with
 |nil=>
  refine⟨v,⟨by simp[B.1],λj w k=>?_⟩,by simp[cellsOf]⟩
  cases j with
  |zero=>simp at k;subst k;exact⟨x,rfl,by simpa [cI]using F⟩
  |succ j=>simp at k
 |cons u ts=>
  refine⟨(v,a),⟨by simp[B.1],λj w k=>?_⟩,rfl⟩
  cases j with
  |zero=>simp at k;subst k;exact⟨x,rfl,by simpa [cI]using F⟩
  |succ j=>
   obtain⟨y,M,G⟩:=B.2 j w (by simpa using k)
   exact⟨y,by simpa using M,by simpa [cI]using G⟩
def Z4:∀(f:Nat){lX:List AX}{l:List AO}{fF:List Ty}{cs r:List TX}{ts:List T}{xs:List X}{F:List AX},(∀t∈fF,isVal t)->RL ρ lX l->F2 (RX ρ) cs ts->jN f lX fF cs=some (xs,r,F) ->
  ∃(a:(aT fF).den)(G ak:List T)(l':List AO),ts=G++ak/\jI ρ fF xs a/\cZ l G=some (cellsOf fF a,l')/\F2 (RX ρ) r ak/\RL ρ F l':=by
 intro f
 induction f with
 |zero=>intro lX l fF cs r ts xs F _ _ _ h;simp[jN]at h
 |succ f Z=>
  intro lX l fF cs r ts xs F Y U O h
  cases fF with
  |nil=>
   simp only[jN,c5,e1]at h
   obtain⟨rfl,rfl,rfl⟩:=h
   exact⟨(),[],ts,l,rfl,⟨rfl,λj t h=>by simp at h⟩,rfl,O,U⟩
  |cons t fF=>
   by_cases ao:∃i,t = .st i
   ·obtain⟨i,rfl⟩:=ao
    simp only[jN]at h
    cases k:jN f lX (aD.bU i) cs with
    |none=>simp[k]at h
    |some p=>
     obtain⟨ys,ar,l1⟩:=p
     simp only[k]at h
     cases B:jN f l1 fF ar with
     |none=>simp[B]at h
     |some p=>
      obtain⟨zs,aB,ae⟩:=p
      simp only[B,c5,e1]at h
      obtain⟨rfl,rfl,rfl⟩:=h
      obtain⟨a,G,ak,aA,rfl,aa,ab,az,ad⟩:=Z (λt ht=>c9.val i t ht) U O k
      obtain⟨b,al,an,af,rfl,ag,ah,ai,aj⟩:=Z (λt ht=>Y t (by simp[ht])) ad az B
      obtain⟨c,M,N⟩:=Cn (t:=.st i) (v:=aD.ew i a) (yj aa) ag
      refine⟨c,G++al,an,af,by simp,M,?_,ai,aj⟩
      rw[N]
      have e:((Ty.st i).enc (aD.ew i a)).cells=cellsOf (aD.bU i) (aD.un i (aD.ew i a)):=cz.cells i (aD.ew i a)
      rw[e,aD.oJ]
      exact Hq _ _ _ _ _ _ _ ab ah
   cases O with
   |nil=>exfalso;cases t<;>simp_all [jN]
   |cons av ax=>
    rename_i c u cs aC
    have aw:jN (f+1) lX (t::fF) (c::cs)=match gn lX t c with
     |some (x,l1)=>(match jN f l1 fF cs with|some (ys,r,ae)=>some (x::ys,r,ae)|none=>none)
     |none=>none:=by cases t<;>first|rfl|exact absurd ⟨_,rfl⟩ ao
    rw[aw]at h
    cases k:gn lX t c with
    |none=>simp[k]at h
    |some p=>
     obtain⟨x,l1⟩:=p
     simp only[k]at h
     cases B:jN f l1 fF cs with
     |none=>simp[B]at h
     |some p=>
      obtain⟨ys,ar,ae⟩:=p
      simp only[B,c5,e1]at h
      obtain⟨rfl,rfl,rfl⟩:=h
      obtain⟨v,aA,aa,ab,_,ad⟩:=Gz U av k (λcs e=>by subst e;simp[gn]at k)
      obtain⟨b,al,an,af,rfl,ag,ah,ai,aj⟩:=Z (λt ht=>Y t (by simp[ht])) ad ax B
      obtain⟨au,M,N⟩:=Cn aa ag
      refine⟨au,u::al,an,af,rfl,M,?_,ai,aj⟩
      have ay:cd t=false:=by cases t<;>simp_all [cd]
      have aq:=Y t (by simp)
      rw[N,(kJ ay aq.1 aq.2 v).1]
      simp only[cZ,ab,ah]
      rfl
def Bn(aa:RL ρ lX l){t:Ty}{x:TX}{u:T}{y:X}{ad:List AX}(ab:RX ρ x u)(h:lu lX t x=some (y,ad)):∃(v:t.den)(l':List AO),y.den ρ=some ⟨t,v⟩/\dc l u=some (t.enc v,l')/\RL ρ ad l':=by
 by_cases Z:∃cs,x = .agg cs
 ·obtain⟨cs,rfl⟩:=Z
  simp only[lu]at h
  split at h
  ·rename_i i
   split at h
   ·rename_i xs l1 N
    simp only[c5,e1]at h
    obtain⟨rfl,rfl⟩:=h
    have ae:∀ts:List T,F2 (RX ρ) cs ts->∃(a:(aT (aD.bU i)).den)(l':List AO),jI ρ (aD.bU i) xs a/\cZ l ts=some (cellsOf (aD.bU i) a,l')/\RL ρ l1 l':=by
     intro ts ai
     obtain⟨a,al,an,M,rfl,F,k,G,ak⟩:=Z4 _ (λt ht=>c9.val i t ht) aa ai N
     cases G
     exact⟨a,M,F,by simpa using k,ak⟩
    have Y:∀a:(aT (aD.bU i)).den,D.agg (cellsOf (aD.bU i) a)=Ty.enc (.st i) (aD.ew i a):=λa=>by
     have e:Ty.enc (.st i) (aD.ew i a) = .agg (aD.cells i (aD.ew i a)):=rfl
     rw[e,cz.cells,aD.oJ]
    cases ab with
    |agg _ ts O B=>
     obtain⟨a,M,F,k,G⟩:=ae ts (F2.of O B)
     exact⟨aD.ew i a,M,yj F,by simp only[dc,k];rw[Y],G⟩
    |iQ _ ds O B=>
     obtain⟨a,M,F,k,G⟩:=ae (ds.map .d) (F2.of (by simpa using O) λj c t ah ht=>by
      simp only[e0,e6]at ht
      obtain⟨d,U,rfl⟩:=ht
      exact B j c d ah U)
     have U:∀ds:List D,cZ l (ds.map .d)=some (ds,l):=by
      intro ds
      induction ds with
      |nil=>rfl
      |cons d ds aj=>simp only[fv,cZ,cH,aj]
     rw[U]at k
     simp only[c5,e1]at k
     obtain⟨af,rfl⟩:=k
     exact⟨aD.ew i a,l,yj F,by rw[<-Y,<-af];rfl,G⟩
   cases h
  cases h
 have:lu lX t x=gn lX t x:=by
  cases x<;>simp_all [lu]
 rw[this]at h
 obtain⟨v,l',N,_,B,ag⟩:=Gz aa ab h (λcs e=>Z ⟨cs,e⟩)
 exact⟨v,l',N,B,ag⟩
end
end Go.Sy
namespace Go.Sy
open Go Go.ag
variable [aD][cF][cz][c9][bd]
section
variable {P:Program}{V:Env}{C:Cx}{o:Oper}{ρX:Operand->TX}{ρT:Operand->T}{lX:List AX}{l:List AO}{n nid:Nat}{cs:List Callee}{ρ ρ':aN}{q:dA}
def qQ{a b:X}{i j:IntKind}{u v:Int}(k:a.den ρ=some ⟨.int i,u⟩)(B:b.den ρ=some ⟨.int j,v⟩):(X.u2 .le a b).den ρ=some ⟨.bool,leI u v⟩:=by simp only[X.den,k,B,cD]
def xF{a b:X}{u v:Bool}(j:a.den ρ=some ⟨.bool,u⟩)(k:b.den ρ=some ⟨.bool,v⟩):(X.u2 .and a b).den ρ=some ⟨.bool,u&&v⟩:=by simp only[X.den,j,k,cD]
def DT{a:X}{t:Ty}{zs:List t.den}(h:a.den ρ=some ⟨.list t,zs⟩):(gd a).den ρ=some ⟨.int .i64,(zs.length:Int)⟩:=by simp only[gd,X.den,h,fY]
theorem Dv(m:Int):(iX m).den ρ=some ⟨.int .i64,m⟩:=rfl
theorem Nf{u:Ty}{zs:List u.den}{xs y:X}{lo hi:Option Operand}{is:List Ins}(M:xs.den ρ=some ⟨.list u,zs⟩)(ah:∀a,lo=some a->RX ρ (ρX a) (ρT a))(ag:∀a,hi=some a->RX ρ (ρX a) (ρT a))(h:Bd xs (lo.map ρX) (hi.map ρX)=some (is,y))(Z:ch cs n ρ is ρ'):ρ'=ρ/\∃r,jh (.d (.slice u.size (zs.map u.enc))) (lo.map ρT) (hi.map ρT)=r/\r.ob/\r.bq = .none/\RX ρ (.d (.list u) y) r.t:=by
 unfold Bd at h
 split at h
 ·rename_i F G
  simp only[c5,e1]at h
  obtain⟨rfl,rfl⟩:=h
  cases Z
  have:lo=none:=by simpa using F
  subst this
  have:hi=none:=by simpa using G
  subst this
  exact⟨rfl,_,rfl,trivial,rfl,rP M⟩
 ·rename_i k a F G
  simp only[c5,e1]at h
  obtain⟨rfl,rfl⟩:=h
  have:hi=none:=by simpa using G
  subst this
  obtain⟨ae,rfl,aa⟩:=e6.1 F
  have N:=ah ae rfl
  rw[aa]at N
  obtain⟨m,B,U⟩:=fM N
  obtain⟨j,Y⟩:=iV Z
  cases Y
  rw[xF (qQ (Dv 0) B) (qQ B (DT M))]at j
  have j:(leI 0 m&&leI m (zs.length:Int))=true:=fu j
  refine⟨rfl,⟨.d (.slice u.size ((zs.map u.enc).drop m.toNat)),.none,0<=m/\m<=(zs.map u.enc).length⟩,by simp only[jh,Option.map_some,Option.map_none,U,cY],by simpa using j,rfl,?_⟩
  show RX _ _ (.d (.slice u.size ((zs.map u.enc).drop m.toNat)))
  rw[<-List.map_drop]
  exact rP (by simp only[X.den,M,B,cD])
 ·rename_i k b F G
  simp only[c5,e1]at h
  obtain⟨rfl,rfl⟩:=h
  have:lo=none:=by simpa using F
  subst this
  obtain⟨af,rfl,ab⟩:=e6.1 G
  have O:=ag af rfl
  rw[ab]at O
  obtain⟨m,B,U⟩:=fM O
  obtain⟨j,Y⟩:=iV Z
  cases Y
  rw[xF (qQ (Dv 0) B) (qQ B (DT M))]at j
  have j:(leI 0 m&&leI m (zs.length:Int))=true:=fu j
  refine⟨rfl,⟨.d (.slice u.size ((zs.map u.enc).take m.toNat)),.none,0<=m/\m<=(zs.map u.enc).length⟩,by simp only[jh,Option.map_some,Option.map_none,U,cY],by simpa using j,rfl,?_⟩
  show RX _ _ (.d (.slice u.size ((zs.map u.enc).take m.toNat)))
  rw[<-List.map_take]
  exact rP (by simp only[X.den,M,B,cD])
 ·rename_i k a aj b F G
  simp only[c5,e1]at h
  obtain⟨rfl,rfl⟩:=h
  obtain⟨ae,rfl,aa⟩:=e6.1 F
  obtain⟨af,rfl,ab⟩:=e6.1 G
  have N:=ah ae rfl
  rw[aa]at N
  obtain⟨m,B,U⟩:=fM N
  have O:=ag af rfl
  rw[ab]at O
  obtain⟨m',ad,ai⟩:=fM O
  obtain⟨j,Y⟩:=iV Z
  cases Y
  rw[xF (qQ (Dv 0) B) (xF (qQ B ad) (qQ ad (DT M)))]at j
  have j:(leI 0 m&&(leI m m'&&leI m' (zs.length:Int)))=true:=fu j
  refine⟨rfl,⟨.d (.slice u.size (((zs.map u.enc).take m'.toNat).drop m.toNat)),.none,0<=m/\m<=m'/\m'<=(zs.map u.enc).length⟩,by simp only[jh,Option.map_some,U,ai,cY],by simpa using j,rfl,?_⟩
  show RX _ _ (.d (.slice u.size (((zs.map u.enc).take m'.toNat).drop m.toNat)))
  rw[<-List.map_take,<-List.map_drop]
  exact rP (by simp only[X.den,M,B,ad,cD])
 cases h
theorem bL.list(B:bL P V C){t:TypeId}{u:Ty}(ht:C.ty t=some (.list u)):∃sz j z e i,V.E t=some ⟨sz,j,z,.slice e⟩/\V.E e=some i/\i.size=u.size/\i.desc.agg=cd u/\isVal u/\0<u.size/\C.ty e=some u:=by
 obtain⟨i,G,ad,ae,af,F,M⟩:=B.info ht
 clear M
 obtain⟨sz,j,z,d⟩:=i
 cases d<;>simp[nI]at F
 rename_i e
 obtain⟨⟨⟨k,Z⟩,aa⟩,ab⟩:=F
 obtain⟨i,N,O,U,Y,_⟩:=B.info k
 exact⟨sz,j,z,e,i,G,N,O,U,Y,by omega,k⟩
def w4{id:Nat}{u:T}(h:RX ρ (.row id) u):u = .row id:=by cases h;rfl
def vN{id:Nat}{u:T}(h:RX ρ (.map id) u):u = .map id:=by cases h;rfl
def Y0(F:bL P V C){t:TypeId}{x:Operand}{lo hi:Option Operand}(j:o.op = .slice t x lo hi none)(ay:RL ρ lX l)(Y:∀x∈o.op.operands,RX ρ (ρX x) (ρT x))(h:dD C ρX lX n nid o=some q)(aj:ch cs n ρ q.ins ρ'):cG P o ρT l nid ρ' q:=by
 have k:=Y x (by simp[j,Op.operands])
 have ak:∀a,lo=some a->RX ρ (ρX a) (ρT a):=λa e=>Y a (by subst e;simp[j,Op.operands])
 have ai:∀a,hi=some a->RX ρ (ρX a) (ρT a):=λa e=>Y a (by subst e;simp[j,Op.operands])
 simp only[dD,j]at h
 split at h
 ·rename_i u aA xs ab G
  split at h
  ·rename_i ao;subst ao
   obtain⟨sz,an,z,e,i,M,B,N,aq,ar,au,_⟩:=F.list ab
   simp only[e6]at h
   obtain⟨⟨is,y⟩,aa,rfl⟩:=h
   rw[G]at k
   obtain⟨zs,O,av⟩:=DY k
   obtain⟨rfl,r,ad,ae,al,af⟩:=Nf O ak ai aa aj
   have Z:evalOp V ρT l nid o=r:=by
    simp only[evalOp,j,M,av]
    rw[if_pos ⟨by simp[bw,B,N],by simp[B]⟩]
    exact ad
   exact .val F.ok Z ae al af
  cases h
 ·rename_i u id ab G
  obtain⟨sz,an,z,e,i,M,B,N,aq,ar,au,_⟩:=F.list ab
  split at h
  ·rename_i xs l' ax
   simp only[e6]at h
   obtain⟨⟨is,y⟩,aa,rfl⟩:=h
   rw[G]at k
   have ah:ρT x = .row id:=w4 k
   rw[ah]at k
   obtain⟨v,ag,O,_,U,aw⟩:=Gz ay k ax (λ_ e=>by cases e)
   obtain⟨rfl,r,ad,ae,al,af⟩:=Nf (u:=u) (zs:=v) O ak ai aa aj
   have U:dc l (.row id)=some (.slice u.size (List.map u.enc v),ag):=U
   have Z:evalOp V ρT l nid o=⟨r.t,.aK ag,r.ob⟩:=by
    simp only[evalOp,j,M,ah,F.sub,U]
    rw[if_neg (by simp)]
    rw[if_pos ⟨by simp[bw,B,N],by simp[B]⟩,ad]
   exact⟨_,af,ag,aw,λaz=>bX.aK F.ok Z ae rfl az⟩
  cases h
 cases h
theorem LO{U:Nat->Option (Nat×Nat)}:∀{ps:List (Nat×Operand)}{k G:List TX}{j:List T},(∀p∈ps,RX ρ (ρX p.2) (ρT p.2))->F2 (RX ρ) k j->wL U k (ps.map λp=>(p.1,ρX p.2))=some G ->
  ∃F,kM U j (ps.map λp=>(p.1,ρT p.2))=some F/\F2 (RX ρ) G F
 | [],k,G,j,_,M,h=>by simp[wL]at h;subst h;exact⟨j,rfl,M⟩
 |p::ps,k,G,j,N,M,h=>by
  simp only[fv,wL]at h
  split at h
  ·rename_i off size vs Y Z
   cases B:(Nat.beq vs.length size&&Nat.ble (off+size) k.length)with
   |false=>simp[B]at h
   |true=>
    simp only[B,cond_true]at h
    simp only[dd]at B
    have aa:=et B.1;have ab:=hG B.2
    obtain⟨O,ag⟩:=x6 (N p (by simp)) Z
    obtain⟨F,ad,ae⟩:=LO (λq af=>N q (by simp[af])) (F9 (off:=off) M O) h
    refine⟨F,?_,ae⟩
    simp only[fv,kM,Y]
    rw[if_pos ⟨by rw[<-O.len,aa],by rw[<-M.len];exact ab,ag⟩]
    exact ad
  cases h
def RP(j:bL P V C){t:TypeId}{parts:Array (Nat×Operand)}(B:o.op = .build t parts)(ab:∀x∈o.op.operands,RX ρ (ρX x) (ρT x))(h:dD C ρX lX n nid o=some q)(hi:ch cs n ρ q.ins ρ'):cG P o ρT l nid ρ' q:=by
 have F:∀p∈parts.toList,RX ρ (ρX p.2) (ρT p.2):=λp F=>ab p.2 (by simp[B,Op.operands];exact⟨p.1,by simpa using F⟩)
 simp only[dD,B]at h
 split at h
 ·rename_i s1 s2 z fs u G af
  obtain⟨i,k,an,ae,ag,N,ah⟩:=j.info af
  obtain⟨ao,ai,aj⟩:=Ow (ρ:=ρ) ah
  rw[j.E,G]at k
  simp only[c5]at k
  subst k
  rw[ai]at h
  simp only[la,e6]at h
  obtain⟨ds,Z,v,aa,rfl⟩:=h
  cases hi
  obtain⟨Y,ak,al⟩:=LO (ρX:=ρX) (ρT:=ρT) F aj Z
  have U:cd u=true:=by
   have:(TD.struct fs).agg=true:=rfl
   rw[<-ae];rfl
  have M:fs.all (λf=>(V.E f.2).isSome)=true:=by
   rw[j.E]
   cases u<;>first|exact N| (simp[nI]at N;done)| (simp[cd]at U;done)
  have O:=yX ag al aa
  rw[U]at O
  have ad:evalOp V ρT l nid o = .ok (fP true Y):=by
   simp only[evalOp,B,j.E,G]
   rw[j.E]at M
   rw[if_pos M,ak]
  exact .val j.ok ad trivial rfl O
 cases h
theorem uB:∀{fF:List Ty}{xs:List TX}{ad:List T}{ys:List X}{lX F:List AX}{l:List AO},RL ρ lX l->F2 (RX ρ) xs ad->gH lX fF xs=some (ys,F) ->
  ∃(a:(aT fF).den)(l':List AO),jI ρ fF ys a/\eP l ad=some (dM fF a,l')/\RL ρ F l'
 | [],[],[],ys,lX,F,l,N,B,h=>by
  simp only[gH,c5,e1]at h
  obtain⟨rfl,rfl⟩:=h
  exact⟨(),l,⟨rfl,λj t h=>by simp at h⟩,rfl,N⟩
 |t::ts,x::xs,u::ak,ys,lX,F,l,N,.cons B af,h=>by
  simp only[gH]at h
  cases G:lu lX t x with
  |none=>simp[G]at h
  |some p=>
   obtain⟨y,l1⟩:=p
   simp only[G]at h
   cases M:gH l1 ts xs with
   |none=>simp[M]at h
   |some p=>
    obtain⟨zs,ai⟩:=p
    simp only[M,c5,e1]at h
    obtain⟨rfl,rfl⟩:=h
    obtain⟨v,aj,U,Y,ah⟩:=Bn N B G
    obtain⟨a,Z,O,aa,ab⟩:=uB ah af M
    cases ts with
    |nil=>
     refine⟨v,Z,⟨by simp[O.1],λj w k=>?_⟩,?_,ab⟩
     ·cases j with
      |zero=>simp at k;subst k;exact⟨y,rfl,by simpa [cI]using U⟩
      |succ j=>simp at k
     simp only[eP,Y,aa,dM]
    |cons t' ts=>
     refine⟨(v,a),Z,⟨by simp[O.1],λj w k=>?_⟩,?_,ab⟩
     ·cases j with
      |zero=>simp at k;subst k;exact⟨y,rfl,by simpa [cI]using U⟩
      |succ j=>
       obtain⟨z,ag,ae⟩:=O.2 j w (by simpa using k)
       exact⟨z,by simpa using ag,by simpa [cI]using ae⟩
     simp only[eP,Y,aa];rfl
 | [],[],_::_,_,_,_,_,_,B,_=>by cases B
 |_::_,_::_,[],_,_,_,_,_,B,_=>by cases B
 | [],_::_,_,_,_,_,_,_,_,h=>by simp[gH]at h
 |_::_,[],_,_,_,_,_,_,_,h=>by simp[gH]at h
theorem Ku{u:Ty}:∀{k:Nat}{xs:List X}{a:(aT (List.replicate k u)).den},jI ρ (List.replicate k u) xs a->∃zs:List u.den,(vH u xs).den ρ=some ⟨.list u,zs⟩/\dM (List.replicate k u) a=zs.map u.enc/\zs.length=k
 |0,xs,a,h=>by
  have:xs=[]:=by simpa using h.1
  subst this
  exact⟨[],rfl,rfl,rfl⟩
 |1,xs,a,h=>by
  obtain⟨x,rfl⟩:∃x,xs=[x]:=by
   have:=h.1
   match xs,this with
   | [x],_=>exact⟨x,rfl⟩
  obtain⟨y,F,B⟩:=h.2 0 u rfl
  simp at F;subst F
  refine⟨[a],?_,rfl,rfl⟩
  have B:x.den ρ=some ⟨u,a⟩:=B
  have G:c6 u ⟨u,a⟩=some a:=fH u a
  simp only[vH,X.den,B,cD,G]
 |k+2,xs,a,h=>by
  obtain⟨x,r,rfl⟩:∃x r,xs=x::r:=by
   have:=h.1
   match xs,this with
   |x::r,_=>exact⟨x,r,rfl⟩
  obtain⟨y,F,B⟩:=h.2 0 u (by simp[List.replicate_succ])
  simp at F;subst F
  have B:x.den ρ=some ⟨u,a.1⟩:=B
  obtain⟨zs,M,N,O⟩:=Ku (k:=k+1) (xs:=r) (a:=a.2) ⟨by have:=h.1;simpa using this,λj t ht=>by
   obtain⟨z,U,Y⟩:=h.2 (j+1) t (by simpa [List.replicate_succ]using ht)
   exact⟨z,by simpa using U,by simpa [cI,List.replicate_succ]using Y⟩⟩
  refine⟨a.1::zs,?_,?_,by simp[O]⟩
  ·have G:c6 u ⟨u,a.1⟩=some a.1:=fH u a.1
   simp only[vH,X.den,B,M,cD,G]
  show u.enc a.1::dM (List.replicate (k+1) u) a.2=_
  rw[N];rfl
end
end Go.Sy
namespace Go.Sy
open Go Go.ag
variable [aD][cF][cz][c9][bd]
section
variable {P:Program}{V:Env}{C:Cx}{o:Oper}{ρX:Operand->TX}{ρT:Operand->T}{lX:List AX}{l:List AO}{n nid:Nat}{cs:List Callee}{ρ ρ':aN}{q:dA}
theorem Oc:∀{j:List T}{ds:List D},j.mapM gp=some ds->eP l j=some (ds,l)
 | [],ds,h=>by simp at h;subst h;rfl
 |u::j,ds,h=>by
  simp only[mo,Option.bind_eq_bind,la,Option.pure_def,c5]at h
  obtain⟨x,k,xs,B,rfl⟩:=h
  have:dc l u=some (x,l):=by
   cases u<;>simp[gp]at k<;>subst k<;>rfl
  simp only[eP,this,Oc B]
theorem TL{ps:List (Nat×Operand)}(h:∀p∈ps,RX ρ (ρX p.2) (ρT p.2)):F2 (RX ρ) (ps.map λp=>ρX p.2) (ps.map λp=>ρT p.2):=by
 induction ps with
 |nil=>exact .nil
 |cons p ps k=>exact .cons (h p (by simp)) (k λq j=>h q (by simp[j]))
def RN(j:bL P V C){t:TypeId}{len:Nat}{parts:Array (Nat×Operand)}(G:o.op = .buildSlice t len parts)(aj:RL ρ lX l)(aq:∀x∈o.op.operands,RX ρ (ρX x) (ρT x))(h:dD C ρX lX n nid o=some q)(hi:ch cs n ρ q.ins ρ'):cG P o ρT l nid ρ' q:=by
 have af:∀p∈parts.toList,RX ρ (ρX p.2) (ρT p.2):=λp af=>aq p.2 (by simp[G,Op.operands];exact⟨p.1,by simpa using af⟩)
 simp only[dD,G]at h
 split at h
 ·rename_i s1 s2 z e u O av
  obtain⟨sz,az,z',aB,i,Y,N,ao,aC,Z,aa,aD⟩:=j.list av
  rw[j.E,O]at Y
  simp only[c5,TI.mk.injEq,TD.slice.injEq]at Y
  obtain⟨rfl,rfl,rfl,rfl⟩:=Y
  have B:bw V.E e=u.size:=by simp[bw,N,ao]
  cases ad:Nat.beq len 0 with
  |true=>
   have:=et ad
   subst this
   simp only[ik,cond_true]at h
   cases ag:parts.toList.isEmpty with
   |false=>simp[ag]at h
   |true=>
    simp only[ag,cond_true,c5]at h
    subst h
    cases hi
    have k:evalOp V ρT l nid o=⟨.row nid,.aK (l++[.row e (bw V.E e) []]),parts.toList.isEmpty=true⟩:=by
     simp only[evalOp,G,j.E,O]
     rw[if_pos (by rw[<-j.E];exact⟨by simp[N],by rw[B];exact aa⟩)]
     simp
    rw[B]at k
    exact⟨_,.row nid,_,F2.app aj (.cons (.row e u _ ([]:List u.den) Z rfl) .nil),λU=>bX.aK j.ok k ag rfl U⟩
  |false=>
   simp only[ad,cond_false]at h
   cases F:(decide (parts.toList.map (·.1)=List.range len)&&Nat.ble (len*u.size) 16777216)with
   |false=>simp[F]at h
   |true=>
    simp only[F,cond_true]at h
    simp only[dd,ek]at F
    have aw:=hG F.2
    split at h
    ·rename_i xs l1 ab
     simp only[c5]at h
     subst h
     cases hi
     obtain⟨a,ax,ay,M,al⟩:=uB aj (TL (ρX:=ρX) (ρT:=ρT) af) ab
     obtain⟨zs,ah,an,aA⟩:=Ku ay
     have ak:len≠0:=by rintro rfl;simp at ad
     have ar:(zs.map u.enc).all (λd=>d.cells.length == u.size&&d.cells.all D.one)=true:=by
      rw[dT]
      intro d ab
      obtain⟨z,_,rfl⟩:=hz.1 ab
      rw[jT Z]
      simp only[beq_self_eq_true,o0,dT]
      exact uV Z z
     rw[an]at M
     have ai:parts.toList.map (·.1)=List.range len/\len*u.size<=16777216/\(zs.map u.enc).all (λd=>d.cells.length == u.size&&d.cells.all D.one)=true:=⟨F.1,aw,ar⟩
     cases ae:parts.toList.mapM (λp=>gp (ρT p.2))with
     |some ds=>
      have au:(parts.toList.map λp=>ρT p.2).mapM gp=some ds:=by rw[List.mapM_map];exact ae
      have:=Oc (l:=l) au
      rw[this]at M
      simp only[c5,e1]at M
      obtain⟨rfl,rfl⟩:=M
      have k:evalOp V ρT l nid o = .ok (.d (.slice u.size (zs.map u.enc))):=by
       simp only[evalOp,G,j.E,O,ae]
       rw[if_pos (by rw[<-j.E];exact⟨by simp[N],by rw[B];exact aa⟩),if_neg ak,<-j.E,B,if_pos ai]
      exact⟨_,rP ah,_,al,λU=>bX.none j.ok k trivial rfl⟩
     |none=>
      have k:evalOp V ρT l nid o=⟨.d (.slice u.size (zs.map u.enc)),.aK ax,True⟩:=by
       simp only[evalOp,G,j.E,O,ae,M]
       rw[if_pos (by rw[<-j.E];exact⟨by simp[N],by rw[B];exact aa⟩),if_neg ak,<-j.E,B,if_pos ai]
      exact⟨_,rP ah,_,al,λU=>bX.aK j.ok k trivial rfl U⟩
    cases h
 cases h
def bX.G0{k B:Operand->T}{t t':T}{l':List AO}(h:bX P o k l t l')(N:∀(w0:World)(I0:av)(w:World)(I:av)(m:Nat->Value) x v,aE w0 I0 w I m l->ar I m l v (B x)->ar I m l v (k x))(ht:∀(I:av)(m:Nat->Value) v,ar I m l' v t->ar I m l' v t'):bX P o B l t' l':=
 ⟨h.1,λw0 I0 w I m ρ j U=>(h.2 w0 I0 w I m ρ j λx O=>N w0 I0 w I m x _ j (U x O)).mono λv w' ⟨J,m',F,G,M⟩=>⟨J,m',F,G,ht _ _ _ M⟩⟩
def mL(l:List AO):T->T
 |.row id=>match l[id]? with
  |some (.bg _ s els)=>.bB id (.slice s els)
  |_=>.row id
 |t=>t
def Vg{w0 w:World}{I0 I:av}{m:Nat->Value}{v:Value}{t:T}(Y:aE w0 I0 w I m l)(h:ar I m l v t):ar I m l v (mL l t):=by
 unfold mL
 split
 ·rename_i id
  split
  ·rename_i e s els B
   have ad:=h
   cases h with
   |row A n c _ M k=>
    have U:isRow l id=true:=by simp[isRow,B,AO.isRow]
    obtain⟨xs,F,aa,ab,G⟩:=Y.obj id _ B
    have O:=k U
    rw[O]at F G
    exact .bB _ _ _ _ _ M k (uh F aa ab λb N j x Z=>(G b N).2.1 j x Z)
  exact h
 exact h
def Vh(t:T):dc l (mL l t)=dc l t:=by
 unfold mL
 split
 ·rename_i id
  cases h:l[id]? with
  |none=>rfl
  |some o=>cases o<;>simp[dc,cH,h]
 rfl
def yo{y:X}{b:Nat}{t:Ty}{zs:List t.den}(j:y.den ρ=some ⟨.list t,zs⟩)(h:(X.u1 (.fit b) y).den ρ=some ⟨.bool,true⟩):zs.length*b<=140737488355328/\zs.length<=9223372036854775807:=by
 simp only[X.den,j,fY]at h
 have h:decide (zs.length*b<=140737488355328/\zs.length<=9223372036854775807)=true:=fu h
 simpa using h
def BQ{x y:X}{t:Ty}{xs ys:List t.den}(j:x.den ρ=some ⟨.list t,xs⟩)(k:y.den ρ=some ⟨.list t,ys⟩):(X.u2 .app x y).den ρ=some ⟨.list t,xs++ys⟩:=by
 have B:c6 (.list t) ⟨.list t,ys⟩=some ys:=fH (.list t) ys
 simp only[X.den,j,k,cD,B]
 rfl
def NX{t:T}{d:D}{l':List AO}{id e s:Nat}{els:List D}(j:l[id]?=some (.bg e s els))(h:cH l t=some (d,l')):l'[id]?=some (.bg e s els):=by
 cases t with
 |d x=>simp only[cH,c5,e1]at h;rw[<-h.2];exact j
 |bu s=>simp only[cH,c5,e1]at h;rw[<-h.2];exact j
 |bB i x=>simp only[cH,c5,e1]at h;rw[<-h.2];exact j
 |row i=>
  simp only[cH]at h
  split at h
  ·simp only[c5,e1]at h;rw[<-h.2];exact j
  ·rename_i k
   simp only[c5,e1]at h;rw[<-h.2]
   have:i≠id:=by rintro rfl;rw[j]at k;cases k
   rw[List.getElem?_set_ne this];exact j
  cases h
 |map i=>
  simp only[cH]at h
  split at h
  ·simp only[c5,e1]at h;rw[<-h.2];exact j
  ·rename_i k
   simp only[c5,e1]at h;rw[<-h.2]
   have:i≠id:=by rintro rfl;rw[j]at k;cases k
   rw[List.getElem?_set_ne this];exact j
  cases h
 |_=>simp[cH]at h
def Hs{id e s:Nat}{els:List D}:∀{ts:List T}{ds:List D}{l l':List AO},l[id]?=some (.bg e s els)->cZ l ts=some (ds,l')->l'[id]?=some (.bg e s els)
 | [],ds,l,l',B,h=>by simp only[cZ,c5,e1]at h;rw[<-h.2];exact B
 |t::ts,ds,l,l',B,h=>by
  simp only[cZ]at h
  cases j:cH l t with
  |none=>simp[j]at h
  |some p=>
   obtain⟨x,F⟩:=p
   simp only[j]at h
   cases k:cZ F ts with
   |none=>simp[k]at h
   |some p=>
    obtain⟨xs,G⟩:=p
    simp only[k,c5,e1]at h
    rw[<-h.2]
    exact Hs (NX B j) k
def Z2{t:T}{d:D}{l':List AO}{id e s:Nat}{els:List D}(j:l[id]?=some (.bg e s els))(h:dc l t=some (d,l')):l'[id]?=some (.bg e s els):=by
 by_cases ht:∃ts,t = .agg ts
 ·obtain⟨ts,rfl⟩:=ht
  obtain⟨ds,_,k⟩:=xj h
  exact Hs j k
 rw[xk (λts e=>ht ⟨ts,e⟩)]at h
 exact NX j h
def y3{k:Nat}{u:T}(h:RX ρ (.bu k) u):u = .bu k:=by cases h;rfl
def OQ(N:bL P V C){c:Call}{s x:Operand}{t:TypeId}(aR:o.op = .call c)(aM:c.callee = .builtin .append)(aH:c.args.toList=[s,x])(aL:c.argTypes.toList=[t,t])(aA:RL ρ lX l)(ai:RX ρ (ρX s) (ρT s))(aU:RX ρ (ρX x) (ρT x))(h:BR C t lX nid (ρX s) (ρX x)=some q)(hi:ch cs n ρ q.ins ρ'):cG P o ρT l nid ρ' q:=by
 have ar:∀ρT:Operand->T,evalOp V ρT l nid o=gN V.E t l nid (ρT s) (ρT x):=by intro ρT;simp only[evalOp,aR,aM,aH,aL,hQ]
 unfold BR at h
 split at h
 ·rename_i s1 s2 z e u aF aT
  obtain⟨sz,a1,z',a6,i,ak,ad,ae,a8,al,ba,bb⟩:=N.list aT
  have af:V.E t=some ⟨s1,s2,z,.slice e⟩:=by rw[N.E];exact aF
  rw[af]at ak
  simp only[c5,TI.mk.injEq,TD.slice.injEq]at ak
  obtain⟨rfl,rfl,rfl,rfl⟩:=ak
  have ao:bytesOf C.E e=i.bytes:=by rw[<-N.E];simp[bytesOf,ad]
  split at h
  ·rename_i y l1 aO
   obtain⟨new,B,aa,ab,M⟩:∃(new:List u.den)(B:List AO),y.den ρ=some ⟨.list u,new⟩/\dc l (ρT x)=some (.slice u.size (List.map u.enc new),B)/\RL ρ l1 B:=Bn aA aU aO
   have aq:(u.size=i.size\/(List.map u.enc new).isEmpty=true)/\0<i.size:=⟨.inl ae.symm,by omega⟩
   cases av:ρX s with
   |bu k=>
    rw[av]at ai h
    have ag:ρT s = .bu k:=y3 ai
    simp only[c5]at h
    subst h
    obtain⟨aj,ay⟩:=iV hi
    cases ay
    have:=yo aa aj
    have F:evalOp V ρT l nid o=⟨.row nid,.aK (B++[.row e i.size (List.map u.enc new)]),(List.map u.enc new).length*i.bytes<=140737488355328/\(List.map u.enc new).length<=9223372036854775807⟩:=by
     rw[ar,ag]
     simp only[gN,af,ad,ab]
     rw[if_pos aq]
    rw[ae]at F
    exact⟨_,.row nid,_,F2.app M (.cons (.row e u y new al aa) .nil),λY=>bX.aK N.ok F (by rw[ao]at this;show(List.map u.enc new).length*i.bytes<=140737488355328/\(List.map u.enc new).length<=9223372036854775807;rw[hM];exact this) rfl Y⟩
   |row id=>
    rw[av]at ai h
    have ag:=w4 ai
    simp only at h
    split at h
    ·rename_i aC O j bm aP
     split at h
     ·rename_i aN
      obtain⟨rfl,rfl⟩:=aN
      cases G:(Nat.beq nid l1.length&&(Da lX id == aC))with
      |false=>simp[G]at h
      |true=>
       simp only[G,cond_true,c5]at h
       simp only[dd]at G
       have ah:=G.2
       have G:=et G.1
       subst h
       obtain⟨aj,ay⟩:=iV hi
       cases ay
       obtain⟨aY,an,aI⟩:=F2.left M aP
       have aB:nid=B.length:=by rw[G];exact M.len
       have bc:(l1.set id .dead).length=(B.set id .dead).length:=by simp[M.len]
       cases aI with
       |row _ _ _ zs _ ax=>
        have Z:=BQ ax aa
        have U:=yo Z aj
        have F:evalOp V ρT l nid o=⟨.row nid,.aK (B.set id .dead++[.row O j.size (List.map j.enc zs++List.map j.enc new)]),((List.map j.enc zs).length+(List.map j.enc new).length)*i.bytes<=140737488355328/\(List.map j.enc zs).length+(List.map j.enc new).length<=9223372036854775807⟩:=by
         rw[ar,ag]
         simp only[gN,af,ad,ab]
         rw[if_pos aq]
         simp only[an]
         rw[if_pos ⟨trivial,ae.symm,aB⟩]
        have au:List.map j.enc zs++List.map j.enc new=List.map j.enc (zs++new):=v7.symm
        rw[au]at F
        exact⟨_,.row nid,_,F2.app (F2.set M .dead id) (.cons (.row O j _ (zs++new) al Z) .nil),λY=>bX.aK N.ok F (by rw[ao]at U;simpa using U) rfl Y⟩
       |bg _ _ _ zs _ ax=>
        have Z:=BQ ax aa
        have U:=yo Z aj
        have aQ:l[id]?=some (.bg O j.size (zs.map j.enc)):=by
         unfold Da at ah
         split at ah
         ·rename_i aD a7 bh bj aE
          have:aD=true:=by simpa using ah
          subst this
          obtain⟨aZ,az,aJ⟩:=F2.left aA aE
          cases aJ with
          |bg _ _ _ bl _ bd=>
           have:=Z2 az ab
           rw[an]at this
           rw[az,<-this]
         simp at ah
        have aG:mL l (ρT s) = .bB id (.slice j.size (zs.map j.enc)):=by rw[ag];simp only[mL,aQ]
        have aV:dc l (mL l (ρT x))=some (.slice j.size (List.map j.enc new),B):=by rw[Vh,ab]
        have F:evalOp V (λy=>mL l (ρT y)) l nid o=⟨.bB nid (.slice j.size (List.map j.enc zs++List.map j.enc new)),.aK (B.set id .dead++[.bg O j.size (List.map j.enc zs++List.map j.enc new)]),((List.map j.enc zs).length+(List.map j.enc new).length)*i.bytes<=140737488355328/\(List.map j.enc zs).length+(List.map j.enc new).length<=9223372036854775807⟩:=by
         rw[ar]
         show gN V.E t l nid (mL l (ρT s)) (mL l (ρT x))=_
         rw[aG]
         simp only[gN,af,ad,aV]
         rw[if_pos aq]
         simp only[an]
         rw[if_pos ⟨trivial,ae.symm,aB⟩]
        have au:List.map j.enc zs++List.map j.enc new=List.map j.enc (zs++new):=v7.symm
        rw[au]at F
        refine⟨.row nid,.row nid,_,F2.app (F2.set M .dead id) (.cons (.bg O j _ (zs++new) al Z) .nil),λY=>?_⟩
        refine(bX.aK N.ok F (by rw[ao]at U;simpa using U) rfl Y).G0 (λw0 I0 w I m x v aS aw=>Vg aS aw) (λI m v aw=>?_)
        cases aw with
        |bB A a b _ _ aW aX bf=>exact .row A a b _ aW aX
     cases h
    cases h
   |_=>rw[av]at h;simp at h
  cases h
 cases h
end
end Go.Sy
namespace Go.Sy
open Go Go.ag
variable [aD][cF][cz][c9][bd]
def vC{α:Type}{kk:IntKind}{n:Int}:∀{m:List (Int×α)}{i j:Nat},dU n (m.map λp=>D.int kk p.1) i=some j->∃k e,j=i+k/\m[k]?=some e/\e.1=n/\(∀d,an m n d=e.2)/\dq m n=true/\(∀y,aH m n y=m.set k (n,y))/\fe m n=m.eraseIdx k
 | [],i,j,h=>by simp[dU]at h
 |p::m,i,j,h=>by
  simp only[fv,dU]at h
  by_cases e:n=p.1
  ·rw[if_pos e]at h
   simp only[c5]at h
   exact⟨0,p,by omega,rfl,e.symm,λd=>by simp[an,e],by simp[dq,e],λy=>by simp[aH,e],by simp[fe,e]⟩
  rw[if_neg e]at h
  obtain⟨k,F,Z,G,M,N,O,U,Y⟩:=vC h
  have B:¬p.1=n:=λx=>e x.symm
  exact⟨k+1,F,by omega,by simpa using G,M,λd=>by have:=N d;simpa [an,List.find?_cons,B]using this,by simpa [dq,B]using O,λy=>by simp[aH,B,U],by simp[fe,B,Y]⟩
def vB{α:Type}{kk:IntKind}{n:Int}:∀{m:List (Int×α)}{i:Nat},dU n (m.map λp=>D.int kk p.1) i=none->(∀d,an m n d=d)/\dq m n=false/\(∀y,aH m n y=m++[(n,y)])/\fe m n=m
 | [],i,h=>⟨λd=>rfl,rfl,λy=>rfl,rfl⟩
 |p::m,i,h=>by
  simp only[fv,dU]at h
  by_cases e:n=p.1
  ·rw[if_pos e]at h;cases h
  rw[if_neg e]at h
  obtain⟨k,B,F,G⟩:=vB h
  have j:¬p.1=n:=λx=>e x.symm
  exact⟨λd=>by have:=k d;simpa [an,List.find?_cons,j]using this,by simpa [dq,j]using B,λy=>by simp[aH,j,F],by simp[fe,j,G]⟩
def tn{α:Type}{kk:IntKind}(m:List (Int×α)):mK kk (m.map λp=>D.int kk p.1)=true:=by
 simp[mK]
theorem L0{α:Type}{kk:IntKind}{m:Int}{w:α}(zs:List (Int×α))(f:α->D):(match dU m (zs.map λp=>D.int kk p.1) 0 with|some j=>AO.map (zs.map λp=>D.int kk p.1) ((zs.map λp=>f p.2).set j (f w))|none=>AO.map ((zs.map λp=>D.int kk p.1)++[.int kk m]) ((zs.map λp=>f p.2)++[f w])) =
  AO.map ((aH zs m w).map λp=>D.int kk p.1) ((aH zs m w).map λp=>f p.2):=by
 cases F:dU m (zs.map λp=>D.int kk p.1) 0 with
 |some j=>
  obtain⟨N,O,U,B,G,_,_,k,_⟩:=vC F
  have:j=N:=by omega
  subst this
  simp only
  rw[k]
  congr 1
  ·rw[u5]
   refine ie λq=>?_
   rw[e5]
   split
   ·rename_i M
    subst M
    have:=(da.1 B).1
    rw[e0,B,if_pos (by simpa using this)]
    simp only[Option.map_some];rw[<-G]
   rfl
  rw[u5]
 |none=>
  obtain⟨_,_,k,_⟩:=vB F
  simp only
  rw[k]
  simp
def CO{α β:Type}(f:α->β):∀(l:List α)(k:Nat),(l.eraseIdx k).map f=(l.map f).eraseIdx k
 | [],k=>by simp
 |x::l,0=>rfl
 |x::l,k+1=>by simp[CO f l k]
theorem SX{α:Type}{kk:IntKind}{m:Int}(zs:List (Int×α))(f:α->D):(match dU m (zs.map λp=>D.int kk p.1) 0 with|some j=>AO.map ((zs.map λp=>D.int kk p.1).eraseIdx j) ((zs.map λp=>f p.2).eraseIdx j)|none=>AO.map (zs.map λp=>D.int kk p.1) (zs.map λp=>f p.2)) =
  AO.map ((fe zs m).map λp=>D.int kk p.1) ((fe zs m).map λp=>f p.2):=by
 cases B:dU m (zs.map λp=>D.int kk p.1) 0 with
 |some j=>
  obtain⟨F,G,M,N,O,_,_,_,k⟩:=vC B
  have:j=F:=by omega
  subst this
  simp only
  rw[k,CO,CO]
 |none=>
  obtain⟨_,_,_,k⟩:=vB B
  simp only
  rw[k]
section
variable {P:Program}{V:Env}{C:Cx}{o:Oper}{ρX:Operand->TX}{ρT:Operand->T}{lX:List AX}{l:List AO}{n nid:Nat}{cs:List Callee}{ρ ρ':aN}{q:dA}
theorem aa2:∀(f:Nat){t:Ty}{x:X},jO f t=some x->∃v:t.den,x.den ρ=some ⟨t,v⟩:=by
 intro f
 induction f with
 |zero=>intro t x h;simp[jO]at h
 |succ f O=>
  intro t x h
  cases t with
  |st i=>
   simp only[jO,e6]at h
   obtain⟨xs,M,rfl⟩:=h
   have key:∀(ts:List Ty)(xs:List X),ts.mapM (jO f)=some xs->∃a:(aT ts).den,jI ρ ts xs a:=by
    intro ts
    induction ts with
    |nil=>intro xs h;simp at h;subst h;exact⟨(),rfl,λj t h=>by simp at h⟩
    |cons t ts U=>
     intro xs h
     simp only[mo,Option.bind_eq_bind,la,Option.pure_def,c5]at h
     obtain⟨x,G,ys,N,rfl⟩:=h
     obtain⟨v,F⟩:=O G
     obtain⟨a,k⟩:=U ys N
     obtain⟨b,B,_⟩:=Cn F k
     exact⟨b,B⟩
   obtain⟨a,k⟩:=key _ _ M
   exact⟨aD.ew i a,KQ (qa k.1 k.2)⟩
  |_=>simp[jO]at h<;>subst h<;>exact⟨_,rfl⟩
theorem BG{v:Ty}{i:TI}{z:X}(B:isVal v)(j:oN v i.zero=true)(M:i.desc.agg=cd v)(F:jO fK v=some z):∃k:v.den,z.den ρ=some ⟨v,k⟩/\ev i.desc.agg i.zero=v.enc k:=by
 obtain⟨k,G⟩:=aa2 (ρ:=ρ) _ F
 refine⟨k,G,?_⟩
 unfold oN at j
 rw[F]at j
 simp only at j
 split at j
 ·rename_i ps N
  rw[Oz j (qw _ B G N),M,En B]
 cases j
theorem bL.map(j:bL P V C){t:TypeId}{kk:IntKind}{v:Ty}(ht:C.ty t=some (.map (.int kk) v)):∃i,j8 V.E t=some (kk,i)/\mU V.E t=none/\isVal v/\i.desc.agg=cd v/\oN v i.zero=true:=by
 obtain⟨i,G,aq,ar,au,F,Z⟩:=j.info ht
 clear Z
 obtain⟨sz,aj,z,d⟩:=i
 cases d<;>simp[nI]at F
 rename_i ax az
 obtain⟨⟨⟨⟨⟨U,Y⟩,ak⟩,al⟩,an⟩,ao⟩:=F
 obtain⟨aa,k,ae,af,ag,B,_⟩:=j.info U
 obtain⟨ab,b0,ah,M,N,ai,O⟩:=j.info Y
 obtain⟨aw,av,ay,ad⟩:=aa
 cases ad<;>simp[nI]at B
 subst B
 exact⟨ab,by simp only[j8,G,k,b0],by simp only[mU,yM,G,k,b0],N,M,O⟩
def Ik{kk:IntKind}:∀(n:Nat)(x:(aT (List.replicate n (Ty.int kk))).den),(cellsOf (List.replicate n (Ty.int kk)) x).length=n/\(cellsOf (List.replicate n (Ty.int kk)) x).all (pr kk)=true
 |0,_=>⟨rfl,rfl⟩
 |1,x=>⟨rfl,by show(pr kk (.int kk x)&&true)=true;simp[pr]⟩
 |n+2,x=>by
  obtain⟨j,k⟩:=Ik (n+1) x.2
  have e:cellsOf (List.replicate (n+2) (Ty.int kk)) x=[D.int kk x.1]++cellsOf (List.replicate (n+1) (Ty.int kk)) x.2:=rfl
  rw[e]
  exact⟨by simp only[e4,List.length_singleton,j];omega,by rw[abq,k];simp[pr]⟩
def DL{i n:Nat}{kk:IntKind}(B:aD.bU i=List.replicate n (Ty.int kk))(a:bQ.cp i):nV n kk ((Ty.st i).enc a)=true:=by
 have e:(Ty.st i).enc a = .agg (aD.cells i a):=rfl
 rw[e]
 have key:∀(ts:List Ty)(x:(aT ts).den),ts=List.replicate n (Ty.int kk)->nV n kk (.agg (cellsOf ts x))=true:=by
  rintro _ x rfl
  obtain⟨j,k⟩:=Ik n x
  simp only[nV,j,k,abb,Bool.and_self]
 rw[cz.cells]
 exact key _ _ B
def DP{i n:Nat}{kk:IntKind}{α:Type}(k:aD.bU i=List.replicate n (Ty.int kk))(m:List (bQ.cp i×α)):vF n kk (m.map λp=>(Ty.st i).enc p.1)=true:=by
 unfold vF
 rw[dT]
 intro d j
 obtain⟨p,_,rfl⟩:=hz.1 j
 exact DL k p.1
def DO{i:Nat}{α:Type}{k:bQ.cp i}:∀{m:List (bQ.cp i×α)}{q j:Nat},iY ((Ty.st i).enc k) (m.map λp=>(Ty.st i).enc p.1) q=some j->∃e r,j=q+r/\m[r]?=some e/\(∀d,lS i m k d=e.2)/\pC i m k=true/\∀y,kc i m k y=m.set r (e.1,y)
 | [],q,j,h=>by cases h
 |p::m,q,j,h=>by
  simp only[fv,iY]at h
  have F:tg ((Ty.st i).enc k) ((Ty.st i).enc p.1)=kL i k p.1:=rfl
  rw[F]at h
  cases B:kL i k p.1 with
  |true=>
   rw[if_pos B]at h
   injection h with h
   exact⟨p,0,by omega,rfl,λd=>by simp[lS,List.find?_cons,B],by simp[pC,B],λy=>by simp[kc,B]⟩
  |false=>
   rw[if_neg (by simp[B])]at h
   obtain⟨e,r,U,G,M,N,O⟩:=DO h
   exact⟨e,r+1,by omega,by simpa using G,λd=>by have:=M d;simpa [lS,List.find?_cons,B]using this,by simpa [pC,B]using N,λy=>by simp[kc,B,O]⟩
def DN{i:Nat}{α:Type}{k:bQ.cp i}:∀{m:List (bQ.cp i×α)}{q:Nat},iY ((Ty.st i).enc k) (m.map λp=>(Ty.st i).enc p.1) q=none->(∀d,lS i m k d=d)/\pC i m k=false/\∀y,kc i m k y=m++[(k,y)]
 | [],q,h=>⟨λd=>rfl,rfl,λy=>rfl⟩
 |p::m,q,h=>by
  simp only[fv,iY]at h
  have B:tg ((Ty.st i).enc k) ((Ty.st i).enc p.1)=kL i k p.1:=rfl
  rw[B]at h
  cases j:kL i k p.1 with
  |true=>rw[if_pos j]at h;cases h
  |false=>
   rw[if_neg (by simp[j])]at h
   obtain⟨F,G,M⟩:=DN h
   exact⟨λd=>by have:=F d;simpa [lS,List.find?_cons,j]using this,by simpa [pC,j]using G,λy=>by simp[kc,j,M]⟩
theorem Xu{i:Nat}{α:Type}{m:bQ.cp i}{w:α}(zs:List (bQ.cp i×α))(f:α->D):(match iY ((Ty.st i).enc m) (zs.map λp=>(Ty.st i).enc p.1) 0 with|some j=>AO.map (zs.map λp=>(Ty.st i).enc p.1) ((zs.map λp=>f p.2).set j (f w))|none=>AO.map ((zs.map λp=>(Ty.st i).enc p.1)++[(Ty.st i).enc m]) ((zs.map λp=>f p.2)++[f w])) =
  AO.map ((kc i zs m w).map λp=>(Ty.st i).enc p.1) ((kc i zs m w).map λp=>f p.2):=by
 cases F:iY ((Ty.st i).enc m) (zs.map λp=>(Ty.st i).enc p.1) 0 with
 |some j=>
  obtain⟨N,M,O,B,_,_,k⟩:=DO F
  have:j=M:=by omega
  subst this
  simp only
  rw[k]
  congr 1
  ·rw[u5]
   refine ie λq=>?_
   rw[e5]
   split
   ·rename_i G
    subst G
    have:=(da.1 B).1
    rw[e0,B,if_pos (by simpa using this)]
    rfl
   rfl
  rw[u5]
 |none=>
  obtain⟨_,_,k⟩:=DN F
  simp only
  rw[k]
  simp
def bL.KG(B:bL P V C){t:TypeId}{j:Nat}{v:Ty}(ht:C.ty t=some (.map (.st j) v))(k:th C t j=true):∃n kk i,mU V.E t=some (n,kk,i)/\aD.bU j=List.replicate n (.int kk)/\isVal v/\i.desc.agg=cd v/\oN v i.zero=true:=by
 obtain⟨i,G,ak,al,an,F,Z⟩:=B.info ht
 clear Z
 obtain⟨sz,ae,z,d⟩:=i
 cases d<;>simp[nI]at F
 rename_i ao aq
 obtain⟨⟨⟨⟨⟨af,U⟩,ag⟩,ah⟩,ai⟩,aj⟩:=F
 obtain⟨aa,b0,ab,M,N,ad,O⟩:=B.info U
 unfold th at k
 rw[<-B.E,G]at k
 simp only at k
 split at k
 ·rename_i n kk Y
  exact⟨n,kk,aa,by simp only[mU,G,Y,b0],hD k,N,M,O⟩
 cases k
def NG{i:Nat}{x:X}{u:T}(h:RX ρ (.d (.st i) x) u):∃a:bQ.cp i,x.den ρ=some ⟨.st i,a⟩/\u = .d ((Ty.st i).enc a):=by
 obtain⟨_,v,j,k⟩:=jS h
 exact⟨v,j,k⟩
def Vy(ad:bL P V C){t:TypeId}{x k:Operand}{ok:Bool}(aF:o.op = .lookup t x k ok)(aE:RL ρ lX l)(aG:RX ρ (ρX x) (ρT x))(ai:RX ρ (ρX k) (ρT k))(h:dD C ρX lX n nid o=some q)(hi:ch cs n ρ q.ins ρ'):cG P o ρT l nid ρ' q:=by
 have F:evalOp V ρT l nid o=pv V.E t l (ρT x) (ρT k) ok:=by simp only[evalOp,aF]
 simp only[dD,aF]at h
 split at h
 ·rename_i kk v aL key av af
  rw[af]at ai
  obtain⟨m,ah,aw⟩:=fM ai
  split at h
  ·rename_i Y;subst Y
   obtain⟨i,ak,aH,ab,al,ao⟩:=ad.map (pz av)
   split at h
   ·rename_i mx z ay az
    have:=gD h;subst this;cases hi
    obtain⟨mm,ae,U⟩:=Ee aE aG ay
    have U:mapOf l (ρT x)=some (mm.map (λp=>D.int kk p.1),mm.map λp=>v.enc p.2):=U
    obtain⟨G,aB,aC⟩:=BG (ρ:=ρ) ab ao al az
    have B:c6 v ⟨v,G⟩=some G:=fH v G
    have ag:(X.u3 .jG mx key z).den ρ=some ⟨v,an mm m G⟩:=by
     simp only[X.den,ae,ah,aB,nu,B]
    have ar:(X.u2 .od mx key).den ρ=some ⟨.bool,dq mm m⟩:=by
     simp only[X.den,ae,ah,cD]
    have hint:cY (ρT k)=some (kk,m):=by rw[aw];rfl
    simp only[pv,aH,Option.isSome_none,hX,ih,qU,ak,U,hint,hQ]at F
    have fin:∀(a:D)(b:Bool),a=v.enc (an mm m G)->b=dq mm m->RX ρ (bif ok then TX.aJ [.d v (.u3 .jG mx key z),.d .bool (.u2 .od mx key)]else .d v (.u3 .jG mx key z)) (if ok then .d (.aJ [a,.bool b])else .d a):=by
     rintro a b rfl rfl
     cases ok with
     |true=>
      refine .fE _ _ rfl λj c d B N=>?_
      rcases j with _|_|j
      ·simp at B N;subst B;subst N;exact .d v _ _ ab ag
      ·simp at B N;subst B;subst N;exact eY ar
      simp at B
     |false=>exact .d v _ _ ab ag
    cases O:dU m (mm.map λp=>D.int kk p.1) 0 with
    |some j=>
     obtain⟨aA,aj,af,Y,aI,Z,aa,_,_⟩:=vC O
     rw[O]at F
     simp only at F
     have aq:ep (mm.map λp=>v.enc p.2) j=v.enc (an mm m G):=by
      rw[Z]
      have:j=aA:=by omega
      subst this
      have ax:(mm.map λp=>v.enc p.2)[j]?=some (v.enc aj.2):=by rw[e0];exact ea (Option.map _) Y
      show((mm.map λp=>v.enc p.2)[j]?).getD .dI=_
      rw[ax]
      rfl
     exact .val ad.ok F (tn mm) rfl (fin _ _ aq aa.symm)
    |none=>
     obtain⟨Z,aa,_,_⟩:=vB O
     rw[O]at F
     simp only at F
     exact .val ad.ok F (tn mm) rfl (fin _ _ (by rw[Z];exact aC) aa.symm)
   cases h
  cases h
 ·rename_i M v aK key av af
  rw[af]at ai
  obtain⟨m,ah,aw⟩:=NG ai
  split at h
  ·rename_i Y;subst Y
   cases au:th C t M with
   |false=>simp[au]at h
   |true=>
    simp only[au,cond_true]at h
    obtain⟨aM,kk,i,ak,gf,ab,al,ao⟩:=ad.KG (pz av) au
    split at h
    ·rename_i mx z ay az
     have:=gD h;subst this;cases hi
     obtain⟨mm,ae,U⟩:=Ee aE aG ay
     have U:mapOf l (ρT x)=some (mm.map (λp=>(Ty.st M).enc p.1),mm.map λp=>v.enc p.2):=U
     obtain⟨G,aB,aC⟩:=BG (ρ:=ρ) ab ao al az
     have B:c6 v ⟨v,G⟩=some G:=fH v G
     have aD:c6 (.st M) ⟨.st M,m⟩=some m:=fH (.st M) m
     have ag:(X.u3 .jG mx key z).den ρ=some ⟨v,lS M mm m G⟩:=by
      simp only[X.den,ae,ah,aB,nu,B,aD]
     have ar:(X.u2 .od mx key).den ρ=some ⟨.bool,pC M mm m⟩:=by
      simp only[X.den,ae,ah,cD,aD]
     simp only[pv,ak,Option.isSome_some,hQ,tq,U,aw,DL gf m]at F
     have fin:∀(a:D)(b:Bool),a=v.enc (lS M mm m G)->b=pC M mm m->RX ρ (bif ok then TX.aJ [.d v (.u3 .jG mx key z),.d .bool (.u2 .od mx key)]else .d v (.u3 .jG mx key z)) (if ok then .d (.aJ [a,.bool b])else .d a):=by
      rintro a b rfl rfl
      cases ok with
      |true=>
       refine .fE _ _ rfl λj c d B N=>?_
       rcases j with _|_|j
       ·simp at B N;subst B;subst N;exact .d v _ _ ab ag
       ·simp at B N;subst B;subst N;exact eY ar
       simp at B
      |false=>exact .d v _ _ ab ag
     cases O:iY ((Ty.st M).enc m) (mm.map λp=>(Ty.st M).enc p.1) 0 with
     |some j=>
      obtain⟨aj,aA,af,Y,Z,aa,_⟩:=DO O
      rw[O]at F
      simp only at F
      have aq:ep (mm.map λp=>v.enc p.2) j=v.enc (lS M mm m G):=by
       rw[Z]
       have:j=aA:=by omega
       subst this
       have ax:(mm.map λp=>v.enc p.2)[j]?=some (v.enc aj.2):=by rw[e0];exact ea (Option.map _) Y
       show((mm.map λp=>v.enc p.2)[j]?).getD .dI=_
       rw[ax]
       rfl
      exact .val ad.ok F (DP gf mm) rfl (fin _ _ aq aa.symm)
     |none=>
      obtain⟨Z,aa,_⟩:=DN O
      rw[O]at F
      simp only at F
      exact .val ad.ok F (DP gf mm) rfl (fin _ _ (by rw[Z];exact aC) aa.symm)
    cases h
  cases h
 cases h
theorem Ea(B:bL P V C){t:TypeId}(G:o.op = .makeMap t none)(N:RL ρ lX l)(h:dD C ρX lX n nid o=some q)(hi:ch cs n ρ q.ins ρ'):cG P o ρT l nid ρ' q:=by
 have M:evalOp V ρT l nid o=⟨.map nid,.aK (l++[.map [] []]),True⟩:=by simp only[evalOp,G]
 simp only[dD,G]at h
 split at h
 ·rename_i k v O
  simp only[c5]at h
  subst h
  cases hi
  obtain⟨i,Z,aa,ab,ad,j,_⟩:=B.info (pz O)
  have F:isVal k/\isVal v:=by
   obtain⟨sz,Y,z,d⟩:=i
   cases d<;>simp[nI]at j
   exact⟨cE j.1.1.1.2,cE j.1.1.2⟩
  exact⟨_,.map nid,_,F2.app N (.cons (.map k v _ ([]:List (k.den×v.den)) F.1 F.2 rfl) .nil),λU=>bX.aK B.ok M trivial rfl U⟩
 cases h
def VK(j:bL P V C){t:TypeId}{a b:Operand}(az:o.op = .makeSlice t a b)(aw:RL ρ lX l)(ab:RX ρ (ρX a) (ρT a))(ad:RX ρ (ρX b) (ρT b))(h:Eb C t lX nid (ρX a) (ρX b)=some q)(hi:ch cs n ρ q.ins ρ'):cG P o ρT l nid ρ' q:=by
 have k:evalOp V ρT l nid o=kV V.E t l nid (ρT a) (ρT b):=by simp only[evalOp,az]
 unfold Eb at h
 split at h
 ·rename_i s1 s2 aG e u aR nx aS cx au aA ai aj
  rw[ai]at ab;rw[aj]at ad
  obtain⟨m,N,ag⟩:=fM ab
  obtain⟨m',B,ah⟩:=fM ad
  split at h
  ·rename_i z aB
   cases Y:X.beq nx cx with
   |false=>simp[Y]at h
   |true=>
    simp only[Y,cond_true,c5]at h
    have:=X.beq_eq Y
    subst this
    rw[N]at B
    injection B with B
    cases B
    subst h
    obtain⟨G,aD⟩:=iV hi
    obtain⟨aE,aF⟩:=iV aD
    cases aF
    obtain⟨sz,aJ,z',aL,i,O,U,ao,aq,Z,aM,ar⟩:=j.list aA
    have aa:V.E t=some ⟨s1,s2,aG,.slice e⟩:=by rw[j.E];exact au
    rw[aa]at O
    simp only[c5,TI.mk.injEq,TD.slice.injEq]at O
    obtain⟨rfl,rfl,rfl,rfl⟩:=O
    obtain⟨aQ,F,aN,aO,aP,_,aC⟩:=j.info ar
    rw[U]at F
    injection F with F;subst F
    obtain⟨M,aH,aI⟩:=BG (ρ:=ρ) Z aC aq aB
    have ae:0<=m:=by
     simp only[iX,X.den,N,cD]at G
     have G:leI 0 m=true:=fu G
     simpa using G
    have af:(X.u2 .rep nx z).den ρ=some ⟨.list u,List.replicate m.toNat M⟩:=by simp only[X.den,N,aH,cD]
    have av:bytesOf C.E e=i.bytes:=by rw[<-j.E];simp[bytesOf,U]
    obtain⟨ak,al⟩:=yo af aE
    rw[av,sk]at ak
    rw[sk]at al
    rw[ag,ah]at k
    simp only[kV,aa,cY,U]at k
    rw[if_pos (by omega),aI,ao]at k
    have ax:List.replicate m.toNat (u.enc M)=(List.replicate m.toNat M).map u.enc:=List.map_replicate.symm
    rw[ax]at k
    have an:m*(i.bytes:Int)<=140737488355328:=by
     have:((m.toNat*i.bytes:Nat):Int)=m*i.bytes:=by rw[Int.natCast_mul,Int.toNat_of_nonneg ae]
     omega
    exact⟨_,.row nid,_,F2.app aw (.cons (.row e u _ (List.replicate m.toNat M) Z af) .nil),λay=>bX.aK j.ok k ⟨ae,trivial,an,by omega⟩ rfl ay⟩
  cases h
 cases h
def LS{v:Ty}{x:TX}{u:T}{y:X}(B:RX ρ x u)(h:uc v x=some y):∃w:v.den,y.den ρ=some ⟨v,w⟩/\gp u=some (v.enc w):=by
 cases B with
 |d t x w F k=>
  simp only[uc]at h
  split at h
  ·rename_i e;subst e
   simp only[c5]at h;subst h
   exact⟨w,k,rfl⟩
  cases h
 |bu s=>
  simp only[uc]at h
  split at h
  ·rename_i u
   cases j:Nat.beq s u.size with
   |false=>simp[j]at h
   |true=>
    simp only[j,cond_true,c5]at h
    subst h
    have:=et j
    subst this
    exact⟨([]:List u.den),rfl,rfl⟩
  cases h
 |_=>simp[uc]at h
def KI(F:bL P V C){t:TypeId}{B k x:Operand}(ho:o.op = .mapUpdate t B k x\/o.op = .insert t B k x)(N:RL ρ lX l)(O:RX ρ (ρX B) (ρT B))(M:RX ρ (ρX k) (ρT k))(ay:RX ρ (ρX x) (ρT x))(h:AU C t lX (ρX B) (ρX k) (ρX x)=some q)(hi:ch cs n ρ q.ins ρ'):cG P o ρT l nid ρ' q:=by
 have G:evalOp V ρT l nid o=rK V.E t l (ρT B) (ρT k) (ρT x):=by rcases ho with ho|ho<;>simp only[evalOp,ho]
 unfold AU at h
 split at h
 ·rename_i kk v id aJ key ao U Y
  rw[U]at O;rw[Y]at M
  obtain⟨m,al,an⟩:=fM M
  have ae:=vN O
  split at h
  ·rename_i y aF aG mm ar aj
   split at h
   ·rename_i Z
    obtain⟨rfl,rfl,rfl⟩:=Z
    simp only[c5]at h;subst h
    cases hi
    obtain⟨i,aa,aA,aB,aC,aD⟩:=F.map (pz ao)
    obtain⟨w,aw,ax⟩:=LS ay ar
    obtain⟨az,af,ah⟩:=F2.left N aj
    cases ah with
    |map _ _ _ zs ab ad av=>
     have hint:cY (ρT k)=some (kk,m):=by rw[an];rfl
     have ai:c6 v ⟨v,w⟩=some w:=fH v w
     have au:(X.u3 .og mm key y).den ρ=some ⟨.map (.int kk) v,aH zs m w⟩:=by
      simp only[X.den,av,al,aw,nu,ai]
     have ag:l[id]?=some (.map (zs.map λp=>D.int kk p.1) (zs.map λp=>v.enc p.2)):=af
     simp only[rK,aA,Option.isSome_none,hX,ih,lR,aa,ae,hint,ax,hQ,ag]at G
     refine⟨_,.undef _,_,F2.set N (.map (.int kk) v _ (aH zs m w) ab ad au) id,λaq=>bX.aK F.ok G (tn zs) ?_ aq⟩
     exact ea (λx=>qi.aK (l.set id x)) (L0 (kk:=kk) (m:=m) (w:=w) zs v.enc)
   cases h
  cases h
 ·rename_i j v id aI key ao U Y
  rw[U]at O;rw[Y]at M
  obtain⟨m,al,an⟩:=NG M
  have ae:=vN O
  split at h
  ·rename_i y aF aG mm ar aj
   split at h
   ·rename_i Z
    obtain⟨rfl,rfl,rfl⟩:=Z
    cases ak:th C t j with
    |false=>simp[ak]at h
    |true=>
     simp only[ak,cond_true,c5]at h;subst h
     cases hi
     obtain⟨aL,kk,i,aa,gf,aB,aC,aD⟩:=F.KG (pz ao) ak
     obtain⟨w,aw,ax⟩:=LS ay ar
     obtain⟨az,af,ah⟩:=F2.left N aj
     cases ah with
     |map _ _ _ zs ab ad av=>
      have ai:c6 v ⟨v,w⟩=some w:=fH v w
      have aE:c6 (.st j) ⟨.st j,m⟩=some m:=fH (.st j) m
      have au:(X.u3 .og mm key y).den ρ=some ⟨.map (.st j) v,kc j zs m w⟩:=by
       simp only[X.den,av,al,aw,nu,ai,aE]
      have ag:l[id]?=some (.map (zs.map λp=>(Ty.st j).enc p.1) (zs.map λp=>v.enc p.2)):=af
      simp only[rK,aa,Option.isSome_some,hQ,mT,ae,an,ax,DL gf m,ag]at G
      refine⟨_,.undef _,_,F2.set N (.map (.st j) v _ (kc j zs m w) ab ad au) id,λaq=>bX.aK F.ok G (DP gf zs) ?_ aq⟩
      exact ea (λx=>qi.aK (l.set id x)) (Xu (m:=m) (w:=w) zs v.enc)
   cases h
  cases h
 cases h
def SZ(G:bL P V C){c:Call}{t t':TypeId}{B k:Operand}(av:o.op = .call c)(F:c.callee = .builtin .delete)(ag:c.args.toList=[B,k])(ak:c.argTypes.toList=[t,t'])(O:RL ρ lX l)(U:RX ρ (ρX B) (ρT B))(N:RX ρ (ρX k) (ρT k))(h:CC C t lX (ρX B) (ρX k)=some q)(hi:ch cs n ρ q.ins ρ'):cG P o ρT l nid ρ' q:=by
 have M:evalOp V ρT l nid o=mS V.E t l (ρT B) (ρT k):=by simp only[evalOp,av,F,ag,ak]
 unfold CC at h
 split at h
 ·rename_i kk v id aD key ar Y Z
  rw[Y]at U;rw[Z]at N
  obtain⟨m,ao,aq⟩:=fM N
  have af:=vN U
  split at h
  ·rename_i aC aE mm an
   split at h
   ·rename_i aa
    obtain⟨rfl,rfl,rfl⟩:=aa
    simp only[c5]at h;subst h
    cases hi
    obtain⟨i,ab,ay,az,aA,aB⟩:=G.map (pz ar)
    obtain⟨ax,ah,aj⟩:=F2.left O an
    cases aj with
    |map _ _ _ zs ad ae aw=>
     have hint:cY (ρT k)=some (kk,m):=by rw[aq];rfl
     have al:(X.u2 .yT mm key).den ρ=some ⟨.map (.int kk) v,fe zs m⟩:=by
      simp only[X.den,aw,ao,cD]
     have ai:l[id]?=some (.map (zs.map λp=>D.int kk p.1) (zs.map λp=>v.enc p.2)):=ah
     simp only[mS,ab,af,hint,hQ,ai]at M
     refine⟨_,.fE [] [] rfl (λj c d F=>by simp at F),_,F2.set O (.map (.int kk) v _ (fe zs m) ad ae al) id,λau=>bX.aK G.ok M (tn zs) ?_ au⟩
     exact ea (λx=>qi.aK (l.set id x)) (SX (kk:=kk) (m:=m) zs v.enc)
   cases h
  cases h
 cases h
end
end Go.Sy
