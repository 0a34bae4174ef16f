import Derived.Test.YthhlipkkjippfaaGreatDoorX5
import Derived.Lib.SliceRun
import Derived.ProofKit
import Derived.ChangeArms
import Derived.Deep.Slices
import Derived.Carry
import Derived.Shelf.GgSortFunc.InsertionK
import Derived.Shelf.SlSortCmp.InsertionK
import Derived.Sort.AssemblyPlain
import Derived.Test.YthhlipkkjippfaaGreatDoorProg
import Derived.Test.YthhlipkkjippfaaGreatDoorCards
import Derived.Test.YthhlipkkjippfaaGreatDoorTie
import Derived.OpenShut
import Derived.Deep.DeepHandedRow
import Derived.Lib.LaidTab
set_option linter.all false
namespace Go.Sy
open Go Go.ag
section
variable [aD]
@[reducible] def fU(Λ:cF)(j:Nat)(x:LF):cF:=⟨λi=>if i=j then some x else Λ.lam i⟩
def gu(Λ k:cF):Prop:=∀j x,Λ.lam j=some x->k.lam j=some x
def gu.push{Λ:cF}{j:Nat}{x:LF}(h:Λ.lam j=none):gu Λ (fU Λ j x):=λi y k=>by
 show(if i=j then some x else Λ.lam i)=some y
 by_cases hi:i=j
 ·subst hi;rw[h]at k;cases k
 rw[if_neg hi];exact k
theorem gu.trans{a b c:cF}(h:gu a b)(k:gu b c):gu a c:=λj x B=>k j x (h j x B)
def OV{Λ F:cF}(h:gu Λ F){ρ:aN}{a:AX}{o:AO}(k:@bK _ Λ ρ a o):@bK _ F ρ a o:=by
 cases k with
 |dead=>exact @bK.dead _ F ρ
 |var ty cs ts B=>exact @bK.var _ F ρ ty cs ts B
 |row e t x xs G B=>exact @bK.row _ F ρ e t x xs G B
 |bg e t x xs G B=>exact @bK.bg _ F ρ e t x xs G B
 |map k v x m G M B=>exact @bK.map _ F ρ k v x m G M B
 |dE k v x m G M B=>exact @bK.dE _ F ρ k v x m G M B
 |bn e kk t x m G M B=>exact @bK.bn _ F ρ e kk t x m G M B
 |fc e kk t x k m n G M B O=>exact @bK.fc _ F ρ e kk t x k m n G M B O
 |dj j b rs vals ft B M=>exact @bK.dj _ F ρ j b rs vals ft (h _ _ B) M
 |lp j b rs st k ps aU N tm B M=>exact @bK.lp _ F ρ j b rs st k ps aU N tm (h _ _ B) M
 |ey o B=>exact @bK.ey _ F ρ o B
def FQ{Λ j:cF}(h:gu Λ j){ρ:aN}{l:List AX}{m:List AO}(k:@RL _ Λ ρ l m):@RL _ j ρ l m:=F2.mono (λ_ _=>OV h) k
def OX{Λ M:cF}{d:Nat}(h:∀j,j<d->M.lam j=Λ.lam j){ρ:aN}{a:AX}{o:AO}(k:@bK _ M ρ a o):@bK _ Λ ρ (gG d a) o:=by
 cases k with
 |dead=>exact @bK.dead _ Λ ρ
 |var ty cs ts B=>exact @bK.var _ Λ ρ ty cs ts B
 |row e t x xs F B=>exact @bK.row _ Λ ρ e t x xs F B
 |bg e t x xs F B=>exact @bK.bg _ Λ ρ e t x xs F B
 |map k v x m F G B=>exact @bK.map _ Λ ρ k v x m F G B
 |dE k v x m F G B=>exact @bK.dE _ Λ ρ k v x m F G B
 |bn e kk t x m F G B=>exact @bK.bn _ Λ ρ e kk t x m F G B
 |fc e kk t x k m n F G B O=>exact @bK.fc _ Λ ρ e kk t x k m n F G B O
 |dj j b rs vals ft B G=>
  simp only[gG]
  cases e:Nat.ble d j with
  |true=>exact @bK.ey _ Λ ρ _ rfl
  |false=>
   have:j<d:=by
    rcases mv j d with h|h
    ·exact h
    rw[F1 h]at e;cases e
   exact @bK.dj _ Λ ρ j b rs vals ft ((h j this).symm.trans B) G
 |lp j b rs st k ps aU N tm B G=>
  simp only[gG]
  cases e:Nat.ble d j with
  |true=>exact @bK.ey _ Λ ρ _ rfl
  |false=>
   have:j<d:=by
    rcases mv j d with h|h
    ·exact h
    rw[F1 h]at e;cases e
   exact @bK.lp _ Λ ρ j b rs st k ps aU N tm ((h j this).symm.trans B) G
 |ey o B=>exact @bK.ey _ Λ ρ o B
def FT{Λ B:cF}{d:Nat}(h:∀j,j<d->B.lam j=Λ.lam j){ρ:aN}{l:List AX}{m:List AO}(k:@RL _ B ρ l m):@RL _ Λ ρ (l.map (gG d)) m:=F2.map (F2.mono (λ_ _=>OX h) k)
inductive iN[cF](ρ:aN):eN->Prop
 |mk (id j k ps aU body t outer b) (iI:Array Tmp) (tm:Tm):cF.lam j=some (.loop b k iI aU body tm)->iI.toList=ps->(∀q,RX ρ (aV t q) (ag.get tm q))->(∀x,x∈outer->iN ρ x)->iN ρ (.mk id j k ps aU body t outer)
theorem iN.mono[cF]{ρ ρ':aN}(h:Ext ρ ρ'){x:eN}(k:iN ρ x):iN ρ' x:=by
 induction k with
 |mk id j k ps aU B t O b U tm F G M _ N=>exact .mk id j k ps aU B t O b U tm F G (λq=>(M q).mono h) N
theorem iN.lam{Λ B:cF}(h:gu Λ B){ρ:aN}{x:eN}(k:@iN _ Λ ρ x):@iN _ B ρ x:=by
 induction k with
 |mk id j k ps aU F t U b Y tm G M N _ O=>exact @iN.mk _ B ρ id j k ps aU F t U b Y tm (h _ _ G) M N O
def kD[cF](ρ:aN)(L:List eN):Prop:=∀x,x∈L->iN ρ x
def Jj{id:Nat}:∀{L:List eN}{x:eN},vj id L=some x->x∈L/\x.id=id
 | [],x,h=>by simp[vj]at h
 |y::r,x,h=>by
  simp only[vj]at h
  cases e:Nat.beq y.id id with
  |true=>rw[e]at h;simp at h;subst h;exact⟨by simp,et e⟩
  |false=>rw[e]at h;obtain⟨j,k⟩:=Jj h;exact⟨by simp[j],k⟩
def He:∀{ts:List T}{r:Nat},r∈mn ts->∃(i:Nat)(t:T),ts[i]?=some t/\r∈ej t
 | [],r,h=>by simp[mn]at h
 |t::ts,r,h=>by
  simp only[mn,h5]at h
  rcases h with h|h
  ·exact⟨0,t,rfl,h⟩
  obtain⟨i,u,j,k⟩:=He h
  exact⟨i+1,u,by simpa using j,k⟩
def Mr:∀{cs:List TX}{i:Nat}{c:TX}{r:Nat},cs[i]?=some c->r∈c.refs->r∈TX.rN cs
 | [],i,c,r,h,_=>by simp at h
 |u::cs,i,c,r,h,j=>by
  simp only[TX.rN,h5]
  cases i with
  |zero=>simp at h;subst h;exact .inl j
  |succ i=>exact .inr (Mr (by simpa using h) j)
def Im:∀{cs:List TX}{i:Nat}{c:TX},TX.qz cs=true->cs[i]?=some c->c.clean=true
 | [],i,c,_,h=>by simp at h
 |u::cs,i,c,j,h=>by
  simp only[TX.qz,dd]at j
  cases i with
  |zero=>simp at h;subst h;exact j.1
  |succ i=>exact Im j.2 (by simpa using h)
def Sm{ρ:aN}{c:TX}{t:T}(h:RX ρ c t):c.clean=true->∀r∈ej t,r∈c.refs:=by
 have key:∀{cs:List TX}{ts:List T},cs.length=ts.length->(∀(i:Nat) c t,cs[i]?=some c->ts[i]?=some t->c.clean=true->∀r∈ej t,r∈c.refs)->TX.qz cs=true->∀r∈mn ts,r∈TX.rN cs:=by
  intro cs ts O G B r j
  obtain⟨i,t,ht,N⟩:=He j
  have hi:=(da.1 ht).1
  have M:cs[i]?=some (cs[i]'(by omega)):=c4 (by omega)
  exact Mr M (G i _ t M ht (Im B M) r N)
 induction h with
 |undef t=>intro B;cases B
 |gone=>intro B;cases B
 |ptr id off=>intro _ r j;exact j
 |row id=>intro _ r j;exact j
 |bj id k off kk n F=>intro _ r j;exact j
 |map id=>intro _ r j;exact j
 |aW id=>intro _ r j;exact j
 |cw id n=>intro _ r j;exact j
 |sub=>intro h;cases h
 |bB id t x xs F=>intro _ r j;exact j
 |agg cs ts F _ G=>intro B r j;exact key F G B r j
 |aJ cs ts F _ G=>intro B r j;exact key F G B r j
 |aB f cs ts F _ G=>intro B r j;exact key F G B r j
 |_=>intro _ r j;simp[ej]at j
end
variable [aD][Λ:cF][cz][c9][bd][oR][R0:bP]
def Ki{ρ:aN}{σ:Sk}{s:St}(h:bf ρ σ s)(m:Nat):∃ft:Tm,(∀k,ag.get ft k = .undef\/ag.get ft k=ag.get s.t k)/\(∀k,RX ρ (aV (nU m σ.t) k) (ag.get ft k))/\mj ft (fD (nU m σ.t)):=by
 have U:=(uj m h).t
 have U:∀k,RX ρ (aV (jg m σ.t 0) k) (ag.get s.t k):=U
 have key:∀(t:List (Nat×TX)),(∀k,gB k t=true->RX ρ (aV t k) (ag.get s.t k))->∃ft:Tm,(∀k,ag.get ft k = .undef\/ag.get ft k=ag.get s.t k)/\(∀k,RX ρ (aV (t.map λp=>(p.1,bif p.2.clean then p.2 else .undef)) k) (ag.get ft k))/\mj ft (fD (t.map λp=>(p.1,bif p.2.clean then p.2 else .undef))):=by
  intro t ht
  have:∀(
       t:List (Nat×TX)) (seen:List Nat),(∀k,k∉seen->gB k t=true->RX ρ (aV t k) (ag.get s.t k))->∃ft:Tm,(∀k,k∉seen->(ag.get ft k = .undef\/ag.get ft k=ag.get s.t k))/\(∀k,k∉seen->RX ρ (aV (t.map λp=>(p.1,bif p.2.clean then p.2 else .undef)) k) (ag.get ft k))/\∀k,k∉seen->∀r∈ej (ag.get ft k),r∈fD (t.map λp=>(p.1,bif p.2.clean then p.2 else .undef)):=by
   intro t
   induction t with
   |nil=>intro seen _;exact⟨[],λk _=>.inl rfl,λk _=>.undef _,λk _ r F=>by simp[ag.get,ej]at F⟩
   |cons p t Z=>
    intro seen ht
    obtain⟨i,u⟩:=p
    obtain⟨ft,M,N,O⟩:=Z (i::seen) λk B Y=>by
     simp only[fb,not_or]at B
     have:=ht k B.2 (by simp[gB,Y])
     simpa only[aV,lb (λe:i=k=>B.1 e.symm),cond_false]using this
    refine⟨(i,bif u.clean then ag.get s.t i else .undef)::ft,λk B=>?_,λk B=>?_,λk B r F=>?_⟩
    ·simp only[ag.get]
     by_cases j:i=k
     ·subst j;rw[if_pos rfl];cases u.clean<;>simp
     rw[if_neg j];exact M k (by simp[B];exact λe=>j e.symm)
    ·simp only[ag.get,fv,aV]
     by_cases j:i=k
     ·subst j;rw[if_pos rfl,ik]
      simp only[cond_true]
      cases G:u.clean with
      |false=>exact .undef _
      |true=>
       have:=ht i B (by simp[gB,ik])
       simpa only[aV,ik,cond_true]using this
     rw[if_neg j,lb j];exact N k (by simp[B];exact λe=>j e.symm)
    simp only[ag.get]at F
    simp only[fv,fD,h5]
    by_cases j:i=k
    ·subst j;rw[if_pos rfl]at F
     cases G:u.clean with
     |false=>rw[G]at F;simp[ej]at F
     |true=>
      rw[G]at F
      simp only[cond_true]at F⊢
      have:=ht i B (by simp[gB,ik])
      simp only[aV,ik,cond_true]at this
      exact .inl (Sm this G r F)
    rw[if_neg j]at F;exact .inr (O k (by simp[B];exact λe=>j e.symm) r F)
  obtain⟨ft,M,N,O⟩:=this t [] λk _=>ht k
  exact⟨ft,λk=>M k (by simp),λk=>N k (by simp),λk=>O k (by simp)⟩
 exact key (jg m σ.t 0) λk _=>U k
section
variable {P:Program}{V:Env}{C:Cx}{ρ:aN}{σ:Sk}{s:St}
theorem A4(G:bL P V C)(h:bf ρ σ s):∀{rs:List ResultVar}{xs:List TX},oC C σ rs=some xs->kZ (rs.map λv=>(eX V s v).2)/\F2 (RX ρ) xs (rs.map λv=>(eX V s v).1)
 | [],xs,j=>by
  simp only[oC,c5]at j;subst j
  exact⟨trivial,.nil⟩
 |.tmp t::r,xs,j=>by
  simp only[oC,e6]at j
  obtain⟨ys,F,rfl⟩:=j
  obtain⟨N,O⟩:=A4 G h F
  exact⟨⟨trivial,N⟩,.cons (h.t t) O⟩
 |.cell a ty::r,xs,j=>by
  simp only[oC]at j
  split at j
  ·rename_i x k
   simp only[e6]at j
   obtain⟨ys,F,rfl⟩:=j
   obtain⟨N,O⟩:=A4 G h F
   have M:=h.t a
   unfold Mv at k
   split at k
   ·rename_i t id off ah ad
    rw[ad]at M
    split at k
    ·rename_i al Z ag
     cases B:Nat.ble (off+t.size) Z.length with
     |false=>rw[B]at k;cases k
     |true=>
      rw[B]at k
      simp only[cond_true]at k
      have B:=hG B
      obtain⟨i,ae,U,af,aj,_⟩:=G.info ah
      obtain⟨ak,aa,ab⟩:=F2.left h.l ag
      generalize ai:get s.t a=u at M
      cases M
      cases ab with
      |var _ _ ts Y=>
       have e:eX V s (.cell a ty)=(fP (cd t) ((ts.drop off).take t.size),True):=by
        simp only[eX,ai,eV,ae,aa]
        rw[if_pos (by rw[U,<-Y.len];exact B),U,af]
        rfl
       refine⟨?_,?_⟩
       ·simp only[fv,e];exact⟨trivial,N⟩
       simp only[fv,e];exact .cons (yX aj ((Y.drop off).take t.size) k) O
    cases k
   cases k
  cases j
end
def pf:Ex->Exit
 |.normal=>.normal
 |.ret=>.ret
 |.exit i=>.exit i
 |.eW _=>.goto 0
section
variable {P:Program}{V:Env}{C:Cx}{cs:List Callee}{n:Nat}{w0:World}{I0:av}
def FJ(e:Ex)(k:Sk)(B:Nat)(p:Sy.V->Prop)(Q:LQ):LQ:=λj σ ρ' J'=>if e=j then ∃xs v,instS k B σ=some xs/\(fp xs).den ρ'=some v/\p v else Q j σ ρ' J'
def Ym{e:Ex}{G:Sk}{O:Nat}{p:Sy.V->Prop}{Q:LQ}(M:eD Q):eD (FJ e G O p Q):=by
 intro j σ ρ B F N h
 unfold FJ at h⊢
 by_cases k:e=j
 ·rw[if_pos k]at h⊢;exact h
 rw[if_neg k]at h⊢;exact M j σ ρ B F N h
theorem u6{f:Ex->Sk->Tr}{Q:LQ}(j:eD Q):eD (λe σ ρ' J'=>Tr.wp cs (f e σ) ρ' Q J'):=λ_ _ _ _ _ k h=>Tr.wp_mono k j h
def jQ(P:Program)(cs:List Callee)(n:Nat)(w0:World)(I0:av)(L:List eN)(c:Code)(σ:Sk)(T:Tr):Prop:=
 ∀(ρ:aN)(s:St)(Q:LQ)(J:LJ)(j:Exit->St->Prop),bf ρ σ s->kD ρ L->eD Q->T.wp cs ρ Q J ->
  (∀e bC ρ' J',Q e bC ρ' J'->cU σ.n ρ ρ'->σ.n<=bC.n->∀s',bf ρ' bC s'->j (pf e) s')->aG P w0 I0 n c s j
theorem jQ.go{L:List eN}{c:Code}{σ:Sk}{T:Tr}(h:jQ P cs n w0 I0 L c σ T){ρ:aN}{s:St}{Q:LQ}{J:LJ}{j:Exit->St->Prop}(G:bf ρ σ s)(B:kD ρ L)(F:eD Q)(M:T.wp cs ρ Q J)(k:∀e bC ρ' J',Q e bC ρ' J'->cU σ.n ρ ρ'->σ.n<=bC.n->∀s',bf ρ' bC s'->j (pf e) s'):aG P w0 I0 n c s j:=h ρ s Q J j G B F M k
theorem kD.mono{ρ ρ':aN}{L:List eN}(h:kD ρ L)(j:Ext ρ ρ'):kD ρ' L:=λx k=>(h x k).mono j
def NT{K:St->Prop}{Q:Exit->St->Prop}{e:Ex}(h:e ≠ .normal)(s:St):p7 K Q (pf e) s=Q (pf e) s:=by
 cases e<;>first|rfl|exact absurd rfl h
def dX(cs:List Callee)(n0:Nat)(ρ:aN)(f:Sk->Tr)(Q:LQ):LQ:=λe bC ρ' J'=>if e = .normal then(cU n0 ρ ρ'->n0<=bC.n->∀s',bf ρ' bC s'->∃k j B F,Sub s' B/\bf j k B/\cU n0 ρ j/\n0<=k.n/\Tr.wp cs (f k) j Q F)else Q e bC ρ' J'
theorem um{n0:Nat}{ρ:aN}{f:Sk->Tr}{Q:LQ}(F:eD Q):eD (dX cs n0 ρ f Q):=by
 intro e σ ρ' k B G h
 unfold dX at h⊢
 by_cases j:e = .normal
 ·rw[if_pos j]at h⊢;exact h
 rw[if_neg j]at h⊢;exact F e σ ρ' k B G h
def M4{ag n0:Nat}{T:Tr}{f:Sk->Tr}{ρ:aN}{Q:LQ}{J:LJ}(aj:dY n0 ρ)(G:eD Q)(j:Tr.wp cs (uo ag n0 T f) ρ Q J):∃k,Tr.wp cs T ρ (dX cs n0 ρ f Q) k:=by
 have ah:leaves .normal T=[]->Tr.wp cs T ρ Q J->∃k,Tr.wp cs T ρ (dX cs n0 ρ f Q) k:=λU j=>
  ⟨_,Tr.wp_mono (λ_ _ h=>h) (λe σ ρ' F M O h=>by
   unfold dX
   rw[if_neg h.1];exact G e σ ρ' F M O h.2) (We U G j)⟩
 have af:Tr.wp cs (uo.yL ag n0 T f) ρ Q J->∃k,Tr.wp cs T ρ (dX cs n0 ρ f Q) k:=by
  intro j
  unfold uo.yL at j
  split at j
  ·rename_i U;exact ah U j
  split at j
  ·rename_i ad ts av
   cases Z:ad.cA n0 ts.length with
   |false=>rw[Z]at j;exact j.elim
   |true=>
    rw[Z]at j
    simp only[cond_true]at j
    have j:=Mw (p:=λz=>∃ab:(aT ts).den,z=⟨aT ts,ab⟩/\Tr.wp cs (f (ad.fill (sK n0 ts.length) (n0+1))) ((n0,⟨aT ts,ab⟩)::ρ) Q J) G (λv h=>h) j
    refine⟨_,Tr.wp_mono (λ_ _ h=>h) (λe σ ρ' F M O h=>?_) j⟩
    unfold dX
    by_cases B:Ex.normal=e
    ·subst B
     rw[if_pos rfl]at h⊢
     obtain⟨xs,v,an,ao,ab,rfl,aq⟩:=h
     intro Y ae s' aa
     obtain⟨s2,ar,au⟩:=instS_ok (ρ0:=ρ) aa an rfl ao Z (λi v hi al=>by rw[<-Y i hi];exact al) aj
     exact⟨_,_,s2,J,ar,au,cU.push (eb n0) ρ _,s6 n0,aq⟩
    rw[if_neg B]at h
    rw[if_neg λak=>B ak.symm]
    exact G e σ ρ' F M O h
  exact j.elim
 have ai:Tr.wp cs (eo (λe σ=>match e with |.normal=>f σ|e=>.leaf e σ) T) ρ Q J->∃k,Tr.wp cs T ρ (dX cs n0 ρ f Q) k:=by
  intro j
  have j:=jr G j
  refine⟨_,Tr.wp_mono (λ_ _ h=>h) (λe σ ρ' F M O h=>?_) j⟩
  unfold dX
  by_cases B:e = .normal
  ·subst B
   rw[if_pos rfl]
   exact λY ae s' aa=>⟨σ,ρ',s',F,Sub.refl s',aa,Y,ae,h⟩
  rw[if_neg B]
  cases e with
  |normal=>exact absurd rfl B
  |_=>exact G _ σ ρ' F M O h
 unfold uo at j
 split at j
 ·rename_i U;exact ah U j
 ·cases N:kP T with
  |true=>rw[N]at j;exact af j
  |false=>
   rw[N]at j
   simp only[cond_false]at j
   exact ai j
 cases N:(kP T || !po T||MC (leaves .normal T))with
 |true=>rw[N]at j;exact af j
 |false=>
  rw[N]at j
  simp only[cond_false]at j
  exact ai j
def M5{p:Sk->Bool}{au n0:Nat}{T:Tr}{f:Sk->Tr}{ρ:aN}{Q:LQ}{J:LJ}(ah:dY n0 ρ)(F:eD Q)(j:Tr.wp cs (Bb p au n0 T f) ρ Q J):∃N,Tr.wp cs T ρ (dX cs n0 ρ f Q) N:=by
 unfold Bb at j
 cases ai:(leaves .normal T).any p with
 |false=>rw[ai]at j;exact M4 ah F j
 |true=>
  rw[ai]at j
  simp only[cond_true]at j
  have j:=jr F j
  obtain⟨B,ag,j⟩:∃B:LQ,B=_/\Tr.wp cs _ ρ B J:=⟨_,rfl,j⟩
  have U:eD B:=by rw[ag];exact u6 F
  have Z:∀e k ρ J,B (.eW e) k ρ J->Q e k ρ J:=λe k ρ J h=>by rw[ag]at h;exact h
  obtain⟨N,j⟩:=M4 ah U j
  have af:=um (cs:=cs) (n0:=n0) (ρ:=ρ) (f:=λk=>eW (f k)) U
  have j:=jr af j
  refine⟨N,Tr.wp_mono (λ_ _ h=>h) (λe σ ρ' O ax G h=>?_) j⟩
  unfold dX
  by_cases Y:e = .normal
  ·subst Y
   rw[if_pos rfl]
   intro ad ae s' ak
   simp only[]at h
   cases aj:p σ with
   |true=>
    rw[aj]at h
    simp only[cond_true]at h
    have h:=jr af h
    refine⟨σ,ρ',s',O,Sub.refl s',ak,ad,ae,Tr.wp_mono (λ_ _ h=>h) (λab k ρ M al G h=>?_) h⟩
    have h:dX cs n0 _ _ B (.eW ab) k ρ M:=h
    unfold dX at h
    rw[if_neg (by intro h;cases h)]at h
    exact F _ _ _ _ _ G (Z _ _ _ _ h)
   |false=>
    rw[aj]at h
    have h:dX cs n0 ρ (λk=>eW (f k)) B .normal σ ρ' O:=h
    unfold dX at h
    rw[if_pos rfl]at h
    obtain⟨k,aw,av,M,an,ao,aq,ar,aa⟩:=h ad ae s' ak
    have aa:=jr U aa
    exact⟨k,aw,av,M,an,ao,aq,ar,Tr.wp_mono (λ_ _ h=>h) (λab k ρ M al G h=>F _ _ _ _ _ G (Z _ _ _ _ h)) aa⟩
  rw[if_neg Y]
  have h:dX cs n0 ρ (λk=>eW (f k)) B (.eW e) σ ρ' O:=by
   cases e with
   |normal=>exact absurd rfl Y
   |_=>exact h
  unfold dX at h
  rw[if_neg (by intro h;cases h)]at h
  exact F _ _ _ _ _ G (Z _ _ _ _ h)
theorem F7{G n0:Nat}{T:Tr}{f:Sk->Tr}{ρ:aN}{Q:LQ}{J:LJ}(B:dY n0 ρ)(k:eD Q)(F:Tr.wp cs (w7 G n0 T f) ρ Q J):∃j,Tr.wp cs T ρ (dX cs n0 ρ f Q) j:=M5 B k F
theorem YH{rs:List Nat}{G n0:Nat}{T:Tr}{f:Sk->Tr}{ρ:aN}{Q:LQ}{J:LJ}(B:dY n0 ρ)(k:eD Q)(F:Tr.wp cs (M3 rs G n0 T f) ρ Q J):∃j,Tr.wp cs T ρ (dX cs n0 ρ f Q) j:=M5 B k F
def YI{L:List eN}{x y:Code}{ak:Nat}{σ:Sk}{T:Tr}{f:Sk->Tr}(af:jQ P cs n w0 I0 L x σ T)(ag:∀k,jQ P cs n w0 I0 L y k (f k)):jQ P cs n w0 I0 L (x.seq y) σ (w7 ak σ.n T f):=by
 intro ρ s Q J ax G Y B M U
 obtain⟨aw,M⟩:=F7 G.eE B M
 refine aG.seq (af.go G Y (um B) M λe bC ρ' J' j N O s' Z=>?_)
 unfold dX at j
 by_cases F:e = .normal
 ·subst F
  rw[if_pos rfl]at j
  obtain⟨k,az,ay,av,ah,ai,aa,ab,aj⟩:=j N O s' Z
  refine aG.sub ah ((ag k).go ai (Y.mono (aa.ext G.eE)) B aj λe au ar ad al an ao aq ae=>?_)
  exact U e au ar ad al (aa.trans an ab) (hF ab ao) aq ae
 rw[if_neg F]at j
 rw[NT F]
 exact U e bC ρ' J' j N O s' Z
def D7{L:List eN}{x:Code}{ax:Nat}{Y:Sk->Tr}(ae:∀ak,jQ P cs n w0 I0 L x ak (Y ak)):∀(f:Nat)(σ A:Sk),jQ P cs n w0 I0 L (.loop x) σ (vI ax σ.n Y f σ A)
 |0,σ,A=>λ_ _ _ _ _ _ _ _ j _=>j.elim
 |f+1,σ,A=>by
  intro ρ s Q J aD G aa U j Z
  simp only[vI]at j
  split at j
  ·rename_i N B aH
   split at j
   ·rename_i af ts aF
    split at j
    ·rename_i xs aq
     split at j
     ·rename_i aE
      cases O:N.cA σ.n B.length with
      |false=>rw[O]at j;exact j.elim
      |true=>
       rw[O]at j
       simp only[cond_true]at j
       obtain⟨aC,ar,m,ah⟩:=j
       generalize aj:(λ(again:(aT B).den->Prop)(z:(aT B).den)=>Tr.wp cs (resolve .normal N B.length 0 (Y (N.fill (sK σ.n B.length) (σ.n+1)))) ((σ.n,⟨aT B,z⟩)::ρ) Q (gz (λz'=>∃y:(aT B).den,z'=⟨aT B,y⟩/\again y) J))=step at ah
       obtain⟨s0,ay,az⟩:=instS_ok (ρ0:=ρ) G aq rfl ar O (λi v _ ad=>ad) G.eE
       refine aG.loop (X:=Nat×(aT B).den×St) (λz=>z.2.2) (λz=>qO step z.1 z.2.1/\bf ((σ.n,⟨aT B,z.2.1⟩)::ρ) (N.fill (sK σ.n B.length) (σ.n+1)) z.2.2) (λz=>z.1) (m,aC,s0) ⟨ah,az⟩ ay ?_
       rintro⟨k,z,s1⟩ ⟨F,al⟩
       cases k with
       |zero=>exact F.elim
       |succ k=>
        have F:step (qO step k) z:=F
        rw[<-aj]at F
        have F:=Mw (p:=λz'=>∃y:(aT B).den,z'=⟨aT B,y⟩/\qO step k y) U (λv h=>by rw[aj]at h;exact h) F
        refine(ae _).go al (aa.mono (Ext.push G.eE _)) (Ym U) F λe bC ρ' J' M an ao s' ai=>?_
        have ag:cU σ.n ρ ρ':=(cU.push (eb σ.n) ρ _).trans an (s6 σ.n)
        unfold FJ at M
        by_cases ab:Ex.normal=e
        ·subst ab
         rw[if_pos rfl]at M
         obtain⟨aI,v,au,av,y,rfl,aw⟩:=M
         obtain⟨s2,aA,aB⟩:=instS_ok (ρ0:=ρ) ai au rfl av O (λi v hi ad=>by rw[<-ag i hi];exact ad) G.eE
         exact⟨(k,y,s2),⟨aw,aB⟩,r4 k,aA⟩
        rw[if_neg ab]at M
        rw[NT (λh=>ab h.symm)]
        exact Z e bC ρ' J' M ag (hF (s6 σ.n) ao) s' ai
     exact(D7 ae f σ af).go G aa U j Z
    exact(D7 ae f σ af).go G aa U j Z
   exact j.elim
  exact j.elim
end
end Go.Sy
namespace Go.Sy
open Go Go.ag
variable [aD][Λ:cF][cz][c9][bd][oR][R0:bP]
def oP(P:Program)(fs:List (Nat×Func)):Prop:=∀g fn,findF g fs=some fn->P.funcs[g]?=some fn/\Enters P g/\fn.body=some (jR fn)
def uI(P:Program)(V:Env)(cs:List Callee)(fs:List (Nat×Func))(run:Runner):Prop:=
 ∀[cF][bP](C:Cx)(L:List eN)(k:Lv)(c:Code)(σ:Sk)(w0:World)(I0:av),bL P V C->il P C cs->C.mG=fs->(C.kn=false->bP.r=none)->(∀j,C.dep<=j->cF.lam j=none)->jQ P cs C.nt w0 I0 L c σ (run C L k c σ)
omit Λ R0 in
theorem bL.BE{P:Program}{V:Env}{C:Cx}(h:bL P V C)(a b:Nat)(c:Bool):bL P V {C with nt:=a,dep:=b,kn:=c}:=⟨h.ok,h.E,h.eq,h.sub,h.ty⟩
def Gj{ρ:aN}:∀{ts:List TX}{j:List T}{k:Nat},F2 (RX ρ) ts j->∀q,RX ρ (aV (oH k ts) q) (ag.get (iJ k j) q)
 | [],j,k,h=>λq=>.undef _
 |t::ts,j,k,h=>λq=>by
  cases h with
  |cons F G=>
   simp only[oH,iJ,aV,ag.get]
   by_cases B:k=q
   ·subst B;rw[if_pos rfl,ik];exact F
   rw[if_neg B,lb B];exact Gj G q
def aal{ρ:aN}{xs:List TX}{k:List T}(h:F2 (RX ρ) xs k):RX ρ (Br xs) (xl k):=by
 have j:RX ρ (.aJ xs) (.aJ k):=.aJ xs k h.len λi c t B ht=>h.get B ht
 match xs,k,h,j with
 | [],_,.nil,j=>exact j
 | [x],_,.cons h1 .nil,j=>exact h1
 |_::_::_,_,.cons h1 (.cons F G),j=>exact j
theorem DA{ρ:aN}{j b:Nat}{lX:List AX}{l:List AO}(M:RL ρ lX l)(h:jZ j b lX=true):∃vals ft,l[b]?=some (.frame b vals ft)/\Λ.lam j=some (.frame b vals ft):=by
 unfold jZ at h
 split at h
 ·rename_i Z U rs G
  rw[dd]at h
  have k:=et h.1
  have B:=et h.2
  subst k;subst B
  obtain⟨o,N,O⟩:=F2.left M G
  cases O with
  |dj _ _ _ vals ft F Y=>exact⟨vals,ft,N,F⟩
 cases h
def wO{Λ:cF}{j:Nat}{x:LF}:(fU Λ j x).lam j=some x:=if_pos rfl
def AS{Λ:cF}{d:Nat}{x:LF}:∀j,j<d->(fU Λ d x).lam j=Λ.lam j:=λj k=>if_neg (by omega)
def AR{Λ:cF}{d:Nat}{x:LF}(h:∀j,d<=j->Λ.lam j=none):∀j,d+1<=j->(fU Λ d x).lam j=none:=λj k=>by
 show(if j=d then some x else Λ.lam j)=none
 rw[if_neg (by omega)];exact h j (by omega)
theorem bf.l'{Λ:cF}{ρ:aN}{σ:Sk}{s:St}(h:@bf _ Λ ρ σ s):@RL _ Λ ρ σ.l s.l:=@bf.l _ Λ _ _ _ h
def bf.t'{Λ:cF}{ρ:aN}{σ:Sk}{s:St}(h:@bf _ Λ ρ σ s):∀k,RX ρ (aV σ.t k) (ag.get s.t k):=@bf.t _ Λ _ _ _ h
def bf.lH{Λ:cF}{ρ:aN}{σ:Sk}{s:St}(h:@bf _ Λ ρ σ s):dY σ.n ρ:=@bf.eE _ Λ _ _ _ h
section
variable {P:Program}{V:Env}{C:Cx}{cs:List Callee}{fs:List (Nat×Func)}{run:Runner}{n:Nat}{ops:List Oper}{L:List eN}
def RU(aO:uI P V cs fs run)(Z:bL P V C)(ah:il P C cs)(aC:oP P fs)(aJ:C.mG=fs)(ai:∀j,C.dep<=j->Λ.lam j=none){o:Oper}{g:FuncId}{fn:Func}{ts:List TX}{ae:List T}{σ:Sk}{s:St}{ρ:aN}{t0:List (Nat×TX)}{ft:Tm}{Q:LQ}{J:LJ}{K:TX->Sk->Tr}{Y:St->Prop}{pc:PC}(aI:findF g fs=some fn)(N:bf ρ σ s)(aE:kD ρ L)(aa:eD Q)(aH:du n o.dst=true)(aK:dg ops s.t o.guard=some pc)(aL:holds pc)(aG:dZ V.E (bE s.t) o=some (g,ae))(al:F2 (RX ρ) ts ae)(ax:∀k,ag.get ft k = .undef\/ag.get ft k=ag.get s.t k)(ay:∀k,RX ρ (aV t0 k) (ag.get ft k))(az:mj ft (fD t0))(F:Tr.wp cs (Cf run C L fn ts σ t0 K) ρ Q J)(aD:∀x B ρ' J' u s',Tr.wp cs (K x B) ρ' Q J'->cU σ.n ρ ρ'->σ.n<=B.n->bf ρ' B s'->RX ρ' x u->Y ⟨bH s'.t o.dst u,s'.l⟩):lD P n ops o s Y:=by
 unfold Cf at F
 cases ad:Nat.ble ts.length fn.ntmps with
 |false=>rw[ad]at F;exact F.elim
 |true=>
  rw[ad]at F
  simp only[qn,cond_false]at F
  obtain⟨au,av,aw⟩:=aC g fn aI
  refine Zk (V:=V) aK aL aH aG ax (ql.of Z.ok av au aw (by rw[<-al.len];exact hG ad) λR aF w0 I0 vals a7 af=>?_)
  have ak:σ.l.length=s.l.length:=N.l.len
  have aj:gu Λ (fU Λ C.dep (.frame s.l.length vals ft)):=gu.push (ai _ (eb _))
  have aQ:@bf _ (fU Λ C.dep (.frame s.l.length vals ft)) ρ ⟨σ.n,oH 0 ts,σ.l++[.dj C.dep σ.l.length (fD t0)]⟩ ⟨iJ 0 ae,s.l++[.frame s.l.length vals ft]⟩:=by
   refine @bf.mk _ (fU Λ C.dep (.frame s.l.length vals ft)) _ _ _ N.eE (Gj al) (F2.app (FQ aj N.l) (.cons ?_ .nil))
   rw[ak]
   exact @bK.dj _ (fU Λ C.dep (.frame s.l.length vals ft)) ρ C.dep s.l.length _ vals ft wO az
  obtain⟨a6,F⟩:=YH (Λ:=fU Λ C.dep (.frame s.l.length vals ft)) (R0:=R) N.eE aa F
  have F:=jr (um (Λ:=fU Λ C.dep (.frame s.l.length vals ft)) (R0:=R) aa) F
  have aM:=@aO (fU Λ C.dep (.frame s.l.length vals ft)) R {C with nt:=fn.ntmps,dep:=C.dep+1,kn:=false} L ⟨ln fn.results.toList,[],ln fn.results.toList⟩ (jR fn) ⟨σ.n,oH 0 ts,σ.l++[.dj C.dep σ.l.length (fD t0)]⟩ w0 I0 (Z.BE _ _ _) ⟨ah.sigs,ah.turns⟩ aJ (λ_=>aF) (AR ai)
  refine jQ.go (Λ:=fU Λ C.dep (.frame s.l.length vals ft)) (R0:=R) aM aQ (λx aR=>iN.lam aj (aE x aR)) (u6 (um (Λ:=fU Λ C.dep (.frame s.l.length vals ft)) (R0:=R) aa)) F ?_
  intro e bC ρ' J' G aA aB s' aP
  have fin:dX (Λ:=fU Λ C.dep (.frame s.l.length vals ft)) (R0:=R) cs σ.n ρ (λB=>match oC C B fn.results.toList with
   |some xs=>bif jZ C.dep σ.l.length B.l then K (Br xs) ⟨B.n,t0,B.l.map (gG C.dep)⟩else .bad 23
   |none=>.bad 22) Q .normal (bC.cu (ln fn.results.toList)) ρ' J'->sj V s' fn.results.toList s.l.length vals ft λu l'=>Y ⟨bH ft o.dst u,l'⟩:=by
   intro G
   unfold dX at G
   rw[if_pos rfl]at G
   obtain⟨B,a1,aq,ar,aT,O,an,aU,M⟩:=G aA aB s' (uj (Λ:=fU Λ C.dep (.frame s.l.length vals ft)) (R0:=R) _ aP)
   simp only[]at M
   split at M
   ·rename_i xs aS
    cases ab:jZ C.dep σ.l.length B.l with
    |false=>rw[ab]at M;exact M.elim
    |true=>
     rw[ab]at M
     simp only[cond_true]at M
     obtain⟨bb,a8,ao,U⟩:=DA (Λ:=fU Λ C.dep (.frame s.l.length vals ft)) O.l' ab
     rw[wO]at U
     injection U with U;injection U with ba aY aZ
     subst aY;subst aZ
     rw[ak]at ao
     obtain⟨aW,aX⟩:=A4 (Λ:=fU Λ C.dep (.frame s.l.length vals ft)) Z O aS
     refine⟨aq,aT,aW,ao,?_⟩
     exact aD (Br xs) ⟨B.n,t0,B.l.map (gG C.dep)⟩ a1 ar _ ⟨ft,aq.l⟩ M an aU ⟨O.lH,λk=>(ay k).mono (an.ext N.eE),FT AS O.l'⟩ (aal aX)
   exact M.elim
  cases e with
  |normal=>exact af _ _ (.inr rfl) (fin G)
  |ret=>exact af _ _ (.inl rfl) (fin G)
  |exit i=>exact G.elim
  |eW e=>exact G.elim
theorem MA{ρ:aN}:∀{ps:List Nat}{xs:List TX}{B:List T}{t:List (Nat×TX)}{tm:Tm},ps.length=xs.length->F2 (RX ρ) xs B->(∀k,RX ρ (aV t k) (ag.get tm k))->∀k,RX ρ (aV (w3 ps xs t) k) (ag.get (ko ps B tm) k)
 | [],xs,B,t,tm,j,F,h=>by
  cases xs with
  |nil=>cases F;exact h
  |cons=>simp at j
 |p::ps,[],B,t,tm,j,F,h=>by simp at j
 |p::ps,x::xs,B,t,tm,j,F,h=>by
  cases F with
  |cons M N=>
   have:∀k,RX ρ (aV ((p,x)::t) k) (ag.get ((p,_)::tm) k):=λk=>by
    simp only[aV,ag.get]
    by_cases G:p=k
    ·subst G;rw[if_pos rfl,ik];exact M
    rw[if_neg G,lb G];exact h k
   intro k
   exact MA (ps:=ps) (xs:=xs) (t:=(p,x)::t) (tm:=(p,_)::tm) (by simpa using j) N this k
theorem vJ{ρ:aN}{j b id:Nat}{rs:List Nat}{st:Ls}{lX:List AX}{l:List AO}(M:RL ρ lX l)(h:lX[id]?=some (.lp j b rs st)):∃k ps aU B tm,l[id]?=some (.loop b k ps aU B tm (py st) (qV st))/\Λ.lam j=some (.loop b k ps aU B tm)/\mj tm rs:=by
 obtain⟨o,N,O⟩:=F2.left M h
 cases O with
 |lp _ _ _ _ k ps aU B tm F G=>exact⟨k,ps,aU,B,tm,N,F,G⟩
def aaZ(bS:uI P V cs fs run)(bA:bL P V C)(aM:il P C cs)(bJ:C.mG=fs)(bG:∀j,C.dep<=j->Λ.lam j=none){o:Oper}{id:Nat}{ts:List TX}{aT:List T}{σ:Sk}{s:St}{ρ:aN}{t0:List (Nat×TX)}{ft:Tm}{Q:LQ}{J:LJ}{K:TX->Sk->Tr}{bw:St->Prop}{pc:PC}(aj:bf ρ σ s)(cg:kD ρ L)(bd:eD Q)(ck:du n o.dst=true)(cq:dg ops s.t o.guard=some pc)(cA:holds pc)(cJ:jk V.E (bE s.t) o=some (id,aT))(bU:F2 (RX ρ) ts aT)(b6:∀k,ag.get ft k = .undef\/ag.get ft k=ag.get s.t k)(b7:∀k,RX ρ (aV t0 k) (ag.get ft k))(b8:mj ft (fD t0))(M:Tr.wp cs (G6 run C L id ts σ t0 K) ρ Q J)(cf:∀x B ρ' J' u s',Tr.wp cs (K x B) ρ' Q J'->cU σ.n ρ ρ'->σ.n<=B.n->bf ρ' B s'->RX ρ' x u->bw ⟨bH s'.t o.dst u,s'.l⟩):lD P n ops o s bw:=by
 unfold G6 at M
 split at M
 ·rename_i c0 j k ps aU aa t aS au b rs cn cr
  obtain⟨cz,cZ⟩:=Jj cn
  cases ae:(Nat.beq au j&&Nat.beq ps.length ts.length&&ps.all (λp=>Nat.blt p k))with
  |false=>rw[ae]at M;exact M.elim
  |true=>
   rw[ae]at M
   simp only[cond_true]at M
   rw[dd,dd]at ae
   obtain⟨⟨aX,aJ⟩,b3⟩:=ae
   have aX:=et aX
   have aJ:=et aJ
   subst aX
   have cx:=cg _ cz
   cases cx with
   |mk _ _ _ _ _ _ _ _ b0 af tm ba bb ca cb=>
   obtain⟨cL,cP,b1,b2,cS,aC,U,br⟩:=vJ (bf.l' aj) cr
   rw[ba]at U
   injection U with U;injection U with bz aZ a1 a6 a7 a8
   subst bz;subst aZ;subst a1;subst a6;subst a7;subst a8
   have bP:σ.l.length=s.l.length:=(bf.l' aj).len
   have cC:af.size=aT.length:=by rw[<-bU.len,<-aJ,<-bb];simp
   refine Zm (V:=V) (tm:=tm) cq cA ck cJ b6 aC cC (by rw[bb,dT];intro p cB;have:=dT.1 b3 p cB;exact db (hG this)) ?_
   intro R w0 I0 bx vals bZ cY bD
   generalize cp:((bx,T.aW id)::ft)=az at bD⊢
   have b9:mj az (id::fD t0):=λk r ar=>by
    rw[<-cp]at ar
    simp only[ag.get]at ar
    by_cases bO:bx=k
    ·rw[if_pos bO]at ar;simp[ej]at ar;subst ar;simp
    rw[if_neg bO]at ar;exact q3 _ (b8 k r ar)
   generalize aP:fU Λ C.dep (.frame s.l.length vals az)=F
   have aO:gu Λ F:=aP▸gu.push (bG _ (eb _))
   have bT:F.lam C.dep=some (.frame s.l.length vals az):=aP▸wO
   have cy:∀j,j<C.dep->F.lam j=Λ.lam j:=aP▸AS
   have bM:∀j,C.dep+1<=j->F.lam j=none:=aP▸AR bG
   have cF:@bf _ F ρ ⟨σ.n,w3 ps ts t,σ.l++[.dj C.dep σ.l.length (id::fD t0)]⟩ ⟨ko af.toList aT tm,s.l++[.frame s.l.length vals az]⟩:=by
    refine @bf.mk _ F _ _ _ (show dY σ.n ρ from bf.lH aj) (by rw[bb];exact MA aJ bU ca) (F2.app (FQ aO (bf.l' aj)) (.cons ?_ .nil))
    rw[bP]
    exact @bK.dj _ F ρ C.dep s.l.length _ vals az bT b9
   have bB:@kD _ F ρ aS:=λx cI=>iN.lam aO (cb x cI)
   have M:=jr bd M
   obtain⟨ah,bF,M⟩:∃ah:LQ,ah=_/\Tr.wp cs _ ρ ah J:=⟨_,rfl,M⟩
   have bg:eD ah:=by rw[bF];exact u6 bd
   obtain⟨cV,M⟩:=F7 (Λ:=F) (R0:=R) (bf.lH aj) bg M
   have aK:=um (Λ:=F) (R0:=R) (cs:=cs) (n0:=σ.n) (ρ:=ρ) (f:=λB=>kK C id au b0 rs σ.l.length t0 K .normal B) bg
   have M:=jr aK M
   have bh:=u6 (cs:=cs) (f:=λe B=>match e with |.normal=>Tr.leaf .normal B |.ret=>kK C id au b0 rs σ.l.length t0 K .ret B |.exit i=>kK C id au b0 rs σ.l.length t0 K (.exit i) B|_=>.bad 26) aK
   obtain⟨bt,M⟩:=F7 (Λ:=F) (R0:=R) (bf.lH aj) bh M
   have bC:=um (Λ:=F) (R0:=R) (cs:=cs) (n0:=σ.n) (ρ:=ρ) (f:=λB=>match B.l[id]? with
       |some (.lp O N Y .ready)=>bif Nat.beq O au&&Nat.beq N b0&&decide (Y=rs)&&jZ C.dep σ.l.length B.l then run {C with nt:=k,dep:=C.dep+1,kn:=true} aS ⟨0,[],0⟩ aa ⟨B.n,B.t,B.l.set id (.lp au b0 rs .busy)⟩else .bad 25
       |_=>.bad 25) bh
   have M:=jr bC M
   have ch:=u6 (cs:=cs) (f:=λe B=>match e with |.normal=>Tr.leaf .normal B|_=>.bad 21) bC
   have cD:=@bS F R {C with nt:=k,dep:=C.dep+1,kn:=true} aS ⟨fO aa ⟨0,[],0⟩,[],0⟩ aU ⟨σ.n,w3 ps ts t,σ.l++[.dj C.dep σ.l.length (id::fD t0)]⟩ w0 I0 (bA.BE _ _ _) ⟨aM.sigs,aM.turns⟩ bJ (λh=>by cases h) bM
   refine jQ.go (Λ:=F) (R0:=R) cD cF bB ch M ?_
   intro e σ1 cT bu ai cc cd s1 cG
   cases e with
   |ret=>exact ai.elim
   |exit i=>exact ai.elim
   |eW e=>exact ai.elim
   |normal=>
   show ∃s2,_
   have ai:dX (Λ:=F) (R0:=R) _ _ _ _ _ .normal σ1 cT bu:=ai
   unfold dX at ai
   rw[if_pos rfl]at ai
   obtain⟨B,bY,s2,cW,cM,aH,bW,aQ,al⟩:=ai cc cd s1 cG
   simp only[]at al
   split at al
   ·rename_i O N Y cu
    cases ae:(Nat.beq O au&&Nat.beq N b0&&decide (Y=rs)&&jZ C.dep σ.l.length B.l)with
    |false=>rw[ae]at al;exact al.elim
    |true=>
     rw[ae]at al
     simp only[cond_true]at al
     simp only[dd,ek]at ae
     obtain⟨⟨⟨ao,aq⟩,aY⟩,b4⟩:=ae
     have ao:=et ao
     have aq:=et aq
     subst ao;subst aq;subst aY
     have bI:∀{ρ:aN}{lX:List AX}{l:List AO},@RL _ F ρ lX l->jZ C.dep σ.l.length lX=true->l[s.l.length]?=some (.frame s.l.length vals az):=by
      intro ρ lX l bl bj
      obtain⟨c3,cX,aC,U⟩:=DA (Λ:=F) bl bj
      rw[bT]at U
      injection U with U;injection U with br cQ cR
      subst cQ;subst cR
      rw[bP]at aC;exact aC
     have bR:∀{ρ:aN}{lX:List AX}{l:List AO}{st:Ls},@RL _ F ρ lX l->lX[id]?=some (.lp O N Y st)->l[id]?=some (.loop N k af aU aa tm (py st) (qV st)):=by
      intro ρ lX l st bl bj
      obtain⟨cL,cP,b1,b2,cS,aC,U,br⟩:=vJ (Λ:=F) bl bj
      rw[aO _ _ ba]at U
      injection U with U;injection U with bz aZ a1 a6 a7 a8
      subst aZ;subst a1;subst a6;subst a7;subst a8
      exact aC
     refine⟨s2,cM,bI aH.l' b4,bR aH.l' cu,?_⟩
     have bQ:∀{ρ:aN}(st:Ls),@bK _ F ρ (.lp O N Y st) (.loop N k af aU aa tm (py st) (qV st)):=λ{ρ} st=>@bK.lp _ F ρ O N Y st k af aU aa tm (aO _ _ ba) br
     have cH:@bf _ F bY ⟨B.n,B.t,B.l.set id (.lp O N Y .busy)⟩ ⟨s2.t,s2.l.set id (.loop N k af aU aa tm .busy none)⟩:=
      @bf.mk _ F _ _ _ aH.lH aH.t' (F2.set aH.l' (bQ .busy) id)
     have cE:=@bS F R {C with nt:=k,dep:=C.dep+1,kn:=true} aS ⟨0,[],0⟩ aa ⟨B.n,B.t,B.l.set id (.lp O N Y .busy)⟩ w0 I0 (bA.BE _ _ _) ⟨aM.sigs,aM.turns⟩ bJ (λh=>by cases h) bM
     refine jQ.go (Λ:=F) (R0:=R) cE cH (kD.mono (Λ:=F) bB (bW.ext (bf.lH aj))) bh al ?_
     intro e aD ax aE Z bc aG av bn
     have bc:cU B.n bY ax:=bc
     have aG:B.n<=aD.n:=aG
     have bs:cU σ.n ρ ax:=bW.trans bc aQ
     have bm:∀e B ρ J,ah (.eW e) B ρ J->Q e B ρ J:=λe B ρ J h=>by rw[bF]at h;exact h
     have fin:∀(G:Ex)(ad:Sk)(an:aN)(ay:LJ)(aw:St)(aI:LQ),eD aI->(G = .normal\/G = .ret\/∃i,G = .exit i)->Sub av aw->@bf _ F an ad aw->cU σ.n ρ an->σ.n<=ad.n->(∀e B ρ J,aI (.eW e) B ρ J->Q e B ρ J)->Tr.wp cs (kK C id O N Y σ.l.length t0 K G ad) an aI ay->bZ (pf G) av:=by
      intro G ad an ay aw aI cj cm bp aB aR bq cN ab
      unfold kK at ab
      split at ab
      ·rename_i bV aF bX ct
       cases aL:(Nat.beq bV O&&Nat.beq aF N&&decide (bX=Y)&&jZ C.dep σ.l.length ad.l)with
       |false=>rw[aL]at ab;exact ab.elim
       |true=>
        rw[aL]at ab
        simp only[cond_true]at ab
        simp only[dd,ek]at aL
        obtain⟨⟨⟨ao,aq⟩,aY⟩,b5⟩:=aL
        have ao:=et ao
        have aq:=et aq
        subst ao;subst aq;subst aY
        have cO:=Tr.wp_mono (J':=ay) (λ_ _ h=>h) (λe B ρ bt bu cv h=>bd _ _ _ _ _ cv (cN e B ρ bt h)) (jr cj ab)
        have cK:∃ak,nT (pf G)=some ak/\ak=(if G = .normal then none else some (Is G)):=by
         rcases cm with rfl|rfl| ⟨i,rfl⟩
         ·exact⟨_,rfl,rfl⟩
         ·exact⟨_,rfl,rfl⟩
         exact⟨_,rfl,rfl⟩
        obtain⟨ak,cw,bN⟩:=cK
        refine bD _ ak _ cw ⟨aw,bp,bI aB.l' b5,bR aB.l' ct,?_⟩
        have bo:(if ak.isNone then LoopState.ready else .done)=py (if G = .normal then Ls.ready else .done G)/\ak=qV (if G = .normal then Ls.ready else .done G)/\ak.isNone=decide (G = .normal):=by
         by_cases aA:G = .normal
         ·rw[bN,if_pos aA,if_pos aA];exact⟨rfl,rfl,by simp[aA]⟩
         rw[bN,if_neg aA,if_neg aA];exact⟨rfl,rfl,by simp[aA]⟩
        rw[bo.1,bo.2.2]
        rw[show(AO.loop aF k af aU aa tm (py (if G = .normal then Ls.ready else .done G)) ak) = .loop aF k af aU aa tm (py (if G = .normal then Ls.ready else .done G)) (qV (if G = .normal then Ls.ready else .done G)) by rw[<-bo.2.1]]
        exact cf _ ⟨ad.n,t0,(ad.l.set id (.lp bV aF bX (if G = .normal then Ls.ready else .done G))).map (gG C.dep)⟩ an ay _ ⟨ft,aw.l.set id (.loop aF k af aU aa tm (py (if G = .normal then Ls.ready else .done G)) (qV (if G = .normal then Ls.ready else .done G)))⟩ cO aR bq
         (@bf.mk _ Λ _ _ _ (show dY ad.n an from bf.lH aB) (λq=>(b7 q).mono (aR.ext (bf.lH aj))) (FT cy (F2.set aB.l' (bQ _) id))) (eY rfl)
      exact ab.elim
     cases e with
     |normal=>
      have Z:dX (Λ:=F) (R0:=R) _ _ _ _ _ .normal aD ax aE:=Z
      unfold dX at Z
      rw[if_pos rfl]at Z
      obtain⟨ad,an,aw,ay,bp,aB,aR,bq,ab⟩:=Z bs (hF aQ aG) av bn
      exact fin .normal ad an ay aw ah bg (.inl rfl) bp aB aR bq bm ab
     |ret=>
      have Z:Tr.wp cs (kK C id O N Y σ.l.length t0 K .ret aD) ax (dX (Λ:=F) (R0:=R) cs σ.n ρ (λB=>kK C id O N Y σ.l.length t0 K .normal B) ah) aE:=Z
      exact fin .ret aD ax aE av _ aK (.inr (.inl rfl)) (Sub.refl av) bn bs (hF aQ aG) (λe B ρ J h=>bm e B ρ J (by unfold dX at h;rw[if_neg (by intro h;cases h)]at h;exact h)) Z
     |exit i=>
      have Z:Tr.wp cs (kK C id O N Y σ.l.length t0 K (.exit i) aD) ax (dX (Λ:=F) (R0:=R) cs σ.n ρ (λB=>kK C id O N Y σ.l.length t0 K .normal B) ah) aE:=Z
      exact fin (.exit i) aD ax aE av _ aK (.inr (.inr ⟨i,rfl⟩)) (Sub.refl av) bn bs (hF aQ aG) (λe B ρ J h=>bm e B ρ J (by unfold dX at h;rw[if_neg (by intro h;cases h)]at h;exact h)) Z
     |eW e=>exact Z.elim
   exact al.elim
 exact M.elim
theorem Zl(Z:cn P V){o:Oper}{s:St}{K:St->Prop}{pc:PC}{t t2 e size sz M:Nat}{z els:List D}{x:Operand}(B:o.op = .binOp .eql t x (.const (.slice none 0 0)) t2)(O:V.E t=some ⟨sz,M,z,.slice e⟩)(ak:bE s.t x = .d (.slice size els))(af:dg ops s.t o.guard=some pc)(ag:holds pc)(ab:du n o.dst=true)(U:∀b,(b=true->els=[])->K ⟨bH s.t o.dst (.d (.bool b)),s.l⟩):lD P n ops o s K:=by
 intro w0 I0 a w Q al ah Y
 obtain⟨F,I,m,G,ad,ht⟩:=ah
 rw[if_pos ((oK ht af).2 ag)]
 refine bY.wpIn (by simp[B]) ?_
 have j:=cm (by have:=lK G.sat.c7 ht x;rw[ak]at this;exact this)
 obtain⟨A,c,k⟩:=Ng j
 have aj:=lv Z.E O
 have ai:(execOp a.eval o).run P w = .ok (.value (.bool A.isNone)) w:=by
  have ae:a.eval (.const (.slice none 0 0)) = .slice none 0 0:=rfl
  have N:=Lib.run_eql_slice_nil (P:=P) w t e A els.length c 0 0 aj
  unfold execOp
  simp only[B,k,ae,gj,eqGuard]
  simp[N]
 rw[ai]
 simp only[bY]
 refine Y _ _ _ (U A.isNone ?_) ⟨by cases o.dst<;>simp[Act.put,F],I,m,G,ad.put (.refl I),lh F ab ht (.d _ _ (.bool _))⟩
 intro aa
 rw[k]at j
 cases A with
 |none=>
  generalize an:els.length=q at j
  cases j
  rfl
 |some a=>cases aa
def Uy(aq:uI P V cs fs run)(N:bL P V C)(al:il P C cs)(aA:oP P fs)(aa:C.mG=fs)(an:∀j,C.dep<=j->Λ.lam j=none){σ:Sk}{ρ:aN}(aj:kD ρ L):Hb P cs n ops (vp run C L) σ ρ:=by
 intro o m F s Q J K aJ pc k B ak Z ab ad ae O
 obtain⟨ft,ag,ah,ai⟩:=Ki B m
 unfold vp at k
 split at k
 ·rename_i aK t x y t2 G
  split at k
  ·rename_i s1 s2 aL e u xs az aB
   injection k with k;subst k
   obtain⟨aM,zs,aw,ax,ay⟩:=ae
   have av:=pG B.t x
   rw[aB]at av
   obtain⟨au,v,M,af⟩:=jS av
   rw[aw]at M
   injection M with M;cases M
   refine Zl (P:=P) N.ok G (by rw[N.E];exact az) (size:=u.size) (els:=List.map u.enc v) af ab ad Z λb aD=>?_
   cases b with
   |true=>exact O _ σ ρ J _ s (ax (List.map_eq_nil_iff.1 (aD rfl))) (.refl _ _) (eb _) B (eY rfl)
   |false=>exact O _ σ ρ J _ s ay (.refl _ _) (eb _) B (eY rfl)
  cases k
 ·rename_i c G
  split at k
  ·rename_i f U
   have Y:=pG B.t f
   have aC:∀x∈c.args.toList,RX ρ (gE σ.t x) (bE s.t x):=λx _=>pG B.t x
   have ar:F2 (RX ρ) (oI C.E c.argTypes.toList (c.args.toList.map (gE σ.t))) (fq V.E c.argTypes.toList (c.args.toList.map (bE s.t))):=GG N (CR aC)
   split at k
   ·rename_i id aG
    injection k with k;subst k
    rw[aG]at Y
    have aH:jk V.E (bE s.t) o=some (id,fq V.E c.argTypes.toList (c.args.toList.map (bE s.t))):=by
     generalize au:bE s.t f=v at Y
     cases Y
     simp only[jk,G,U,au]
    exact aaZ aq N al aa an B aj ak Z ab ad aH ar ag ah ai ae O
   split at k
   ·rename_i g ts aF
    obtain⟨aI,M,af⟩:=Cw Y aF
    split at k
    ·rename_i fn ao
     injection k with k;subst k
     have aE:dZ V.E (bE s.t) o=some (g,fq V.E c.argTypes.toList (c.args.toList.map (bE s.t))++aI):=by
      rcases af with e| ⟨e,rfl⟩| ⟨ds,e,rfl⟩
      ·simp only[dZ,G,U,e]
      ·simp only[dZ,G,U,e,nb]
      simp only[dZ,G,U,e]
     rw[aa]at ao
     exact RU aq N al aA aa an ao B aj ak Z ab ad aE (ar.app M) ag ah ai ae O
    cases k
   cases k
  cases k
 cases k
def FF(bD:uI P V cs fs run)(aE:bL P V C)(aI:il P C cs)(bj:oP P fs)(aL:C.mG=fs)(bB:R0.r=none)(aJ:∀j,C.dep<=j->Λ.lam j=none){w0:World}{I0:av}{g:Operand}{ps:Array Tmp}{aU G:Code}{ao m:Nat}{σ:Sk}{s:St}{ρ:aN}{gf:FuncId}{caps:List TX}{fn:Func}{Q:LQ}{J:LJ}{au:Exit->St->Prop}(aH:kI (gE (nU m σ.t) g)=some (gf,caps))(aK:findF gf C.mG=some fn)(ah:bf ρ σ s)(bl:kD ρ L)(aF:eD Q)(U:Tr.wp cs (wS run C L ao fn caps ps.toList aU G σ (nU m σ.t)) ρ Q J)(ay:∀e bC ρ' J',Q e bC ρ' J'->cU σ.n ρ ρ'->σ.n<=bC.n->∀s',bf ρ' bC s'->au (pf e) s'):aG P w0 I0 C.nt (.rangeFunc g ps aU G) s au:=by
 obtain⟨ft,bg,ai,ax⟩:=Ki ah m
 generalize nU m σ.t=t0 at aH U ai ax
 have ab:σ.l.length=s.l.length:=ah.l.len
 refine aG.sub (Zt bg) ?_
 have bu:RX ρ (gE t0 g) (bE ft g):=pG ai g
 obtain⟨aA,aX,bG⟩:=Cw bu aH
 have bs:sD (bE ft g)=some (gf,aA):=by
  rcases bG with e| ⟨e,rfl⟩| ⟨ds,e,rfl⟩<;>simp only[sD,e]
 unfold wS at U
 cases ak:(!Nat.ble (caps.length+1) fn.ntmps || !fn.results.toList.isEmpty || !Nat.ble σ.l.length σ.l.length)with
 |true=>rw[ak]at U;exact U.elim
 |false=>
  rw[ak]at U
  simp only[cond_false]at U
  simp only[nh,tr]at ak
  obtain⟨⟨aD,aw⟩,_⟩:=ak
  have aD:=hG aD
  have aw:fn.results.toList=[]:=by simpa using aw
  rw[aL]at aK
  obtain⟨bb,bc,bd⟩:=bj gf fn aK
  refine X7 (s:=⟨ft,s.l⟩) bB bs λae bO=>?_
  show ql P gf (.aW s.l.length::aA) (s.l++[.loop s.l.length C.nt ps aU G ft .ready none]) ((ae,.aW s.l.length)::ft) _
  refine ql.of aE.ok bc bb bd (by simp only[List.length_cons,<-aX.len];omega) λR bp bJ ba vals bM aj=>?_
  have bn:(s.l++[AO.loop s.l.length C.nt ps aU G ft .ready none]).length=s.l.length+1:=by simp
  rw[bn]at aj⊢
  have bo:s.l++[AO.loop s.l.length C.nt ps aU G ft .ready none]++[AO.frame (s.l.length+1) vals ((ae,.aW s.l.length)::ft)]=s.l++[AO.loop s.l.length C.nt ps aU G ft .ready none,AO.frame (s.l.length+1) vals ((ae,.aW s.l.length)::ft)]:=by simp
  rw[bo]
  generalize bt:((ae,T.aW s.l.length)::ft)=Z at aj⊢
  have bh:mj Z (s.l.length::fD t0):=λk r O=>by
   rw[<-bt]at O
   simp only[ag.get]at O
   by_cases aO:ae=k
   ·rw[if_pos aO]at O;simp[ej]at O;subst O;simp
   rw[if_neg aO]at O;exact q3 _ (ax k r O)
  generalize al:fU Λ C.dep (.loop s.l.length C.nt ps aU G ft)=ar
  generalize an:fU ar (C.dep+1) (.frame (s.l.length+1) vals Z)=F
  have aM:∀j,C.dep+1<=j->ar.lam j=none:=al▸AR aJ
  have bw:∀j,C.dep+2<=j->F.lam j=none:=an▸AR aM
  have bz:gu Λ ar:=al▸gu.push (aJ _ (eb _))
  have aQ:gu ar F:=an▸gu.push (aM _ (eb _))
  have aP:gu Λ F:=bz.trans aQ
  have aR:F.lam C.dep=some (.loop s.l.length C.nt ps aU G ft):=aQ _ _ (al▸wO)
  have aS:F.lam (C.dep+1)=some (.frame (s.l.length+1) vals Z):=an▸wO
  have bA:∀j,j<C.dep->F.lam j=Λ.lam j:=λj M=>by rw[<-an,AS j (by omega),<-al,AS j M]
  have bF:@bf _ F ρ ⟨σ.n,oH 0 (.aW σ.l.length::caps),σ.l++[.lp C.dep σ.l.length (fD t0) .ready,.dj (C.dep+1) (σ.l.length+1) (σ.l.length::fD t0)]⟩
    ⟨iJ 0 (.aW s.l.length::aA),s.l++[.loop s.l.length C.nt ps aU G ft .ready none,.frame (s.l.length+1) vals Z]⟩:=by
   rw[ab]
   refine @bf.mk _ F _ _ _ (show dY σ.n ρ from bf.lH ah) (Gj (.cons (.aW _) aX)) (F2.app (FQ aP (bf.l' ah)) (.cons ?_ (.cons ?_ .nil)))
   ·exact @bK.lp _ F ρ C.dep s.l.length _ .ready C.nt ps aU G ft aR ax
   exact @bK.dj _ F ρ (C.dep+1) (s.l.length+1) _ vals Z aS bh
  have bm:@kD _ F ρ (.mk σ.l.length C.dep C.nt ps.toList aU G t0 L::L):=λx hx=>by
   have aY:∀x,x∈L->@iN _ F ρ x:=λx hx=>iN.lam aP (bl x hx)
   rcases fb.1 hx with rfl|hx
   ·exact @iN.mk _ F ρ σ.l.length C.dep C.nt ps.toList aU G t0 L s.l.length ps ft aR rfl ai aY
   exact aY x hx
  have U:=jr aF U
  have O:=@bD F R {C with nt:=fn.ntmps,dep:=C.dep+2,kn:=false} (.mk σ.l.length C.dep C.nt ps.toList aU G t0 L::L) ⟨0,[],0⟩ (jR fn) ⟨σ.n,oH 0 (.aW σ.l.length::caps),σ.l++[.lp C.dep σ.l.length (fD t0) .ready,.dj (C.dep+1) (σ.l.length+1) (σ.l.length::fD t0)]⟩ bJ ba (aE.BE _ _ _) ⟨aI.sigs,aI.turns⟩ aL (λ_=>bp) bw
  refine jQ.go (Λ:=F) (R0:=R) O bF bm (u6 aF) U ?_
  intro e bC ρ' J' B aa af s' ad
  have aa:cU σ.n ρ ρ':=aa
  have af:σ.n<=bC.n:=af
  have fin:Tr.wp cs (wS.fin C ao σ t0 bC) ρ' Q J'->sj V s' fn.results.toList (s.l.length+1) vals Z λ_ l'=>@BN _ R0 P w0 I0 C.nt au ⟨ft,s.l⟩ s.l.length l':=by
   intro B
   unfold wS.fin at B
   cases az:jZ (C.dep+1) (σ.l.length+1) bC.l with
   |false=>rw[az]at B;exact B.elim
   |true=>
    rw[az]at B
    simp only[cond_true]at B
    obtain⟨bR,bN,a7,aq⟩:=DA (Λ:=F) (bf.l' ad) az
    rw[aS]at aq
    injection aq with aq;injection aq with bQ bH bI
    subst bH;subst bI
    rw[ab]at a7
    refine⟨s',@Sub.refl _ R s',by rw[aw];trivial,a7,?_⟩
    have after:∀{b:Nat}{rs:List Nat}{st:Ls}{X:AO},bC.l[σ.l.length]?=some (.lp C.dep b rs st)->Kc X=true->@bf _ Λ ρ' (Sk.cu ao ⟨bC.n,t0,bC.l.map (gG C.dep)⟩) ⟨ft,s'.l.set s.l.length X⟩:=by
     intro b rs st X N br
     refine uj (Λ:=Λ) (σ:=⟨bC.n,t0,bC.l.map (gG C.dep)⟩) (s:=⟨ft,s'.l.set s.l.length X⟩) ao ?_
     refine @bf.mk _ Λ _ _ _ (show dY bC.n ρ' from bf.lH ad) (λk=>(ai k).mono (aa.ext (bf.lH ah))) ?_
     have bq:@RL _ Λ ρ' (bC.l.map (gG C.dep)) s'.l:=FT bA (bf.l' ad)
     have aT:=F2.set bq (@bK.ey _ Λ ρ' X br) s.l.length
     have e:(bC.l.map (gG C.dep)).set s.l.length .ey=bC.l.map (gG C.dep):=by
      apply ie
      intro i
      rw[e5]
      by_cases hi:s.l.length=i
      ·subst hi
       rw[ab]at N
       have bx:=(da.1 N).1
       rw[if_pos rfl,if_pos (by simpa using bx),e0,N]
       simp[gG,F1 (eb _)]
      rw[if_neg hi]
     rw[e]at aT
     exact aT
    split at B
    ·rename_i j b rs N
     cases M:Nat.beq j C.dep with
     |false=>rw[M]at B;exact B.elim
     |true=>
      rw[M]at B
      simp only[cond_true]at B
      have:=et M
      subst this
      obtain⟨aV,a6,aB,aC,a8,Y,aZ,a1⟩:=vJ (Λ:=F) (bf.l' ad) N
      rw[ab]at Y
      exact⟨_,_,_,_,_,_,_,_,Y,(by intro h;cases h),ay .normal _ ρ' J' B aa af _ (after N rfl)⟩
    ·rename_i j b rs N
     cases M:Nat.beq j C.dep with
     |false=>rw[M]at B;exact B.elim
     |true=>
      rw[M]at B
      simp only[cond_true]at B
      have:=et M
      subst this
      obtain⟨aV,a6,aB,aC,a8,Y,aZ,a1⟩:=vJ (Λ:=F) (bf.l' ad) N
      rw[ab]at Y
      exact⟨_,_,_,_,_,_,_,_,Y,(by intro h;cases h),(letI:bP:=R0;aG.ret (ay .ret _ ρ' J' B aa af _ (after N rfl)))⟩
    ·rename_i j b rs i N
     cases M:Nat.beq j C.dep with
     |false=>rw[M]at B;exact B.elim
     |true=>
      rw[M]at B
      simp only[cond_true]at B
      have:=et M
      subst this
      obtain⟨aV,a6,aB,aC,a8,Y,aZ,a1⟩:=vJ (Λ:=F) (bf.l' ad) N
      rw[ab]at Y
      exact⟨_,_,_,_,_,_,_,_,Y,(by intro h;cases h),(letI:bP:=R0;aG.exit (ay (.exit i) _ ρ' J' B aa af _ (after N rfl)))⟩
    exact B.elim
  cases e with
  |normal=>exact aj _ _ (.inr rfl) (fin B)
  |ret=>exact aj _ _ (.inl rfl) (fin B)
  |exit i=>exact B.elim
  |eW e=>exact B.elim
omit Λ R0 in
theorem TJ(aq:oP P fs)(aA:P.follows .mixedOrders=true)(f:Nat):uI P V cs fs (exec f):=by
 induction f with
 |zero=>
  intro Λ R C L F c σ w0 I0 _ _ _ _ _ ρ s Q J aj _ _ _ j _
  exact j.elim
 |succ f ab=>
  intro Λ R C L F c σ w0 I0 G O aa af Z
  intro ρ s Q J aj B ae N j k
  cases c with
  |skip=>exact aG.skip (k _ _ _ _ j (.refl _ _) (eb _) s B)
  |region id ops d=>
   obtain⟨s0,av,aw,ax⟩:=Dc G (js:=lI C ops.toList) B
   refine aG.sub av ?_
   have k:∀e bC ρ' J',Q e bC ρ' J'->cU (jy C σ (lI C ops.toList)).n ρ ρ'->(jy C σ (lI C ops.toList)).n<=bC.n->∀s',bf ρ' bC s'->aj (pf e) s':=by rw[ax];exact k
   have B:=aw
   have j:Tr.wp cs (eo (λe M=>.leaf e (M.cu F.out)) (bif d then l6 C ops.toList (jy C σ (lI C ops.toList)) ops.toList (jy C σ (lI C ops.toList)) [] []else l7 C (vp (exec f) C L) F.out ops.toList ops.toList (jy C σ (lI C ops.toList)))) ρ Q J:=j
   generalize jy C σ (lI C ops.toList)=σ at B j k
   cases d with
   |true=>
    have j:Tr.wp cs (eo (λe M=>.leaf e (M.cu F.out)) (l6 C ops.toList σ ops.toList σ [] [])) ρ Q J:=j
    have j:=jr N j
    have e:Code.region id ops true=Code.region id ops.toList.toArray true:=by simp
    rw[e]
    exact S6 (ops:=ops.toList) G O rfl aA B j λbC ρ' J' U Y ad s' ag=>k .normal _ ρ' J' U Y ad s' (uj F.out ag)
   |false=>
    have j:Tr.wp cs (eo (λe M=>.leaf e (M.cu F.out)) (l7 C (vp (exec f) C L) F.out ops.toList ops.toList σ)) ρ Q J:=j
    have j:=jr N j
    have ah:=A7 (K:=λs'=>aj .normal s') G O rfl (u6 N) (n0:=σ.n) (ρ0:=ρ) (λσ1 aJ aC aI=>Uy @ab G O aq aa Z (ae.mono (aC.ext B.eE))) ops.toList (cU.refl _ _) (eb _) B j λbC ρ' J' U Y ad s' ag=>k .normal _ ρ' J' U Y ad s' (uj F.out ag)
    intro a w aB
    have e:Code.region id ops false=Code.region id ops.toList.toArray false:=by simp
    rw[e]
    exact J1 (nz.wp (Q:=λe ar w'=>∃s',aj e s'/\Rel w0 I0 C.nt s' ar w') (λs' a w U Y=>⟨s',U,Y⟩) ops.toList s0 a w aB ah)
  |seq a b=>exact(YI (ab C L _ a σ w0 I0 G O aa af Z) (λM=>ab C L F b M w0 I0 G O aa af Z)).go B ae N j k
  |cond c a b=>
   simp only[exec]at j
   have ah:=pG B.t c
   split at j
   ·rename_i an
    rw[an]at ah
    obtain⟨ak,U,Y⟩:=ir ah
    have:ak=true:=fu (U.symm.trans (rfl:(X.bool true).den ρ=some ⟨.bool,true⟩))
    subst this
    exact aG.cond (by rw[Y];rfl) (λ_=>(ab C L F a σ w0 I0 G O aa af Z).go B ae N j k) (λh=>by cases h)
   ·rename_i an
    rw[an]at ah
    obtain⟨ak,U,Y⟩:=ir ah
    have:ak=false:=fu (U.symm.trans (rfl:(X.bool false).den ρ=some ⟨.bool,false⟩))
    subst this
    exact aG.cond (by rw[Y];rfl) (λh=>by cases h) (λ_=>(ab C L F b σ w0 I0 G O aa af Z).go B ae N j k)
   ·rename_i x _ _ an
    rw[an]at ah
    obtain⟨ak,U,Y⟩:=ir ah
    obtain⟨au,aD,aE,aF⟩:=j
    have:ak=au:=fu (U.symm.trans aD)
    subst this
    exact aG.cond (b:=ak) (by rw[Y];rfl) (λh=>(ab C L F a σ w0 I0 G O aa af Z).go B ae N (aE h) k) (λh=>(ab C L F b σ w0 I0 G O aa af Z).go B ae N (aF h) k)
   exact j.elim
  |block id b=>
   have j:Tr.wp cs (eo (λe M=>match e with |.exit i=>(bif Nat.beq i id then .leaf .normal M else .leaf e M)|e=>.leaf e M) (exec f C L {F with ex:=(id,F.out)::F.ex} b σ)) ρ Q J:=j
   refine aG.block ((ab C L _ b σ w0 I0 G O aa af Z).go B ae (u6 N) (jr N j) λe bC ρ' J' ai ad al s' ag=>?_)
   cases e with
   |normal=>exact k .normal _ ρ' J' ai ad al s' ag
   |ret=>exact k .ret _ ρ' J' ai ad al s' ag
   |eW e=>exact k (.eW e) _ ρ' J' ai ad al s' ag
   |exit i=>
    show if i=id then aj .normal s' else aj (.exit i) s'
    by_cases hi:i=id
    ·subst hi
     rw[if_pos rfl]
     simp only[ik,cond_true]at ai
     exact k .normal _ ρ' J' ai ad al s' ag
    rw[if_neg hi]
    simp only[lb hi,cond_false]at ai
    exact k (.exit i) _ ρ' J' ai ad al s' ag
  |loop b=>exact(D7 (λM=>ab C L _ b M w0 I0 G O aa af Z) 6 σ _).go B ae N j k
  |exit id=>exact aG.exit (k (.exit id) _ _ _ j (.refl _ _) (eb _) s B)
  |ret=>exact aG.ret (k .ret _ _ _ j (.refl _ _) (eb _) s B)
  |rangeFunc g ps aU aH=>
   simp only[exec]at j
   cases ao:C.kn with
   |true=>rw[ao]at j;exact j.elim
   |false=>
    rw[ao]at j
    simp only[cond_false]at j
    split at j
    ·rename_i gf caps ay
     split at j
     ·rename_i fn az
      exact FF @ab G O aq aa (af ao) Z ay az B ae N j k
     exact j.elim
    exact j.elim
  |_=>exact j.elim
end
end Go.Sy
namespace Go.Sy
open Go Go.ag
variable [aD][cz][c9][bd][oR]
section
variable [bP]
def y5:LQ:=λ_ _ _ _=>False
def S0{cs:List Callee}:∀{T:Tr}{B:List Ty}{ρ:aN}{r:qh B},Tr.den cs B T ρ=some r->Tr.wp cs T ρ y5 (λk v=>jW B k v=some r):=by
 intro T
 induction T with
 |leaf e σ=>intro B ρ r h;simp[Tr.den]at h
 |out k x=>
  intro B ρ r h
  simp only[Tr.den]at h
  split at h
  ·rename_i v an;exact⟨v,an,h⟩
  cases h
 |bJ x t G=>
  intro B ρ r h
  simp only[Tr.den]at h
  split at h
  ·rename_i b Y
   cases b with
   |true=>exact⟨Y,G h⟩
   |false=>cases h
  cases h
 |get v xs k t G=>
  intro B ρ r h
  simp only[Tr.den]at h
  split at h
  ·rename_i u l kk i ah ai
   cases ab:au (α:=u.den) l i with
   |none=>rw[ab]at h;cases h
   |some e=>rw[ab]at h;exact⟨u,l,kk,i,e,ah,ai,ab,G h⟩
  cases h
 |call v c x t G=>
  intro B ρ r h
  simp only[Tr.den]at h
  split at h
  ·rename_i C aj
   split at h
   ·rename_i u aa
    split at h
    ·rename_i a ak
     cases M:C.fn a with
     |none=>rw[M]at h;cases h
     |some y=>
      rw[M]at h
      have:=oY ak
      subst this
      exact⟨C,a,y,aj,aa,M,G h⟩
    cases h
   cases h
  cases h
 |fx c a b O U=>
  intro B ρ r h
  simp only[Tr.den]at h
  split at h
  ·rename_i b0 Y
   refine⟨b0,Y,λe=>?_,λe=>?_⟩
   ·subst e;exact O h
   subst e;exact U h
  cases h
 |gg c a b O U=>
  intro B ρ r h
  simp only[Tr.den]at h
  split at h
  ·rename_i u xs ao
   refine⟨u,xs,ao,λe=>?_,?_⟩
   ·subst e
    simp only[List.isEmpty_nil,oi]at h
    split at h
    ·rename_i Z;exact O (Z.trans h)
    cases h
   cases xs with
   |nil=>
    simp only[List.isEmpty_nil,oi]at h
    split at h
    ·exact U h
    cases h
   |cons y ys=>exact U h
  cases h
 |join ty v a b O U=>
  intro B ρ r h
  have ae:∀{w:Sy.V}{z:ty.den},c6 ty w=some z->Tr.den cs B b ((v,⟨ty,z⟩)::ρ)=some r->∃y:ty.den,w=⟨ty,y⟩/\Tr.wp cs b ((v,⟨ty,y⟩)::ρ) y5 (λk v=>jW B k v=some r):=λal Y=>⟨_,oY al,U Y⟩
  simp only[Tr.den]at h
  cases Z:iP 0 a with
  |false=>
   rw[Z]at h
   simp only[cond_false]at h
   cases N:Tr.den cs [ty] a ρ with
   |none=>rw[N]at h;cases h
   |some z=>
    rw[N]at h
    have h:Tr.den cs B b ((v,⟨ty,z⟩)::ρ)=some r:=h
    show Tr.wp cs a ρ _ (gz _ _)
    refine Tr.wp_mono (λk w j=>?_) (λ_ _ _ _ _ _ h=>h) (O N)
    cases k with
    |zero=>exact ae j h
    |succ k=>simp[jW]at j
  |true=>
   rw[Z]at h
   simp only[cond_true]at h
   cases N:Tr.den cs (ty::B) a ρ with
   |none=>rw[N]at h;cases B<;>cases h
   |some z=>
    rw[N]at h
    cases B with
    |nil=>exact r.elim
    |cons s rest=>
     show Tr.wp cs a ρ _ (gz _ _)
     refine Tr.wp_mono (λk w j=>?_) (λ_ _ _ _ _ _ h=>h) (O N)
     match z,h with
     |.inl z,h=>
      have h:Tr.den cs (s::rest) b ((v,⟨ty,z⟩)::ρ)=some r:=h
      cases k with
      |zero=>
       simp only[jW]at j
       split at j
       ·rename_i z' ad
        injection j with j;injection j with j;subst j
        exact ae ad h
       cases j
      |succ k=>
       simp only[jW]at j
       split at j
       ·injection j with j;cases j
       cases j
     |.inr z,h=>
      have h:some z=some r:=h
      injection h with h;subst h
      cases k with
      |zero=>
       simp only[jW]at j
       split at j
       ·injection j with j;cases j
       cases j
      |succ k=>
       simp only[jW]at j
       split at j
       ·rename_i y M;injection j with j;injection j with j;subst j;exact M
       cases j
 |loop ty v i b G=>
  intro B ρ r h
  cases B with
  |nil=>simp[Tr.den]at h
  |cons s rest=>
   simp only[Tr.den]at h
   split at h
   ·rename_i u aa
    split at h
    ·rename_i ag af
     have:=oY af
     subst this
     obtain⟨m,F⟩:=yQ h
     refine⟨ag,aa,m,?_⟩
     clear af h aa
     induction m generalizing ag with
     |zero=>cases F
     |succ m av=>
      simp only[j6]at F
      show Tr.wp cs b _ _ (gz _ _)
      split at F
      ·rename_i z' ad
       refine Tr.wp_mono (λk w j=>?_) (λ_ _ _ _ _ _ h=>h) (G ad)
       cases k with
       |zero=>
        simp only[jW]at j
        split at j
        ·rename_i ax ar
         injection j with j;injection j with j;subst j
         exact⟨_,oY ar,av _ F⟩
        cases j
       |succ k=>
        simp only[jW]at j
        split at j
        ·injection j with j;cases j
        cases j
      ·rename_i y M
       injection F with F;subst F
       refine Tr.wp_mono (λk w j=>?_) (λ_ _ _ _ _ _ h=>h) (G M)
       cases k with
       |zero=>
        simp only[jW]at j
        split at j
        ·injection j with j;cases j
        cases j
       |succ k=>
        simp only[jW]at j
        split at j
        ·rename_i aw aq;injection j with j;injection j with j;subst j;exact aq
        cases j
      cases F
    cases h
   cases h
 |bad w=>intro B ρ r h;simp[Tr.den]at h
theorem TZ{cs:List Callee}{g:Sk->Option X}{p:Sy.V->Prop}:∀{t:Tr}{k:Nat}{ρ:aN}{J:LJ},(∀v,J k v->p v)->Tr.wp cs (iU g k t) ρ y5 J ->
  Tr.wp cs t ρ (λe σ ρ' _=>(e = .ret\/e = .normal)/\∃x v,g σ=some x/\x.den ρ'=some v/\p v) J:=by
 intro t
 induction t with
 |leaf e σ=>
  intro k ρ J B h
  cases e with
  |exit i=>exact h.elim
  |eW e=>exact h.elim
  |normal=>
   simp only[iU]at h
   split at h
   ·rename_i x Z;obtain⟨v,F,G⟩:=h;exact⟨.inr rfl,x,v,Z,F,B v G⟩
   exact h.elim
  |ret=>
   simp only[iU]at h
   split at h
   ·rename_i x Z;obtain⟨v,F,G⟩:=h;exact⟨.inl rfl,x,v,Z,F,B v G⟩
   exact h.elim
 |out k x=>intro _ ρ J B h;exact h
 |bJ x t N=>intro k ρ J B ⟨F,G⟩;exact⟨F,N B G⟩
 |get v xs i t N=>intro k ρ J B ⟨u,l,kk,j,e,F,G,M,O⟩;exact⟨u,l,kk,j,e,F,G,M,N B O⟩
 |call v c x t N=>intro k ρ J B ⟨C,a,y,F,G,M,O⟩;exact⟨C,a,y,F,G,M,N B O⟩
 |fx c a b U Y=>intro k ρ J B ⟨b0,F,G,M⟩;exact⟨b0,F,λh=>U B (G h),λh=>Y B (M h)⟩
 |gg c a b U Y=>intro k ρ J B ⟨u,xs,F,G,M⟩;exact⟨u,xs,F,λh=>U B (G h),Y B M⟩
 |join ty v a b U Y=>
  intro k ρ J B h
  have:=U (k:=k+1) (J:=gz (λz=>∃y:ty.den,z=⟨ty,y⟩/\Tr.wp cs (iU g k b) ((v,⟨ty,y⟩)::ρ) y5 J) J) B h
  show Tr.wp cs a ρ _ (gz _ J)
  refine Tr.wp_mono (mC ?_ (λ_ _ h=>h)) (λ_ _ _ _ _ _ h=>h) this
  rintro z ⟨y,F,G⟩;exact⟨y,F,Y B G⟩
 |loop ty v i b N=>
  intro k ρ J B ⟨ad,F,n,G⟩
  refine⟨ad,F,n,tf ?_ G⟩
  intro ae q z aa ab
  refine Tr.wp_mono (mC ?_ (λ_ _ h=>h)) (λ_ _ _ _ _ _ h=>h) (N (k:=k+1) (J:=gz _ J) B ab)
  rintro z' ⟨y,M,O⟩;exact⟨y,M,aa y O⟩
 |bad w=>intro k ρ J B h;exact h
section
variable {P:Program}{V:Env}{C:Cx}{cs:List Callee}{ρ:aN}{σ:Sk}{s:St}
def Yo(G:bL P V C)(h:bf ρ σ s){rs:List ResultVar}{k:List Ty}(B:∀t∈k,isVal t){x:X}(j:FP C rs k σ=some x){r:(aT k).den}(M:x.den ρ=some ⟨aT k,r⟩):wZ V s rs ((aT k).enc r):=by
 unfold FP at j
 split at j
 ·rename_i xs N
  split at j
  ·rename_i ys l' O
   injection j with j;subst j
   obtain⟨U,Y⟩:=A4 G h N
   obtain⟨a,aa,F,Z,ab⟩:=uB h.l Y O
   have e:=(qa F.1 F.2).symm.trans M
   injection e with e;injection e with _ e
   subst e
   refine⟨U,?_⟩
   rw[Z]
   match k,a,B with
   | [],a,_=>rfl
   | [t],a,_=>rfl
   |t::u::ts,a,B=>
    have e:(aT (t::u::ts)).enc a = .aJ (dM (t::u::ts) a):=by rw[<-yf B];rfl
    rw[e]
    cases ts<;>rfl
  cases j
 cases j
theorem IZ:∀{ts:List Ty}{a:(aT ts).den}{k j:Nat}{v:Sy.V},cI ts a j=some v->lk (nM ts a k) (k+j)=some v
 | [],a,k,j,v,h=>by simp[cI]at h
 | [t],a,k,0,v,h=>by
  simp only[cI,c5]at h;subst h
  exact jE k _ _
 | [t],a,k,j+1,v,h=>by simp[cI]at h
 |t::u::ts,a,k,0,v,h=>by
  simp only[cI,c5]at h;subst h
  exact jE k _ _
 |t::u::ts,a,k,j+1,v,h=>by
  have:=IZ (ts:=u::ts) (a:=a.2) (k:=k+1) (j:=j) h
  show lk ((k,_)::nM (u::ts) a.2 (k+1)) _=_
  rw[show k+(j+1)=k+1+j by omega]
  simp only[lk,lb (by omega:k≠k+1+j),cond_false]
  exact this
theorem IY:∀{ts:List Ty}{a:(aT ts).den}{k:Nat},dY (k+ts.length) (nM ts a k)
 | [],a,k=>λp hp=>by simp[nM]at hp
 | [t],a,k=>λp hp=>by simp[nM]at hp;subst hp;simp
 |t::u::ts,a,k=>λp hp=>by
  simp only[nM,fb]at hp
  rcases hp with rfl|hp
  ·simp
  have:=IY (ts:=u::ts) (a:=a.2) (k:=k+1) p hp
  simp at this⊢;omega
theorem NI:∀{ts:List Ty}{a:(aT ts).den}{k:Nat},(∀t∈ts,isVal t)->(∀j v,cI ts a j=some v->lk ρ (k+j)=some v)->∀i,RX ρ (aV (uw k ts) i) (get (lq k (dM ts a)) i)
 | [],a,k,F,h=>λi=>.undef _
 | [t],a,k,F,h=>λi=>by
  show RX ρ (bif Nat.beq k i then .d t (.var k)else .undef) (if k=i then .d (t.enc a)else .undef)
  by_cases B:k=i
  ·subst B
   rw[if_pos rfl,ik]
   exact .d t _ a (F t (by simp)) (h 0 _ rfl)
  rw[if_neg B,lb B];exact .undef _
 |t::u::ts,a,k,F,h=>λi=>by
  show RX ρ (bif Nat.beq k i then .d t (.var k)else aV (uw (k+1) (u::ts)) i) (if k=i then .d (t.enc a.1)else get (lq (k+1) (dM (u::ts) a.2)) i)
  by_cases B:k=i
  ·subst B
   rw[if_pos rfl,ik]
   exact .d t _ a.1 (F t (by simp)) (h 0 _ rfl)
  rw[if_neg B,lb B]
  exact NI (ts:=u::ts) (a:=a.2) (k:=k+1) (λt ht=>F t (q3 _ ht)) (λj v G=>by
   have:=h (j+1) v G
   rw[show k+1+j=k+(j+1) by omega];exact this) i
omit [bP]in
theorem IT:∀(ws:List Ty)(b:(aT ws).den),(dM ws b).length=ws.length
 | [],_=>rfl
 | [_],_=>rfl
 |t::u::ts,b=>by simp[dM,IT (u::ts) b.2]
end
end
def CW{α:Type}:∀(j:List (Nat×α))(t:Nat),j.find? (λp=>p.1 == t)=j.find? λp=>Nat.beq p.1 t
 | [],_=>rfl
 |p::r,t=>by
  have e:(p.1 == t)=Nat.beq p.1 t:=by
   rw[hI,s4]
   exact(Nat.beq_eq▸LL)
  simp only[List.find?_cons,e,CW r t]
omit [bd] [cz] [c9]in
theorem Wx{C j:Cx}{B:List (Nat×Ty)}(h:B.all (λp=>r6 C p.1 p.2)=true)(e:∀ty t,r6 j ty t=r6 C ty t:=by intros;rfl):∀ty t,(B.find? λp=>Nat.beq p.1 ty).map (·.2)=some t->r6 j ty t=true:=by
 intro ty t ht
 rw[e6]at ht
 obtain⟨p,k,rfl⟩:=ht
 have F:=k7 k
 have G:=et F
 rw[e,<-G]
 exact dT.1 h p (hE k)
section
variable {P:Program}{V:Env}{C:Cx}{cs:List Callee}
def T8{f:FuncId}{fn:Func}{c:Code}{B F:List Ty}{a:(aT B).den}{r:(aT F).den}(N:bL P V C)(ad:il P C cs)(Y:oP P C.mG)(ai:C.nt=fn.ntmps)(ah:P.follows .mixedOrders=true)(af:P.funcs[f]?=some fn)(ab:fn.body=some c)(aa:∀t∈B,isVal t)(aj:∀t∈F,isVal t)(ag:B.length<=fn.ntmps)(h:sP cs (uy C fn.results.toList c B F) B F a=some r):eO P f (dM B a) ((aT F).enc r):=by
 haveI:bP:=bV
 refine eO.of N.ok af ab (by rw[IT];exact ag) λR Z w0 I0=>?_
 have an:=TZ (p:=λv=>v=⟨aT F,r⟩) (λv G=>by
  have G:c6 (aT F) v=some r:=G
  exact oY G) (S0 h)
 have ak:bf (nM B a 0) ⟨B.length,uw 0 B,[]⟩ ⟨lq 0 (dM B a),[]⟩:=
  ⟨by have:=IY (ts:=B) (a:=a) (k:=0);simpa using this,NI aa λj v G=>IZ G,.nil⟩
 have M:=TJ (V:=V) (cs:=cs) Y ah 400 C [] ⟨ln fn.results.toList,[],ln fn.results.toList⟩ c ⟨B.length,uw 0 B,[]⟩ w0 I0 N ad rfl (λ_=>Z) (λ_ _=>rfl)
 rw[ai]at M
 refine jQ.go (Λ:=Vj) (R0:=R) M ak (λx M=>by cases M) (λ_ _ _ _ _ _ h=>h) an ?_
 rintro e bC ρ' J' ⟨ae,x,v,O,U,rfl⟩ _ _ s' al
 refine⟨?_,Yo N al aj O U⟩
 rcases ae with rfl|rfl
 ·exact .inl rfl
 exact .inr rfl
def sO(fn:Func)(j k:List Ty):Bool:= !(fn.name == "runtime.NumGoroutine") && !fn.body.isNone&&j.all dG&&k.all dG&&Nat.ble j.length fn.ntmps
def RS{f:FuncId}{fn:Func}{j k:List Ty}{g:(aT j).den->Option (aT k).den}(U:bL P V C)(Z:il P C cs)(Y:oP P C.mG)(ad:C.nt=fn.ntmps)(ab:P.follows .mixedOrders=true)(M:P.funcs[f]?=some fn)(N:sO fn j k=true)(h:∀a,sP cs (uy C fn.results.toList (jR fn) j k) j k a=g a):gM P ⟨f,j,k,g⟩:=by
 simp only[sO,dd,dT,hC]at N
 obtain⟨⟨⟨⟨af,F⟩,ag⟩,ah⟩,ai⟩:=N
 have aa:Enters P f:=Enters.of M ⟨af,F⟩
 have G:∀t∈j,isVal t:=λt ht=>cE (ag t ht)
 have O:∀t∈k,isVal t:=λt ht=>cE (ah t ht)
 have B:fn.body=some (jR fn):=by
  unfold jR
  cases B:fn.body with
  |none=>rw[B]at F;cases F
  |some c=>rfl
 exact⟨aa,λa r ae=>T8 U Z Y ad ab M B G O (hG ai) (by rw[h];exact ae),G,O⟩
def Ju(fn:Func):Bool:= !(fn.name == "runtime.NumGoroutine") && !fn.body.isNone
def Ug{P:Program}{fs:List (Nat×Func)}(h:fs.foldr (λp q=>P.funcs[p.1]?=some p.2/\q) True)(B:fs.all (λp=>Ju p.2)=true):oP P fs:=by
 induction fs with
 |nil=>intro g fn h;cases h
 |cons c r G=>
  intro g fn j
  simp only[List.all_cons,dd]at B
  simp only[findF]at j
  cases e:Nat.beq c.1 g with
  |false=>rw[e]at j;exact G h.2 B.2 g fn j
  |true=>
   rw[e]at j
   simp only[cond_true,c5]at j
   subst j
   have:=et e
   subst this
   have k:=B.1
   simp only[Ju,dd,hC]at k
   refine⟨h.1,Enters.of h.1 k,?_⟩
   unfold jR
   cases F:c.2.body with
   |none=>rw[F]at k;cases k.2
   |some c=>rfl
def p9:List iO->Nat->List kF
 | [],_=>[]
 |c::r,k=>⟨c.f,c.t,c.args,k⟩::p9 r (k+1)
def RW{P:Program}{cs:List Callee}(h:cs.foldr (λc p=>gM P c/\p) True):∀(j:Nat)(s:ml),(cs.map oF)[j]?=some s->∃c:Callee,cs[j]?=some c/\oF c=s/\gM P c:=by
 induction cs with
 |nil=>intro j s k;simp at k
 |cons c r B=>
  intro j s k
  cases j with
  |zero=>simp at k;exact⟨c,rfl,k,h.1⟩
  |succ j=>simpa using B h.2 j s (by simpa using k)
def Ob{P:Program}:∀{ts:List iO}{k:Nat},ts.foldr (λc p=>nB P c.f c.t c.args c.fn/\p) True->∀s∈p9 ts k,∃fn:(aT (.list s.t::s.args)).den->Option (List s.t.den),k<=s.k/\((ts.map iO.oX)[s.k-k]?=some (iO.mk s.f s.t s.args fn).oX)/\nB P s.f s.t s.args fn
 | [],k,_,s,hs=>by simp[p9]at hs
 |c::r,k,h,s,hs=>by
  simp only[p9,fb]at hs
  rcases hs with rfl|hs
  ·exact⟨c.fn,eb _,by simp,h.1⟩
  obtain⟨fn,F,j,B⟩:=Ob h.2 s hs
  refine⟨fn,by omega,?_,B⟩
  rw[show s.k-k=(s.k-(k+1))+1 by omega]
  simpa using j
def RY{P:Program}{C:Cx}{cs:List Callee}{ts:List iO}(h:cs.foldr (λc p=>gM P c/\p) True)(B:ts.foldr (λc p=>nB P c.f c.t c.args c.fn/\p) True)(G:C.sigs=cs.map oF)(M:C.turns=p9 ts cs.length):il P C (cs++ts.map iO.oX):=by
 refine⟨λj s k=>?_,λs k=>?_⟩
 ·rw[G]at k
  obtain⟨c,F,B,N⟩:=RW h j s k
  exact⟨c,by rw[e3 (da.1 F).1];exact F,B,N⟩
 rw[M]at k
 obtain⟨fn,O,U,Y⟩:=Ob B s k
 exact⟨fn,by rw[hJ O];exact U,Y⟩
end
end Go.Sy
namespace Go.ag
open Go Go.RowKit bG
variable [bd]
section
variable {w0 w:World}{I0 I:av}{m:Nat->Value}{l:List AO}
variable [bP]{s:St}
end
def VF{k j:Nat}(h:k<=j){t:T}(ht:t.px k=true):t.px j=true:=by
 cases t<;>simp only[T.px,ek]at ht⊢<;>first|exact ht|omega|cases ht
def VG{k j:Nat}(h:k<=j){t:T}(ht:t.dp k=true):t.dp j=true:=by
 cases t<;>simp only[T.dp,ek]at ht⊢<;>first|exact ht|omega|skip
 rw[dT]at *
 exact λx B=>VF h (ht x B)
def OK{k B:Nat}(h:k<=B){o:AO}(j:o.dp k=true):o.dp B=true:=by
 cases o<;>simp only[AO.dp,ek]at j⊢<;>first|exact j|omega|skip
 rw[dT]at *
 exact λx F=>VG h (j x F)
def oQ(l:List AO):Prop:=l.all (AO.dp l.length)=true
theorem oQ.frame{l:List AO}(h:oQ l)(vals:Nat->Value)(ft:Tm):oQ (l++[.frame l.length vals ft]):=by
 unfold oQ at *
 rw[abq]
 simp only[e4,List.length_singleton,List.all_cons,List.all_nil,q0,dd]
 refine⟨?_,by simp[AO.dp]⟩
 rw[dT]at *
 exact λo j=>OK (s6 _) (h o j)
def Sub.rT[bP]{L:List AO}{t t':Tm}(M:nP t t'):Sub ⟨t,L⟩ ⟨t',L⟩:=by
 intro w0 I0 n a w N
 obtain⟨k,I,m,F,B,G⟩:=N
 refine⟨k,I,m,F,B,λj=>?_⟩
 rcases C9 M j with h|h
 ·rw[h];exact .undef _
 rw[h];exact G j
def Sub.drop[bP]{L j:List AO}{t t':Tm}(h:oQ L)(ht:t'.all (λp=>T.dp L.length p.2)=true)(k:nP t t'):Sub ⟨t,L++j⟩ ⟨t',L⟩:=
 Sub.SE L.length (by simp) (by simp) (by unfold oQ at h;simpa using h) ht k
def Ul{L:List AO}{id:Nat}{o:AO}(h:L[id]?=some o)(x:List AO):(L++x)[id]?=some o:=by rw[e3 (da.1 h).1];exact h
end Go.ag
namespace Go.ag
open Go Go.RowKit bG Go.ChangeShapes Go.WideShapes
variable [bd]
open Classical in
noncomputable def allI(w:World):av:=⟨λb o=>w.cell? ⟨b,o,none⟩,λb=>if h:∃j,dL w.heap[b]? j then some (Classical.choose h)else none,λ_=>False⟩
def OG(w:World)(j:∀g d,bd.iz g=some d->Rd (allI w) (.pointer (some ⟨g,0,none⟩)) (.box d)):c8 w (allI w):=by
 refine⟨λ_ _ _ h=>h,λb B h=>?_,λb h=>h.elim,j⟩
 unfold allI at h
 simp only at h
 split at h
 ·rename_i k
  cases h
  exact n2 k
 cases h
def Sg(I:av){cs:List Value}{n:Nat}(h:cs.length=n):Cells I (cs.drop n) []:=by
 refine⟨by simp[h],by simp,λi v d _ j=>by simp at j⟩
def Sf{I:av}{cs:List Value}{o s:Nat}{ys zs:List D}(U:Cells I ((cs.drop o).take s) ys)(Y:Cells I (cs.drop (o+s)) zs):Cells I (cs.drop o) (ys++zs):=by
 have e:cs.drop o=(cs.drop o).take s++cs.drop (o+s):=by rw[<-tx,sh]
 rw[e]
 obtain⟨B,F,G⟩:=U
 obtain⟨M,N,O⟩:=Y
 refine⟨by simp only[e4,B,M],λd j=>(h5.1 j).elim (F d) (N d),λi v d k j=>?_⟩
 by_cases hi:i<ys.length
 ·rw[e3 (by omega)]at k
  rw[e3 hi]at j
  exact G i v d k j
 rw[hJ (by omega),B]at k
 rw[hJ (by omega)]at j
 exact O _ v d k j
def cells_one{I:av}{v:Value}{d:D}(B:d.one=true)(h:Rd I v d):Cells I [v] [d]:=
 ⟨rfl,by simpa using B,λi x y j k=>by
  rcases i with _|i
  ·simp at j k;subst j;subst k;exact h
  simp at j⟩
def OF(b o k:Nat):(⟨b,o,none⟩:Addr).add k=⟨b,o+k,none⟩:=by
 unfold Addr.add;split
 ·rename_i h;subst h;rfl
 rfl
section
variable {P:Program}{t e:TypeId}
def Wg{W:World}{r:Reach}{b:Nat}{v:Value}(h:Value.okWide P W r b t v)(k:(match P.underlying t with|some (.struct _)|some (.array _ _)=>false|_=>true)=true):∀cs,v ≠ .agg cs:=by
 rintro cs rfl
 cases j:P.underlying t with
 |none=>simp[Value.okWide,j,Cell.okWide,Cell.ok]at h
 |some d=>
  rw[j]at k
  cases d<;>first| (simp[Value.okWide,j,Cell.okWide,Cell.ok]at h;done)| (simp at k;done)
variable {H:Type}{en:TypeId×Value->H}{W:World}{base:Nat}{sp:Nat->Bool}{held:Bool}{v:Value}{d:DataW H}{ps:List MemPlace}{α:Type}[bG α]{aa8:(H:Type)->DataW H->α->Prop}
end
def Bq{H:Type}{en:TypeId×Value->H}{P:Program}(F:laidOutB P=true){W k:World}(B:Below W.heap.size W k) :
  ∀{ts:List TypeId}{vs:List Value}{ds:List (DataW H)}{ps:List MemPlace},(ts.all λt=>P.readableRec t&&decide (t<P.types.size))=true->DataW.TrodAll en P W 0 (λ_=>true) true ts vs ds ps->(∀x∈ps,x.block<W.heap.size)->DataW.TrodAll en P k 0 (λb=>decide (b<W.heap.size)) true ts vs ds ps
 | [],[],[],_,_,h,_=>h
 |t::ts,v::vs,d::ds,_,ht,⟨p,q,h1,M,e⟩,G=>by
  simp only[List.all_cons,dd,ek]at ht
  exact⟨p,q,Below.trod F ht.1.1 ht.1.2 h1 B (λx j=>G x (by rw[e];exact q2 _ j)),Bq F B ht.2 M (λx j=>G x (by rw[e];exact u4 _ j)),e⟩
 | [],_::_,_,_,_,h,_=>h.elim
 | [],[],_::_,_,_,h,_=>h.elim
 |_::_,[],_,_,_,h,_=>h.elim
 |_::_,_::_,[],_,_,h,_=>h.elim
theorem FY{P:Program}{f:FuncId}{ds:List D}{r:D}(h:eO P f ds r){W:World}(F:∀g d,bd.iz g=some d->Rd (allI W) (.pointer (some ⟨g,0,none⟩)) (.box d)){vs:Array Value}(M:vs.size=ds.length)(G:∀(i:Nat) v d,vs[i]?=some v->ds[i]?=some d->Rd (allI W) v d) :
  Calls P f vs W λe w'=>∃v J,e = .returned v/\Below W.heap.size W w'/\Rd J v r:=
 (h W (allI W) vs (OG W F) M G).mono λ_ _ ⟨v,J,j,k,_,_,B⟩=>⟨v,J,j,k.below,B⟩
end Go.ag
namespace Go.Sy
open Go Go.ag Go.RowKit Go.ChangeShapes Go.WideShapes
variable [aD]
structure sd(bk:(H:Type)->DataW H->Nat)(iR:(H:Type)->List (DataW H)->Nat):Prop where
 str:∀H bs,bk H (.lit (.string bs))=bs.length+1
 sl:∀H a b,bk H (.slice a b)=iR H a+iR H b+1
 agg:∀H a,bk H (.agg a)=iR H a+1
 nil:∀H,iR H []=0
 cons:∀H d r,iR H (d::r)=bk H d+iR H r
 one:∀H d,1<=bk H d
def xo(g:(t:Ty)->t.den->Nat):(ts:List Ty)->(aT ts).den->Nat
 | [],_=>0
 | [t],x=>g t x
 |t::u::ts,x=>g t x.1+xo g (u::ts) x.2
def bT:Nat->(t:Ty)->t.den->Nat
 |0,_,_=>0
 |f+1,.list t,xs=>(List.map (λx=>bT f t x) xs).sum+1
 |f+1,.st i,x=>xo (λt x=>bT f t x) (aD.bU i) (aD.un i x)+1
 |_+1,.str,s=>ByteArray.size s+1
 |_+1,_,_=>1
def zf(g:(t:Ty)->t.den->Prop):(ts:List Ty)->(aT ts).den->Prop
 | [],_=>True
 | [t],x=>g t x
 |t::u::ts,x=>g t x.1/\zf g (u::ts) x.2
def ff:Nat->(t:Ty)->t.den->Prop
 |0,_,_=>True
 |f+1,.list t,xs=>∀x∈(show List t.den from xs),ff f t x
 |f+1,.st i,x=>zf (λt x=>ff f t x) (aD.bU i) (aD.un i x)
 |_+1,.int k,n=>(Lit.int k n).wf=true
 |_+1,_,_=>True
def rl(P:Program)(g:TypeId->Ty->Bool)(j:Nat):List Field->List Ty->Nat->Bool
 | [],[],off=>Nat.beq off j
 |fd::fs,u::us,off=>Nat.beq fd.offset off&&Nat.beq (P.cellsOf fd.type) u.size&&g fd.type u&&rl P g j fs us (off+u.size)
 |_,_,_=>false
def oq(P:Program):Nat->TypeId->Ty->Bool
 |0,_,_=>false
 |f+1,ty,t=>match t,P.underlying ty with
  |.int k,some (.int j)=>decide (k=j)
  |.bool,some .bool=>true
  |.str,some .string=>true
  |.list u,some (.slice e)=>Nat.beq (P.cellsOf e) u.size&&Nat.ble 1 u.size&&dG u&&oq P f e u
  |.st i,some (.struct fs)=>rl P (oq P f) (P.cellsOf ty) fs.toList (aD.bU i) 0
  |_,_=>false
def xy[bd](P:Program)(bk:(H:Type)->DataW H->Nat)(f:Nat)(ty:TypeId)(t:Ty):Prop:=
 ∀(H:Type)(en:TypeId×Value->H)(w:World)(base:Nat)(k:Nat->Bool)(held:Bool)(j:Nat)(cs:List Value)(x:DataW H×List MemPlace),
  DataW.trod en P w base k held j ty cs=some x->∃a:t.den,bT f t a<=bk H x.1/\ff f t a/\Cells (allI w) cs (t.enc a).cells
theorem NL{bk:(H:Type)->DataW H->Nat}{iR:(H:Type)->List (DataW H)->Nat}(j:sd bk iR){α H:Type}{g:α->Nat}:∀{l:List α}{ds:List (DataW H)},ds.length=l.length->(∀(i:Nat) y d,l[i]?=some y->ds[i]?=some d->g y<=bk H d)->(l.map g).sum<=iR H ds
 | [],ds,_,_=>j5 _
 |y::l,[],h,_=>by simp at h
 |y::l,d::ds,h,k=>by
  rw[fv,List.sum_cons,j.cons]
  have G:=k 0 y d rfl rfl
  have M:=NL j (l:=l) (ds:=ds) (g:=g) (by simpa using h) λi y d F B=>k (i+1) y d (by simpa using F) (by simpa using B)
  omega
variable [cz][c9][bd]
section
variable {P:Program}{bk:(H:Type)->DataW H->Nat}{iR:(H:Type)->List (DataW H)->Nat}
def Lt(Z:sd bk iR){f:Nat}{ad:Nat}(aa:∀ty t,oq P f ty t=true->xy P bk f ty t){H:Type}{en:TypeId×Value->H}{w:World}{base:Nat}{ab:Nat->Bool}{held:Bool}{n:Nat}{cs:List Value}(ai:cs.length=ad):∀(fs:List Field)(j:List Ty)(off:Nat)(xs:List (DataW H×List MemPlace)),rl P (oq P f) ad fs j off=true->xs.length=fs.length ->
  (∀(i:Nat) fd,fs[i]?=some fd->DataW.trod en P w base ab held n fd.type ((cs.drop fd.offset).take (P.cellsOf fd.type))=xs[i]?) ->
  ∃a:(aT j).den,xo (λt x=>bT f t x) j a<=iR H (xs.map (·.1))/\zf (λt x=>ff f t x) j a/\Cells (allI w) (cs.drop off) (cellsOf j a)
 | [],[],off,xs,h,F,B=>by
  simp only[rl]at h
  have:=et h
  exact⟨(),j5 _,trivial,Sg _ (by omega)⟩
 |fd::fs,[],off,xs,h,F,B=>by simp[rl]at h
 | [],_::_,off,xs,h,F,B=>by simp[rl]at h
 |fd::fs,u::j,off,[],h,F,B=>by simp at F
 |fd::fs,u::j,off,x::xs,h,F,B=>by
  simp only[rl,dd]at h
  obtain⟨⟨⟨N,O⟩,ag⟩,ah⟩:=h
  have N:=et N
  have O:=et O
  have Y:=B 0 fd rfl
  rw[N,O]at Y
  obtain⟨a,aj,U,ae⟩:=aa _ _ ag H en w base ab held n _ x Y
  obtain⟨b,M,G,af⟩:=Lt Z aa ai fs j (off+u.size) xs ah (by simpa using F) λi fd hi=>by
   have:=B (i+1) fd (by simpa using hi)
   simpa using this
  have k:=Sf ae af
  rw[fv,Z.cons]
  match j,b,M,G,k with
  | [],b,M,G,k=>
   refine⟨a,?_,U,?_⟩
   ·show bT f u a<=_
    omega
   have e:(u.enc a).cells++cellsOf [] b=(u.enc a).cells:=nb _
   rw[e]at k;exact k
  |v::j,b,M,G,k=>
   refine⟨(a,b),?_,⟨U,G⟩,k⟩
   show bT f u a+xo (λt x=>bT f t x) (v::j) b<=_
   omega
def WI(ad:sd bk iR){f:Nat}{ty e:TypeId}{u:Ty}(ht:P.underlying ty=some (.slice e))(aF:P.cellsOf e=u.size)(ak:1<=u.size)(av:isVal u)(aD:xy P bk f e u):xy P bk (f+1) ty (.list u):=by
 intro H en w base aK held aM cs x h
 have af:∀y:u.den,(u.enc y).cells.length=u.size:=λy=>jT av y
 rcases Go.Deep.open_slice ht h with ⟨rfl,rfl⟩| ⟨a,len,ax,m,n,D0,Pl,rfl,_,aB,ar,aC,aH,hi⟩
 ·exact⟨([]:List u.den),ad.one _ _,(λx Y=>by cases Y),cells_one rfl (.jK _ _ _ (j5 _))⟩
 have aN:len<=m:=by rw[aC];split<;>omega
 rcases tl len with h0|h0
 ·subst h0
  exact⟨([]:List u.den),ad.one _ _,(λx Y=>by cases Y),cells_one rfl (.jK _ _ _ ar)⟩
 have ao:∀i,i<len->∃(y:u.den)(M:List Value),(bT f u y<=bk H (D0 i)/\ff f u y)/\(∀j,j<u.size->w.cell? (a.add (i*u.size+j))=M[j]?)/\M.length=u.size/\Cells (allI w) M (u.enc y).cells:=λi ae=>by
  obtain⟨M,an,aG⟩:=hi i (by omega)
  obtain⟨y,G,aI,aj⟩:=aD H en w base aK held n M _ aG
  rw[aF]at an
  obtain⟨_,ai,aa⟩:=World.cells?_some an
  exact⟨y,M,⟨G,aI⟩,λj O=>by rw[<-aa j O,Go.Deep.add_add],ai,aj⟩
 obtain⟨b,off,aL⟩:=a
 have aE:aL=none:=by
  obtain⟨y,M,_,aa,ai,_⟩:=ao 0 h0
  have N:=aa 0 ak
  rw[c4 (by omega)]at N
  simpa [Addr.add]using World.cell?_spot N
 subst aE
 have ay:∀k,k<=len->∃l:List u.den,l.length=k/\(∀(i:Nat) y,l[i]?=some y->bT f u y<=bk H (D0 i)/\ff f u y)/\∀(i:Nat)(y:u.den),l[i]?=some y->∀j,j<u.size->∃v d,w.cell? ⟨b,off+(i*u.size+j),none⟩=some v/\(u.enc y).cells[j]?=some d/\Rd (allI w) v d:=by
  intro k
  induction k with
  |zero=>exact λ_=>⟨[],rfl,by simp,by simp⟩
  |succ k aJ=>
   intro U
   obtain⟨l,N,ab,ah⟩:=aJ (by omega)
   obtain⟨y,M,G,aa,ai,aj⟩:=ao k (by omega)
   have au:∀(i:Nat)(z:u.den),(l++[y])[i]?=some z->l[i]?=some z\/(i=k/\z=y):=λi z B=>by
    by_cases ae:i<l.length
    ·rw[e3 ae]at B;exact .inl B
    rw[hJ (by omega)]at B
    have aA:i=k:=by
     have:=(da.1 B).1
     simp at this;omega
    subst aA
    rw[N]at B
    simp at B
    exact .inr ⟨rfl,B.symm⟩
   refine⟨l++[y],by simp[N],λi z B=>?_,λi z B j O=>?_⟩
   ·rcases au i z B with B| ⟨rfl,rfl⟩
    ·exact ab i z B
    exact G
   rcases au i z B with B| ⟨rfl,rfl⟩
   ·exact ah i z B j O
   have aw:M[j]?=some (M[j]'(by omega)):=c4 (by omega)
   have F:(u.enc z).cells[j]?=some ((u.enc z).cells[j]'(by rw[af];exact O)):=c4 _
   refine⟨_,_,?_,F,aj.2.2 j _ _ aw F⟩
   have:=aa j O
   rw[aw,OF]at this
   exact this
 obtain⟨l,N,ab,ah⟩:=ay len (eb _)
 refine⟨l,?_,λy G=>?_,cells_one rfl ?_⟩
 ·rw[aH]
  show(l.map λx=>bT f u x).sum+1<=bk H (.slice _ _)
  rw[ad.sl]
  have:=NL ad (g:=λx=>bT f u x) (l:=l) (ds:=(List.range len).map D0) (by simp[N]) λi y d G F=>by
   have ae:i<len:=by rw[<-N];exact(da.1 G).1
   rw[e0,kz ae]at F
   injection F with F;subst F
   exact(ab i y G).1
  omega
 ·obtain⟨i,hi⟩:=vc G
  exact(ab i y hi).2
 show Rd (allI w) _ (.slice u.size (List.map u.enc l))
 have az:(flat (l.map u.enc)).length=len*u.size:=by
  rw[gQ (l.map u.enc) (size:=u.size) λd F=>by obtain⟨y,_,rfl⟩:=hz.1 F;exact af y]
  simp[N]
 have aq:∀k,k<len*u.size->∃v d,w.cell? ⟨b,off+k,none⟩=some v/\(flat (l.map u.enc))[k]?=some d/\Rd (allI w) v d:=λk U=>by
  have hi:k/u.size<len:=(rb ak).2 U
  have O:k%u.size<u.size:=rv _ ak
  have G:l[k/u.size]?=some (l[k/u.size]'(by omega)):=c4 (by omega)
  obtain⟨v,d,Z,ag,al⟩:=ah _ _ G _ O
  refine⟨v,d,?_,?_,al⟩
  ·rw[oo,vx]at Z;exact Z
  rw[show k=k/u.size*u.size+k%u.size by rw[oo];exact(vx k u.size).symm]
  rw[flat_get (l.map u.enc) (λd F=>by obtain⟨y,_,rfl⟩:=hz.1 F;exact af y) _ _ (u.enc (l[k/u.size]'(by omega))) (by rw[e0,G];rfl) O]
  exact ag
 refine .slice b off len ax u.size _ (λk=>(w.cell? ⟨b,off+k,none⟩).getD undef) (by simp[N]) aB ar (λd F=>?_) (λk U=>?_) (λk x Y=>?_)
 ·obtain⟨y,_,rfl⟩:=hz.1 F
  exact⟨af y,uV av y⟩
 ·obtain⟨v,d,Z,_,_⟩:=aq k U
  show w.cell? ⟨b,off+k,none⟩=_
  simp[Z]
 have U:k<len*u.size:=by rw[<-az];exact(da.1 Y).1
 obtain⟨v,d,Z,ag,al⟩:=aq k U
 rw[Y]at ag;cases ag
 simpa [Z]using al
def ED(B:sd bk iR):∀(f:Nat)(ty:TypeId)(t:Ty),oq P f ty t=true->xy P bk f ty t
 |0,_,_,h=>by cases h
 |f+1,ty,t,h=>by
  simp only[oq]at h
  split at h
  ·rename_i k ae j
   have:=hD h
   subst this
   intro H en w base G held F cs x h
   obtain⟨n,rfl,_,Y⟩:=DataW.trod_int j h
   exact⟨n,B.one _ _,Y,cells_one rfl (.int _ _)⟩
  ·rename_i j
   intro H en w base G held F cs x h
   obtain⟨n,rfl,_⟩:=DataW.trod_bool j h
   exact⟨n,B.one _ _,trivial,cells_one rfl (.bool _)⟩
  ·rename_i j
   intro H en w base G held F cs x h
   obtain⟨s,rfl,rfl,ad⟩:=DataW.trod_string j h
   refine⟨s,?_,trivial,cells_one rfl (.str _)⟩
   show ByteArray.size s+1<=bk H (.lit (.string _))
   rw[B.str]
   exact Nat.le_of_eq rfl
  ·rename_i u e j
   simp only[dd]at h
   exact WI B j (et h.1.1.1) (hG h.1.1.2) (cE h.1.2) (ED B f e u h.2)
  ·rename_i i fs j
   intro H en w base G held F cs x Z
   obtain⟨xs,n,_,rfl,U,aa,O⟩:=DataW.trod_struct j Z
   obtain⟨a,ab,N,M⟩:=Lt B (λty t=>ED B f ty t) U fs.toList (aD.bU i) 0 xs h (by simpa using aa) λi fd hi=>O i fd (by simpa using hi)
   rw[r2]at M
   refine⟨aD.ew i a,?_,?_,?_⟩
   ·show xo _ (aD.bU i) (aD.un i (aD.ew i a))+1<=bk H (.agg _)
    rw[aD.oJ,B.agg];omega
   ·show zf _ (aD.bU i) (aD.un i (aD.ew i a))
    rw[aD.oJ];exact N
   show Cells (allI w) cs (aD.cells i (aD.ew i a))
   rw[cz.cells,aD.oJ];exact M
  cases h
variable {H:Type}{en:TypeId×Value->H}{W:World}{base:Nat}{sp:Nat->Bool}{held:Bool}{v:Value}{d:DataW H}{ps:List MemPlace}
theorem oT(aa:sd bk iR){f:Nat}{ty:TypeId}{t:Ty}(j:oq P f ty t=true)(F:dG t=true){r:Reach}{b:Nat}(M:Value.okWide P W r b ty v)(h:DataW.Trod en P W base sp held ty v d ps):∃a:t.den,bT f t a<=bk H d/\ff f t a/\Rd (allI W) v (t.enc a):=by
 obtain⟨Y,ae⟩:=h
 obtain⟨a,N,O,k⟩:=ED aa f ty t j H en W base sp held Y _ _ ae
 refine⟨a,N,O,?_⟩
 cases f with
 |zero=>cases j
 |succ f=>
  by_cases B:cd t=true
  ·obtain⟨i,rfl⟩:∃i,t = .st i:=by cases t<;>simp[cd]at B;exact⟨_,rfl⟩
   simp only[oq]at j
   split at j<;>first|contradiction|skip
   rename_i aj fs ai ag
   obtain⟨cs,rfl,_⟩:=okWide_struct ag M
   show Rd (allI W) _ (.agg (aD.cells i a))
   have Z:cs.toList.length=(aD.cells i a).length:=k.1
   exact .agg cs _ (by simpa using Z) k.2.1 λi v d F ad=>k.2.2 i v d (by simpa [Value.cells]using F) ad
  have B:cd t=false:=by simpa using B
  have G:=cE F
  obtain⟨U,ah⟩:=kJ B G.1 G.2 a
  rw[U]at k
  have af:∀cs,v ≠ .agg cs:=by
   refine Wg M ?_
   simp only[oq]at j
   split at j<;>simp_all [cd]
  have ab:v.cells.toList=[v]:=by cases v<;>first|rfl|exact absurd rfl (af _)
  rw[ab]at k
  exact k.2.2 0 _ _ rfl rfl
end
end Go.Sy
namespace Go.ag
open Go Go.RowKit bG Go.Proofs Go.Sort
variable [bd]
def VN(w:World)(b:Nat)(f:Array Value->Array Value)(cur:Array Value)(e:TypeId)(B:Nat×Nat)(h:w.heap[b]?=some (.cells cur e B)):mapBlock w b f=w.setRow b (f cur):=by
 unfold mapBlock World.setRow
 congr 1
 apply Array.ext_getElem?
 intro k
 simp only[p1]
 by_cases j:b=k
 ·subst j;simp[h,onCells]
 simp[j]
def Xr(F cur:Array Value)(k:F.size<=cur.size):(putCells (λv=>v) 0 F cur).toList=F.toList++cur.toList.drop F.size:=by
 apply ie
 intro i
 have j:(putCells (λv=>v) 0 F cur).toList[i]?=(cur[i]?).map λx=>if i<F.size then F[i]! else x:=by
  rw[kd]
  unfold putCells
  rw[Array.getElem?_mapIdx]
  simp
 rw[j,hK]
 by_cases hi:i<F.size
 ·have:i<cur.size:=by omega
  simp[hi,this]
 simp[hi,k4,show F.size+(i-F.size)=i by omega]
def T5{α:Type}[Inhabited α](venc:α->List Value)(k:Nat)(j:∀x,(venc x).length=k)(d:Array α):(flatK venc k d).toList=d.toList.flatMap venc:=by
 apply ie
 intro i
 have U:∀(l:List α)(i:Nat),(l.flatMap venc)[i]?=(l[i/k]?).bind λx=>(venc x)[i%k]?:=by
  intro l
  induction l with
  |nil=>intro i;simp
  |cons x l Z=>
   intro i
   rw[h8,hK,j]
   by_cases hi:i<k
   ·rw[if_pos hi,Nat.div_eq_of_lt hi,Nat.mod_eq_of_lt hi];simp
   rw[if_neg hi,Z]
   have hk:0<k\/k=0:=by omega
   rcases hk with hk|hk
   ·have N:i/k=(i-k)/k+1:=by rw[Nat.div_eq_sub_div hk (by omega)]
    have O:i%k=(i-k)%k:=by rw[Nat.mod_eq_sub_mod (by omega)]
    rw[N,O];simp
   subst hk
   have B:∀y:α,venc y=[]:=λy=>kb (j y)
   simp[B]
 rw[U]
 have Y:(flatK venc k d).toList.length=d.size*k:=by simp
 by_cases hi:i<d.size*k
 ·have hk:0<k:=by
             rcases tl k with h|h;· subst h;simp at hi
             exact h
  have F:i/k<d.size:=(rb hk).2 hi
  have M:i%k<k:=rv _ hk
  have G:=get_flatK venc k d i hi
  rw[kd,e8 (by simpa using hi),kd,e8 F]
  rw[sa _ i (by simpa using hi),sa d _ F]at G
  rw[G]
  simp only[Option.bind_some]
  rw[sa _ _ (by rw[j];exact M),c4 (by rw[j];exact M)]
 rw[hS (by rw[Y];omega)]
 rcases tl k with h|h
 ·subst h
  have B:∀y:α,venc y=[]:=λy=>kb (j y)
  cases d.toList[i/0]?<;>simp[B]
 rw[hS (by rw[Array.length_toList];exact(Nat.le_div_iff_mul_le h).2 (by omega))];rfl
section
variable {P:Program}{V:Env}{w0 w:World}{I0 I:av}{m:Nat->Value}{l:List AO}{α:Type}[Inhabited α]
def aE.grown(h:aE w0 I0 w I m l)(q:Nat)(M:Array Obj):aE w0 I0 (grow (w.drewN q) M) I m l/\Le I m l I m l:=by
 have B:∀k,k<w.heap.size->(grow (w.drewN q) M).heap[k]?=w.heap[k]?:=λk F=>by simp[grow,Array.getElem?_append,F]
 refine h.call ⟨rfl,rfl,rfl,by simp[grow],λk F=>B k F,λ_=>by simp[grow,World.drewN]⟩ (fi.refl _ _) ⟨λb o v j=>?_,λb N j=>?_,λb G=>(B b (h.sat.j7 G)).trans (h.sat.df b G),h.sat.c7⟩
 ·exact(na (w:=w) (a:=⟨b,o,none⟩) (B b (h.sat.lt j))).trans (h.sat.cell b o v j)
 have O:=h.sat.mp b N j
 exact dL.to (B b (h.sat.mR j)) O
def aE.sorted(ah:aE w0 I0 w I m l){id b c e size:Nat}{els:List D}{ys:List α}{venc:α->List Value}{denc:α->D}(ag:l[id]?=some (.row e size els))(ae:m id = .slice (some ⟨b,0,none⟩) els.length c)(F:ys.length=els.length)(ai:∀x,(venc x).length=size)(ab:∀x,(denc x).cells.length=size/\∀y∈(denc x).cells,y.one=true)(aH:∀x(j:Nat) u y,(venc x)[j]?=some u->(denc x).cells[j]?=some y->Rd I u y)(q:Nat)(M:Array Obj) :
  Le I m l I m (l.set id (.row e size (ys.map denc)))/\aE w0 I0 (sortWorldK venc size w b 0 q ys.toArray M) I m (l.set id (.row e size (ys.map denc))):=by
 obtain⟨xs,ak,aN,aO,aP⟩:=ah.obj id _ ag
 rw[ae]at ak
 obtain⟨aM,ay⟩:=ak
 rcases ay with ⟨U,_⟩| ⟨g,aJ,cur,U,aw,O,af,ax,aa,aK⟩
 ·cases U
 injection U with G aL aG
 injection G with G;injection G with G;subst G;subst aG
 have N:(flatK venc size ys.toArray).size=els.length*size:=by simp[F]
 have Y:(flatK venc size ys.toArray).toList=ys.flatMap venc:=by rw[T5 venc size ai]
 have aC:els.length*size<=cur.size:=by rw[aa];exact k0 _ af
 have Z:=Xr (flatK venc size ys.toArray) cur (by rw[N];exact aC)
 have aj:sortWorldK venc size w b 0 q ys.toArray M=grow ((w.setRow b (putCells (λv=>v) 0 (flatK venc size ys.toArray) cur)).drewN q) M:=by
  unfold sortWorldK putRowK putRow
  have aB:(Sort.ahead w q).heap[b]?=some (.cells cur e (0,0)):=O
  rw[VN _ b _ cur e (0,0) aB]
  rfl
 generalize aD:putCells (λv=>v) 0 (flatK venc size ys.toArray) cur=new at Z aj
 have aF:new.size=cur.size:=by rw[<-aD];simp[putCells]
 have aA:flat (ys.map denc)=ys.flatMap λx=>(denc x).cells:=by simp[flat,ta]
 have al:(ys.flatMap venc).length=(ys.map denc).length*size:=by rw[<-Y,Array.length_toList,N,hM,F]
 have an:new.toList.take ((ys.map denc).length*size)=ys.flatMap venc:=by
  rw[Z,hM,F,<-N,J5 (by rw[Array.length_toList];exact eb _),lA (by rw[Array.length_toList];exact eb _),Y]
 have ao:∀d∈ys.map denc,d.cells.length=size/\∀x∈d.cells,x.one=true:=by
  intro d az
  obtain⟨x,_,rfl⟩:=hz.1 az
  exact ab x
 have aq:∀(j:Nat) u y,(ys.flatMap venc)[j]?=some u->(flat (ys.map denc))[j]?=some y->Rd I u y:=by
  intro j u y k B
  rw[aA]at B
  have key:∀(zs:List α)(j:Nat),(zs.flatMap venc)[j]?=some u->(zs.flatMap λx=>(denc x).cells)[j]?=some y->Rd I u y:=by
   intro zs
   induction zs with
   |nil=>intro j k;simp at k
   |cons z zs aI=>
    intro j k B
    rw[h8,hK,ai]at k
    rw[h8,hK,(ab z).1]at B
    by_cases ad:j<size
    ·rw[if_pos ad]at k B;exact aH z j u y k B
    rw[if_neg ad]at k B;exact aI _ k B
  exact key ys j k B
 obtain⟨ar,au⟩:=ah.Bs (n:=els.length) (c:=c) (cur:=cur) (new:=new) (xs:=ys.flatMap venc) (els':=ys.map denc) ag ae O ⟨al,.inr ⟨b,c,new,by simp[F],aw,aba w b cur new e (0,0) O,by simpa [F]using af,ax,by rw[aF,aa],an⟩⟩ ao aq
 obtain⟨av,_⟩:=au.grown q M
 rw[aj]
 exact⟨ar,av⟩
def Ut(Z:bd.on){w w':World}(h:dz w.heap.size w w'):∃q O,w'=grow (w.drewN q) O:=by
 refine⟨w'.drawn-w.drawn,w'.heap.extract w.heap.size w'.heap.size,?_⟩
 obtain⟨Y,ae,aa,O,ad⟩:=w'
 obtain⟨B,F,G,U,M,j⟩:=h
 have j:=j Z
 simp only at B F G U M j
 subst B;subst F;subst G
 unfold grow World.drewN
 simp only
 congr 1
 ·apply Array.ext_getElem?
  intro k
  rw[Array.getElem?_append]
  split
  ·rename_i N;exact M k N
  rename_i N
  simp only[Array.getElem?_extract]
  by_cases ab:k<Y.size
  ·have:w.heap.size+(k-w.heap.size)=k:=by omega
   rw[this];simp;omega
  rw[Array.getElem?_eq_none (by omega)];simp;omega
 omega
end
end Go.ag
namespace Go.ag
open Go Go.RowKit bG Go.Proofs Go.Sort
variable [bd]
section
variable {P:Program}{V:Env}{w0 w:World}{I0 I:av}{m:Nat->Value}{l:List AO}{α:Type}[Inhabited α]
theorem Iq(aa:bd.on){P:Program}{g k:Nat}{venc:α->List Value}{denc:α->D}{cf:α->α->Int}{caps:List D}(O:∀x y,eO P g ([denc x,denc y]++caps) (.int .i64 (cf x y)))(M:∀I x,Rd I (.agg (venc x).toArray) (denc x)){jt off size:Nat}{w:World}{I:av}{vs:Array Value}(Y:vs.size=caps.length)(U:∀(i:Nat) v d,vs[i]?=some v->caps[i]?=some d->Rd I v d)(af:∀(mm:Nat)(G:Array Obj)(B:Array α),B.size=size->c8 (sortWorldK venc k w jt off mm B G) I):CmpLays P g vs venc k cf jt off size w:=by
 intro mm G B ae x y
 have ag:(#[Value.agg (venc x).toArray,Value.agg (venc y).toArray]++vs).size=([denc x,denc y]++caps).length:=by
  rw[Array.size_append,e4,Y];rfl
 have ad:∀(i:Nat) v d,(#[Value.agg (venc x).toArray,Value.agg (venc y).toArray]++vs)[i]?=some v->([denc x,denc y]++caps)[i]?=some d->Rd I v d:=by
  intro i v d j F
  rcases i with _|_|i
  ·rw[j0 (by simp)]at j
   simp at j F;subst j;subst F;exact M I x
  ·rw[j0 (by simp)]at j
   simp at j F;subst j;subst F;exact M I y
  rw[q5 (by simp)]at j
  exact U i v d (by simpa using j) (by simpa using F)
 have h:=O x y (sortWorldK venc k w jt off mm B G) I (#[Value.agg (venc x).toArray,Value.agg (venc y).toArray]++vs) (af mm G B ae) ag ad
 refine h.mono ?_
 rintro e w' ⟨v,J,Z,N,_,_,ab⟩
 cases ab
 exact⟨Z,Ut aa N⟩
theorem Ns{P:Program}{g:Nat}{fd:D}{e size:Nat}{venc:α->List Value}{denc:α->D}{S:Array α->Array α}(ay:∀d,(S d).size=d.size)(aN:∀(b c:Nat)(d:Array α)(w:World)(I:av)(Y:Value),HoldsK venc size w b 0 d->b<w.heap.size->d.size<4611686018427387904->Rd I Y fd->(∀(mm:Nat)(G:Array Obj)(U:Array α),U.size=d.size->c8 (sortWorldK venc size w b 0 mm U G) I)->Calls P g #[.slice (some ⟨b,0,none⟩) d.size c,Y] w λe w'=>e = .returned (.tuple #[])/\∃n G,w'=sortWorldK venc size w b 0 n (S d) G)(aW:∀(p:Option Addr)(c:Nat)(Y:Value)(w:World),Calls P g #[.slice p 0 c,Y] w λe w'=>e = .returned (.tuple #[])/\w'=w)(ad:∀x,(venc x).length=size)(ag:∀x,(denc x).cells.length=size/\∀y∈(denc x).cells,y.one=true)(aA:∀(I:av) x (j:Nat) u y,(venc x)[j]?=some u->(denc x).cells[j]?=some y->Rd I u y)(aR:∀(I:av) x (j:Nat) u y,(denc x).cells[j]?=some y->Rd I u y->(venc x)[j]?=some u){l:List AO}{id:Nat}{xs:List α}(M:l[id]?=some (.row e size (xs.map denc)))(a6:xs.length<4611686018427387904) :
  sf P g [.row id,.d fd] l (.d (.aJ [])) (l.set id (.row e size ((S xs.toArray).toList.map denc))):=by
 intro w0 I0 w I m ax ab aZ az
 obtain⟨O,ae,rfl⟩:∃O ae,ax = #[O,ae]:=by
  match ax,aZ with
  | ⟨[a,b]⟩,_=>exact⟨a,b,rfl⟩
 have aG:=az 0 O (.row id) rfl rfl
 have af:=cm (az 1 ae (.d fd) rfl rfl)
 obtain⟨ys,aC,ba,bb,bl⟩:=ab.obj id _ M
 obtain⟨A,n,c,ao,al⟩:∃A n c,O = .slice A n c/\m id=O:=by
  cases aG with
  |row A n c _ bm bc=>exact⟨A,n,c,rfl,bc (by simp[isRow,M,AO.isRow])⟩
 rw[al,ao]at aC
 obtain⟨a7,aL⟩:=aC
 have aS:id<l.length:=(da.1 M).1
 rcases aL with ⟨an,aV⟩| ⟨b,bd,cur,an,bf,ak,bj,bg,bh,a1⟩
 ·injection an with ar au aw;subst ar;subst au;subst aw
  have a8:xs=[]:=by simpa using aV
  subst a8
  subst ao
  refine(aW none 0 _ w).mono ?_
  rintro aD w' ⟨ai,aq⟩
  subst aq
  have aK:(S ([]:List α).toArray).toList=[]:=by have:=ay ([]:List α).toArray;exact kb (by rw[Array.length_toList,this];rfl)
  have aY:l.set id (.row e size ((S ([]:List α).toArray).toList.map denc))=l:=by
   rw[aK]
   apply ie
   intro k
   rw[e5]
   by_cases N:id=k
   ·subst N;rw[if_pos rfl,if_pos aS,M]
   rw[if_neg N]
  rw[aY]
  exact⟨_,ai,I,m,.refl ..,ab,.d _ _ (.aJ #[] [] rfl (λi v d h=>by simp at h))⟩
 injection an with ar au aw;subst ar;subst au;subst aw
 subst ao
 have Z:(xs.map denc).length=xs.toArray.size:=by simp
 have aM:∀j,j<xs.toArray.size*size->∃u,cur[j]?=some u/\ys[j]?=some u/\(flatK venc size xs.toArray)[j]! = u:=by
  intro j F
  have aT:j<ys.length:=by rw[a7,Z];exact F
  obtain⟨z,B⟩:∃z,ys[j]?=some z:=⟨_,c4 aT⟩
  have aO:cur[j]?=some z:=by
   have B:=B
   rw[<-a1,hg]at B
   split at B
   ·simpa using B
   cases B
  refine⟨_,aO,B,?_⟩
  have N:0<size:=by
               rcases tl size with h|h;· subst h;simp at F
               exact h
  have ah:j/size<xs.toArray.size:=(rb N).2 F
  have aa:j%size<size:=rv _ N
  rw[get_flatK venc size xs.toArray j F]
  have aj:=flat_get (xs.map denc) (λd aQ=>(ba d aQ).1) (j/size) (j%size) (denc xs[j/size]) (by rw[e0,c4 (by simpa using ah)];rfl) aa
  rw[oo,vx]at aj
  obtain⟨y,aB⟩:∃y,(denc xs[j/size]).cells[j%size]?=some y:=⟨_,c4 (by rw[(ag (xs[j/size]'(by simpa using ah))).1];exact aa)⟩
  rw[aB]at aj
  have aX:=bb j _ y B aj
  have:=aR I _ _ _ _ aB aX
  rw[sa xs.toArray _ ah,sa _ _ (by rw[ad];exact aa)]
  rw[c4 (by rw[ad];exact aa)]at this
  simpa using this
 have aI:HoldsK venc size w b 0 xs.toArray:=by
  intro j F
  rw[size_flatK]at F
  obtain⟨u,af,_,aH⟩:=aM j F
  rw[aH]
  refine⟨?_,?_⟩
  ·simp[World.cell?,ak,af]
  simp[World.frozen?,ak]
 have aU:b<w.heap.size:=(e7.1 ak).1
 rw[Z]
 refine(aN b c xs.toArray w I ae aI aU (by simpa using a6) af (λmm G U aP=>(ab.sorted (ys:=U.toList) (venc:=venc) (denc:=denc) M (by rw[al]) (by rw[Array.length_toList,aP,Z]) ad ag (λx j u y=>aA I x j u y) mm G).2.sat)).mono ?_
 rintro aD w' ⟨ai,q,G,aq⟩
 obtain⟨aE,aF⟩:=ab.sorted (ys:=(S xs.toArray).toList) (venc:=venc) (denc:=denc) M (by rw[al]) (by rw[Array.length_toList,ay,Z]) ad ag (λx j u y=>aA I x j u y) q G
 refine⟨_,ai,I,m,aE,?_,.d _ _ (.aJ #[] [] rfl (λi v d h=>by simp at h))⟩
 rw[aq];simpa using aF
end
end Go.ag
namespace Go.ag
open Go Go.RowKit bG Go.Proofs Go.Sort
def vD:D->Value
 |.int k n=>.int k n
 |.bool b=>.bool b
 |.str s=>.string s
 |_=>undef
def oD:D->Bool
 |.int .. =>true
 |.bool _=>true
 |.str _=>true
 |_=>false
def Og(I:av){y:D}(h:oD y=true):Rd I (vD y) y:=by cases y<;>simp[oD]at h<;>constructor
def aaD{I:av}{u:Value}{y:D}(h:oD y=true)(r:Rd I u y):u=vD y:=by cases y<;>simp[oD]at h<;>cases r<;>rfl
section
variable {α:Type}[bG α]
def gq(x:α):List Value:=(enc x:D).cells.map vD
structure Flat(α:Type)[bG α](k:Nat):Prop where
 agg:∀x:α,(enc x:D) = .agg (enc x:D).cells
 len:∀x:α,(enc x:D).cells.length=k
 sc:∀(x:α),∀y∈(enc x:D).cells,oD y=true
def FZ{y:D}(h:oD y=true):y.one=true:=by cases y<;>simp[oD]at h<;>rfl
def Flat.rd{k:Nat}(F:Flat α k)(I:av)(x:α):Rd I (.agg (gq x).toArray) (enc x):=by
 rw[F.agg x]
 refine .agg _ _ (by simp[gq,D.cells]) (λd B=>FZ (F.sc x d B)) λi v d j B=>?_
 simp only[gq,F0,e0]at j
 have G:(enc x:D).cells[i]?=some d:=B
 rw[G]at j
 simp at j;subst j
 exact Og I (F.sc x d (dn G))
def Flat.vd{k:Nat}(F:Flat α k)(I:av)(x:α)(j:Nat)(u:Value)(y:D)(B:(gq x)[j]?=some u)(G:(enc x:D).cells[j]?=some y):Rd I u y:=by
 simp only[gq,e0,G]at B
 simp at B;subst B
 exact Og I (F.sc x y (dn G))
def Flat.dv{k:Nat}(F:Flat α k)(I:av)(x:α)(j:Nat)(u:Value)(y:D)(B:(enc x:D).cells[j]?=some y)(G:Rd I u y):(gq x)[j]?=some u:=by
 simp only[gq,e0,B]
 rw[aaD (F.sc x y (dn B)) G];rfl
end
section
variable {α:Type}
def fX(cf:α->α->Int)(l:List α):List α:=l.mergeSort λa b=>!decide (cf b a<0)
def jM(cf:α->α->Int)(l:List α):(fX cf l).Perm l:=vt _ _
def lt_iff(cf:α->α->Int)(a b:α):ltOf cf a b=true↔cf a b<0:=by simp[ltOf]
def yS(cf:α->α->Int)(a b:α):ltOf cf a b=false↔¬cf a b<0:=by simp[ltOf]
def nq{cf:α->α->Int}(h:SWO (ltOf cf))(l:List α):(fX cf l).Pairwise λa b=>¬cf b a<0:=by
 have:=List.pairwise_mergeSort (le:=λa b=>!decide (cf b a<0)) (λa b c F j=>by
  simp only[hC,hV]at *
  exact(yS cf _ _).1 (h.ntrans _ _ _ ((yS cf _ _).2 j) ((yS cf _ _).2 F))) (λa b=>by
  simp only[h6,hC,hV]
  by_cases B:cf b a<0
  ·right;intro j
   have k:=h.trans _ _ _ ((lt_iff cf _ _).2 j) ((lt_iff cf _ _).2 B)
   rw[h.irrefl]at k;cases k
  left;exact B) l
 exact this.imp λh=>by simpa using h
def gr(cf:α->α->Int)(l:List α):Prop:=∀a∈l,∀b∈l,¬cf a b<0->¬cf b a<0->a=b
def xb{cf:α->α->Int}{l m:List α}(N:l.Pairwise λa b=>¬cf b a<0)(O:m.Pairwise λa b=>¬cf b a<0)(j:l.Perm m)(M:gr cf l):l=m:=
 List.Perm.eq_of_pairwise (le:=λa b=>¬cf b a<0) (λa b k B F G=>M a k b (j.symm.subset B) G F) N O j
def gr.perm{cf:α->α->Int}{l m:List α}(h:gr cf l)(j:l.Perm m):gr cf m:=λa k b B=>h a (j.symm.subset k) b (j.symm.subset B)
section
variable {ok:α->Prop}[Inhabited {x:α // ok x}]
def nF(ok:α->Prop)(cf:α->α->Int)(a b:{x:α // ok x}):Int:=cf a.1 b.1
def Bi{cf:α->α->Int}(h:SWO (ltOf cf)):SWO (ltOf (nF ok cf)):=⟨λx=>h.irrefl x.1,λx y z=>h.trans x.1 y.1 z.1,λx y z=>h.ntrans x.1 y.1 z.1⟩
def ic(ok:α->Prop)[Inhabited {x:α // ok x}](cf:α->α->Int)(d:Array {x:α // ok x}):Array {x:α // ok x}:=Go.Sort.pdq (ltOf (nF ok cf)) d 0 d.size (Go.Lib.bitLen d.size) true true
def Ge{cf:α->α->Int}(h:SWO (ltOf cf))(d:Array {x:α // ok x}):Go.Sort.PermIn 0 d.size d (ic ok cf d)/\Go.Sort.SortedIn (ltOf (nF ok cf)) 0 d.size (ic ok cf d):=
 Go.Sort.pdq_sorts (ltOf (nF ok cf)) (Bi h) d 0 d.size (Go.Lib.bitLen d.size) true true (j5 _) (eb _) (Or.inl rfl)
def Nl{cf:α->α->Int}(M:SWO (ltOf cf)){xs:List α}(h:∀x∈xs,ok x)(U:gr cf xs):∃k:List {x:α // ok x},k.map (·.1)=xs/\(ic ok cf k.toArray).toList.map (·.1)=fX cf xs:=by
 refine⟨xs.pmap Subtype.mk h,by simp[List.map_pmap],?_⟩
 generalize Y:xs.pmap Subtype.mk h=k
 have Z:k.map (·.1)=xs:=by rw[<-Y];simp[List.map_pmap]
 obtain⟨F,O⟩:=Ge M k.toArray
 have N:=F.1
 have af:(ic ok cf k.toArray).toList.Perm k:=by
  have B:=F.2.2
  simp only[<-N,Array.extract_size]at B
  rw[N,Array.extract_size]at B
  simpa using B
 have ag:((ic ok cf k.toArray).toList.map (·.1)).Pairwise λa b=>¬cf b a<0:=by
  rw[q4]
  refine p0.2 λi j hi ad ab=>?_
  have aa:i<(ic ok cf k.toArray).size:=by simpa using hi
  have ae:j<(ic ok cf k.toArray).size:=by simpa using ad
  have:=O i j (j5 _) ab (by omega)
  rw[sa (ic ok cf k.toArray) i aa,sa (ic ok cf k.toArray) j ae]at this
  have:=(yS (nF ok cf) _ _).1 this
  simpa [nF]using this
 have G:((ic ok cf k.toArray).toList.map (·.1)).Perm xs:=by rw[<-Z];exact af.map _
 exact xb ag (nq M xs) (G.trans (jM cf xs).symm) (U.perm G.symm)
end
end
section
variable {α:Type}[bG α]
theorem TP(B:bd)[D0:bd](aw:@bd.on B)(ak:@bd.iz B=@bd.iz D0){P:Program}{g j e k:Nat}{caps:List D}{ok:α->Prop}[Inhabited {x:α // ok x}]{cf:α->α->Int}(F:Flat α k)(Y:SWO (ltOf cf))(ai:∀x y,ok x->ok y->@eO B P j ([enc x,enc y]++caps) (.int .i64 (cf x y)))(
   ah:∀(b c:Nat)(d:Array {x:α // ok x})(w:World)(vs:Array Value),CmpLays P j vs (λx:{x:α // ok x}=>gq x.1) k (nF ok cf) b 0 d.size w->HoldsK (λx:{x:α // ok x}=>gq x.1) k w b 0 d->b<w.heap.size->d.size<4611686018427387904 ->
   Calls P g #[.slice (some ⟨b,0,none⟩) d.size c,.func (.func j) #[] vs] w λe w'=>e = .returned (.tuple #[])/\∃n N,w'=sortWorldK (λx:{x:α // ok x}=>gq x.1) k w b 0 n (ic ok cf d) N)(aq:∀(p:Option Addr)(c:Nat)(M:Value)(w:World),Calls P g #[.slice p 0 c,M] w λe w'=>e = .returned (.tuple #[])/\w'=w){l:List AO}{id:Nat}{xs:List α}(ar:l[id]?=some (.row e k (xs.map enc)))(Z:xs.length<4611686018427387904)(av:∀x∈xs,ok x)(af:gr cf xs) :
  sf P g [.row id,.d (.aB j caps)] l (.d (.aJ [])) (l.set id (.row e k ((fX cf xs).map enc))):=by
 obtain⟨O,U,ao⟩:=Nl Y av af
 have au:l[id]?=some (.row e k (O.map λx:{x:α // ok x}=>(enc x.1:D))):=by rw[ar,<-U,k6];rfl
 have:=Ns (P:=P) (g:=g) (fd:=.aB j caps) (S:=ic ok cf) (venc:=λx:{x:α // ok x}=>gq x.1) (denc:=λx:{x:α // ok x}=>(enc x.1:D)) (λd=>(Ge Y d).1.1)
  (
   λb c d w I M ae ag aj an ax=>by
   obtain⟨vs,rfl,ab,ad⟩:∃vs,M = .func (.func j) #[] vs/\vs.size=caps.length/\∀(i:Nat) v d,vs[i]?=some v->caps[i]?=some d->Rd I v d:=by
    cases an with
    |aB _ vs _ az aA=>exact⟨vs,rfl,az,aA⟩
   exact ah b c d w vs (@Iq B _ _ aw _ _ _ _ (λx:{x:α // ok x}=>(enc x.1:D)) _ _ (λx y=>ai x.1 y.1 x.2 y.2) (λI x=>F.rd I x.1) _ _ _ _ I _ ab ad (λmm N aa al=>by
    have G:=ax mm N aa al
    exact @c8.mk B _ _ G.cell G.mp G.df (λg d h=>G.c7 g d (by rw[<-ak];exact h)))) ae ag aj) aq
  (λx=>by simp[gq,F.len]) (λx=>⟨F.len x.1,λy ay=>FZ (F.sc x.1 y ay)⟩) (λI x=>F.vd I x.1) (λI x=>F.dv I x.1) au (by rw[<-U]at Z;simpa using Z)
 have e:(ic ok cf O.toArray).toList.map (λx:{x:α // ok x}=>(enc x.1:D))=(fX cf xs).map enc:=by rw[<-ao,k6];rfl
 rw[e]at this
 exact this
end
end Go.ag
namespace Go.Sy
open Go Go.ag
local instance aa6:bd:=⟨False,λ_=>none⟩
attribute [local instance] bV
theorem ak{β:Type}{c:Bool}{a b:Option β}(h:c=true):ab c a b=a:=by subst h;rfl
theorem aj{β:Type}{c:Bool}{a b:Option β}(h:c=false):ab c a b=b:=by subst h;rfl
theorem aS{α:Type}{l:List α}{k:Nat}{x:α}(h:l[k]?=some x):au l (k:Int)=some x:=by unfold au;rw[if_pos (by omega)];simpa using h
def cq{β:Type}{p:Bool}{o:Option β}(h:p=true):ae p o=o:=by subst h;rfl
theorem aC{β:Type}{n:Int}{o:Option β}(h: -9223372036854775808<=n/\n<=9223372036854775807):ae (ai n) o=o:=cq (db h)
theorem eT{α β:Type}(x:α)(f:α->Option β):aQ (some (.inl x)) f=f x:=rfl
theorem fy{α β:Type}(y:β)(f:α->Option β):aQ (some (.inr y)) f=some y:=rfl
theorem aI{α β:Type}{o:Option α}{f:α->Option β}{x:α}(h:o=some x):aa o f=f x:=by subst h;rfl
theorem fN{α β:Type}{o:Option (α⊕β)}{f:α->Option β}{x:α⊕β}(h:o=some x):aQ o f=Sum.elim f some x:=by subst h;cases x<;>rfl
theorem gA{β:Type}(a b:Option β):ab false a b=b:=rfl
def bx{α:Type}{l:List α}{k:Nat}{x:α}(h:l[k]?=some x):k<l.length:=(da.1 h).1
def sX(c d:Bool):ab c (some true) (some d)=some (c||d):=by cases c<;>rfl
def gR(c d:Bool):ab c (some d) (some false)=some (c&&d):=by cases c<;>rfl
def UE(c d:Bool):ab c (some false) (some d)=some (!c&&d):=by cases c<;>rfl
def Jn{α:Type}(l:List α)(p:α->Bool):l.any p=(l.find? p).isSome:=by
 rw[hI,List.find?_isSome,hU]
theorem nQ{α:Type}{f:α->Int}{l:List α}(h:(l.map f).Nodup){a b:α}(ha:a∈l)(hb:b∈l)(e:f a=f b):a=b:=by
 induction l with
 |nil=>cases ha
 |cons x l j=>
  simp only[fv,iu,hz]at h
  rcases fb.1 ha with rfl|ha<;>rcases fb.1 hb with rfl|hb
  ·rfl
  ·exact absurd ⟨b,‹_›,e.symm⟩ h.1
  ·exact absurd ⟨a,‹_›,e⟩ h.1
  exact j h.2 ‹_› ‹_›
def dN{α σ ρ:Type}(f:σ->α->σ⊕ρ)(fin:σ->ρ):List α->σ->ρ
 | [],z=>fin z
 |x::xs,z=>match f z x with
  |.inl z'=>dN f fin xs z'
  |.inr r=>r
theorem dm{α σ G ρ:Type}(st:σ->Int->G){step:G->Option (G⊕ρ)}{l:List α}(f:σ->α->σ⊕ρ)(fin:σ->ρ)(Inv:Nat->σ->Prop)(h:∀(k:Nat) x z,l[k]?=some x->Inv k z->step (st z (k:Int))=some (match f z x with |.inl z'=>.inl (st z' ((k+1:Nat):Int)) |.inr r=>.inr r))(Y:∀(k:Nat) x z z',l[k]?=some x->Inv k z->f z x = .inl z'->Inv (k+1) z')(U:∀z,Inv l.length z->step (st z (l.length:Int))=some (.inr (fin z)))(B:σ)(O:Inv 0 B):ay step (st B 0)=some (dN f fin l B):=by
 have key:∀(n k:Nat)(z:σ),k+n=l.length->Inv k z->ay step (st z (k:Int))=some (dN f fin (l.drop k) z):=by
  intro n
  induction n with
  |zero=>
   intro k z Z hi
   have:k=l.length:=by omega
   subst this
   rw[D1]
   exact tu (U z hi)
  |succ n aa=>
   intro k z Z hi
   have M:k<l.length:=by omega
   have N:l[k]?=some l[k]:=c4 M
   rw[h9 M]
   have j:=h k _ z N hi
   simp only[dN]
   cases F:f z l[k]with
   |inl z'=>
    rw[F]at j
    rw[D5 j]
    exact aa (k+1) z' (by omega) (Y k _ z z' N hi F)
   |inr r=>
    rw[F]at j
    rw[tu j]
 simpa using key l.length 0 B (by omega) O
theorem eS{α σ ρ:Type}{f:σ->α->σ⊕ρ}{fin:σ->ρ}(g:σ->α->σ):∀(l:List α)(z:σ),(∀z x,x∈l->f z x = .inl (g z x))->dN f fin l z=fin (l.foldl g z)
 | [],z,_=>rfl
 |x::l,z,h=>by
  simp only[dN,h z x (by simp),List.foldl_cons]
  exact eS g l _ λz y j=>h z y (by simp[j])
theorem nX{α ρ:Type}{step:Int->Option (Int⊕(Unit⊕ρ))}{l:List α}(p:α->Bool)(r:ρ)(h:∀(k:Nat) x,l[k]?=some x->step (k:Int)=some (if p x=true then .inr (.inr r)else .inl ((k+1:Nat):Int)))(B:step (l.length:Int)=some (.inr (.inl ()))) :
  ay step 0=some (if l.any p=true then .inr r else .inl ()):=by
 have:=dm (σ:=Unit) (st:=λ_ k=>k) (step:=step) (l:=l) (λ_ x=>if p x=true then .inr (.inr r)else .inl ()) (λ_=>.inl ()) (λ_ _=>True) (λk x z F _=>by
  rw[h k x F];split<;>rename_i j<;>simp[j]) (λ_ _ _ _ _ _ _=>trivial) (λz _=>B) () trivial
 rw[this]
 congr 1
 clear this h B
 induction l with
 |nil=>rfl
 |cons x l G=>
  simp only[dN,List.any_cons]
  by_cases j:p x=true
  ·simp[j]
  simp only[j,q9]
  simpa using G
def pw{ρ:Type}{step:Int->Option (Int⊕(Unit⊕ρ))}(n:Nat)(p:Nat->Bool)(r:ρ)(h:∀(k:Nat),k<n->step (k:Int)=some (if p k=true then .inr (.inr r)else .inl ((k+1:Nat):Int)))(F:step (n:Int)=some (.inr (.inl ()))) :
  ay step 0=some (if(List.range n).any p=true then .inr r else .inl ()):=
 nX (l:=List.range n) p r (λk x j=>by
  have B:=bx j
  rw[kz (by simpa using B)]at j
  injection j with j;subst j
  exact h k (by simpa using B)) (by rw[zc];exact F)
theorem mQ{α:Type}{step:Int->Option (Int⊕(Unit⊕Int))}{l:List α}(p:α->Bool)(h:∀(k:Nat) x,l[k]?=some x->step (k:Int)=some (if p x=true then .inr (.inr (k:Int))else .inl ((k+1:Nat):Int)))(F:step (l.length:Int)=some (.inr (.inl ()))) :
  ay step 0=some (match l.findIdx? p with|some i=>.inr (i:Int)|none=>.inl ()):=by
 have:=dm (σ:=Nat) (st:=λ_ k=>k) (step:=step) (l:=l) (λz x=>if p x=true then .inr (.inr (z:Int))else .inl (z+1)) (λ_=>.inl ()) (λk z=>z=k) (λk x z M G=>by
  subst G;rw[h z x M];split<;>rename_i B<;>simp[B]) (λk x z z' _ G j=>by
  split at j
  ·cases j
  injection j with j;omega) (λz _=>F) 0 rfl
 rw[this]
 congr 1
 clear this h F
 have key:∀(l:List α)(z:Nat),dN (λ(z:Nat) x=>if p x=true then .inr (.inr (z:Int))else .inl (z+1)) (λ_=>(.inl ():Unit⊕Int)) l z=match l.findIdx? p with|some i=>.inr ((z+i:Nat):Int)|none=>.inl ():=by
  intro l
  induction l with
  |nil=>intro z;simp[dN]
  |cons x l N=>
   intro z
   simp only[dN,p6]
   by_cases B:p x=true
   ·simp[B]
   simp only[B,ih,hX]
   rw[N]
   cases l.findIdx? p<;>simp<;>omega
 simpa using key l 0
def ix{α:Type}(l:List α)(p:α->Bool):Int:=match l.findIdx? p with|some i=>(i:Int)|none=> -1
def Dw{α:Type}(l:List α)(p:α->Bool):decide (0<=ix l p)=l.any p:=by
 have:(l.findIdx? p).isSome=l.any p:=List.findIdx?_isSome
 unfold ix
 cases j:l.findIdx? p with
 |none=>rw[j]at this;simp[<-this]
 |some i=>rw[j]at this;simp[<-this]
def qP{α:Type}(l:List α)(p:α->Bool):(l.find? p=none/\ix l p = -1)\/∃(k:Nat)(x:α),l[k]?=some x/\l.find? p=some x/\ix l p=(k:Int)/\p x=true:=by
 unfold ix
 induction l with
 |nil=>left;simp
 |cons x l O=>
  rw[p6,List.find?_cons]
  by_cases G:p x=true
  ·right;exact⟨0,x,rfl,by simp[G],by simp[G],G⟩
  simp only[G]
  rcases O with ⟨M,B⟩| ⟨k,y,M,B,F,N⟩
  ·left
   refine⟨M,?_⟩
   cases j:l.findIdx? p with
   |none=>simp[j]
   |some i=>rw[j]at B;exact absurd B (by simp only;omega)
  right
  refine⟨k+1,y,by simpa using M,B,?_,N⟩
  cases j:l.findIdx? p with
  |none=>rw[j]at F;exact absurd F (by simp only;omega)
  |some i=>rw[j]at F;simp at F;simp[j];omega
def l8{α:Type}(q:α->Bool)(r:α->α->Bool)(l:List α)(k:Nat):Bool:=match l[k]? with|some y=>q y||(l.take k).any λx=>r x y|none=>false
def F3{α:Type}(q:α->Bool)(r:α->α->Bool)(l:List α):(List.range l.length).any (l8 q r l)=true↔¬((∀x∈l,q x=false)/\l.Pairwise λx y=>r x y=false):=by
 rw[hU]
 constructor
 ·rintro⟨k,B,h⟩ ⟨U,M⟩
  have B:=hR.1 B
  unfold l8 at h
  rw[c4 B]at h
  simp only[h6,hU]at h
  rcases h with h| ⟨x,G,h⟩
  ·rw[U _ (hT B)]at h;cases h
  obtain⟨j,F,rfl⟩:=List.mem_take_iff_getElem.1 G
  rw[p0]at M
  rw[M j k (by omega) B (by omega)]at h;cases h
 intro h
 refine hB λN=>h ⟨λx G=>?_,?_⟩
 ·refine hB λO=>N ?_
  obtain⟨k,B,rfl⟩:=hA.1 G
  refine⟨k,hR.2 B,?_⟩
  unfold l8
  rw[c4 B]
  simp at O;simp[O]
 rw[p0]
 intro i j hi F Z
 refine hB λY=>N ⟨j,hR.2 F,?_⟩
 unfold l8
 rw[c4 F]
 simp only[h6,hU]
 right
 exact⟨l[i],List.mem_take_iff_getElem.2 ⟨i,by omega,rfl⟩,by simpa using Y⟩
def NP{α:Type}{l:List α}{k j:Nat}{x:α}(h:(l.take k)[j]?=some x):j<k/\l[j]?=some x:=by
 have B:=bx h
 rw[fa]at B
 rw[List.getElem?_take_of_lt (by omega)]at h
 exact⟨by omega,h⟩
def FE{α:Type}(id:α->Int)(l:List α):(l.Pairwise λx y=>decide (id x=id y)=false)↔(l.map id).Nodup:=by
 unfold List.Nodup
 rw[q4]
 simp
def cQ:List Int->Int
 | []=>0
 |x::l=>if x=0 then cQ l else x
def cr{α:Type}(K:α->List Int)(a b:α):Int:=cQ ((K a).zipWith (· - ·) (K b))
def Jv:∀l:List Int,cQ (l.zipWith (· - ·) l)=0
 | []=>rfl
 |x::l=>by
  simp only[List.zipWith_cons_cons,cQ]
  rw[if_pos (by omega)];exact Jv l
def C6:∀(a b c:List Int),a.length=b.length->b.length=c.length->cQ (a.zipWith (· - ·) b)<0->cQ (b.zipWith (· - ·) c)<0->cQ (a.zipWith (· - ·) c)<0
 | [],[],[],_,_,h,_=>by simp[cQ]at h
 |x::a,y::b,z::c,h1,B,j,k=>by
  simp only[List.zipWith_cons_cons,cQ]at j k⊢
  have F:=C6 a b c (by simpa using h1) (by simpa using B)
  split at j<;>split at k<;>split<;>first|omega|exact F j k
 | [],_::_,_,h,_,_,_=>by simp at h
 |_::_,[],_,h,_,_,_=>by simp at h
 |_::_,_::_,[],_,h,_,_=>by simp at h
 | [],[],_::_,_,h,_,_=>by simp at h
def C5:∀(a b c:List Int),a.length=b.length->b.length=c.length->¬cQ (a.zipWith (· - ·) b)<0->¬cQ (b.zipWith (· - ·) c)<0->¬cQ (a.zipWith (· - ·) c)<0
 | [],[],[],_,_,h,_=>by simp[cQ]
 |x::a,y::b,z::c,h1,B,j,k=>by
  simp only[List.zipWith_cons_cons,cQ]at j k⊢
  have F:=C5 a b c (by simpa using h1) (by simpa using B)
  split at j<;>split at k<;>split<;>first|omega|exact F j k
 | [],_::_,_,h,_,_,_=>by simp at h
 |_::_,[],_,h,_,_,_=>by simp at h
 |_::_,_::_,[],_,h,_,_=>by simp at h
 | [],[],_::_,_,h,_,_=>by simp at h
def Jx:∀(a b:List Int),a.length=b.length->cQ (a.zipWith (· - ·) b)=0->a=b
 | [],[],_,_=>rfl
 |x::a,y::b,h1,j=>by
  simp only[List.zipWith_cons_cons,cQ]at j
  split at j
  ·rename_i h;rw[Jx a b (by simpa using h1) j];congr 1;omega
  rename_i h;exact absurd j h
 | [],_::_,h,_=>by simp at h
 |_::_,[],h,_=>by simp at h
def C4:∀(a b:List Int),a.length=b.length->cQ (b.zipWith (· - ·) a) = - cQ (a.zipWith (· - ·) b)
 | [],[],_=>rfl
 |x::a,y::b,h=>by
  have j:=C4 a b (by simpa using h)
  simp only[List.zipWith_cons_cons,cQ]
  split<;>split<;>omega
 | [],_::_,h=>by simp at h
 |_::_,[],h=>by simp at h
def Bj{α:Type}{K:α->List Int}{n:Nat}(j:∀a,(K a).length=n):Go.Sort.SWO (Go.Proofs.ltOf (cr K)) where
 irrefl x:=by
  unfold Go.Proofs.ltOf cr
  rw[Jv];rfl
 trans x y z k B:=by
  have k:=hD k
  have B:=hD B
  exact db (C6 (K x) (K y) (K z) (by rw[j,j]) (by rw[j,j]) k B)
 ntrans x y z k B:=by
  have k:=of_decide_eq_false k
  have B:=of_decide_eq_false B
  exact dk (C5 (K x) (K y) (K z) (by rw[j,j]) (by rw[j,j]) k B)
theorem Cp{α:Type}{K:α->List Int}{n:Nat}(j:∀a,(K a).length=n){a b:α}(B:¬cr K a b<0)(k:¬cr K b a<0):K a=K b:=by
 have F:=C4 (K a) (K b) (by rw[j,j])
 unfold cr at B k
 rw[F]at k
 exact Jx _ _ (by rw[j,j]) (by omega)
def bk{α:Type}(p:α->Bool)(l:List α):Nat:=(l.reverse.dropWhile p).length
def UQ{α:Type}(p:α->Bool)(l:List α)(x:α):List α:=l.take (bk p l)++[x]++l.drop (bk p l)
abbrev ef{α:Type}(m:List (Int×α)):List Int:=m.map (·.1)
theorem oc{α:Type}(k:Int)(d:α):an ([]:List (Int×α)) k d=d:=rfl
theorem VV{α:Type}(k:Int):dq ([]:List (Int×α)) k=false:=rfl
def qX{α:Type}(p:Int×α)(m:List (Int×α))(k:Int)(d:α):an (p::m) k d=if p.1=k then p.2 else an m k d:=by
 unfold an
 rw[List.find?_cons]
 by_cases h:p.1=k
 ·rw[if_pos h,show(p.1 == k)=true by simpa using h];rfl
 rw[if_neg h,show(p.1 == k)=false by simpa using h]
def pB{α:Type}(p:Int×α)(m:List (Int×α))(k:Int):dq (p::m) k=(decide (p.1=k)||dq m k):=by
 unfold dq
 rw[List.any_cons]
 congr 1
def vP{α:Type}(n:Int):∀(m:List (Int×α)),dq m n=true↔n∈ef m
 | []=>by simp[dq]
 |p::m=>by
  rw[pB,h6,vP n m,ek]
  simp only[ef,fv,fb]
  constructor<;>(rintro(h|h);exact .inl h.symm;exact .inr h)
theorem pD{α:Type}(p:Int×α)(m:List (Int×α))(k:Int)(v:α):aH (p::m) k v=if p.1=k then(k,v)::m else p::aH m k v:=rfl
def mX{α:Type}(n:Int)(v:α)(k:Int)(z:α):∀(m:List (Int×α)),an (aH m n v) k z=if k=n then v else an m k z
 | []=>by
  show an [(n,v)] k z=_
  rw[qX,oc]
  by_cases h:k=n
  ·rw[if_pos h,if_pos h.symm]
  rw[if_neg h,if_neg (hW h)]
 |p::m=>by
  have B:=mX n v k z m
  rw[pD]
  by_cases h:p.1=n
  ·rw[if_pos h,qX,qX]
   by_cases j:k=n
   ·rw[if_pos j,if_pos j.symm]
   rw[if_neg j,if_neg (hW j),if_neg (by rw[h];exact hW j)]
  rw[if_neg h,qX,qX,B]
  by_cases j:k=n
  ·subst j;rw[if_neg h,if_pos rfl,if_pos rfl]
  rw[if_neg j,if_neg j]
def yW{α:Type}(n:Int)(v:α)(k:Int):∀(m:List (Int×α)),dq (aH m n v) k=(decide (k=n)||dq m k)
 | []=>by
  show dq [(n,v)] k=_
  rw[pB,VV]
  congr 1;exact ka.2 eq_comm
 |p::m=>by
  have j:=yW n v k m
  rw[pD]
  by_cases h:p.1=n
  ·rw[if_pos h,pB,pB,h]
   rw[show decide (n=k)=decide (k=n)from ka.2 eq_comm]
   cases decide (k=n)<;>simp
  rw[if_neg h,pB,pB,j]
  cases decide (p.1=k)<;>cases decide (k=n)<;>simp
def yZ{α:Type}(n:Int)(v:α):∀(m:List (Int×α)),(aH m n v).length=if dq m n=true then m.length else m.length+1
 | []=>rfl
 |p::m=>by
  have j:=yZ n v m
  rw[pD,pB]
  by_cases h:p.1=n
  ·rw[if_pos h,if_pos (by simp[h])];rfl
  rw[if_neg h,List.length_cons,j]
  simp only[h,decide_false,q9]
  split<;>simp
def KT{α:Type}{n:Int}(v:α):∀{m:List (Int×α)},n∉ef m->aH m n v=m++[(n,v)]
 | [],_=>rfl
 |p::m,h=>by
  simp only[ef,fv,fb,not_or]at h
  rw[pD,if_neg (hW h.1),KT v h.2];rfl
def yY{α:Type}(n:Int)(v:α)(k:Int)(m:List (Int×α)):k∈ef (aH m n v)↔k=n\/k∈ef m:=by
 rw[<-vP,yW,h6,ek,vP]
def Er{α:Type}(n:Int)(v:α):∀{m:List (Int×α)},(ef m).Nodup->(ef (aH m n v)).Nodup
 | [],_=>by show [n].Nodup;simp
 |p::m,h=>by
  simp only[ef,fv,iu]at h
  rw[pD]
  by_cases e:p.1=n
  ·rw[if_pos e];simp only[ef,fv,iu];exact⟨by rw[<-e];exact h.1,h.2⟩
  rw[if_neg e];simp only[ef,fv,iu]
  refine⟨λj=>?_,Er n v h.2⟩
  rcases (yY n v p.1 m).1 j with h'|h'
  ·exact e h'
  exact h.1 h'
def C7{α ρ:Type}(bad:α->Bool)(id:α->Int)(r:ρ):∀(l:List α)(z:List (Int×Bool)),dN (λ(z:List (Int×Bool)) x=>if bad x||an z (id x) false then(.inr (.inr r):_⊕(Unit⊕ρ))else .inl (aH z (id x) true)) (λ_=>.inl ()) l z =
  if(∀x∈l,bad x=false)/\(l.map id).Nodup/\(∀x∈l,an z (id x) false=false)then .inl ()else .inr r
 | [],z=>by simp[dN]
 |x::l,z=>by
  have N:=C7 bad id r l (aH z (id x) true)
  simp only[dN]
  by_cases h:bad x||an z (id x) false
  ·rw[if_pos h,if_neg]
   rintro⟨k,_,j⟩
   rw[k x (by simp),j x (by simp)]at h;cases h
  rw[if_neg h]
  simp only[h6,not_or,om]at h
  dsimp only
  rw[N]
  have e:((∀y∈l,bad y=false)/\(l.map id).Nodup/\∀y∈l,an (aH z (id x) true) (id y) false=false)↔((∀y∈x::l,bad y=false)/\((x::l).map id).Nodup/\∀y∈x::l,an z (id y) false=false):=by
   simp only[mX,fb,fv,iu,hz]
   constructor
   ·rintro⟨k,F,j⟩
    refine⟨?_,⟨?_,F⟩,?_⟩
    ·rintro y (rfl|hy)
     ·exact h.1
     exact k y hy
    ·rintro⟨y,hy,M⟩
     have:=j y hy
     rw[if_pos M]at this;cases this
    rintro y (rfl|hy)
    ·exact h.2
    have:=j y hy
    split at this
    ·cases this
    exact this
   rintro⟨k,⟨F,j⟩,G⟩
   refine⟨λy hy=>k y (.inr hy),j,λy hy=>?_⟩
   rw[if_neg λe=>F ⟨y,hy,e⟩]
   exact G y (.inr hy)
  by_cases B:((∀y∈x::l,bad y=false)/\((x::l).map id).Nodup/\∀y∈x::l,an z (id y) false=false)
  ·rw[if_pos B,if_pos (e.2 B)]
  rw[if_neg B,if_neg λh=>B (e.1 h)]
def iS{α:Type}(id:α->Int)(l:List α):List (Int×α):=l.map λx=>(id x,x)
def kU{σ ρ:Type}{step:σ->Option (σ⊕ρ)}{z z':σ}(h:step z=some (.inl z')):ay step z=ay step z':=D5 h
theorem gC{σ ρ:Type}{step:σ->Option (σ⊕ρ)}{z:σ}{r:ρ}(h:step z=some (.inr r)):ay step z=some r:=tu h
def lz(n lo hi:Int):aa (ab (leI lo n) (some (leI n hi)) (some false)) (λv:Bool=>some v)=some (decide (lo<=n/\n<=hi)):=by
 by_cases h:lo<=n<;>simp[h,vq,af]
def jL{b:Bool}{p:Prop}[Decidable p](h:b=true↔p):some b=some (decide p):=ea some (hI.2 (by rw[h,ek]))
def xE(a b c:Bool):ab a (ab b (some c) (some false)) (some false)=some (a&&b&&c):=by cases a<;>cases b<;>rfl
def KA{α:Type}[DecidableEq α]{step:Int->Option (Int⊕(Unit⊕Bool))}{a b:List α}(U:a.length=b.length)(h:∀(k:Nat) x y,a[k]?=some x->b[k]?=some y->step (k:Int)=some (if x=y then .inl ((k+1:Nat):Int)else .inr (.inr false)))(M:step (a.length:Int)=some (.inr (.inl ()))) :
  ay step 0=some (if a=b then .inl ()else .inr false):=by
 rw[pw a.length (λk=>!decide (a[k]?=b[k]?)) false (λk B=>by
  have F:a[k]?=some a[k]:=c4 B
  have G:b[k]?=some b[k]:=c4 (by omega)
  rw[h k _ _ F G,F,G]
  by_cases j:a[k]=b[k]
  ·rw[if_pos j,if_neg (by simp[j])]
  rw[if_neg j,if_pos (by simp[j])]) M]
 congr 1
 by_cases j:a=b
 ·rw[if_pos j,if_neg]
  subst j;simp
 rw[if_neg j,if_pos]
 refine hB λO=>j (ie λk=>?_)
 by_cases B:k<a.length
 ·refine hB λN=>O (hU.2 ⟨k,hR.2 B,by simp[N]⟩)
 rw[hS (by omega),hS (by omega)]
def Yx{α:Type}[DecidableEq α]{beq:α->α->Bool}(N:∀a b,beq a b=decide (a=b)){a b:List α}(Z:a.length<=1048576):(ab (!(aA (a.length:Int) (b.length:Int))) (some false) (aQ (ay (λB:Int=>ab (ah B (a.length:Int)) (aa (au a B) λU=>aa (au b B) λY=>ab (!(beq U Y)) (some (.inr (.inr false))) (ae (ai (B+1)) <|some (.inl (B+1)))) (some (.inr (.inl ())))) 0) λ(B:Unit)=>some true))=some (decide (a=b)):=by
 by_cases F:a.length=b.length
 ·rw[aj (by simp[F]),KA F (λk x y G M=>by
   have O:=bx G
   rw[ak (by simpa using O),aY (aS G),aY (aS M),N]
   by_cases j:x=y
   ·rw[aj (by simp[j]),aC (by omega),if_pos j];rfl
   rw[ak (by simp[j]),if_neg j]) (by rw[aj (by simp)])]
  by_cases j:a=b
  ·rw[if_pos j,eT];simp[j]
  rw[if_neg j,fy];simp[j]
 have:a≠b:=λh=>F (by rw[h])
 rw[ak (by simp;omega)];simp[this]
theorem lE{α:Type}{step:Int->Option (Int⊕(Unit⊕Int))}{l:List α}(p:α->Bool)(h:∀(k:Nat) x,l[k]?=some x->step (k:Int)=some (if p x=true then .inr (.inr (k:Int))else .inl ((k+1:Nat):Int)))(j:step (l.length:Int)=some (.inr (.inl ()))) :
  (aa (aQ (ay step 0) λ_=>some (-1)) λx=>some (leI 0 x))=some (l.any p):=by
 rw[mQ p h j,<-Dw]
 unfold ix
 cases l.findIdx? p<;>rfl
def tC{α:Type}(r:α->α->Bool)(l:List α)(k:Nat):Bool:=match l[k]?,l[k+1]? with
 |some a,some b=>r a b
 |_,_=>true
def my{α:Type}(r:α->α->Bool)(l:List α):Bool:=(List.range (l.length-1)).all (tC r l)
def Cr{α:Type}{r:α->α->Bool}{l:List α}:my r l=true↔∀(k:Nat) a b,l[k]?=some a->l[k+1]?=some b->r a b=true:=by
 unfold my
 rw[dT]
 constructor
 ·intro h k a b B j
  have:=h k (hR.2 (by have:=bx j;omega))
  unfold tC at this
  rwa [B,j]at this
 intro h k F
 unfold tC
 split
 ·rename_i a b B j;exact h k a b B j
 rfl
def VC{α:Type}{step:Int->Option (Int⊕(Unit⊕Bool))}{l:List α}(r:α->α->Bool)(h:∀(k:Nat) a b,l[k]?=some a->l[k+1]?=some b->step ((k:Int)+1)=some (if r a b=true then .inl (k:Int)else .inr (.inr false)))(F:∀z:Int,z<=0->step z=some (.inr (.inl ()))) :
  ay step ((l.length:Int)-1)=some (if my r l=true then .inl ()else .inr false):=by
 have key:∀n,n<l.length->ay step (n:Int)=some (if(List.range n).all (tC r l)=true then .inl ()else .inr false):=by
  intro n
  induction n with
  |zero=>intro _;rw[tu (F _ (by simp))];rfl
  |succ n Y=>
   intro U
   have G:l[n]?=some l[n]:=c4 (by omega)
   have M:l[n+1]?=some l[n+1]:=c4 U
   have B:=h n _ _ G M
   have N:tC r l n=r l[n] l[n+1]:=by unfold tC;rw[G,M]
   rw[J3,abq]
   simp only[List.all_cons,List.all_nil,q0]
   rw[N]
   by_cases j:r l[n] l[n+1]=true
   ·rw[if_pos j]at B
    rw[j,q0,<-Y (by omega)]
    exact D5 B
   rw[if_neg j]at B
   rw[if_neg (by simp[j])]
   exact tu B
 unfold my
 by_cases O:l.length=0
 ·rw[tu (F _ (by omega)),O];rfl
 have:=key (l.length-1) (by omega)
 rw[show((l.length-1:Nat):Int)=(l.length:Int)-1 by omega]at this
 exact this
theorem Cs{α:Type}{R:α->α->Prop}(F:∀a b c,R a b->R b c->R a c):∀{l:List α},(∀(k:Nat) a b,l[k]?=some a->l[k+1]?=some b->R a b)->l.Pairwise R
 | [],_=>List.Pairwise.nil
 | [a],_=>by simp
 |a::b::l,h=>by
  have B:=Cs F (l:=b::l) λk x y G M=>h (k+1) x y (by simpa using G) (by simpa using M)
  rw[abd]
  refine⟨λy hy=>?_,B⟩
  have j:=h 0 a b rfl rfl
  rcases fb.1 hy with rfl|hy
  ·exact j
  exact F _ _ _ j ((abd.1 B).1 y hy)
def L2{α:Type}{R:α->α->Prop}{l:List α}(h:l.Pairwise R)(k:Nat)(a b:α)(B:l[k]?=some a)(j:l[k+1]?=some b):R a b:=by
 have M:=bx j
 have F:a=l[k]:=by rw[c4 (by omega)]at B;exact(kA B).symm
 have G:b=l[k+1]:=by rw[c4 (by omega)]at j;exact(kA j).symm
 rw[F,G]
 exact(p0.1 h) k (k+1) (by omega) (by omega) (by omega)
def JF{α β:Type}(id:α->Int)(g:α->β):∀(l:List α)(z:List (Int×β)),(l.foldl (λm x=>aH m (id x) (g x)) z).length<=z.length+l.length/\((l.foldl (λm x=>aH m (id x) (g x)) z).length=z.length+l.length↔(l.map id).Nodup/\∀x∈l,dq z (id x)=false)
 | [],z=>by simp
 |x::l,z=>by
  obtain⟨O,M⟩:=JF id g l (aH z (id x) (g x))
  have F:=yZ (id x) (g x) z
  rw[List.foldl_cons,List.length_cons]
  by_cases k:dq z (id x)=true
  ·rw[if_pos k]at F
   refine⟨by omega,⟨λh=>by omega,λh=>?_⟩⟩
   have:=h.2 x (by simp)
   rw[k]at this;cases this
  rw[if_neg k]at F
  refine⟨by omega,?_⟩
  rw[show(List.foldl (λm x=>aH m (id x) (g x)) (aH z (id x) (g x)) l).length=z.length+(l.length+1)↔(List.foldl (λm x=>aH m (id x) (g x)) (aH z (id x) (g x)) l).length=(aH z (id x) (g x)).length+l.length by omega,M]
  simp only[fv,iu,hz,fb,yW]
  constructor
  ·rintro⟨B,j⟩
   refine⟨⟨?_,B⟩,?_⟩
   ·rintro⟨y,hy,N⟩
    have:=j y hy
    simp[N]at this
   rintro y (rfl|hy)
   ·simpa using k
   have:=j y hy
   simp at this;exact this.2
  rintro⟨⟨G,B⟩,j⟩
  refine⟨B,λy hy=>?_⟩
  rw[dk (λe=>G ⟨y,hy,e⟩),j y (.inr hy)];rfl
end Go.Sy
namespace Go.Sy
open Go Go.ag Go.RowKit Go.Proofs Go.Sort
variable [aD][cz][c9]
@[reducible] noncomputable def CH(i:Nat)(d:bQ.cp i)(hi:∀x y:bQ.cp i,aD.cells i x=aD.cells i y->x=y):bG (bQ.cp i):=
 ⟨λx=>.agg (aD.cells i x),λz=>open Classical in if h:∃x,D.agg (aD.cells i x)=z then Classical.choose h else d,aD.sz i,
  λx=>by
  have h:∃y,D.agg (aD.cells i y)=D.agg (aD.cells i x):=⟨x,rfl⟩
  have e:∀(dec:Decidable (∃y,D.agg (aD.cells i y)=D.agg (aD.cells i x))),(@dite _ _ dec (λh=>Classical.choose h) λ_=>d)=x:=λdec=>by
   rw[dif_pos h]
   have:=n2 h
   injection this with this
   exact hi _ _ this
  exact e _,
  λx=>cz.len i x,λx y j=>cz.zg i x y j⟩
open Classical in
noncomputable def rU{α β:Type}(ok:β->α->Prop)(cf:β->α->α->Int)(a:List α×β):Option (List α):=
 if(∀x∈a.1,ok a.2 x)/\gr (cf a.2) a.1/\a.1.length<4611686018427387904 then some (fX (cf a.2) a.1)else none
theorem Oa(M:bd)[D0:bd](aq:@bd.on M)(ak:@bd.iz M=@bd.iz D0){P:Program}{g F i k:Nat}{t:Ty}(d:bQ.cp i)(hi:∀x y:bQ.cp i,aD.cells i x=aD.cells i y->x=y)(ab:∀x:bQ.cp i,(aD.cells i x).length=k)(ar:∀(x:bQ.cp i),∀y∈aD.cells i x,oD y=true){ok:t.den->bQ.cp i->Prop}{cf:t.den->bQ.cp i->bQ.cp i->Int}(an:∀c,∃x,ok c x)(ae:∀c,SWO (ltOf (cf c)))(aj:∀c x y,ok c x->ok c y->@eO M P F ([(Ty.st i).enc x,(Ty.st i).enc y]++(t.eL c).2) (.int .i64 (cf c x y)))(al:ag.Enters P g)(
   ai:∀(e:Nat)(B:bQ.cp i->Prop)[Inhabited {x:bQ.cp i // B x}](N:bQ.cp i->bQ.cp i->Int),SWO (ltOf N)->∀(b c:Nat)(d:Array {x:bQ.cp i // B x})(w:World)(vs:Array Value),CmpLays P F vs (λx:{x:bQ.cp i // B x}=>(aD.cells i x.1).map vD) k (nF B N) b 0 d.size w->HoldsK (λx:{x:bQ.cp i // B x}=>(aD.cells i x.1).map vD) k w b 0 d->b<w.heap.size->d.size<4611686018427387904 ->
   Calls P g #[.slice (some ⟨b,0,none⟩) d.size c,.func (.func F) #[] vs] w λe w'=>e = .returned (.tuple #[])/\∃n ax,w'=sortWorldK (λx:{x:bQ.cp i // B x}=>(aD.cells i x.1).map vD) k w b 0 n (ic B N d) ax)(ao:∀(p:Option Addr)(c:Nat)(af:Value)(w:World),Calls P g #[.slice p 0 c,af] w λe w'=>e = .returned (.tuple #[])/\w'=w) :
  nB P g (.st i) [.aB F t] (rU ok cf):=by
 refine⟨al,cE rfl,λa r j l id e els ds Z ad=>?_⟩
 change List (bQ.cp i)×t.den at a
 change List (bQ.cp i)at r
 obtain⟨xs,c⟩:=a
 have j:rU ok cf (xs,c)=some r:=j
 unfold rU at j
 split at j
 ·rename_i ah
  injection j with j;subst j
  obtain⟨O,U,Y⟩:=ah
  have O:∀x∈xs,ok c x:=O
  have U:gr (cf c) xs:=U
  have Y:xs.length<4611686018427387904:=Y
  have Z:[Ty.enc (.list (.st i)) xs,Ty.enc (.aB F t) c]=D.slice (Ty.st i).size els::ds:=Z
  injection Z with G ay
  subst ay
  have G:D.slice (Ty.st i).size (xs.map (Ty.st i).enc)=D.slice (Ty.st i).size els:=G
  injection G with _ G
  subst G
  have au:(Ty.st i).size=k:=by rw[<-ab d];exact(cz.len i d).symm
  rw[au]at ad⊢
  obtain⟨az,aw⟩:=an c
  haveI:Inhabited {x:bQ.cp i // ok c x}:=⟨⟨az,aw⟩⟩
  letI:bG (bQ.cp i):=CH i d hi
  exact @TP (bQ.cp i) (CH i d hi) M D0 aq ak P g F e k (t.eL c).2 (ok c) _ (cf c) ⟨λx=>rfl,λx=>ab x,λx y aa=>ar x y aa⟩ (ae c) (λx y av aa=>aj c x y av aa)
   (ai e (ok c) (cf c) (ae c)) ao l id xs ad Y O U
 cases j
end Go.Sy
namespace Go.ag
open Go Go.RowKit bG Go.Proofs Go.Sort
section
variable {α:Type}[bG α]
variable {α:Type}
variable {ok:α->Prop}[Inhabited {x:α // ok x}]
variable {α:Type}[bG α]
theorem TQ(B:bd)[D0:bd](aw:@bd.on B)(ak:@bd.iz B=@bd.iz D0){P:Program}{g j e k:Nat}{ok:α->Prop}[Inhabited {x:α // ok x}]{cf:α->α->Int}(F:Flat α k)(Y:SWO (ltOf cf))(ai:∀x y,ok x->ok y->@eO B P j ([enc x,enc y]++[]) (.int .i64 (cf x y)))(
   ah:∀(b c:Nat)(d:Array {x:α // ok x})(w:World)(vs:Array Value),CmpLays P j vs (λx:{x:α // ok x}=>gq x.1) k (nF ok cf) b 0 d.size w->HoldsK (λx:{x:α // ok x}=>gq x.1) k w b 0 d->b<w.heap.size->d.size<4611686018427387904 ->
   Calls P g #[.slice (some ⟨b,0,none⟩) d.size c,.func (.func j) #[] vs] w λe w'=>e = .returned (.tuple #[])/\∃n N,w'=sortWorldK (λx:{x:α // ok x}=>gq x.1) k w b 0 n (ic ok cf d) N)(aq:∀(p:Option Addr)(c:Nat)(M:Value)(w:World),Calls P g #[.slice p 0 c,M] w λe w'=>e = .returned (.tuple #[])/\w'=w){l:List AO}{id:Nat}{xs:List α}(ar:l[id]?=some (.row e k (xs.map enc)))(Z:xs.length<4611686018427387904)(av:∀x∈xs,ok x)(af:gr cf xs) :
  sf P g [.row id,.d (.fn j)] l (.d (.aJ [])) (l.set id (.row e k ((fX cf xs).map enc))):=by
 obtain⟨O,U,ao⟩:=Nl Y av af
 have au:l[id]?=some (.row e k (O.map λx:{x:α // ok x}=>(enc x.1:D))):=by rw[ar,<-U,k6];rfl
 have:=Ns (P:=P) (g:=g) (fd:=.fn j) (S:=ic ok cf) (venc:=λx:{x:α // ok x}=>gq x.1) (denc:=λx:{x:α // ok x}=>(enc x.1:D)) (λd=>(Ge Y d).1.1)
  (
   λb c d w I M ae ag aj an ax=>by
   obtain⟨vs,rfl,ab,ad⟩:∃vs,M = .func (.func j) #[] vs/\vs.size=([]:List D).length/\∀(i:Nat) v d,vs[i]?=some v->([]:List D)[i]?=some d->Rd I v d:=by
    cases an
    exact⟨#[],rfl,rfl,by simp⟩
   exact ah b c d w vs (@Iq B _ _ aw _ _ _ _ (λx:{x:α // ok x}=>(enc x.1:D)) _ _ (λx y=>ai x.1 y.1 x.2 y.2) (λI x=>F.rd I x.1) _ _ _ _ I _ ab ad (λmm N aa al=>by
    have G:=ax mm N aa al
    exact @c8.mk B _ _ G.cell G.mp G.df (λg d h=>G.c7 g d (by rw[<-ak];exact h)))) ae ag aj) aq
  (λx=>by simp[gq,F.len]) (λx=>⟨F.len x.1,λy ay=>FZ (F.sc x.1 y ay)⟩) (λI x=>F.vd I x.1) (λI x=>F.dv I x.1) au (by rw[<-U]at Z;simpa using Z)
 have e:(ic ok cf O.toArray).toList.map (λx:{x:α // ok x}=>(enc x.1:D))=(fX cf xs).map enc:=by rw[<-ao,k6];rfl
 rw[e]at this
 exact this
end
end Go.ag
namespace Go.Proofs.YthhlipkkjippfaaGreatDoor
open Go Go.ag Go.Sy
abbrev zI:D:=.int .i64 0
def zs(n:Nat):List D:=List.replicate n zI
def Bt:List (Nat×TI):=[(2,⟨1,8,[zI],.dF .i64⟩),
 (3,⟨1,8,[zI],.dF .i64⟩),
 (4,⟨1,1,[.bool false],.iH⟩),
 (5,⟨1,1,[.int .u8 0],.dF .u8⟩),
 (6,⟨1,1,[.int .u8 0],.dF .u8⟩),
 (7,⟨4,24,[zI,zI,.bool false,.int .u8 0],.struct [(0,2),(1,3),(2,4),(3,6)]⟩),
 (8,⟨4,24,[zI,zI,.bool false,.int .u8 0],.struct [(0,2),(1,3),(2,4),(3,6)]⟩),
 (9,⟨1,16,[.str ⟨#[]⟩],.string⟩),
 (10,⟨1,16,[.str ⟨#[]⟩],.string⟩),
 (11,⟨1,16,[.str ⟨#[]⟩],.string⟩),
 (12,⟨1,8,[.int .u64 0],.dF .u64⟩),
 (13,⟨2,24,[.str ⟨#[]⟩,.int .u64 0],.struct [(0,9),(1,12)]⟩),
 (14,⟨2,24,[.str ⟨#[]⟩,.int .u64 0],.struct [(0,9),(1,12)]⟩),
 (15,⟨1,8,[.dI],.iH⟩),
 (16,⟨1,8,[.dI],.iH⟩),
 (17,⟨1,8,[.dI],.iH⟩),
 (18,⟨1,8,[.dI],.struct [(0,17)]⟩),
 (19,⟨1,8,[.dI],.struct [(0,17)]⟩),
 (21,⟨1,4,[.int .i32 0],.dF .i32⟩),
 (22,⟨1,24,[.slice 4 []],.slice 79⟩),
 (23,⟨1,24,[.slice 13 []],.slice 95⟩),
 (24,⟨1,24,[.slice 12 []],.slice 126⟩),
 (25,⟨4,80,[zI,.slice 4 [],.slice 13 [],.slice 12 []],.struct [(0,3),(1,22),(2,23),(3,24)]⟩),
 (26,⟨4,80,[zI,.slice 4 [],.slice 13 [],.slice 12 []],.struct [(0,3),(1,22),(2,23),(3,24)]⟩),
 (27,⟨1,24,[.slice 3 []],.slice 68⟩),
 (28,⟨1,24,[.slice 3 []],.slice 269⟩),
 (29,⟨3,24,zs 3,.struct [(0,3),(1,3),(2,3)]⟩),
 (30,⟨3,24,zs 3,.struct [(0,3),(1,3),(2,3)]⟩),
 (31,⟨1,24,[.slice 3 []],.slice 70⟩),
 (32,⟨7,104,[zI,.slice 3 [],.slice 3 [],zI,zI,zI,.slice 3 []],.struct [(0,3),(1,27),(2,28),(3,30),(6,31)]⟩),
 (33,⟨7,104,[zI,.slice 3 [],.slice 3 [],zI,zI,zI,.slice 3 []],.struct [(0,3),(1,27),(2,28),(3,30),(6,31)]⟩),
 (34,⟨1,24,[.slice 3 []],.slice 364⟩),
 (35,⟨12,208,[zI,.slice 4 [],.slice 13 [],.slice 12 [],zI,.slice 3 [],.slice 3 [],zI,zI,zI,.slice 3 [],.slice 3 []],.struct [(0,26),(4,33),(11,34)]⟩),
 (36,⟨12,208,[zI,.slice 4 [],.slice 13 [],.slice 12 [],zI,.slice 3 [],.slice 3 [],zI,zI,zI,.slice 3 [],.slice 3 []],.struct [(0,26),(4,33),(11,34)]⟩),
 (37,⟨1,24,[.slice 1 []],.slice 3⟩),
 (38,⟨9,136,[zI,zI,.slice 3 [],.slice 3 [],zI,zI,zI,.slice 3 [],.slice 1 []],.struct [(0,3),(1,33),(8,37)]⟩),
 (39,⟨9,136,[zI,zI,.slice 3 [],.slice 3 [],zI,zI,zI,.slice 3 [],.slice 1 []],.struct [(0,3),(1,33),(8,37)]⟩),
 (40,⟨1,24,[.slice 2 []],.slice 65⟩),
 (44,⟨1,24,[.slice 8 []],.slice 62⟩),
 (45,⟨1,8,[zI],.dF .i64⟩),
 (54,⟨1,8,[.map [] []],.map 3 4⟩),
 (57,⟨2,16,[zI,zI],.struct [(0,3),(1,3)]⟩),
 (58,⟨2,16,[zI,zI],.struct [(0,3),(1,3)]⟩),
 (59,⟨3,24,zs 3,.struct [(0,3),(1,3),(2,3)]⟩),
 (60,⟨3,24,zs 3,.struct [(0,3),(1,3),(2,3)]⟩),
 (61,⟨8,64,zs 8,.struct [(0,3),(1,58),(3,58),(5,60)]⟩),
 (62,⟨8,64,zs 8,.struct [(0,3),(1,58),(3,58),(5,60)]⟩),
 (63,⟨1,24,[.slice 5 []],.slice 138⟩),
 (64,⟨2,32,[zI,.slice 5 []],.struct [(0,3),(1,63)]⟩),
 (65,⟨2,32,[zI,.slice 5 []],.struct [(0,3),(1,63)]⟩),
 (67,⟨3,24,zs 3,.struct [(0,3),(1,3),(2,3)]⟩),
 (68,⟨3,24,zs 3,.struct [(0,3),(1,3),(2,3)]⟩),
 (69,⟨3,24,zs 3,.struct [(0,3),(1,3),(2,3)]⟩),
 (70,⟨3,24,zs 3,.struct [(0,3),(1,3),(2,3)]⟩),
 (72,⟨1,24,[.slice 2 []],.slice 75⟩),
 (74,⟨2,16,[zI,zI],.struct [(0,3),(1,3)]⟩),
 (75,⟨2,16,[zI,zI],.struct [(0,3),(1,3)]⟩),
 (78,⟨4,32,zs 4,.struct [(0,3),(1,58),(3,3)]⟩),
 (79,⟨4,32,zs 4,.struct [(0,3),(1,58),(3,3)]⟩),
 (92,⟨2,16,[zI,zI],.struct [(0,3),(1,3)]⟩),
 (93,⟨2,16,[zI,zI],.struct [(0,3),(1,3)]⟩),
 (94,⟨13,104,zs 13,.struct [(0,3),(1,3),(2,3),(3,3),(4,3),(5,93),(7,60),(10,60)]⟩),
 (95,⟨13,104,zs 13,.struct [(0,3),(1,3),(2,3),(3,3),(4,3),(5,93),(7,60),(10,60)]⟩),
 (97,⟨1,8,[.dI],.iH⟩),
 (108,⟨1,8,[.map [] []],.map 3 40⟩),
 (116,⟨2,16,[zI,zI],.struct [(0,3),(1,3)]⟩),
 (117,⟨2,16,[zI,zI],.struct [(0,3),(1,3)]⟩),
 (125,⟨12,96,zs 12,.struct [(0,3),(1,3),(2,3),(3,3),(4,3),(5,58),(7,58),(9,60)]⟩),
 (126,⟨12,96,zs 12,.struct [(0,3),(1,3),(2,3),(3,3),(4,3),(5,58),(7,58),(9,60)]⟩),
 (129,⟨7,104,[zI,.slice 3 [],.slice 3 [],zI,zI,zI,.slice 3 []],.struct [(0,33)]⟩),
 (130,⟨7,104,[zI,.slice 3 [],.slice 3 [],zI,zI,zI,.slice 3 []],.struct [(0,33)]⟩),
 (136,⟨1,24,[.slice 10 []],.slice 170⟩),
 (137,⟨5,56,[zI,zI,zI,zI,.slice 10 []],.struct [(0,3),(1,3),(2,58),(4,136)]⟩),
 (138,⟨5,56,[zI,zI,zI,zI,.slice 10 []],.struct [(0,3),(1,3),(2,58),(4,136)]⟩),
 (140,⟨15,264,[zI,.slice 4 [],.slice 13 [],.slice 12 [],zI,zI,.slice 3 [],.slice 3 [],zI,zI,zI,.slice 3 [],.slice 1 [],.slice 2 [],.slice 8 []],.struct [(0,26),(4,39),(13,72),(14,44)]⟩),
 (141,⟨15,264,[zI,.slice 4 [],.slice 13 [],.slice 12 [],zI,zI,.slice 3 [],.slice 3 [],zI,zI,zI,.slice 3 [],.slice 1 [],.slice 2 [],.slice 8 []],.struct [(0,26),(4,39),(13,72),(14,44)]⟩),
 (144,⟨13,104,zs 13,.struct [(0,95)]⟩),
 (145,⟨13,104,zs 13,.struct [(0,95)]⟩),
 (152,⟨1,8,[.map [] []],.map 3 24⟩),
 (169,⟨10,80,zs 10,.struct [(0,3),(1,3),(2,3),(3,58),(5,58),(7,60)]⟩),
 (170,⟨10,80,zs 10,.struct [(0,3),(1,3),(2,3),(3,58),(5,58),(7,60)]⟩),
 (176,⟨1,8,[.map [] []],.map 3 170⟩),
 (206,⟨1,8,[.map [] []],.map 3 3⟩),
 (234,⟨1,8,[.int .u64 0],.dF .u64⟩),
 (249,⟨1,8,[.map [] []],.map 3 95⟩),
 (269,⟨3,24,zs 3,.struct [(0,3),(1,3),(2,3)]⟩),
 (272,⟨1,8,[.map [] []],.map 70 4⟩),
 (281,⟨7,56,zs 7,.array 7 3⟩),
 (283,⟨1,8,[zI],.dF .i64⟩),
 (290,⟨1,4,[.int .u32 0],.dF .u32⟩),
 (292,⟨1,8,[.int .u64 0],.dF .u64⟩),
 (311,⟨1,8,[.int .u64 0],.dF .u64⟩),
 (315,⟨1,8,[.dI],.iH⟩),
 (327,⟨1,8,[.dI],.iH⟩),
 (349,⟨4,40,[.dI,.dI,.dI,.str ⟨#[]⟩],.struct [(0,17),(1,17),(2,17),(3,9)]⟩),
 (350,⟨4,40,[.dI,.dI,.dI,.str ⟨#[]⟩],.struct [(0,17),(1,17),(2,17),(3,9)]⟩),
 (351,⟨0,0,[],.array 0 16⟩),
 (352,⟨0,0,[],.struct [(0,351)]⟩),
 (353,⟨0,0,[],.struct [(0,351)]⟩),
 (355,⟨1,1,[.int .u8 0],.dF .u8⟩),
 (356,⟨1,1,[.int .u8 0],.dF .u8⟩),
 (358,⟨1,8,[.dI],.iH⟩),
 (359,⟨1,4,[.int .i32 0],.dF .i32⟩),
 (360,⟨1,4,[.int .i32 0],.dF .i32⟩),
 (361,⟨11,48,[.int .u64 0,.int .u64 0,.int .u32 0,.int .u8 0,.int .u8 0,.int .u8 0,.int .u8 0,.iB,.dI,.int .i32 0,.int .i32 0],.struct [(0,12),(1,12),(2,290),(3,355),(4,5),(5,5),(6,356),(7,357),(8,358),(9,359),(10,360)]⟩),
 (362,⟨11,48,[.int .u64 0,.int .u64 0,.int .u32 0,.int .u8 0,.int .u8 0,.int .u8 0,.int .u8 0,.iB,.dI,.int .i32 0,.int .i32 0],.struct [(0,12),(1,12),(2,290),(3,355),(4,5),(5,5),(6,356),(7,357),(8,358),(9,359),(10,360)]⟩),
 (363,⟨3,24,zs 3,.struct [(0,3),(1,58)]⟩),
 (364,⟨3,24,zs 3,.struct [(0,3),(1,58)]⟩)]++[1,41,42,43,47,48,49,51,52,53,56,66,71,73,77,81,82,83,85,86,88,90,91,96,99,101,102,103,104,105,106,107,109,111,112,113,114,115,118,119,120,121,122,123,124,127,128,131,132,133,134,135,139,143,147,148,149,150,151,153,154,155,156,157,158,159,160,161,162,163,164,165,166,168,171,172,173,174,175,178,179,180,181,182,183,184,185,186,188,189,190,191,192,193,194,195,196,197,198,199,200,201,202,203,204,205,207,208,209,210,211,212,213,214,215,216,217,218,219,220,222,223,224,225,226,227,228,229,230,231,232,233,235,236,237,238,239,240,241,242,243,244,245,246,247,248,251,252,253,254,255,256,257,258,259,260,261,262,263,264,265,266,267,268,270,271,273,274,275,276,277,278,280,282,285,286,287,288,289,291,293,295,296,297,298,299,300,301,302,303,304,305,306,308,310,312,313,314,316,317,318,319,320,321,322,323,324,325,326,328,329,330,331,332,333,334,335,336,337,338,339,340,341,342,343,344,345,346,347,348,354,357].map λn=>(n,⟨1,8,[.iB],.iH⟩)
def jj:bW:=λt=>(Bt.find? λp=>Nat.beq p.1 t).map (·.2)
structure Rat where
 n:Int
 d:Int
 deriving DecidableEq
structure aM where
 id:Int
 length:Rat
 key:Int
 deriving DecidableEq
structure Interval where
 steps:Int
 cg:Int
 deriving DecidableEq
structure aP where
 step:Int
 alter:Int
 aZ:Int
 deriving DecidableEq
structure Part where
 id:Int
 nm:Int
 of:Int
 aZ:Int
 ed:Int
 shift:Interval
 low:aP
 high:aP
 deriving DecidableEq
structure aq where
 id:Int
 part:Int
 az:Int
 bc:Int
 bF:Int
 start:Rat
 length:Rat
 aR:aP
 deriving DecidableEq
structure Score where
 version:Int
 bars:(List aM)
 parts:(List Part)
 notes:(List aq)
 deriving DecidableEq
structure Jump where
 at_:Int
 to:Int
 cW:Int
 deriving DecidableEq
structure Repeat where
 from_:Int
 aO:Int
 times:Int
 deriving DecidableEq
structure Ending where
 from_:Int
 aO:Int
 pass:Int
 deriving DecidableEq
structure Cut where
 from_:Int
 aO:Int
 pass:Int
 deriving DecidableEq
structure Form where
 bars:Int
 aX:(List Repeat)
 bz:(List Ending)
 jump:Jump
 ba:(List Cut)
 deriving DecidableEq
structure so where
 az:Int
 quarter:Rat
 deriving DecidableEq
structure dB where
 score:Score
 form:Form
 Gw:(List so)
 deriving DecidableEq
structure Room where
 version:Int
 form:Form
 bA:(List Int)
 deriving DecidableEq
structure aw where
 part:Int
 start:Rat
 length:Rat
 aR:aP
 deriving DecidableEq
structure Written where
 id:Int
 bc:Int
 bF:Int
 start:Rat
 length:Rat
 aR:aP
 deriving DecidableEq
structure aL where
 az:Int
 key:Int
 length:Rat
 notes:(List Written)
 deriving DecidableEq
structure View where
 part:Int
 bh:(List aL)
 deriving DecidableEq
structure aF where
 az:Int
 pass:Int
 deriving DecidableEq
structure Fraction where
 n:Int
 d:Int
 deriving DecidableEq
structure Order where
 form:Form
 deriving DecidableEq
structure xz where
 score:Score
 room:Room
 Oi:(List aF)
 N3:(List aw)
 deriving DecidableEq
structure Reader where
 part:Part
 deriving DecidableEq
def cp:Nat->Type
 |0=>Rat
 |1=>aM
 |2=>Interval
 |3=>aP
 |4=>Part
 |5=>aq
 |6=>Score
 |7=>Jump
 |8=>Repeat
 |9=>Ending
 |10=>Cut
 |11=>Form
 |12=>so
 |13=>dB
 |14=>Room
 |15=>aw
 |16=>Written
 |17=>aL
 |18=>View
 |19=>aF
 |20=>Fraction
 |21=>Order
 |22=>xz
 |23=>Reader
 |_+24=>Unit
instance:bQ:=⟨cp⟩
def bU:Nat->List Ty
 |0=>[.int .i64,.int .i64]
 |1=>[.int .i64,.st 0,.int .i64]
 |2=>[.int .i64,.int .i64]
 |3=>[.int .i64,.int .i64,.int .i64]
 |4=>[.int .i64,.int .i64,.int .i64,.int .i64,.int .i64,.st 2,.st 3,.st 3]
 |5=>[.int .i64,.int .i64,.int .i64,.int .i64,.int .i64,.st 0,.st 0,.st 3]
 |6=>[.int .i64,.list (.st 1),.list (.st 4),.list (.st 5)]
 |7=>[.int .i64,.int .i64,.int .i64]
 |8=>[.int .i64,.int .i64,.int .i64]
 |9=>[.int .i64,.int .i64,.int .i64]
 |10=>[.int .i64,.int .i64,.int .i64]
 |11=>[.int .i64,.list (.st 8),.list (.st 9),.st 7,.list (.st 10)]
 |12=>[.int .i64,.st 0]
 |13=>[.st 6,.st 11,.list (.st 12)]
 |14=>[.int .i64,.st 11,.list (.int .i64)]
 |15=>[.int .i64,.st 0,.st 0,.st 3]
 |16=>[.int .i64,.int .i64,.int .i64,.st 0,.st 0,.st 3]
 |17=>[.int .i64,.int .i64,.st 0,.list (.st 16)]
 |18=>[.int .i64,.list (.st 17)]
 |19=>[.int .i64,.int .i64]
 |20=>[.int .i64,.int .i64]
 |21=>[.st 11]
 |22=>[.st 6,.st 14,.list (.st 19),.list (.st 15)]
 |23=>[.st 4]
 |_+24=>[]
def ZB:Nat->Nat
 |0=>2
 |1=>4
 |2=>2
 |3=>3
 |4=>13
 |5=>12
 |6=>4
 |7=>3
 |8=>3
 |9=>3
 |10=>3
 |11=>7
 |12=>3
 |13=>12
 |14=>9
 |15=>8
 |16=>10
 |17=>5
 |18=>2
 |19=>2
 |20=>2
 |21=>7
 |22=>15
 |23=>13
 |_+24=>0
def un:∀i,cp i->(aT (bU i)).den
 |0=>λ(x:Rat)=>(x.n,x.d)
 |1=>λ(x:aM)=>(x.id,x.length,x.key)
 |2=>λ(x:Interval)=>(x.steps,x.cg)
 |3=>λ(x:aP)=>(x.step,x.alter,x.aZ)
 |4=>λ(x:Part)=>(x.id,x.nm,x.of,x.aZ,x.ed,x.shift,x.low,x.high)
 |5=>λ(x:aq)=>(x.id,x.part,x.az,x.bc,x.bF,x.start,x.length,x.aR)
 |6=>λ(x:Score)=>(x.version,x.bars,x.parts,x.notes)
 |7=>λ(x:Jump)=>(x.at_,x.to,x.cW)
 |8=>λ(x:Repeat)=>(x.from_,x.aO,x.times)
 |9=>λ(x:Ending)=>(x.from_,x.aO,x.pass)
 |10=>λ(x:Cut)=>(x.from_,x.aO,x.pass)
 |11=>λ(x:Form)=>(x.bars,x.aX,x.bz,x.jump,x.ba)
 |12=>λ(x:so)=>(x.az,x.quarter)
 |13=>λ(x:dB)=>(x.score,x.form,x.Gw)
 |14=>λ(x:Room)=>(x.version,x.form,x.bA)
 |15=>λ(x:aw)=>(x.part,x.start,x.length,x.aR)
 |16=>λ(x:Written)=>(x.id,x.bc,x.bF,x.start,x.length,x.aR)
 |17=>λ(x:aL)=>(x.az,x.key,x.length,x.notes)
 |18=>λ(x:View)=>(x.part,x.bh)
 |19=>λ(x:aF)=>(x.az,x.pass)
 |20=>λ(x:Fraction)=>(x.n,x.d)
 |21=>λ(x:Order)=>(x.form)
 |22=>λ(x:xz)=>(x.score,x.room,x.Oi,x.N3)
 |23=>λ(x:Reader)=>(x.part)
 |_+24=>λ_=>()
def ew:∀i,(aT (bU i)).den->cp i
 |0=>λx=>(⟨x.1,x.2⟩:Rat)
 |1=>λx=>(⟨x.1,x.2.1,x.2.2⟩:aM)
 |2=>λx=>(⟨x.1,x.2⟩:Interval)
 |3=>λx=>(⟨x.1,x.2.1,x.2.2⟩:aP)
 |4=>λx=>(⟨x.1,x.2.1,x.2.2.1,x.2.2.2.1,x.2.2.2.2.1,x.2.2.2.2.2.1,x.2.2.2.2.2.2.1,x.2.2.2.2.2.2.2⟩:Part)
 |5=>λx=>(⟨x.1,x.2.1,x.2.2.1,x.2.2.2.1,x.2.2.2.2.1,x.2.2.2.2.2.1,x.2.2.2.2.2.2.1,x.2.2.2.2.2.2.2⟩:aq)
 |6=>λx=>(⟨x.1,x.2.1,x.2.2.1,x.2.2.2⟩:Score)
 |7=>λx=>(⟨x.1,x.2.1,x.2.2⟩:Jump)
 |8=>λx=>(⟨x.1,x.2.1,x.2.2⟩:Repeat)
 |9=>λx=>(⟨x.1,x.2.1,x.2.2⟩:Ending)
 |10=>λx=>(⟨x.1,x.2.1,x.2.2⟩:Cut)
 |11=>λx=>(⟨x.1,x.2.1,x.2.2.1,x.2.2.2.1,x.2.2.2.2⟩:Form)
 |12=>λx=>(⟨x.1,x.2⟩:so)
 |13=>λx=>(⟨x.1,x.2.1,x.2.2⟩:dB)
 |14=>λx=>(⟨x.1,x.2.1,x.2.2⟩:Room)
 |15=>λx=>(⟨x.1,x.2.1,x.2.2.1,x.2.2.2⟩:aw)
 |16=>λx=>(⟨x.1,x.2.1,x.2.2.1,x.2.2.2.1,x.2.2.2.2.1,x.2.2.2.2.2⟩:Written)
 |17=>λx=>(⟨x.1,x.2.1,x.2.2.1,x.2.2.2⟩:aL)
 |18=>λx=>(⟨x.1,x.2⟩:View)
 |19=>λx=>(⟨x.1,x.2⟩:aF)
 |20=>λx=>(⟨x.1,x.2⟩:Fraction)
 |21=>λx=>(⟨x⟩:Order)
 |22=>λx=>(⟨x.1,x.2.1,x.2.2.1,x.2.2.2⟩:xz)
 |23=>λx=>(⟨x⟩:Reader)
 |_+24=>λ_=>()
def Cj(x:Rat):List D:=[.int .i64 x.n,.int .i64 x.d]
def xZ(x:aM):List D:=[.int .i64 x.id,.int .i64 x.length.n,.int .i64 x.length.d,.int .i64 x.key]
def Ck(x:Interval):List D:=[.int .i64 x.steps,.int .i64 x.cg]
def R7(x:aP):List D:=[.int .i64 x.step,.int .i64 x.alter,.int .i64 x.aZ]
def x5(x:Part):List D:=[.int .i64 x.id,.int .i64 x.nm,.int .i64 x.of,.int .i64 x.aZ,.int .i64 x.ed,.int .i64 x.shift.steps,.int .i64 x.shift.cg,.int .i64 x.low.step,.int .i64 x.low.alter,.int .i64 x.low.aZ,.int .i64 x.high.step,.int .i64 x.high.alter,.int .i64 x.high.aZ]
def sA(x:aq):List D:=[.int .i64 x.id,.int .i64 x.part,.int .i64 x.az,.int .i64 x.bc,.int .i64 x.bF,.int .i64 x.start.n,.int .i64 x.start.d,.int .i64 x.length.n,.int .i64 x.length.d,.int .i64 x.aR.step,.int .i64 x.aR.alter,.int .i64 x.aR.aZ]
def R8(x:Score):List D:=[.int .i64 x.version,.slice 4 (List.map (λy=>D.agg (xZ y)) x.bars),.slice 13 (List.map (λy=>D.agg (x5 y)) x.parts),.slice 12 (List.map (λy=>D.agg (sA y)) x.notes)]
def Cm(x:Jump):List D:=[.int .i64 x.at_,.int .i64 x.to,.int .i64 x.cW]
def sB(x:Repeat):List D:=[.int .i64 x.from_,.int .i64 x.aO,.int .i64 x.times]
def sC(x:Ending):List D:=[.int .i64 x.from_,.int .i64 x.aO,.int .i64 x.pass]
def oZ(x:Cut):List D:=[.int .i64 x.from_,.int .i64 x.aO,.int .i64 x.pass]
def RZ(x:Form):List D:=[.int .i64 x.bars,.slice 3 (List.map (λy=>D.agg (sB y)) x.aX),.slice 3 (List.map (λy=>D.agg (sC y)) x.bz),.int .i64 x.jump.at_,.int .i64 x.jump.to,.int .i64 x.jump.cW,.slice 3 (List.map (λy=>D.agg (oZ y)) x.ba)]
def Ig(x:so):List D:=[.int .i64 x.az,.int .i64 x.quarter.n,.int .i64 x.quarter.d]
def R1(x:dB):List D:=[.int .i64 x.score.version,.slice 4 (List.map (λy=>D.agg (xZ y)) x.score.bars),.slice 13 (List.map (λy=>D.agg (x5 y)) x.score.parts),.slice 12 (List.map (λy=>D.agg (sA y)) x.score.notes),.int .i64 x.form.bars,.slice 3 (List.map (λy=>D.agg (sB y)) x.form.aX),.slice 3 (List.map (λy=>D.agg (sC y)) x.form.bz),.int .i64 x.form.jump.at_,.int .i64 x.form.jump.to,.int .i64 x.form.jump.cW,.slice 3 (List.map (λy=>D.agg (oZ y)) x.form.ba),.slice 3 (List.map (λy=>D.agg (Ig y)) x.Gw)]
def R2(x:Room):List D:=[.int .i64 x.version,.int .i64 x.form.bars,.slice 3 (List.map (λy=>D.agg (sB y)) x.form.aX),.slice 3 (List.map (λy=>D.agg (sC y)) x.form.bz),.int .i64 x.form.jump.at_,.int .i64 x.form.jump.to,.int .i64 x.form.jump.cW,.slice 3 (List.map (λy=>D.agg (oZ y)) x.form.ba),.slice 1 (List.map (λy=>D.int .i64 y) x.bA)]
def x2(x:aw):List D:=[.int .i64 x.part,.int .i64 x.start.n,.int .i64 x.start.d,.int .i64 x.length.n,.int .i64 x.length.d,.int .i64 x.aR.step,.int .i64 x.aR.alter,.int .i64 x.aR.aZ]
def x4(x:Written):List D:=[.int .i64 x.id,.int .i64 x.bc,.int .i64 x.bF,.int .i64 x.start.n,.int .i64 x.start.d,.int .i64 x.length.n,.int .i64 x.length.d,.int .i64 x.aR.step,.int .i64 x.aR.alter,.int .i64 x.aR.aZ]
def Ih(x:aL):List D:=[.int .i64 x.az,.int .i64 x.key,.int .i64 x.length.n,.int .i64 x.length.d,.slice 10 (List.map (λy=>D.agg (x4 y)) x.notes)]
def R3(x:View):List D:=[.int .i64 x.part,.slice 5 (List.map (λy=>D.agg (Ih y)) x.bh)]
def Ii(x:aF):List D:=[.int .i64 x.az,.int .i64 x.pass]
def Cl(x:Fraction):List D:=[.int .i64 x.n,.int .i64 x.d]
def R4(x:Order):List D:=[.int .i64 x.form.bars,.slice 3 (List.map (λy=>D.agg (sB y)) x.form.aX),.slice 3 (List.map (λy=>D.agg (sC y)) x.form.bz),.int .i64 x.form.jump.at_,.int .i64 x.form.jump.to,.int .i64 x.form.jump.cW,.slice 3 (List.map (λy=>D.agg (oZ y)) x.form.ba)]
def R5(x:xz):List D:=[.int .i64 x.score.version,.slice 4 (List.map (λy=>D.agg (xZ y)) x.score.bars),.slice 13 (List.map (λy=>D.agg (x5 y)) x.score.parts),.slice 12 (List.map (λy=>D.agg (sA y)) x.score.notes),.int .i64 x.room.version,.int .i64 x.room.form.bars,.slice 3 (List.map (λy=>D.agg (sB y)) x.room.form.aX),.slice 3 (List.map (λy=>D.agg (sC y)) x.room.form.bz),.int .i64 x.room.form.jump.at_,.int .i64 x.room.form.jump.to,.int .i64 x.room.form.jump.cW,.slice 3 (List.map (λy=>D.agg (oZ y)) x.room.form.ba),.slice 1 (List.map (λy=>D.int .i64 y) x.room.bA),.slice 2 (List.map (λy=>D.agg (Ii y)) x.Oi),.slice 8 (List.map (λy=>D.agg (x2 y)) x.N3)]
def R6(x:Reader):List D:=[.int .i64 x.part.id,.int .i64 x.part.nm,.int .i64 x.part.of,.int .i64 x.part.aZ,.int .i64 x.part.ed,.int .i64 x.part.shift.steps,.int .i64 x.part.shift.cg,.int .i64 x.part.low.step,.int .i64 x.part.low.alter,.int .i64 x.part.low.aZ,.int .i64 x.part.high.step,.int .i64 x.part.high.alter,.int .i64 x.part.high.aZ]
abbrev Cc(a b:Rat):Bool:=cV (Cj a) (Cj b)
abbrev H0(a b:Interval):Bool:=cV (Ck a) (Ck b)
abbrev H3(a b:aq):Bool:=cV (sA a) (sA b)
abbrev Cb(a b:Jump):Bool:=cV (Cm a) (Cm b)
abbrev HY(a b:Cut):Bool:=cV (oZ a) (oZ b)
abbrev H5(a b:aw):Bool:=cV (x2 a) (x2 b)
abbrev sw(a b:Written):Bool:=cV (x4 a) (x4 b)
abbrev HZ(a b:Fraction):Bool:=cV (Cl a) (Cl b)
def cells:∀i,cp i->List D
 |0=>Cj
 |1=>xZ
 |2=>Ck
 |3=>R7
 |4=>x5
 |5=>sA
 |6=>R8
 |7=>Cm
 |8=>sB
 |9=>sC
 |10=>oZ
 |11=>RZ
 |12=>Ig
 |13=>R1
 |14=>R2
 |15=>x2
 |16=>x4
 |17=>Ih
 |18=>R3
 |19=>Ii
 |20=>Cl
 |21=>R4
 |22=>R5
 |23=>R6
 |_+24=>λ_=>[]
def oJ(i x):un i (ew i x)=x:=by(iterate 24 (rcases i with _|i;rfl));rfl
def Ep(i x):ew i (un i x)=x:=by(iterate 24 (rcases i with _|i;rfl));rfl
def V6:List Int:=[0,2,4,5,7,9,11]
def pn:Nat->Option (List Int):=λg=>bif Nat.beq g 0 then some V6 else none
instance:aD:=⟨bU,ZB,un,ew,cells,oJ,Ep,pn⟩
def fF:List (Nat×Ty):=[(2,.int .i64),(3,.int .i64),(4,.bool),(5,.int .u8),(6,.int .u8),(9,.str),(10,.str),(11,.str),(12,.int .u64),(21,.int .i32),(22,.list (.st 1)),(23,.list (.st 4)),(24,.list (.st 5)),(25,.st 6),(26,.st 6),(27,.list (.st 8)),(28,.list (.st 9)),(29,.st 7),(30,.st 7),(31,.list (.st 10)),(32,.st 11),(33,.st 11),(34,.list (.st 12)),(35,.st 13),(36,.st 13),(37,.list (.int .i64)),(38,.st 14),(39,.st 14),(40,.list (.st 18)),(44,.list (.st 15)),(45,.int .i64),(54,.map (.int .i64) (.bool)),(57,.st 0),(58,.st 0),(59,.st 3),(60,.st 3),(61,.st 15),(62,.st 15),(63,.list (.st 17)),(64,.st 18),(65,.st 18),(67,.st 8),(68,.st 8),(69,.st 10),(70,.st 10),(72,.list (.st 19)),(74,.st 19),(75,.st 19),(78,.st 1),(79,.st 1),(92,.st 2),(93,.st 2),(94,.st 4),(95,.st 4),(108,.map (.int .i64) (.list (.st 18))),(116,.st 20),(117,.st 20),(125,.st 5),(126,.st 5),(129,.st 21),(130,.st 21),(136,.list (.st 16)),(137,.st 17),(138,.st 17),(140,.st 22),(141,.st 22),(144,.st 23),(145,.st 23),(152,.map (.int .i64) (.list (.st 5))),(169,.st 16),(170,.st 16),(176,.map (.int .i64) (.st 16)),(206,.map (.int .i64) (.int .i64)),(234,.int .u64),(249,.map (.int .i64) (.st 4)),(269,.st 9),(272,.map (.st 10) (.bool)),(283,.int .i64),(290,.int .u32),(292,.int .u64),(311,.int .u64),(355,.int .u8),(356,.int .u8),(359,.int .i32),(360,.int .i32),(363,.st 12),(364,.st 12)]
def aan:TypeId->Option Ty:=λt=>(fF.find? λp=>Nat.beq p.1 t).map (·.2)
end Go.Proofs.YthhlipkkjippfaaGreatDoor
namespace Go.Proofs.YthhlipkkjippfaaGreatDoor
open Go Go.ag Go.Sy
def Zo(i a):aD.cells i a=cellsOf (aD.bU i) (aD.un i a):=by(iterate 24 (rcases i with _|i;rfl));rfl
def Zp(i a):(aD.cells i a).length=aD.sz i:=by(iterate 24 (rcases i with _|i;rfl));rfl
def Zq(i a):(aD.cells i a).all D.one=true:=by(iterate 24 (rcases i with _|i;rfl));rfl
instance:cz:=⟨Zo,Zp,λi a=>dT.1 (Zq i a)⟩
def Zr(i):(aD.bU i).all dG=true:=by(iterate 24 (rcases i with _|i;rfl));rfl
instance:c9:=haveI:bd:=⟨True,λ_=>none⟩;⟨λi t h=>cE (dT.1 (Zr i) t h)⟩
class mh where
 on:Prop
def ZD:Nat->Option D:=λg=>(pn g).map λl=>.agg (l.map (.int .i64))
instance nL[mh]:bd:=⟨mh.on,ZD⟩
instance [mh]:oR:=⟨λg ls h=>by show(pn g).map _=_;rw[show pn g=some ls from h];rfl⟩
variable [mh]
def aao:Bt.all (λp=>xi Tryz.prog p.1 p.2)=true:=by kernel_rfl
def NS:bZ Tryz.prog jj:=by
 have h:=bZ.EB aao
 have e:(λt=>(Bt.find? λp=>p.1 == t).map (·.2))=jj:=by funext t;exact ea (Option.map Prod.snd) (CW Bt t)
 rw[<-e];exact h
def rI(n:Nat):List Lf:=List.replicate n (.int .i64)
def yi:List (Nat×List Lf):=[(4,[.bool]),(58,rI 2),(79,rI 4),(93,rI 2),(60,rI 3),(95,rI 13),(126,rI 12),(30,rI 3),(68,rI 3),(269,rI 3),(70,rI 3),(364,rI 3),(62,rI 8),(170,rI 10),(75,rI 2),(117,rI 2),(145,rI 13)]
def Th:qj Tryz.prog (Ks yi):=qj.EB (by kernel_rfl)
def Dg:List Nat:=[40,53,62,76,96,118,119,135,144,147,148,153,157,190,196,200,201,208,211,222,225,229,231,233,234,273,276,278,280]
def eqs:TypeId->Option (List Lf):=λt=>(yi.find? λp=>Nat.beq p.1 t).map (·.2)
def I5:qj Tryz.prog eqs:=by
 have e:Ks yi=eqs:=by funext t;exact ea (Option.map Prod.snd) (CW yi t)
 rw[<-e];exact Th
def cx(j:Nat)(k:List ml)(fs:List (Nat×Func))(ts:List kF):Cx:=⟨jj,aan,eqs,j,k,fs,0,false,Dg,ts,[],[]⟩
noncomputable def Tf:Env:={E:=jj,C:=λ_ _=>none,ja:=eqs,P:=Tryz.prog}
def SG:fF.all (λp=>r6 (cx 0 [] [] []) p.1 p.2)=true:=by kernel_rfl
def SH(j:Nat)(k:List ml)(fs:List (Nat×Func))(ts:List kF):bL Tryz.prog Tf (cx j k fs ts):=haveI:=bV;⟨⟨NS,(λ_ _ _ _ h=>by cases h),I5,(λ_ _ _ _ h=>by cases h),rfl⟩,rfl,rfl,rfl,Wx SG⟩
def mixed:Tryz.prog.follows .mixedOrders=true:=by kernel_rfl
noncomputable def s7:List (Nat×Func):=[(234,Tryz.f234),(70,Tryz.f70),(154,Tryz.f154),(236,Tryz.f236),(237,Tryz.f237),(259,Tryz.f259),(281,Tryz.f281),(310,Tryz.f310),(233,Tryz.f233),(152,Tryz.f152),(271,Tryz.f271),(32,Tryz.f32),(34,Tryz.f34),(35,Tryz.f35),(73,Tryz.f73),(72,Tryz.f72),(157,Tryz.f157),(61,Tryz.f61),(135,Tryz.f135),(136,Tryz.f136),(137,Tryz.f137),(225,Tryz.f225),(123,Tryz.f123),(209,Tryz.f209),(232,Tryz.f232),(210,Tryz.f210),(226,Tryz.f226),(227,Tryz.f227),(211,Tryz.f211),(119,Tryz.f119),(148,Tryz.f148),(231,Tryz.f231),(147,Tryz.f147),(229,Tryz.f229)]
def UO:oP Tryz.prog s7:=Ug ⟨Tryz.func234,Tryz.func70,Tryz.func154,Tryz.func236,Tryz.func237,Tryz.func259,Tryz.func281,Tryz.func310,Tryz.func233,Tryz.func152,Tryz.func271,Tryz.func32,Tryz.func34,Tryz.func35,Tryz.func73,Tryz.func72,Tryz.func157,Tryz.func61,Tryz.func135,Tryz.func136,Tryz.func137,Tryz.func225,Tryz.func123,Tryz.func209,Tryz.func232,Tryz.func210,Tryz.func226,Tryz.func227,Tryz.func211,Tryz.func119,Tryz.func148,Tryz.func231,Tryz.func147,Tryz.func229,trivial⟩ (by kernel_rfl)
def Kl{f:FuncId}{fn:Func}{j k:List Ty}{g:(aT j).den->Option (aT k).den}(cs:List Sy.Callee)(ts:List iO)(B:cs.foldr (λc p=>gM Tryz.prog c/\p) True)(M:ts.foldr (λc p=>nB Tryz.prog c.f c.t c.args c.fn/\p) True)(F:Tryz.prog.funcs[f]?=some fn)(G:sO fn j k=true)(h:∀a,sP (cs++ts.map iO.oX) (uy (cx fn.ntmps (cs.map oF) s7 (p9 ts cs.length)) fn.results.toList (jR fn) j k) j k a=g a):gM Tryz.prog ⟨f,j,k,g⟩:=RS (SH fn.ntmps (cs.map oF) s7 (p9 ts cs.length)) (RY B M rfl rfl) UO rfl mixed F G h
theorem kk{f:FuncId}{fn:Func}{j k:List Ty}{g:(aT j).den->Option (aT k).den}(cs:List Sy.Callee)(B:cs.foldr (λc p=>gM Tryz.prog c/\p) True)(F:Tryz.prog.funcs[f]?=some fn)(G:sO fn j k=true)(h:∀a,sP (cs++[]) (uy (cx fn.ntmps (cs.map oF) s7 []) fn.results.toList (jR fn) j k) j k a=g a):gM Tryz.prog ⟨f,j,k,g⟩:=Kl cs [] B trivial F G h
structure Bk where
 c:Sy.Callee
 k:gM Tryz.prog c
def H8(j:List Bk):(j.map Bk.c).foldr (λc p=>gM Tryz.prog c/\p) True:=by
 induction j with
 |nil=>trivial
 |cons b r B=>exact⟨b.k,B⟩
abbrev tI:Ty:=.int .i64
noncomputable def bk(j k:List Ty)(g:(aT j).den->Option (aT k).den)(B:List Bk){f:FuncId}{fn:Func}(F:Tryz.prog.funcs[f]?=some fn)(G:sO fn j k=true:=by kernel_rfl)(h:∀a,sP (B.map Bk.c++[]) (uy (cx fn.ntmps ((B.map Bk.c).map oF) s7 []) fn.results.toList (jR fn) j k) j k a=g a:=by intro a;kernel_rfl):Bk:=⟨⟨f,j,k,g⟩,kk (B.map Bk.c) (H8 B) F G h⟩
noncomputable def Cd(j B:List Ty)(g:(aT j).den->Option (aT B).den)(k:List Bk)(ts:List iO)(M:ts.foldr (λc p=>nB Tryz.prog c.f c.t c.args c.fn/\p) True){f:FuncId}{fn:Func}(F:Tryz.prog.funcs[f]?=some fn)(G:sO fn j B=true:=by kernel_rfl)(h:∀a,sP (k.map Bk.c++ts.map iO.oX) (uy (cx fn.ntmps ((k.map Bk.c).map oF) s7 (p9 ts (k.map Bk.c).length)) fn.results.toList (jR fn) j B) j B a=g a:=by intro a;kernel_rfl):Bk:=⟨⟨f,j,B,g⟩,Kl (k.map Bk.c) ts (H8 k) M F G h⟩
end Go.Proofs.YthhlipkkjippfaaGreatDoor
namespace Go.Proofs.YthhlipkkjippfaaGreatDoor
open Go Go.ag Go.Sy Go.RowKit Go.ChangeShapes Go.WideShapes
def own:ownKnob Tryz.prog.godebug=none:=by kernel_rfl
def laidOut:laidOutB Tryz.prog=true:=by kernel_rfl
theorem jt:sd (λH=>Rows.uptoBulk (H:=H)) (λH=>Rows.uptoBulkAll (H:=H)) where
 str _ bs:=by simp[Rows.uptoBulk]
 sl _ a b:=by simp[Rows.uptoBulk]
 agg _ a:=by simp[Rows.uptoBulk]
 nil _:=by simp[Rows.uptoBulkAll]
 cons _ d r:=by simp[Rows.uptoBulkAll]
 one _ d:=by
  cases d with
  |lit l=>cases l<;>simp[Rows.uptoBulk]
  |_=>simp[Rows.uptoBulk]
def Gb{H:Type}{en:TypeId×Value->H}{W:World}{base:Nat}{sp:Nat->Bool}{held:Bool}(b:Bool):DataW.Trod en Tryz.prog W base sp held 4 (.bool b) (.lit (.bool b)) []:=⟨1,by simp[DataW.trod,Value.cells,Tryz.underlying4]⟩
def RQ{H:Type}{d:DataW H}{l:List (DataW H)}(h:d∈l):Rows.uptoBulk d<=Rows.uptoBulkAll l:=by
 induction l with
 |nil=>cases h
 |cons x r j=>
  simp only[Rows.uptoBulkAll]
  rcases fb.1 h with e|e
  ·subst e;omega
  have:=j e;omega
theorem pY{H:Type}{ds:List (DataW H)}(h:Rows.uptoSmall H ds=true){d:DataW H}(j:d∈ds):Rows.uptoBulk d<=1048576:=by
 have k:Rows.uptoBulkAll ds<=1048576:=hD h
 have:=RQ j
 omega
def JN:Tryz.prog.globalNamed "partbook/pitch.naturals" = some 0:=by kernel_rfl
def Uh:(Tryz.prog.globals[0]?).map (·.type)=some 281:=by kernel_rfl
def Se:Tryz.prog.cellsOf 281=7:=by kernel_rfl
def R9:Tryz.prog.cellsOf 3=1:=by kernel_rfl
def uA:List Int:=[0,2,4,5,7,9,11]
def table{W:World}(h:laidMetH Tryz.prog [("partbook/pitch.naturals",Rows.laid_partbook_pitch_naturals)] W):Lib.TabIs Tryz.prog W "partbook/pitch.naturals" .i64 uA:=
 Lib.tabIs_of_head (rest:=[]) JN Uh Tryz.underlying281 Tryz.underlying3 R9 Se h
def c7[mh]{W:World}(h:laidMetH Tryz.prog [("partbook/pitch.naturals",Rows.laid_partbook_pitch_naturals)] W):∀g d,bd.iz g=some d->Rd (allI W) (.pointer (some ⟨g,0,none⟩)) (.box d):=by
 intro g d U
 have j:(pn g).map (λl=>D.agg (l.map (.int .i64)))=some d:=U
 by_cases G:g=0
 ·subst G
  have e:(pn 0).map (λl=>D.agg (l.map (.int .i64)))=some (.agg (uA.map (.int .i64))):=rfl
  rw[e]at j
  injection j with j
  subst j
  have ht:=λi hi=>(table h).cell JN i hi
  refine .box 0 _ (λk=>(W.cell? ⟨0,k,none⟩).getD undef) (λx F=>?_) (λk Y=>?_) (λk x F=>?_)
  ·obtain⟨n,_,rfl⟩:=hz.1 (show x∈uA.map (D.int .i64)from F);rfl
  ·have B:k<uA.length:=by simpa [D.cells]using Y
   show W.cell? ⟨0,k,none⟩=_
   rw[ht k B];rfl
  have N:(uA.map (D.int .i64))[k]?=some x:=F
  rw[e0]at N
  obtain⟨n,M,rfl⟩:=e6.1 N
  have B:k<uA.length:=(da.1 M).1
  rw[ht k B,List.getD_eq_getElem?_getD,M]
  exact .int _ _
 have O:Nat.beq g 0=false:=by
  cases h:Nat.beq g 0 with
  |false=>rfl
  |true=>exact absurd (et h) G
 have e:pn g=none:=by simp only[pn,O,cond_false]
 rw[e]at j;cases j
end Go.Proofs.YthhlipkkjippfaaGreatDoor
namespace Go.Proofs.YthhlipkkjippfaaGreatDoor
open Go Go.ag Go.Sy
variable [mh]
set_option maxRecDepth 100000
noncomputable def ow:Int->Option Int:=λ(j)=>ae (ai (jH j)) <|some (max j (jH j))
noncomputable def B5:=bk [tI] [tI] ow [] Tryz.func216
end Go.Proofs.YthhlipkkjippfaaGreatDoor
namespace Go.Proofs.YthhlipkkjippfaaGreatDoor
open Go Go.ag bG
variable [mh]
attribute [local instance] bV
set_option maxRecDepth 10000
instance:bG Fraction:=⟨λr=>.agg [.int .i64 r.n,.int .i64 r.d],λd=>match d with |.agg [.int _ j,.int _ k]=>⟨j,k⟩|_=>⟨0,0⟩,2,λ_=>rfl,λ_=>rfl,by simp[D.cells,D.one,sH]⟩
theorem S9(r:Fraction):bG.enc r = .agg [.int .i64 r.n,.int .i64 r.d]:=rfl
theorem SP(B F:IntKind)(j:Int)(k:Int):(bG.dec (.agg [.int B j,.int F k]):Fraction)=⟨j,k⟩:=rfl
theorem YV:bG.size Fraction=2:=rfl
theorem NR:jj 3=some ⟨1,8,[.int .i64 0],.dF .i64⟩:=rfl
theorem NQ:jj 4=some ⟨1,1,[.bool false],.iH⟩:=rfl
theorem ZH:jj 241=some ⟨1,8,[.iB],.iH⟩:=rfl
theorem ZG:jj 117=some ⟨2,16,[.int .i64 0,.int .i64 0],.struct [(0,3),(1,3)]⟩:=rfl
noncomputable def env(l:List (FuncId×ag.Spec)):Env:={E:=jj,C:=qy l,ja:=eqs,P:=Tryz.prog}
def nN{l:List (FuncId×ag.Spec)}(h:sn Tryz.prog l):cn Tryz.prog (env l):=haveI:=bV;⟨NS,h.ok,I5,(λ_ _ _ _ h=>by cases h),rfl⟩
attribute [local congr] aG.It
attribute [local simp] dC fB dg evalOp bE ag.get lq strip bH ag.after qB typed kZ holds du R.ok R.bad kf eB uC nc Gr xe Op.operands Call.operands dc cH eP cZ sy qu fq qy ng jd Nx Ny Nz NA qD IV IB Iz Nc bm D.cells T.fA D.one fP eQ ij gp setAt eV gV me jU lL bw cY jB gN jD jh ye arith fk qR qN ev kM rH TD.agg env cu List.map fL Mc Md Me Mf Mg Mh Mi Mj IX Nd IC NB rV NC ND NF oj Bc gone unbox lJ kr kH kV IW IA Nb MZ Cu List.contains_cons List.contains_nil IP S9 SP YV NR NQ ZH ZG
noncomputable def Gh:ag.Spec:=rV λ(j:Int)=>(ow j).map λr=>enc r
def WB:qm Tryz.prog 216 Gh:=qm.Lm B5.k.enters λa r h=>by
 obtain⟨y,j,rfl⟩:=e6.1 h
 exact B5.k.jv a y j
def fT(a b:Int):Int:=if h:b=0 then a else fT b (a.tmod b)
termination_by b.natAbs
decreasing_by
 rw[abr]
 exact rv _ (by omega)
def AP(a:Int):fT a 0=a:=by rw[fT];simp
def Fy{a b:Int}(h:b≠0):fT a b=fT b (a.tmod b):=by rw[fT];simp[h]
def M1:∀(k:Nat)(a b:Int){j:List AO}{id:Nat},b.natAbs<=k->j[id]?=some (.var 241 [.aB 230 [.ptr id 0]])->oQ j ->
  im Tryz.prog 230 [.d (.int .i64 a),.d (.int .i64 b),.ptr id 0] j λu l'=>u = .d (.int .i64 (fT a b))/\∃vals ft,l'=j++[.frame j.length vals ft]
 |k,a,b,j,id,hk,U,af=>by
  have B:cn Tryz.prog (env []):=nN trivial
  refine im.of B (Enters.of Tryz.func230 (by decide)) Tryz.func230 rfl (by rw[Tryz.ntmps230];simp) λR au w0 I0 vals ft Q ad=>?_
  rw[Tryz.ntmps230]
  have M:=Ul U [.frame j.length vals ft]
  have N:=af.frame vals ft
  have ae:(j++[AO.frame j.length vals ft])[j.length]?=some (.frame j.length vals ft):=by simp
  have G:∀(n:Int)(t:Tm),ag.get t 5 = .d (.int .i64 n)->n=fT a b->∀st,ag.Sub st ⟨t,j++[AO.frame j.length vals ft]⟩->Q .ret st:=by
   intro n t ht ah st aj
   refine ad _ _ (.inl rfl) ⟨_,aj,by simp[eX],ae,?_,vals,ft,rfl⟩
   simp[eX,xl,ht,ah]
  have av:id<j.length:=(da.1 U).1
  obtain⟨L,ab⟩:∃L,L=j++[AO.frame j.length vals ft]:=⟨_,rfl⟩
  rw[<-ab]at M N G⊢
  simp only[iJ]
  refine aG.rS B none [0,1,2] λK ak=>?_
  simp
  refine dS (s':=⟨[(0,.d (.int .i64 a)),(1,.d (.int .i64 b)),(2,.ptr id 0)],L⟩) (by first|rfl|simp) (ak _ ?_)
  refine aG.F6 (λs'=>b≠0/\Sub s' ⟨[(0,.d (.int .i64 a)),(1,.d (.int .i64 b)),(2,.ptr id 0)],L⟩) (λ_ al=>?_) ?_
  ·refine aG.rS B none [0,1,2,7] λK O=>?_
   simp
   refine dS (s':=⟨[(0,.d (.int .i64 a)),(1,.d (.int .i64 b)),(2,.ptr id 0),(7,.d (.bool (decide (b=0))))],L⟩) (by first|rfl|simp) (O _ ?_)
   refine aG.cond (b:=decide (b=0)) rfl (λh=>?_) λh=>?_
   ·have F:b=0:=by simpa using h
    refine aG.rS B none [5] λK an=>?_
    simp
    refine dS (s':=⟨[(5,.d (.int .i64 a))],L⟩) (by first|rfl|simp) (an _ ?_)
    refine aG.ret ?_
    exact G a _ rfl (by rw[F,AP]) _ (Sub.refl _)
   refine aG.skip (al _ ⟨by simpa using h,Sub.rT (by simp[nP])⟩)
  rintro s' ⟨F,ai⟩
  refine aG.sub ai ?_
  refine aG.Mb B mixed none 5 [] [9,10,13] [5] (by decide) (by decide) λK O aq Z=>?_
  simp[M,F]
  refine dS (s':=⟨[(9,.aB 230 [.ptr id 0]),(10,.d (.int .i64 b)),(13,.d (.int .i64 (a.tmod b)))],L⟩) (by first|rfl|simp) (Z _ ?_)
  refine de.call B 230 [.d (.int .i64 b),.d (.int .i64 (a.tmod b)),.ptr id 0] rfl rfl trivial (by decide) (by simp[dZ]) λar aa=>?_
  have aw:(a.tmod b).natAbs<b.natAbs:=by rw[abr];exact rv _ (by omega)
  match k,hk with
  |0,hk=>omega
  |k+1,hk=>
   refine(M1 k b (a.tmod b) (by omega) M N).mono ?_
   rintro _ _ ⟨rfl,ao,Y,rfl⟩
   refine aa _ _ (de.fin B none ?_)
   simp
   refine dS (s':=⟨[(5,.d (.int .i64 (fT b (a.tmod b))))],L++[.frame L.length ao Y]⟩) (by first|rfl|simp) (O _ ?_)
   refine aG.ret ?_
   exact G _ [(5,.d (.int .i64 (fT b (a.tmod b))))] rfl (Fy F).symm _ (Sub.drop N (by simp[T.dp]) (by simp[nP]))
noncomputable def tF(f:Fraction)(g:Int):Option Fraction:=bJ (g≠0) (bJ (gT (f.n.tdiv g)) (bJ (gT (f.d.tdiv g)) (some ⟨f.n.tdiv g,f.d.tdiv g⟩)))
noncomputable def pI(f:Fraction):Option Fraction:=
 aa (ow f.n) λa=>aa (ow f.d) λb=>
 ab (decide (f.d<0)) (bJ (gT (0-fT a b)) (tF f (0-fT a b))) (tF f (fT a b))
noncomputable def Nw:ag.Spec:=rV λ(f:Fraction)=>(pI f).map λr=>enc r
def Lo:qm Tryz.prog 143 Nw:=by
 have k:cn Tryz.prog (env [(216,Gh)]):=nN ⟨WB,trivial⟩
 refine qm.Lm (Enters.of Tryz.func143 (by decide)) ?_
 intro f an M
 obtain⟨r,j,rfl⟩:=e6.1 M
 clear M
 refine eO.Ln k Tryz.func143 rfl (by rw[Tryz.ntmps143];simp) λR al w0 I0 Q ab=>?_
 rw[Tryz.ntmps143]
 unfold pI at j
 obtain⟨a,ad,j⟩:=Ia j
 obtain⟨b,ae,j⟩:=Ia j
 refine aG.rS k none [1,2] λK B=>?_
 simp
 refine dS (s':=⟨[(1,.ptr 0 0),(2,.ptr 1 0)],[.var 117 (bm (.d (enc f))),.var 117 [.d (.int .i64 0),.d (.int .i64 0)]]⟩) (by first|rfl|simp) (B _ ?_)
 refine aG.rS k none [1,2,3] λK B=>?_
 simp
 refine dS (s':=⟨[(1,.ptr 0 0),(2,.ptr 1 0),(3,.ptr 2 0)],[.var 117 (bm (.d (enc f))),.var 117 [.d (.int .i64 0),.d (.int .i64 0)],.var 241 [.d .iB]]⟩) (by first|rfl|simp) (B _ ?_)
 refine aG.rS k none [1,2,3] λK B=>?_
 simp
 refine dS (s':=⟨[(1,.ptr 0 0),(2,.ptr 1 0),(3,.ptr 2 0)],[.var 117 (bm (.d (enc f))),.var 117 [.d (.int .i64 0),.d (.int .i64 0)],.var 241 [.aB 230 [.ptr 2 0]]]⟩) (by first|rfl|simp) (B _ ?_)
 refine aG.Mb k mixed none 7 [] [1,2,6,9,12] [1,2,4] (by decide) (by decide) λK ag aj Z=>?_
 simp[Gh,ad,ae]
 refine dS (s':=⟨[(1,.ptr 0 0),(2,.ptr 1 0),(6,.aB 230 [.ptr 2 0]),(9,.d (.int .i64 a)),(12,.d (.int .i64 b))],[.var 117 (bm (.d (enc f))),.var 117 [.d (.int .i64 0),.d (.int .i64 0)],.var 241 [.aB 230 [.ptr 2 0]]]⟩) (by first|rfl|simp) (Z _ ?_)
 refine de.call k 230 [.d (.int .i64 a),.d (.int .i64 b),.ptr 2 0] rfl rfl trivial (by decide) (by simp[dZ]) λak aa=>?_
 refine(M1 b.natAbs a b (eb _) rfl (by simp[oQ,AO.dp,T.dp,T.px])).mono ?_
 rintro _ _ ⟨rfl,ai,O,rfl⟩
 refine aa _ _ (de.fin k none ?_)
 simp
 refine dS (s':=⟨[(1,.ptr 0 0),(2,.ptr 1 0),(4,.d (.int .i64 (fT a b)))],[.var 117 (bm (.d (enc f))),.var 117 [.d (.int .i64 0),.d (.int .i64 0)],.var 241 [.aB 230 [.ptr 2 0]]]++[.frame 3 ai O]⟩) (by first|rfl|simp) (ag _ ?_)
 refine aG.sub (s':=⟨[(1,.ptr 0 0),(2,.ptr 1 0),(4,.d (.int .i64 (fT a b)))],[.var 117 (bm (.d (enc f))),.var 117 [.d (.int .i64 0),.d (.int .i64 0)]]⟩) (Sub.bM [0,1] (by decide) (by simp[mF]) (by simp[cL,AO.bM,T.bM,T.cK]) (by simp[jV,T.bM,T.cK,idx])) ?_
 refine aG.F6 (λs'=>∃g,tF f g=some r/\Sub s' ⟨[(1,.ptr 0 0),(2,.ptr 1 0),(4,.d (.int .i64 g))],[.var 117 (bm (.d (enc f))),.var 117 [.d (.int .i64 0),.d (.int .i64 0)]]⟩) (λ_ N=>?_) ?_
 ·refine aG.rS k none [1,2,4,16] λK ah=>?_
  simp
  refine dS (s':=⟨[(1,.ptr 0 0),(2,.ptr 1 0),(4,.d (.int .i64 (fT a b))),(16,.d (.bool (decide (f.d<0))))],[.var 117 (bm (.d (enc f))),.var 117 [.d (.int .i64 0),.d (.int .i64 0)]]⟩) (by first|rfl|simp) (ah _ ?_)
  refine aG.cond (b:=decide (f.d<0)) rfl (λh=>?_) λh=>?_
  ·replace j:=UH h j
   obtain⟨F,j⟩:=yz j
   unfold gT at F
   refine aG.A2 k none [1,2,4] λK G=>?_
   simp
   refine And.intro (by omega) ?_
   refine dS (s':=⟨[(1,.ptr 0 0),(2,.ptr 1 0),(4,.d (.int .i64 (0-fT a b)))],[.var 117 (bm (.d (enc f))),.var 117 [.d (.int .i64 0),.d (.int .i64 0)]]⟩) (by first|rfl|simp) (G _ ?_)
   exact N _ ⟨_,j,Sub.refl _⟩
  replace j:=UD h j
  exact aG.skip (N _ ⟨_,j,Sub.rT (by simp[nP])⟩)
 rintro s' ⟨g,j,af⟩
 refine aG.sub af ?_
 unfold tF at j
 obtain⟨F,j⟩:=yz j
 obtain⟨U,j⟩:=yz j
 obtain⟨Y,j⟩:=yz j
 unfold gT at U Y
 have j:=kA j
 subst j
 refine aG.X4 k mixed none 9 [] [2] (by decide) λK G=>?_
 simp
 repeat refine And.intro (by first|omega|exact F) ?_
 refine dS (s':=⟨[(2,.ptr 1 0)],[.var 117 (bm (.d (enc f))),.var 117 (bm (.d (enc (⟨f.n.tdiv g,f.d.tdiv g⟩:Fraction))))]⟩) (by first|rfl|simp) (G _ ?_)
 refine aG.ret ?_
 refine ab _ _ (.inl rfl) ?_
 simp[wZ,eX,eV]
open Go.Sy
noncomputable def tV:Fraction->Option Fraction:=pI
noncomputable def xW:Sy.Callee:=⟨143,[.st 20],[.st 20],tV⟩
def Yc(a r:Fraction)(h:pI a=some r):eO Tryz.prog 143 [enc a] (enc r):=Lo.jv [enc a] (enc r) (enc (dec (enc a):Fraction)=enc a/\((pI (dec (enc a))).map λr=>enc r).isSome=true) (by
 simp only[Nw,rV,uT,h,Option.map_some,oj]
 rfl) ⟨by rw[uT],by simp[uT,h]⟩
def U6:gM Tryz.prog xW:=⟨Lo.enters,λa r h=>Yc a r h,λt h=>cE (dT.1 (rfl:xW.args.all dG=true) t h),λt h=>cE (dT.1 (rfl:xW.res.all dG=true) t h)⟩
noncomputable def HN:Bk:=⟨xW,U6⟩
end Go.Proofs.YthhlipkkjippfaaGreatDoor
