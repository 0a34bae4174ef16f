import Derived.Test.YthhlipkkjippfaaGreatDoorX5
import Derived.Lib.SliceRun
import Derived.ProofKit
import Derived.ChangeArms
import Derived.Deep.Slices
import Derived.Carry
import Derived.Shelf.GgSortFunc.InsertionK
import Derived.Shelf.SlSortCmp.InsertionK
import Derived.Sort.AssemblyPlain
import Derived.Test.YthhlipkkjippfaaGreatDoorProg
import Derived.Test.YthhlipkkjippfaaGreatDoorCards
import Derived.Test.YthhlipkkjippfaaGreatDoorTie
import Derived.OpenShut
import Derived.Deep.DeepHandedRow
import Derived.Lib.LaidTab
set_option linter.all false
namespace Go.Sy
open Go Go.ag
section
variable [aG]
@[reducible] def gu(Λ:cQ)(j:Nat)(x:LF):cQ:=⟨λi=>if i=j then some x else Λ.lam i⟩
def gN(Λ k:cQ):Prop:=∀j x,Λ.lam j=some x->k.lam j=some x
def gN.push{Λ:cQ}{j:Nat}{x:LF}(h:Λ.lam j=none):gN Λ (gu Λ j x):=λi y k=>by
 show(if i=j then some x else Λ.lam i)=some y
 by_cases hi:i=j
 ·subst hi;rw[h]at k;cases k
 rw[if_neg hi];exact k
theorem gN.trans{a b c:cQ}(h:gN a b)(k:gN b c):gN a c:=λj x B=>k j x (h j x B)
def Pp{Λ F:cQ}(h:gN Λ F){ρ:aS}{a:AX}{o:AO}(k:@bT _ Λ ρ a o):@bT _ F ρ a o:=by
 cases k with
 |dead=>exact @bT.dead _ F ρ
 |var ty cs ts B=>exact @bT.var _ F ρ ty cs ts B
 |row e t x xs G B=>exact @bT.row _ F ρ e t x xs G B
 |br e t x xs G B=>exact @bT.br _ F ρ e t x xs G B
 |map k v x m G M B=>exact @bT.map _ F ρ k v x m G M B
 |dR k v x m G M B=>exact @bT.dR _ F ρ k v x m G M B
 |bz e kk t x m G M B=>exact @bT.bz _ F ρ e kk t x m G M B
 |fz e kk t x k m n G M B O=>exact @bT.fz _ F ρ e kk t x k m n G M B O
 |dD j b rs vals ft B M=>exact @bT.dD _ F ρ j b rs vals ft (h _ _ B) M
 |lp j b rs st k ps bc N tm B M=>exact @bT.lp _ F ρ j b rs st k ps bc N tm (h _ _ B) M
 |eO o B=>exact @bT.eO _ F ρ o B
def Gk{Λ j:cQ}(h:gN Λ j){ρ:aS}{l:List AX}{m:List AO}(k:@RL _ Λ ρ l m):@RL _ j ρ l m:=F2.mono (λ_ _=>Pp h) k
def Pr{Λ M:cQ}{d:Nat}(h:∀j,j<d->M.lam j=Λ.lam j){ρ:aS}{a:AX}{o:AO}(k:@bT _ M ρ a o):@bT _ Λ ρ (gZ d a) o:=by
 cases k with
 |dead=>exact @bT.dead _ Λ ρ
 |var ty cs ts B=>exact @bT.var _ Λ ρ ty cs ts B
 |row e t x xs F B=>exact @bT.row _ Λ ρ e t x xs F B
 |br e t x xs F B=>exact @bT.br _ Λ ρ e t x xs F B
 |map k v x m F G B=>exact @bT.map _ Λ ρ k v x m F G B
 |dR k v x m F G B=>exact @bT.dR _ Λ ρ k v x m F G B
 |bz e kk t x m F G B=>exact @bT.bz _ Λ ρ e kk t x m F G B
 |fz e kk t x k m n F G B O=>exact @bT.fz _ Λ ρ e kk t x k m n F G B O
 |dD j b rs vals ft B G=>
  simp only[gZ]
  cases e:Nat.ble d j with
  |true=>exact @bT.eO _ Λ ρ _ rfl
  |false=>
   have:j<d:=by
    rcases lB j d with h|h
    ·exact h
    rw[A1 h]at e;cases e
   exact @bT.dD _ Λ ρ j b rs vals ft ((h j this).symm.trans B) G
 |lp j b rs st k ps bc N tm B G=>
  simp only[gZ]
  cases e:Nat.ble d j with
  |true=>exact @bT.eO _ Λ ρ _ rfl
  |false=>
   have:j<d:=by
    rcases lB j d with h|h
    ·exact h
    rw[A1 h]at e;cases e
   exact @bT.lp _ Λ ρ j b rs st k ps bc N tm ((h j this).symm.trans B) G
 |eO o B=>exact @bT.eO _ Λ ρ o B
def Gl{Λ B:cQ}{d:Nat}(h:∀j,j<d->B.lam j=Λ.lam j){ρ:aS}{l:List AX}{m:List AO}(k:@RL _ B ρ l m):@RL _ Λ ρ (l.map (gZ d)) m:=F2.map (F2.mono (λ_ _=>Pr h) k)
inductive jk[cQ](ρ:aS):fg->Prop
 |mk (id j k ps bc body t outer b) (jd:Array Tmp) (tm:Tm):cQ.lam j=some (.loop b k jd bc body tm)->jd.toList=ps->(∀q,RX ρ (bd t q) (ag.get tm q))->(∀x,x∈outer->jk ρ x)->jk ρ (.mk id j k ps bc body t outer)
theorem jk.mono[cQ]{ρ ρ':aS}(h:Ext ρ ρ'){x:fg}(k:jk ρ x):jk ρ' x:=by
 induction k with
 |mk id j k ps bc B t O b U tm F G M _ N=>exact .mk id j k ps bc B t O b U tm F G (λq=>(M q).mono h) N
theorem jk.lam{Λ B:cQ}(h:gN Λ B){ρ:aS}{x:fg}(k:@jk _ Λ ρ x):@jk _ B ρ x:=by
 induction k with
 |mk id j k ps bc F t U b Y tm G M N _ O=>exact @jk.mk _ B ρ id j k ps bc F t U b Y tm (h _ _ G) M N O
def ln[cQ](ρ:aS)(L:List fg):Prop:=∀x,x∈L->jk ρ x
def JF{id:Nat}:∀{L:List fg}{x:fg},vR id L=some x->x∈L/\x.id=id
 | [],x,h=>by simp[vR]at h
 |y::r,x,h=>by
  simp only[vR]at h
  cases e:Nat.beq y.id id with
  |true=>rw[e]at h;simp at h;subst h;exact⟨by simp,er e⟩
  |false=>rw[e]at h;obtain⟨j,k⟩:=JF h;exact⟨by simp[j],k⟩
def Hv:∀{ts:List T}{r:Nat},r∈mT ts->∃(i:Nat)(t:T),ts[i]?=some t/\r∈eI t
 | [],r,h=>by simp[mT]at h
 |t::ts,r,h=>by
  simp only[mT,hP]at h
  rcases h with h|h
  ·exact⟨0,t,rfl,h⟩
  obtain⟨i,u,j,k⟩:=Hv h
  exact⟨i+1,u,by simpa using j,k⟩
def MQ:∀{cs:List TX}{i:Nat}{c:TX}{r:Nat},cs[i]?=some c->r∈c.refs->r∈TX.sn cs
 | [],i,c,r,h,_=>by simp at h
 |u::cs,i,c,r,h,j=>by
  simp only[TX.sn,hP]
  cases i with
  |zero=>simp at h;subst h;exact .inl j
  |succ i=>exact .inr (MQ (by simpa using h) j)
def IM:∀{cs:List TX}{i:Nat}{c:TX},TX.qR cs=true->cs[i]?=some c->c.clean=true
 | [],i,c,_,h=>by simp at h
 |u::cs,i,c,j,h=>by
  simp only[TX.qR,db]at j
  cases i with
  |zero=>simp at h;subst h;exact j.1
  |succ i=>exact IM j.2 (by simpa using h)
def SM{ρ:aS}{c:TX}{t:T}(h:RX ρ c t):c.clean=true->∀r∈eI t,r∈c.refs:=by
 have key:∀{cs:List TX}{ts:List T},cs.length=ts.length->(∀(i:Nat) c t,cs[i]?=some c->ts[i]?=some t->c.clean=true->∀r∈eI t,r∈c.refs)->TX.qR cs=true->∀r∈mT ts,r∈TX.sn cs:=by
  intro cs ts O G B r j
  obtain⟨i,t,ht,N⟩:=Hv j
  have hi:=(c5.1 ht).1
  have M:cs[i]?=some (cs[i]'(by omega)):=c3 (by omega)
  exact MQ M (G i _ t M ht (IM B M) r N)
 induction h with
 |undef t=>intro B;cases B
 |gone=>intro B;cases B
 |ptr id off=>intro _ r j;exact j
 |row id=>intro _ r j;exact j
 |bw id k off kk n F=>intro _ r j;exact j
 |map id=>intro _ r j;exact j
 |bf id=>intro _ r j;exact j
 |cE id n=>intro _ r j;exact j
 |sub=>intro h;cases h
 |bJ id t x xs F=>intro _ r j;exact j
 |agg cs ts F _ G=>intro B r j;exact key F G B r j
 |aN cs ts F _ G=>intro B r j;exact key F G B r j
 |aD f cs ts F _ G=>intro B r j;exact key F G B r j
 |_=>intro _ r j;simp[eI]at j
end
variable [aG][Λ:cQ][cK][dw][bq][pv][R0:bX]
def KE{ρ:aS}{σ:Sk}{s:St}(h:bn ρ σ s)(m:Nat):∃ft:Tm,(∀k,ag.get ft k=.undef\/ag.get ft k=ag.get s.t k)/\(∀k,RX ρ (bd (oE m σ.t) k) (ag.get ft k))/\mR ft (fV (oE m σ.t)):=by
 have U:=(uM m h).t
 have U:∀k,RX ρ (bd (jG m σ.t 0) k) (ag.get s.t k):=U
 have key:∀(t:List (Nat×TX)),(∀k,gX k t=true->RX ρ (bd t k) (ag.get s.t k))->∃ft:Tm,(∀k,ag.get ft k=.undef\/ag.get ft k=ag.get s.t k)/\(∀k,RX ρ (bd (t.map λp=>(p.1,bif p.2.clean then p.2 else .undef)) k) (ag.get ft k))/\mR ft (fV (t.map λp=>(p.1,bif p.2.clean then p.2 else .undef))):=by
  intro t ht
  have:∀(
       t:List (Nat×TX)) (seen:List Nat),(∀k,k∉seen->gX k t=true->RX ρ (bd t k) (ag.get s.t k))->∃ft:Tm,(∀k,k∉seen->(ag.get ft k=.undef\/ag.get ft k=ag.get s.t k))/\(∀k,k∉seen->RX ρ (bd (t.map λp=>(p.1,bif p.2.clean then p.2 else .undef)) k) (ag.get ft k))/\∀k,k∉seen->∀r∈eI (ag.get ft k),r∈fV (t.map λp=>(p.1,bif p.2.clean then p.2 else .undef)):=by
   intro t
   induction t with
   |nil=>intro seen _;exact⟨[],λk _=>.inl rfl,λk _=>.undef _,λk _ r F=>by simp[ag.get,eI]at F⟩
   |cons p t Z=>
    intro seen ht
    obtain⟨i,u⟩:=p
    obtain⟨ft,M,N,O⟩:=Z (i::seen) λk B Y=>by
     simp only[fb,not_or]at B
     have:=ht k B.2 (by simp[gX,Y])
     simpa only[bd,kz (λe:i=k=>B.1 e.symm),cond_false]using this
    refine⟨(i,bif u.clean then ag.get s.t i else .undef)::ft,λk B=>?_,λk B=>?_,λk B r F=>?_⟩
    ·simp only[ag.get]
     by_cases j:i=k
     ·subst j;rw[if_pos rfl];cases u.clean<;>simp
     rw[if_neg j];exact M k (by simp[B];exact λe=>j e.symm)
    ·simp only[ag.get,fa,bd]
     by_cases j:i=k
     ·subst j;rw[if_pos rfl,ia]
      simp only[cond_true]
      cases G:u.clean with
      |false=>exact .undef _
      |true=>
       have:=ht i B (by simp[gX,ia])
       simpa only[bd,ia,cond_true]using this
     rw[if_neg j,kz j];exact N k (by simp[B];exact λe=>j e.symm)
    simp only[ag.get]at F
    simp only[fa,fV,hP]
    by_cases j:i=k
    ·subst j;rw[if_pos rfl]at F
     cases G:u.clean with
     |false=>rw[G]at F;simp[eI]at F
     |true=>
      rw[G]at F
      simp only[cond_true]at F⊢
      have:=ht i B (by simp[gX,ia])
      simp only[bd,ia,cond_true]at this
      exact .inl (SM this G r F)
    rw[if_neg j]at F;exact .inr (O k (by simp[B];exact λe=>j e.symm) r F)
  obtain⟨ft,M,N,O⟩:=this t [] λk _=>ht k
  exact⟨ft,λk=>M k (by simp),λk=>N k (by simp),λk=>O k (by simp)⟩
 exact key (jG m σ.t 0) λk _=>U k
section
variable {P:Program}{V:Env}{C:Cx}{ρ:aS}{σ:Sk}{s:St}
theorem Bz(G:bU P V C)(h:bn ρ σ s):∀{rs:List ResultVar}{xs:List TX},o4 C σ rs=some xs->lR (rs.map λv=>(fq V s v).2)/\F2 (RX ρ) xs (rs.map λv=>(fq V s v).1)
 | [],xs,j=>by
  simp only[o4,c4]at j;subst j
  exact⟨trivial,.nil⟩
 |.tmp t::r,xs,j=>by
  simp only[o4,e5]at j
  obtain⟨ys,F,rfl⟩:=j
  obtain⟨N,O⟩:=Bz G h F
  exact⟨⟨trivial,N⟩,.cons (h.t t) O⟩
 |.cell a ty::r,xs,j=>by
  simp only[o4]at j
  split at j
  ·rename_i x k
   simp only[e5]at j
   obtain⟨ys,F,rfl⟩:=j
   obtain⟨N,O⟩:=Bz G h F
   have M:=h.t a
   unfold MU at k
   split at k
   ·rename_i t id off ah ad
    rw[ad]at M
    split at k
    ·rename_i al Z ag
     cases B:Nat.ble (off+t.size) Z.length with
     |false=>rw[B]at k;cases k
     |true=>
      rw[B]at k
      simp only[cond_true]at k
      have B:=hg B
      obtain⟨i,ae,U,af,aj,_⟩:=G.info ah
      obtain⟨ak,aa,ab⟩:=F2.left h.l ag
      generalize ai:get s.t a=u at M
      cases M
      cases ab with
      |var _ _ ts Y=>
       have e:fq V s (.cell a ty)=(gk (ct t) ((ts.drop off).take t.size),True):=by
        simp only[fq,ai,fo,ae,aa]
        rw[if_pos (by rw[U,<-Y.len];exact B),U,af]
        rfl
       refine⟨?_,?_⟩
       ·simp only[fa,e];exact⟨trivial,N⟩
       simp only[fa,e];exact .cons (zw aj ((Y.drop off).take t.size) k) O
    cases k
   cases k
  cases j
end
def pK:Ex->Exit
 |.normal=>.normal
 |.ret=>.ret
 |.exit i=>.exit i
 |.fp _=>.goto 0
section
variable {P:Program}{V:Env}{C:Cx}{cs:List Callee}{n:Nat}{w0:World}{I0:ay}
def Gc(e:Ex)(k:Sk)(B:Nat)(p:Sy.V->Prop)(Q:LQ):LQ:=λj σ ρ' J'=>if e=j then ∃xs v,instS k B σ=some xs/\(fL xs).den ρ'=some v/\p v else Q j σ ρ' J'
def YC{e:Ex}{G:Sk}{O:Nat}{p:Sy.V->Prop}{Q:LQ}(M:eV Q):eV (Gc e G O p Q):=by
 intro j σ ρ B F N h
 unfold Gc at h⊢
 by_cases k:e=j
 ·rw[if_pos k]at h⊢;exact h
 rw[if_neg k]at h⊢;exact M j σ ρ B F N h
theorem tv{f:Ex->Sk->Tr}{Q:LQ}(j:eV Q):eV (λe σ ρ' J'=>Tr.wp cs (f e σ) ρ' Q J'):=λ_ _ _ _ _ k h=>Tr.wp_mono k j h
def kl(P:Program)(cs:List Callee)(n:Nat)(w0:World)(I0:ay)(L:List fg)(c:Code)(σ:Sk)(T:Tr):Prop:=
 ∀(ρ:aS)(s:St)(Q:LQ)(J:LJ)(j:Exit->St->Prop),bn ρ σ s->ln ρ L->eV Q->T.wp cs ρ Q J ->
  (∀e bH ρ' J',Q e bH ρ' J'->c9 σ.n ρ ρ'->σ.n<=bH.n->∀s',bn ρ' bH s'->j (pK e) s')->aL P w0 I0 n c s j
theorem kl.go{L:List fg}{c:Code}{σ:Sk}{T:Tr}(h:kl P cs n w0 I0 L c σ T){ρ:aS}{s:St}{Q:LQ}{J:LJ}{j:Exit->St->Prop}(G:bn ρ σ s)(B:ln ρ L)(F:eV Q)(M:T.wp cs ρ Q J)(k:∀e bH ρ' J',Q e bH ρ' J'->c9 σ.n ρ ρ'->σ.n<=bH.n->∀s',bn ρ' bH s'->j (pK e) s'):aL P w0 I0 n c s j:=h ρ s Q J j G B F M k
theorem ln.mono{ρ ρ':aS}{L:List fg}(h:ln ρ L)(j:Ext ρ ρ'):ln ρ' L:=λx k=>(h x k).mono j
def Of{K:St->Prop}{Q:Exit->St->Prop}{e:Ex}(h:e ≠ .normal)(s:St):qw K Q (pK e) s=Q (pK e) s:=by cases e<;>first|rfl|exact absurd rfl h
def ew(cs:List Callee)(n0:Nat)(ρ:aS)(f:Sk->Tr)(Q:LQ):LQ:=λe bH ρ' J'=>if e=.normal then(c9 n0 ρ ρ'->n0<=bH.n->∀s',bn ρ' bH s'->∃k j B F,Sub s' B/\bn j k B/\c9 n0 ρ j/\n0<=k.n/\Tr.wp cs (f k) j Q F)else Q e bH ρ' J'
theorem uO{n0:Nat}{ρ:aS}{f:Sk->Tr}{Q:LQ}(F:eV Q):eV (ew cs n0 ρ f Q):=by
 intro e σ ρ' k B G h
 unfold ew at h⊢
 by_cases j:e=.normal
 ·rw[if_pos j]at h⊢;exact h
 rw[if_neg j]at h⊢;exact F e σ ρ' k B G h
def Nt{ag n0:Nat}{T:Tr}{f:Sk->Tr}{ρ:aS}{Q:LQ}{J:LJ}(aj:ey n0 ρ)(G:eV Q)(j:Tr.wp cs (uP ag n0 T f) ρ Q J):∃k,Tr.wp cs T ρ (ew cs n0 ρ f Q) k:=by
 have ah:leaves .normal T=[]->Tr.wp cs T ρ Q J->∃k,Tr.wp cs T ρ (ew cs n0 ρ f Q) k:=λU j=>
  ⟨_,Tr.wp_mono (λ_ _ h=>h) (λe σ ρ' F M O h=>by
   unfold ew
   rw[if_neg h.1];exact G e σ ρ' F M O h.2) (WE U G j)⟩
 have af:Tr.wp cs (uP.zi ag n0 T f) ρ Q J->∃k,Tr.wp cs T ρ (ew cs n0 ρ f Q) k:=by
  intro j
  unfold uP.zi at j
  split at j
  ·rename_i U;exact ah U j
  split at j
  ·rename_i ad ts av
   cases Z:ad.cL n0 ts.length with
   |false=>rw[Z]at j;exact j.elim
   |true=>
    rw[Z]at j
    simp only[cond_true]at j
    have j:=MX (p:=λz=>∃ab:(ba ts).den,z=⟨ba ts,ab⟩/\Tr.wp cs (f (ad.fill (tp n0 ts.length) (n0+1))) ((n0,⟨ba ts,ab⟩)::ρ) Q J) G (λv h=>h) j
    refine⟨_,Tr.wp_mono (λ_ _ h=>h) (λe σ ρ' F M O h=>?_) j⟩
    unfold ew
    by_cases B:Ex.normal=e
    ·subst B
     rw[if_pos rfl]at h⊢
     obtain⟨xs,v,an,ao,ab,rfl,aq⟩:=h
     intro Y ae s' aa
     obtain⟨s2,ar,au⟩:=instS_ok (ρ0:=ρ) aa an rfl ao Z (λi v hi al=>by rw[<-Y i hi];exact al) aj
     exact⟨_,_,s2,J,ar,au,c9.push (eb n0) ρ _,ss n0,aq⟩
    rw[if_neg B]at h
    rw[if_neg λak=>B ak.symm]
    exact G e σ ρ' F M O h
  exact j.elim
 have ai:Tr.wp cs (eJ (λe σ=>match e with |.normal=>f σ|e=>.leaf e σ) T) ρ Q J->∃k,Tr.wp cs T ρ (ew cs n0 ρ f Q) k:=by
  intro j
  have j:=jQ G j
  refine⟨_,Tr.wp_mono (λ_ _ h=>h) (λe σ ρ' F M O h=>?_) j⟩
  unfold ew
  by_cases B:e=.normal
  ·subst B
   rw[if_pos rfl]
   exact λY ae s' aa=>⟨σ,ρ',s',F,Sub.refl s',aa,Y,ae,h⟩
  rw[if_neg B]
  cases e with
  |normal=>exact absurd rfl B
  |_=>exact G _ σ ρ' F M O h
 unfold uP at j
 split at j
 ·rename_i U;exact ah U j
 ·cases N:lJ T with
  |true=>rw[N]at j;exact af j
  |false=>
   rw[N]at j
   simp only[cond_false]at j
   exact ai j
 cases N:(lJ T || !pP T||M5 (leaves .normal T))with
 |true=>rw[N]at j;exact af j
 |false=>
  rw[N]at j
  simp only[cond_false]at j
  exact ai j
def Nu{p:Sk->Bool}{au n0:Nat}{T:Tr}{f:Sk->Tr}{ρ:aS}{Q:LQ}{J:LJ}(ah:ey n0 ρ)(F:eV Q)(j:Tr.wp cs (BF p au n0 T f) ρ Q J):∃N,Tr.wp cs T ρ (ew cs n0 ρ f Q) N:=by
 unfold BF at j
 cases ai:(leaves .normal T).any p with
 |false=>rw[ai]at j;exact Nt ah F j
 |true=>
  rw[ai]at j
  simp only[cond_true]at j
  have j:=jQ F j
  obtain⟨B,ag,j⟩:∃B:LQ,B=_/\Tr.wp cs _ ρ B J:=⟨_,rfl,j⟩
  have U:eV B:=by rw[ag];exact tv F
  have Z:∀e k ρ J,B (.fp e) k ρ J->Q e k ρ J:=λe k ρ J h=>by rw[ag]at h;exact h
  obtain⟨N,j⟩:=Nt ah U j
  have af:=uO (cs:=cs) (n0:=n0) (ρ:=ρ) (f:=λk=>fp (f k)) U
  have j:=jQ af j
  refine⟨N,Tr.wp_mono (λ_ _ h=>h) (λe σ ρ' O ax G h=>?_) j⟩
  unfold ew
  by_cases Y:e=.normal
  ·subst Y
   rw[if_pos rfl]
   intro ad ae s' ak
   simp only[]at h
   cases aj:p σ with
   |true=>
    rw[aj]at h
    simp only[cond_true]at h
    have h:=jQ af h
    refine⟨σ,ρ',s',O,Sub.refl s',ak,ad,ae,Tr.wp_mono (λ_ _ h=>h) (λab k ρ M al G h=>?_) h⟩
    have h:ew cs n0 _ _ B (.fp ab) k ρ M:=h
    unfold ew at h
    rw[if_neg (by intro h;cases h)]at h
    exact F _ _ _ _ _ G (Z _ _ _ _ h)
   |false=>
    rw[aj]at h
    have h:ew cs n0 ρ (λk=>fp (f k)) B .normal σ ρ' O:=h
    unfold ew at h
    rw[if_pos rfl]at h
    obtain⟨k,aw,av,M,an,ao,aq,ar,aa⟩:=h ad ae s' ak
    have aa:=jQ U aa
    exact⟨k,aw,av,M,an,ao,aq,ar,Tr.wp_mono (λ_ _ h=>h) (λab k ρ M al G h=>F _ _ _ _ _ G (Z _ _ _ _ h)) aa⟩
  rw[if_neg Y]
  have h:ew cs n0 ρ (λk=>fp (f k)) B (.fp e) σ ρ' O:=by
   cases e with
   |normal=>exact absurd rfl Y
   |_=>exact h
  unfold ew at h
  rw[if_neg (by intro h;cases h)]at h
  exact F _ _ _ _ _ G (Z _ _ _ _ h)
theorem Gx{G n0:Nat}{T:Tr}{f:Sk->Tr}{ρ:aS}{Q:LQ}{J:LJ}(B:ey n0 ρ)(k:eV Q)(F:Tr.wp cs (xF G n0 T f) ρ Q J):∃j,Tr.wp cs T ρ (ew cs n0 ρ f Q) j:=Nu B k F
theorem YZ{rs:List Nat}{G n0:Nat}{T:Tr}{f:Sk->Tr}{ρ:aS}{Q:LQ}{J:LJ}(B:ey n0 ρ)(k:eV Q)(F:Tr.wp cs (Ns rs G n0 T f) ρ Q J):∃j,Tr.wp cs T ρ (ew cs n0 ρ f Q) j:=Nu B k F
def Y0{L:List fg}{x y:Code}{ak:Nat}{σ:Sk}{T:Tr}{f:Sk->Tr}(af:kl P cs n w0 I0 L x σ T)(ag:∀k,kl P cs n w0 I0 L y k (f k)):kl P cs n w0 I0 L (x.seq y) σ (xF ak σ.n T f):=by
 intro ρ s Q J ax G Y B M U
 obtain⟨aw,M⟩:=Gx G.eT B M
 refine aL.seq (af.go G Y (uO B) M λe bH ρ' J' j N O s' Z=>?_)
 unfold ew at j
 by_cases F:e=.normal
 ·subst F
  rw[if_pos rfl]at j
  obtain⟨k,az,ay,av,ah,ai,aa,ab,aj⟩:=j N O s' Z
  refine aL.sub ah ((ag k).go ai (Y.mono (aa.ext G.eT)) B aj λe au ar ad al an ao aq ae=>?_)
  exact U e au ar ad al (aa.trans an ab) (hJ ab ao) aq ae
 rw[if_neg F]at j
 rw[Of F]
 exact U e bH ρ' J' j N O s' Z
def Eu{L:List fg}{x:Code}{ax:Nat}{Y:Sk->Tr}(ae:∀ak,kl P cs n w0 I0 L x ak (Y ak)):∀(f:Nat)(σ A:Sk),kl P cs n w0 I0 L (.loop x) σ (wo ax σ.n Y f σ A)
 |0,σ,A=>λ_ _ _ _ _ _ _ _ j _=>j.elim
 |f+1,σ,A=>by
  intro ρ s Q J aD G aa U j Z
  simp only[wo]at j
  split at j
  ·rename_i N B aG
   split at j
   ·rename_i af ts aF
    split at j
    ·rename_i xs aq
     split at j
     ·rename_i aE
      cases O:N.cL σ.n B.length with
      |false=>rw[O]at j;exact j.elim
      |true=>
       rw[O]at j
       simp only[cond_true]at j
       obtain⟨aC,ar,m,ah⟩:=j
       generalize aj:(λ(again:(ba B).den->Prop)(z:(ba B).den)=>Tr.wp cs (resolve .normal N B.length 0 (Y (N.fill (tp σ.n B.length) (σ.n+1)))) ((σ.n,⟨ba B,z⟩)::ρ) Q (gR (λz'=>∃y:(ba B).den,z'=⟨ba B,y⟩/\again y) J))=step at ah
       obtain⟨s0,ay,az⟩:=instS_ok (ρ0:=ρ) G aq rfl ar O (λi v _ ad=>ad) G.eT
       refine aL.loop (X:=Nat×(ba B).den×St) (λz=>z.2.2) (λz=>rq step z.1 z.2.1/\bn ((σ.n,⟨ba B,z.2.1⟩)::ρ) (N.fill (tp σ.n B.length) (σ.n+1)) z.2.2) (λz=>z.1) (m,aC,s0) ⟨ah,az⟩ ay ?_
       rintro⟨k,z,s1⟩ ⟨F,al⟩
       cases k with
       |zero=>exact F.elim
       |succ k=>
        have F:step (rq step k) z:=F
        rw[<-aj]at F
        have F:=MX (p:=λz'=>∃y:(ba B).den,z'=⟨ba B,y⟩/\rq step k y) U (λv h=>by rw[aj]at h;exact h) F
        refine(ae _).go al (aa.mono (Ext.push G.eT _)) (YC U) F λe bH ρ' J' M an ao s' ai=>?_
        have ag:c9 σ.n ρ ρ':=(c9.push (eb σ.n) ρ _).trans an (ss σ.n)
        unfold Gc at M
        by_cases ab:Ex.normal=e
        ·subst ab
         rw[if_pos rfl]at M
         obtain⟨aH,v,au,av,y,rfl,aw⟩:=M
         obtain⟨s2,aA,aB⟩:=instS_ok (ρ0:=ρ) ai au rfl av O (λi v hi ad=>by rw[<-ag i hi];exact ad) G.eT
         exact⟨(k,y,s2),⟨aw,aB⟩,rv k,aA⟩
        rw[if_neg ab]at M
        rw[Of (λh=>ab h.symm)]
        exact Z e bH ρ' J' M ag (hJ (ss σ.n) ao) s' ai
     exact(Eu ae f σ af).go G aa U j Z
    exact(Eu ae f σ af).go G aa U j Z
   exact j.elim
  exact j.elim
end
end Go.Sy
namespace Go.Sy
open Go Go.ag
variable [aG][Λ:cQ][cK][dw][bq][pv][R0:bX]
def pq(P:Program)(fs:List (Nat×Func)):Prop:=∀g fn,findF g fs=some fn->P.funcs[g]?=some fn/\Enters P g/\fn.body=some (ko fn)
def vm(P:Program)(V:Env)(cs:List Callee)(fs:List (Nat×Func))(run:Runner):Prop:=∀[cQ][bX](C:Cx)(L:List fg)(k:Lv)(c:Code)(σ:Sk)(w0:World)(I0:ay),bU P V C->il P C cs->C.ni=fs->(C.kV=false->bX.r=none)->(∀j,C.dep<=j->cQ.lam j=none)->kl P cs C.nt w0 I0 L c σ (run C L k c σ)
omit Λ R0 in
theorem bU.B8{P:Program}{V:Env}{C:Cx}(h:bU P V C)(a b:Nat)(c:Bool):bU P V {C with nt:=a,dep:=b,kV:=c}:=⟨h.ok,h.E,h.eq,h.sub,h.ty⟩
def GH{ρ:aS}:∀{ts:List TX}{j:List T}{k:Nat},F2 (RX ρ) ts j->∀q,RX ρ (bd (pd k ts) q) (ag.get (jf k j) q)
 | [],j,k,h=>λq=>.undef _
 |t::ts,j,k,h=>λq=>by
  cases h with
  |cons F G=>
   simp only[pd,jf,bd,ag.get]
   by_cases B:k=q
   ·subst B;rw[if_pos rfl,ia];exact F
   rw[if_neg B,kz B];exact GH G q
def aai{ρ:aS}{xs:List TX}{k:List T}(h:F2 (RX ρ) xs k):RX ρ (BT xs) (xS k):=by
 have j:RX ρ (.aN xs) (.aN k):=.aN xs k h.len λi c t B ht=>h.get B ht
 match xs,k,h,j with
 | [],_,.nil,j=>exact j
 | [x],_,.cons h1 .nil,j=>exact h1
 |_::_::_,_,.cons h1 (.cons F G),j=>exact j
theorem DX{ρ:aS}{j b:Nat}{lX:List AX}{l:List AO}(M:RL ρ lX l)(h:kF j b lX=true):∃vals ft,l[b]?=some (.frame b vals ft)/\Λ.lam j=some (.frame b vals ft):=by
 unfold kF at h
 split at h
 ·rename_i Z U rs G
  rw[db]at h
  have k:=er h.1
  have B:=er h.2
  subst k;subst B
  obtain⟨o,N,O⟩:=F2.left M G
  cases O with
  |dD _ _ _ vals ft F Y=>exact⟨vals,ft,N,F⟩
 cases h
def xq{Λ:cQ}{j:Nat}{x:LF}:(gu Λ j x).lam j=some x:=if_pos rfl
def Bm{Λ:cQ}{d:Nat}{x:LF}:∀j,j<d->(gu Λ d x).lam j=Λ.lam j:=λj k=>if_neg (by omega)
def Bl{Λ:cQ}{d:Nat}{x:LF}(h:∀j,d<=j->Λ.lam j=none):∀j,d+1<=j->(gu Λ d x).lam j=none:=λj k=>by
 show(if j=d then some x else Λ.lam j)=none
 rw[if_neg (by omega)];exact h j (by omega)
theorem bn.l'{Λ:cQ}{ρ:aS}{σ:Sk}{s:St}(h:@bn _ Λ ρ σ s):@RL _ Λ ρ σ.l s.l:=@bn.l _ Λ _ _ _ h
def bn.t'{Λ:cQ}{ρ:aS}{σ:Sk}{s:St}(h:@bn _ Λ ρ σ s):∀k,RX ρ (bd σ.t k) (ag.get s.t k):=@bn.t _ Λ _ _ _ h
def bn.me{Λ:cQ}{ρ:aS}{σ:Sk}{s:St}(h:@bn _ Λ ρ σ s):ey σ.n ρ:=@bn.eT _ Λ _ _ _ h
section
variable {P:Program}{V:Env}{C:Cx}{cs:List Callee}{fs:List (Nat×Func)}{run:Runner}{n:Nat}{ops:List Oper}{L:List fg}
def Sl(aN:vm P V cs fs run)(Z:bU P V C)(ah:il P C cs)(aC:pq P fs)(aJ:C.ni=fs)(ai:∀j,C.dep<=j->Λ.lam j=none){o:Oper}{g:FuncId}{fn:Func}{ts:List TX}{ae:List T}{σ:Sk}{s:St}{ρ:aS}{t0:List (Nat×TX)}{ft:Tm}{Q:LQ}{J:LJ}{K:TX->Sk->Tr}{Y:St->Prop}{pc:PC}(aI:findF g fs=some fn)(N:bn ρ σ s)(aE:ln ρ L)(aa:eV Q)(aH:dJ n o.dst=true)(aK:dA ops s.t o.guard=some pc)(aL:holds pc)(aG:ez V.E (bN s.t) o=some (g,ae))(al:F2 (RX ρ) ts ae)(ax:∀k,ag.get ft k=.undef\/ag.get ft k=ag.get s.t k)(ay:∀k,RX ρ (bd t0 k) (ag.get ft k))(az:mR ft (fV t0))(F:Tr.wp cs (CD run C L fn ts σ t0 K) ρ Q J)(aD:∀x B ρ' J' u s',Tr.wp cs (K x B) ρ' Q J'->c9 σ.n ρ ρ'->σ.n<=B.n->bn ρ' B s'->RX ρ' x u->Y ⟨bR s'.t o.dst u,s'.l⟩):l9 P n ops o s Y:=by
 unfold CD at F
 cases ad:Nat.ble ts.length fn.ntmps with
 |false=>rw[ad]at F;exact F.elim
 |true=>
  rw[ad]at F
  simp only[p6,cond_false]at F
  obtain⟨au,av,aw⟩:=aC g fn aI
  refine ZF (V:=V) aK aL aH aG ax (qG.of Z.ok av au aw (by rw[<-al.len];exact hg ad) λR aF w0 I0 vals a6 af=>?_)
  have ak:σ.l.length=s.l.length:=N.l.len
  have aj:gN Λ (gu Λ C.dep (.frame s.l.length vals ft)):=gN.push (ai _ (eb _))
  have aP:@bn _ (gu Λ C.dep (.frame s.l.length vals ft)) ρ ⟨σ.n,pd 0 ts,σ.l++[.dD C.dep σ.l.length (fV t0)]⟩ ⟨jf 0 ae,s.l++[.frame s.l.length vals ft]⟩:=by
   refine @bn.mk _ (gu Λ C.dep (.frame s.l.length vals ft)) _ _ _ N.eT (GH al) (F2.app (Gk aj N.l) (.cons ?_ .nil))
   rw[ak]
   exact @bT.dD _ (gu Λ C.dep (.frame s.l.length vals ft)) ρ C.dep s.l.length _ vals ft xq az
  obtain⟨a1,F⟩:=YZ (Λ:=gu Λ C.dep (.frame s.l.length vals ft)) (R0:=R) N.eT aa F
  have F:=jQ (uO (Λ:=gu Λ C.dep (.frame s.l.length vals ft)) (R0:=R) aa) F
  have aM:=@aN (gu Λ C.dep (.frame s.l.length vals ft)) R {C with nt:=fn.ntmps,dep:=C.dep+1,kV:=false} L ⟨lW fn.results.toList,[],lW fn.results.toList⟩ (ko fn) ⟨σ.n,pd 0 ts,σ.l++[.dD C.dep σ.l.length (fV t0)]⟩ w0 I0 (Z.B8 _ _ _) ⟨ah.sigs,ah.turns⟩ aJ (λ_=>aF) (Bl ai)
  refine kl.go (Λ:=gu Λ C.dep (.frame s.l.length vals ft)) (R0:=R) aM aP (λx aQ=>jk.lam aj (aE x aQ)) (tv (uO (Λ:=gu Λ C.dep (.frame s.l.length vals ft)) (R0:=R) aa)) F ?_
  intro e bH ρ' J' G aA aB s' aO
  have fin:ew (Λ:=gu Λ C.dep (.frame s.l.length vals ft)) (R0:=R) cs σ.n ρ (λB=>match o4 C B fn.results.toList with
   |some xs=>bif kF C.dep σ.l.length B.l then K (BT xs) ⟨B.n,t0,B.l.map (gZ C.dep)⟩else .bad 23
   |none=>.bad 22) Q .normal (bH.cD (lW fn.results.toList)) ρ' J'->sP V s' fn.results.toList s.l.length vals ft λu l'=>Y ⟨bR ft o.dst u,l'⟩:=by
   intro G
   unfold ew at G
   rw[if_pos rfl]at G
   obtain⟨B,aZ,aq,ar,aT,O,an,aU,M⟩:=G aA aB s' (uM (Λ:=gu Λ C.dep (.frame s.l.length vals ft)) (R0:=R) _ aO)
   simp only[]at M
   split at M
   ·rename_i xs aR
    cases ab:kF C.dep σ.l.length B.l with
    |false=>rw[ab]at M;exact M.elim
    |true=>
     rw[ab]at M
     simp only[cond_true]at M
     obtain⟨ba,a7,ao,U⟩:=DX (Λ:=gu Λ C.dep (.frame s.l.length vals ft)) O.l' ab
     rw[xq]at U
     injection U with U;injection U with a8 aX aY
     subst aX;subst aY
     rw[ak]at ao
     obtain⟨aV,aW⟩:=Bz (Λ:=gu Λ C.dep (.frame s.l.length vals ft)) Z O aR
     refine⟨aq,aT,aV,ao,?_⟩
     exact aD (BT xs) ⟨B.n,t0,B.l.map (gZ C.dep)⟩ aZ ar _ ⟨ft,aq.l⟩ M an aU ⟨O.me,λk=>(ay k).mono (an.ext N.eT),Gl Bm O.l'⟩ (aai aW)
   exact M.elim
  cases e with
  |normal=>exact af _ _ (.inr rfl) (fin G)
  |ret=>exact af _ _ (.inl rfl) (fin G)
  |exit i=>exact G.elim
  |fp e=>exact G.elim
theorem M3{ρ:aS}:∀{ps:List Nat}{xs:List TX}{B:List T}{t:List (Nat×TX)}{tm:Tm},ps.length=xs.length->F2 (RX ρ) xs B->(∀k,RX ρ (bd t k) (ag.get tm k))->∀k,RX ρ (bd (xB ps xs t) k) (ag.get (kW ps B tm) k)
 | [],xs,B,t,tm,j,F,h=>by
  cases xs with
  |nil=>cases F;exact h
  |cons=>simp at j
 |p::ps,[],B,t,tm,j,F,h=>by simp at j
 |p::ps,x::xs,B,t,tm,j,F,h=>by
  cases F with
  |cons M N=>
   have:∀k,RX ρ (bd ((p,x)::t) k) (ag.get ((p,_)::tm) k):=λk=>by
    simp only[bd,ag.get]
    by_cases G:p=k
    ·subst G;rw[if_pos rfl,ia];exact M
    rw[if_neg G,kz G];exact h k
   intro k
   exact M3 (ps:=ps) (xs:=xs) (t:=(p,x)::t) (tm:=(p,_)::tm) (by simpa using j) N this k
theorem wq{ρ:aS}{j b id:Nat}{rs:List Nat}{st:Ls}{lX:List AX}{l:List AO}(M:RL ρ lX l)(h:lX[id]?=some (.lp j b rs st)):∃k ps bc B tm,l[id]?=some (.loop b k ps bc B tm (pX st) (rE st))/\Λ.lam j=some (.loop b k ps bc B tm)/\mR tm rs:=by
 obtain⟨o,N,O⟩:=F2.left M h
 cases O with
 |lp _ _ _ _ k ps bc B tm F G=>exact⟨k,ps,bc,B,tm,N,F,G⟩
def abc(bP:vm P V cs fs run)(bA:bU P V C)(aM:il P C cs)(bH:C.ni=fs)(bF:∀j,C.dep<=j->Λ.lam j=none){o:Oper}{id:Nat}{ts:List TX}{aT:List T}{σ:Sk}{s:St}{ρ:aS}{t0:List (Nat×TX)}{ft:Tm}{Q:LQ}{J:LJ}{K:TX->Sk->Tr}{bw:St->Prop}{pc:PC}(aj:bn ρ σ s)(cg:ln ρ L)(ba:eV Q)(ck:dJ n o.dst=true)(cq:dA ops s.t o.guard=some pc)(cA:holds pc)(cJ:jL V.E (bN s.t) o=some (id,aT))(bS:F2 (RX ρ) ts aT)(b6:∀k,ag.get ft k=.undef\/ag.get ft k=ag.get s.t k)(b7:∀k,RX ρ (bd t0 k) (ag.get ft k))(b8:mR ft (fV t0))(M:Tr.wp cs (Hm run C L id ts σ t0 K) ρ Q J)(cf:∀x B ρ' J' u s',Tr.wp cs (K x B) ρ' Q J'->c9 σ.n ρ ρ'->σ.n<=B.n->bn ρ' B s'->RX ρ' x u->bw ⟨bR s'.t o.dst u,s'.l⟩):l9 P n ops o s bw:=by
 unfold Hm at M
 split at M
 ·rename_i cZ j k ps bc aa t aR au b rs cn cr
  obtain⟨cz,cY⟩:=JF cn
  cases ae:(Nat.beq au j&&Nat.beq ps.length ts.length&&ps.all (λp=>Nat.blt p k))with
  |false=>rw[ae]at M;exact M.elim
  |true=>
   rw[ae]at M
   simp only[cond_true]at M
   rw[db,db]at ae
   obtain⟨⟨aU,aJ⟩,b3⟩:=ae
   have aU:=er aU
   have aJ:=er aJ
   subst aU
   have cx:=cg _ cz
   cases cx with
   |mk _ _ _ _ _ _ _ _ b0 af tm a6 a7 ca cb=>
   obtain⟨cL,cP,b1,b2,cS,aC,U,br⟩:=wq (bn.l' aj) cr
   rw[a6]at U
   injection U with U;injection U with bz aW aX aY aZ a1
   subst bz;subst aW;subst aX;subst aY;subst aZ;subst a1
   have bL:σ.l.length=s.l.length:=(bn.l' aj).len
   have cC:af.size=aT.length:=by rw[<-bS.len,<-aJ,<-a7];simp
   refine ZH (V:=V) (tm:=tm) cq cA ck cJ b6 aC cC (by rw[a7,dT];intro p cB;have:=dT.1 b3 p cB;exact da (hg this)) ?_
   intro R w0 I0 bx vals bZ cX bD
   generalize cp:((bx,T.bf id)::ft)=az at bD⊢
   have b9:mR az (id::fV t0):=λk r ar=>by
    rw[<-cp]at ar
    simp only[ag.get]at ar
    by_cases bK:bx=k
    ·rw[if_pos bK]at ar;simp[eI]at ar;subst ar;simp
    rw[if_neg bK]at ar;exact nb _ (b8 k r ar)
   generalize aO:gu Λ C.dep (.frame s.l.length vals az)=F
   have aN:gN Λ F:=aO▸gN.push (bF _ (eb _))
   have bQ:F.lam C.dep=some (.frame s.l.length vals az):=aO▸xq
   have cy:∀j,j<C.dep->F.lam j=Λ.lam j:=aO▸Bm
   have bI:∀j,C.dep+1<=j->F.lam j=none:=aO▸Bl bF
   have cF:@bn _ F ρ ⟨σ.n,xB ps ts t,σ.l++[.dD C.dep σ.l.length (id::fV t0)]⟩ ⟨kW af.toList aT tm,s.l++[.frame s.l.length vals az]⟩:=by
    refine @bn.mk _ F _ _ _ (show ey σ.n ρ from bn.me aj) (by rw[a7];exact M3 aJ bS ca) (F2.app (Gk aN (bn.l' aj)) (.cons ?_ .nil))
    rw[bL]
    exact @bT.dD _ F ρ C.dep s.l.length _ vals az bQ b9
   have bB:@ln _ F ρ aR:=λx cI=>jk.lam aN (cb x cI)
   have M:=jQ ba M
   obtain⟨ah,bE,M⟩:∃ah:LQ,ah=_/\Tr.wp cs _ ρ ah J:=⟨_,rfl,M⟩
   have bb:eV ah:=by rw[bE];exact tv ba
   obtain⟨cU,M⟩:=Gx (Λ:=F) (R0:=R) (bn.me aj) bb M
   have aK:=uO (Λ:=F) (R0:=R) (cs:=cs) (n0:=σ.n) (ρ:=ρ) (f:=λB=>lD C id au b0 rs σ.l.length t0 K .normal B) bb
   have M:=jQ aK M
   have bg:=tv (cs:=cs) (f:=λe B=>match e with |.normal=>Tr.leaf .normal B |.ret=>lD C id au b0 rs σ.l.length t0 K .ret B |.exit i=>lD C id au b0 rs σ.l.length t0 K (.exit i) B|_=>.bad 26) aK
   obtain⟨bt,M⟩:=Gx (Λ:=F) (R0:=R) (bn.me aj) bg M
   have bC:=uO (Λ:=F) (R0:=R) (cs:=cs) (n0:=σ.n) (ρ:=ρ) (f:=λB=>match B.l[id]? with
       |some (.lp O N Y .ready)=>bif Nat.beq O au&&Nat.beq N b0&&decide (Y=rs)&&kF C.dep σ.l.length B.l then run {C with nt:=k,dep:=C.dep+1,kV:=true} aR ⟨0,[],0⟩ aa ⟨B.n,B.t,B.l.set id (.lp au b0 rs .busy)⟩else .bad 25
       |_=>.bad 25) bg
   have M:=jQ bC M
   have ch:=tv (cs:=cs) (f:=λe B=>match e with |.normal=>Tr.leaf .normal B|_=>.bad 21) bC
   have cD:=@bP F R {C with nt:=k,dep:=C.dep+1,kV:=true} aR ⟨gi aa ⟨0,[],0⟩,[],0⟩ bc ⟨σ.n,xB ps ts t,σ.l++[.dD C.dep σ.l.length (id::fV t0)]⟩ w0 I0 (bA.B8 _ _ _) ⟨aM.sigs,aM.turns⟩ bH (λh=>by cases h) bI
   refine kl.go (Λ:=F) (R0:=R) cD cF bB ch M ?_
   intro e σ1 cT bu ai cc cd s1 cG
   cases e with
   |ret=>exact ai.elim
   |exit i=>exact ai.elim
   |fp e=>exact ai.elim
   |normal=>
   show ∃s2,_
   have ai:ew (Λ:=F) (R0:=R) _ _ _ _ _ .normal σ1 cT bu:=ai
   unfold ew at ai
   rw[if_pos rfl]at ai
   obtain⟨B,bY,s2,cV,cM,aH,bW,aP,al⟩:=ai cc cd s1 cG
   simp only[]at al
   split at al
   ·rename_i O N Y cu
    cases ae:(Nat.beq O au&&Nat.beq N b0&&decide (Y=rs)&&kF C.dep σ.l.length B.l)with
    |false=>rw[ae]at al;exact al.elim
    |true=>
     rw[ae]at al
     simp only[cond_true]at al
     simp only[db,ea]at ae
     obtain⟨⟨⟨ao,aq⟩,aV⟩,b4⟩:=ae
     have ao:=er ao
     have aq:=er aq
     subst ao;subst aq;subst aV
     have bG:∀{ρ:aS}{lX:List AX}{l:List AO},@RL _ F ρ lX l->kF C.dep σ.l.length lX=true->l[s.l.length]?=some (.frame s.l.length vals az):=by
      intro ρ lX l bj bh
      obtain⟨c0,cW,aC,U⟩:=DX (Λ:=F) bj bh
      rw[bQ]at U
      injection U with U;injection U with br cQ cR
      subst cQ;subst cR
      rw[bL]at aC;exact aC
     have bO:∀{ρ:aS}{lX:List AX}{l:List AO}{st:Ls},@RL _ F ρ lX l->lX[id]?=some (.lp O N Y st)->l[id]?=some (.loop N k af bc aa tm (pX st) (rE st)):=by
      intro ρ lX l st bj bh
      obtain⟨cL,cP,b1,b2,cS,aC,U,br⟩:=wq (Λ:=F) bj bh
      rw[aN _ _ a6]at U
      injection U with U;injection U with bz aW aX aY aZ a1
      subst aW;subst aX;subst aY;subst aZ;subst a1
      exact aC
     refine⟨s2,cM,bG aH.l' b4,bO aH.l' cu,?_⟩
     have bM:∀{ρ:aS}(st:Ls),@bT _ F ρ (.lp O N Y st) (.loop N k af bc aa tm (pX st) (rE st)):=λ{ρ} st=>@bT.lp _ F ρ O N Y st k af bc aa tm (aN _ _ a6) br
     have cH:@bn _ F bY ⟨B.n,B.t,B.l.set id (.lp O N Y .busy)⟩ ⟨s2.t,s2.l.set id (.loop N k af bc aa tm .busy none)⟩:=@bn.mk _ F _ _ _ aH.me aH.t' (F2.set aH.l' (bM .busy) id)
     have cE:=@bP F R {C with nt:=k,dep:=C.dep+1,kV:=true} aR ⟨0,[],0⟩ aa ⟨B.n,B.t,B.l.set id (.lp O N Y .busy)⟩ w0 I0 (bA.B8 _ _ _) ⟨aM.sigs,aM.turns⟩ bH (λh=>by cases h) bI
     refine kl.go (Λ:=F) (R0:=R) cE cH (ln.mono (Λ:=F) bB (bW.ext (bn.me aj))) bg al ?_
     intro e aD ax aE Z a8 aG av bm
     have a8:c9 B.n bY ax:=a8
     have aG:B.n<=aD.n:=aG
     have bs:c9 σ.n ρ ax:=bW.trans a8 aP
     have bl:∀e B ρ J,ah (.fp e) B ρ J->Q e B ρ J:=λe B ρ J h=>by rw[bE]at h;exact h
     have fin:∀(G:Ex)(ad:Sk)(an:aS)(ay:LJ)(aw:St)(aI:LQ),eV aI->(G=.normal\/G=.ret\/∃i,G=.exit i)->Sub av aw->@bn _ F an ad aw->c9 σ.n ρ an->σ.n<=ad.n->(∀e B ρ J,aI (.fp e) B ρ J->Q e B ρ J)->Tr.wp cs (lD C id O N Y σ.l.length t0 K G ad) an aI ay->bZ (pK G) av:=by
      intro G ad an ay aw aI cj cm bp aB aQ bq cN ab
      unfold lD at ab
      split at ab
      ·rename_i bV aF bX ct
       cases aL:(Nat.beq bV O&&Nat.beq aF N&&decide (bX=Y)&&kF C.dep σ.l.length ad.l)with
       |false=>rw[aL]at ab;exact ab.elim
       |true=>
        rw[aL]at ab
        simp only[cond_true]at ab
        simp only[db,ea]at aL
        obtain⟨⟨⟨ao,aq⟩,aV⟩,b5⟩:=aL
        have ao:=er ao
        have aq:=er aq
        subst ao;subst aq;subst aV
        have cO:=Tr.wp_mono (J':=ay) (λ_ _ h=>h) (λe B ρ bt bu cv h=>ba _ _ _ _ _ cv (cN e B ρ bt h)) (jQ cj ab)
        have cK:∃ak,oD (pK G)=some ak/\ak=(if G=.normal then none else some (IV G)):=by
         rcases cm with rfl|rfl| ⟨i,rfl⟩
         ·exact⟨_,rfl,rfl⟩
         ·exact⟨_,rfl,rfl⟩
         exact⟨_,rfl,rfl⟩
        obtain⟨ak,cw,bJ⟩:=cK
        refine bD _ ak _ cw ⟨aw,bp,bG aB.l' b5,bO aB.l' ct,?_⟩
        have bo:(if ak.isNone then LoopState.ready else .done)=pX (if G=.normal then Ls.ready else .done G)/\ak=rE (if G=.normal then Ls.ready else .done G)/\ak.isNone=decide (G=.normal):=by
         by_cases aA:G=.normal
         ·rw[bJ,if_pos aA,if_pos aA];exact⟨rfl,rfl,by simp[aA]⟩
         rw[bJ,if_neg aA,if_neg aA];exact⟨rfl,rfl,by simp[aA]⟩
        rw[bo.1,bo.2.2]
        rw[show(AO.loop aF k af bc aa tm (pX (if G=.normal then Ls.ready else .done G)) ak)=.loop aF k af bc aa tm (pX (if G=.normal then Ls.ready else .done G)) (rE (if G=.normal then Ls.ready else .done G)) by rw[<-bo.2.1]]
        exact cf _ ⟨ad.n,t0,(ad.l.set id (.lp bV aF bX (if G=.normal then Ls.ready else .done G))).map (gZ C.dep)⟩ an ay _ ⟨ft,aw.l.set id (.loop aF k af bc aa tm (pX (if G=.normal then Ls.ready else .done G)) (rE (if G=.normal then Ls.ready else .done G)))⟩ cO aQ bq
         (@bn.mk _ Λ _ _ _ (show ey ad.n an from bn.me aB) (λq=>(b7 q).mono (aQ.ext (bn.me aj))) (Gl cy (F2.set aB.l' (bM _) id))) (fu rfl)
      exact ab.elim
     cases e with
     |normal=>
      have Z:ew (Λ:=F) (R0:=R) _ _ _ _ _ .normal aD ax aE:=Z
      unfold ew at Z
      rw[if_pos rfl]at Z
      obtain⟨ad,an,aw,ay,bp,aB,aQ,bq,ab⟩:=Z bs (hJ aP aG) av bm
      exact fin .normal ad an ay aw ah bb (.inl rfl) bp aB aQ bq bl ab
     |ret=>
      have Z:Tr.wp cs (lD C id O N Y σ.l.length t0 K .ret aD) ax (ew (Λ:=F) (R0:=R) cs σ.n ρ (λB=>lD C id O N Y σ.l.length t0 K .normal B) ah) aE:=Z
      exact fin .ret aD ax aE av _ aK (.inr (.inl rfl)) (Sub.refl av) bm bs (hJ aP aG) (λe B ρ J h=>bl e B ρ J (by unfold ew at h;rw[if_neg (by intro h;cases h)]at h;exact h)) Z
     |exit i=>
      have Z:Tr.wp cs (lD C id O N Y σ.l.length t0 K (.exit i) aD) ax (ew (Λ:=F) (R0:=R) cs σ.n ρ (λB=>lD C id O N Y σ.l.length t0 K .normal B) ah) aE:=Z
      exact fin (.exit i) aD ax aE av _ aK (.inr (.inr ⟨i,rfl⟩)) (Sub.refl av) bm bs (hJ aP aG) (λe B ρ J h=>bl e B ρ J (by unfold ew at h;rw[if_neg (by intro h;cases h)]at h;exact h)) Z
     |fp e=>exact Z.elim
   exact al.elim
 exact M.elim
theorem ZG(Z:cA P V){o:Oper}{s:St}{K:St->Prop}{pc:PC}{t t2 e size sz M:Nat}{z els:List D}{x:Operand}(B:o.op=.binOp .eql t x (.const (.slice none 0 0)) t2)(O:V.E t=some ⟨sz,M,z,.slice e⟩)(ak:bN s.t x=.d (.slice size els))(af:dA ops s.t o.guard=some pc)(ag:holds pc)(ab:dJ n o.dst=true)(U:∀b,(b=true->els=[])->K ⟨bR s.t o.dst (.d (.bool b)),s.l⟩):l9 P n ops o s K:=by
 intro w0 I0 a w Q al ah Y
 obtain⟨F,I,m,G,ad,ht⟩:=ah
 rw[if_pos ((ph ht af).2 ag)]
 refine cp.wpIn (by simp[B]) ?_
 have j:=cz (by have:=mg G.sat.dz ht x;rw[ak]at this;exact this)
 obtain⟨A,c,k⟩:=NG j
 have aj:=l4 Z.E O
 have ai:(execOp a.eval o).run P w=.ok (.value (.bool A.isNone)) w:=by
  have ae:a.eval (.const (.slice none 0 0))=.slice none 0 0:=rfl
  have N:=Lib.run_eql_slice_nil (P:=P) w t e A els.length c 0 0 aj
  unfold execOp
  simp only[B,k,ae,fv,eqGuard]
  simp[N]
 rw[ai]
 simp only[cp]
 refine Y _ _ _ (U A.isNone ?_) ⟨by cases o.dst<;>simp[Act.put,F],I,m,G,ad.put (.refl I),lU F ab ht (.d _ _ (.bool _))⟩
 intro aa
 rw[k]at j
 cases A with
 |none=>
  generalize an:els.length=q at j
  cases j
  rfl
 |some a=>cases aa
def U6(aq:vm P V cs fs run)(N:bU P V C)(al:il P C cs)(aA:pq P fs)(aa:C.ni=fs)(an:∀j,C.dep<=j->Λ.lam j=none){σ:Sk}{ρ:aS}(aj:ln ρ L):Hr P cs n ops (vY run C L) σ ρ:=by
 intro o m F s Q J K aJ pc k B ak Z ab ad ae O
 obtain⟨ft,ag,ah,ai⟩:=KE B m
 unfold vY at k
 split at k
 ·rename_i aK t x y t2 G
  split at k
  ·rename_i s1 s2 aL e u xs az aB
   injection k with k;subst k
   obtain⟨aM,zs,aw,ax,ay⟩:=ae
   have av:=qe B.t x
   rw[aB]at av
   obtain⟨au,v,M,af⟩:=kq av
   rw[aw]at M
   injection M with M;cases M
   refine ZG (P:=P) N.ok G (by rw[N.E];exact az) (size:=u.size) (els:=List.map u.enc v) af ab ad Z λb aD=>?_
   cases b with
   |true=>exact O _ σ ρ J _ s (ax (List.map_eq_nil_iff.1 (aD rfl))) (.refl _ _) (eb _) B (fu rfl)
   |false=>exact O _ σ ρ J _ s ay (.refl _ _) (eb _) B (fu rfl)
  cases k
 ·rename_i c G
  split at k
  ·rename_i f U
   have Y:=qe B.t f
   have aC:∀x∈c.args.toList,RX ρ (gF σ.t x) (bN s.t x):=λx _=>qe B.t x
   have ar:F2 (RX ρ) (pf C.E c.argTypes.toList (c.args.toList.map (gF σ.t))) (fM V.E c.argTypes.toList (c.args.toList.map (bN s.t))):=GZ N (De aC)
   split at k
   ·rename_i id aG
    injection k with k;subst k
    rw[aG]at Y
    have aH:jL V.E (bN s.t) o=some (id,fM V.E c.argTypes.toList (c.args.toList.map (bN s.t))):=by
     generalize au:bN s.t f=v at Y
     cases Y
     simp only[jL,G,U,au]
    exact abc aq N al aa an B aj ak Z ab ad aH ar ag ah ai ae O
   split at k
   ·rename_i g ts aF
    obtain⟨aI,M,af⟩:=CT Y aF
    split at k
    ·rename_i fn ao
     injection k with k;subst k
     have aE:ez V.E (bN s.t) o=some (g,fM V.E c.argTypes.toList (c.args.toList.map (bN s.t))++aI):=by
      rcases af with e| ⟨e,rfl⟩| ⟨ds,e,rfl⟩
      ·simp only[ez,G,U,e]
      ·simp only[ez,G,U,e,mb]
      simp only[ez,G,U,e]
     rw[aa]at ao
     exact Sl aq N al aA aa an ao B aj ak Z ab ad aE (ar.app M) ag ah ai ae O
    cases k
   cases k
  cases k
 cases k
def F7(bC:vm P V cs fs run)(aE:bU P V C)(aH:il P C cs)(bh:pq P fs)(aK:C.ni=fs)(bB:R0.r=none)(aI:∀j,C.dep<=j->Λ.lam j=none){w0:World}{I0:ay}{g:Operand}{ps:Array Tmp}{bc G:Code}{ao m:Nat}{σ:Sk}{s:St}{ρ:aS}{gf:FuncId}{caps:List TX}{fn:Func}{Q:LQ}{J:LJ}{au:Exit->St->Prop}(aG:lx (gF (oE m σ.t) g)=some (gf,caps))(aJ:findF gf C.ni=some fn)(ah:bn ρ σ s)(bj:ln ρ L)(aF:eV Q)(U:Tr.wp cs (xv run C L ao fn caps ps.toList bc G σ (oE m σ.t)) ρ Q J)(ax:∀e bH ρ' J',Q e bH ρ' J'->c9 σ.n ρ ρ'->σ.n<=bH.n->∀s',bn ρ' bH s'->au (pK e) s'):aL P w0 I0 C.nt (.rangeFunc g ps bc G) s au:=by
 obtain⟨ft,bd,ai,aw⟩:=KE ah m
 generalize oE m σ.t=t0 at aG U ai aw
 have ab:σ.l.length=s.l.length:=ah.l.len
 refine aL.sub (ZO bd) ?_
 have bu:RX ρ (gF t0 g) (bN ft g):=qe ai g
 obtain⟨aA,aV,bE⟩:=CT bu aG
 have bs:te (bN ft g)=some (gf,aA):=by rcases bE with e| ⟨e,rfl⟩| ⟨ds,e,rfl⟩<;>simp only[te,e]
 unfold xv at U
 cases ak:(!Nat.ble (caps.length+1) fn.ntmps || !fn.results.toList.isEmpty || !Nat.ble σ.l.length σ.l.length)with
 |true=>rw[ak]at U;exact U.elim
 |false=>
  rw[ak]at U
  simp only[cond_false]at U
  simp only[k4,ta]at ak
  obtain⟨⟨aD,av⟩,_⟩:=ak
  have aD:=hg aD
  have av:fn.results.toList=[]:=by simpa using av
  rw[aK]at aJ
  obtain⟨a8,ba,bb⟩:=bh gf fn aJ
  refine Ym (s:=⟨ft,s.l⟩) bB bs λae bL=>?_
  show qG P gf (.bf s.l.length::aA) (s.l++[.loop s.l.length C.nt ps bc G ft .ready none]) ((ae,.bf s.l.length)::ft) _
  refine qG.of aE.ok ba a8 bb (by simp only[List.length_cons,<-aV.len];omega) λR bp bI a7 vals bJ aj=>?_
  have bm:(s.l++[AO.loop s.l.length C.nt ps bc G ft .ready none]).length=s.l.length+1:=by simp
  rw[bm]at aj⊢
  have bo:s.l++[AO.loop s.l.length C.nt ps bc G ft .ready none]++[AO.frame (s.l.length+1) vals ((ae,.bf s.l.length)::ft)]=s.l++[AO.loop s.l.length C.nt ps bc G ft .ready none,AO.frame (s.l.length+1) vals ((ae,.bf s.l.length)::ft)]:=by simp
  rw[bo]
  generalize bt:((ae,T.bf s.l.length)::ft)=Z at aj⊢
  have bg:mR Z (s.l.length::fV t0):=λk r O=>by
   rw[<-bt]at O
   simp only[ag.get]at O
   by_cases aN:ae=k
   ·rw[if_pos aN]at O;simp[eI]at O;subst O;simp
   rw[if_neg aN]at O;exact nb _ (aw k r O)
  generalize al:gu Λ C.dep (.loop s.l.length C.nt ps bc G ft)=ar
  generalize an:gu ar (C.dep+1) (.frame (s.l.length+1) vals Z)=F
  have aM:∀j,C.dep+1<=j->ar.lam j=none:=al▸Bl aI
  have bw:∀j,C.dep+2<=j->F.lam j=none:=an▸Bl aM
  have bz:gN Λ ar:=al▸gN.push (aI _ (eb _))
  have aP:gN ar F:=an▸gN.push (aM _ (eb _))
  have aO:gN Λ F:=bz.trans aP
  have aQ:F.lam C.dep=some (.loop s.l.length C.nt ps bc G ft):=aP _ _ (al▸xq)
  have aR:F.lam (C.dep+1)=some (.frame (s.l.length+1) vals Z):=an▸xq
  have bA:∀j,j<C.dep->F.lam j=Λ.lam j:=λj M=>by rw[<-an,Bm j (by omega),<-al,Bm j M]
  have bD:@bn _ F ρ ⟨σ.n,pd 0 (.bf σ.l.length::caps),σ.l++[.lp C.dep σ.l.length (fV t0) .ready,.dD (C.dep+1) (σ.l.length+1) (σ.l.length::fV t0)]⟩
    ⟨jf 0 (.bf s.l.length::aA),s.l++[.loop s.l.length C.nt ps bc G ft .ready none,.frame (s.l.length+1) vals Z]⟩:=by
   rw[ab]
   refine @bn.mk _ F _ _ _ (show ey σ.n ρ from bn.me ah) (GH (.cons (.bf _) aV)) (F2.app (Gk aO (bn.l' ah)) (.cons ?_ (.cons ?_ .nil)))
   ·exact @bT.lp _ F ρ C.dep s.l.length _ .ready C.nt ps bc G ft aQ aw
   exact @bT.dD _ F ρ (C.dep+1) (s.l.length+1) _ vals Z aR bg
  have bl:@ln _ F ρ (.mk σ.l.length C.dep C.nt ps.toList bc G t0 L::L):=λx hx=>by
   have aW:∀x,x∈L->@jk _ F ρ x:=λx hx=>jk.lam aO (bj x hx)
   rcases fb.1 hx with rfl|hx
   ·exact @jk.mk _ F ρ σ.l.length C.dep C.nt ps.toList bc G t0 L s.l.length ps ft aQ rfl ai aW
   exact aW x hx
  have U:=jQ aF U
  have O:=@bC F R {C with nt:=fn.ntmps,dep:=C.dep+2,kV:=false} (.mk σ.l.length C.dep C.nt ps.toList bc G t0 L::L) ⟨0,[],0⟩ (ko fn) ⟨σ.n,pd 0 (.bf σ.l.length::caps),σ.l++[.lp C.dep σ.l.length (fV t0) .ready,.dD (C.dep+1) (σ.l.length+1) (σ.l.length::fV t0)]⟩ bI a7 (aE.B8 _ _ _) ⟨aH.sigs,aH.turns⟩ aK (λ_=>bp) bw
  refine kl.go (Λ:=F) (R0:=R) O bD bl (tv aF) U ?_
  intro e bH ρ' J' B aa af s' ad
  have aa:c9 σ.n ρ ρ':=aa
  have af:σ.n<=bH.n:=af
  have fin:Tr.wp cs (xv.fin C ao σ t0 bH) ρ' Q J'->sP V s' fn.results.toList (s.l.length+1) vals Z λ_ l'=>@Cg _ R0 P w0 I0 C.nt au ⟨ft,s.l⟩ s.l.length l':=by
   intro B
   unfold xv.fin at B
   cases az:kF (C.dep+1) (σ.l.length+1) bH.l with
   |false=>rw[az]at B;exact B.elim
   |true=>
    rw[az]at B
    simp only[cond_true]at B
    obtain⟨bO,bK,a1,aq⟩:=DX (Λ:=F) (bn.l' ad) az
    rw[aR]at aq
    injection aq with aq;injection aq with bM bF bG
    subst bF;subst bG
    rw[ab]at a1
    refine⟨s',@Sub.refl _ R s',by rw[av];trivial,a1,?_⟩
    have after:∀{b:Nat}{rs:List Nat}{st:Ls}{X:AO},bH.l[σ.l.length]?=some (.lp C.dep b rs st)->Kz X=true->@bn _ Λ ρ' (Sk.cD ao ⟨bH.n,t0,bH.l.map (gZ C.dep)⟩) ⟨ft,s'.l.set s.l.length X⟩:=by
     intro b rs st X N br
     refine uM (Λ:=Λ) (σ:=⟨bH.n,t0,bH.l.map (gZ C.dep)⟩) (s:=⟨ft,s'.l.set s.l.length X⟩) ao ?_
     refine @bn.mk _ Λ _ _ _ (show ey bH.n ρ' from bn.me ad) (λk=>(ai k).mono (aa.ext (bn.me ah))) ?_
     have bq:@RL _ Λ ρ' (bH.l.map (gZ C.dep)) s'.l:=Gl bA (bn.l' ad)
     have aT:=F2.set bq (@bT.eO _ Λ ρ' X br) s.l.length
     have e:(bH.l.map (gZ C.dep)).set s.l.length .eO=bH.l.map (gZ C.dep):=by
      apply hW
      intro i
      rw[e4]
      by_cases hi:s.l.length=i
      ·subst hi
       rw[ab]at N
       have bx:=(c5.1 N).1
       rw[if_pos rfl,if_pos (by simpa using bx),et,N]
       simp[gZ,A1 (eb _)]
      rw[if_neg hi]
     rw[e]at aT
     exact aT
    split at B
    ·rename_i j b rs N
     cases M:Nat.beq j C.dep with
     |false=>rw[M]at B;exact B.elim
     |true=>
      rw[M]at B
      simp only[cond_true]at B
      have:=er M
      subst this
      obtain⟨aU,aZ,aB,aC,a6,Y,aX,aY⟩:=wq (Λ:=F) (bn.l' ad) N
      rw[ab]at Y
      exact⟨_,_,_,_,_,_,_,_,Y,(by intro h;cases h),ax .normal _ ρ' J' B aa af _ (after N rfl)⟩
    ·rename_i j b rs N
     cases M:Nat.beq j C.dep with
     |false=>rw[M]at B;exact B.elim
     |true=>
      rw[M]at B
      simp only[cond_true]at B
      have:=er M
      subst this
      obtain⟨aU,aZ,aB,aC,a6,Y,aX,aY⟩:=wq (Λ:=F) (bn.l' ad) N
      rw[ab]at Y
      exact⟨_,_,_,_,_,_,_,_,Y,(by intro h;cases h),(letI:bX:=R0;aL.ret (ax .ret _ ρ' J' B aa af _ (after N rfl)))⟩
    ·rename_i j b rs i N
     cases M:Nat.beq j C.dep with
     |false=>rw[M]at B;exact B.elim
     |true=>
      rw[M]at B
      simp only[cond_true]at B
      have:=er M
      subst this
      obtain⟨aU,aZ,aB,aC,a6,Y,aX,aY⟩:=wq (Λ:=F) (bn.l' ad) N
      rw[ab]at Y
      exact⟨_,_,_,_,_,_,_,_,Y,(by intro h;cases h),(letI:bX:=R0;aL.exit (ax (.exit i) _ ρ' J' B aa af _ (after N rfl)))⟩
    exact B.elim
  cases e with
  |normal=>exact aj _ _ (.inr rfl) (fin B)
  |ret=>exact aj _ _ (.inl rfl) (fin B)
  |exit i=>exact B.elim
  |fp e=>exact B.elim
omit Λ R0 in
theorem Ud(aq:pq P fs)(aA:P.follows .mixedOrders=true)(f:Nat):vm P V cs fs (exec f):=by
 induction f with
 |zero=>
  intro Λ R C L F c σ w0 I0 _ _ _ _ _ ρ s Q J aj _ _ _ j _
  exact j.elim
 |succ f ab=>
  intro Λ R C L F c σ w0 I0 G O aa af Z
  intro ρ s Q J aj B ae N j k
  cases c with
  |skip=>exact aL.skip (k _ _ _ _ j (.refl _ _) (eb _) s B)
  |region id ops d=>
   obtain⟨s0,av,aw,ax⟩:=DC G (js:=og C ops.toList) B
   refine aL.sub av ?_
   have k:∀e bH ρ' J',Q e bH ρ' J'->c9 (lI C σ (og C ops.toList)).n ρ ρ'->(lI C σ (og C ops.toList)).n<=bH.n->∀s',bn ρ' bH s'->aj (pK e) s':=by rw[ax];exact k
   have B:=aw
   have j:Tr.wp cs (eJ (λe M=>.leaf e (M.cD F.out)) (bif d then yG C ops.toList (lI C σ (og C ops.toList))else mG C (vY (exec f) C L) F.out ops.toList ops.toList (lI C σ (og C ops.toList)))) ρ Q J:=j
   generalize lI C σ (og C ops.toList)=σ at B j k
   cases d with
   |true=>
    have j:Tr.wp cs (eJ (λe M=>.leaf e (M.cD F.out)) (yG C ops.toList σ)) ρ Q J:=j
    have j:=jQ N j
    have e:Code.region id ops true=Code.region id ops.toList.toArray true:=by simp
    rw[e]
    exact TA (ops:=ops.toList) G O rfl aA B j λbH ρ' J' U Y ad s' ag=>k .normal _ ρ' J' U Y ad s' (uM F.out ag)
   |false=>
    have j:Tr.wp cs (eJ (λe M=>.leaf e (M.cD F.out)) (mG C (vY (exec f) C L) F.out ops.toList ops.toList σ)) ρ Q J:=j
    have j:=jQ N j
    have ah:=BC (K:=λs'=>aj .normal s') G O rfl (tv N) (n0:=σ.n) (ρ0:=ρ) (λσ1 aI aC aH=>U6 @ab G O aq aa Z (ae.mono (aC.ext B.eT))) ops.toList (c9.refl _ _) (eb _) B j λbH ρ' J' U Y ad s' ag=>k .normal _ ρ' J' U Y ad s' (uM F.out ag)
    intro a w aB
    have e:Code.region id ops false=Code.region id ops.toList.toArray false:=by simp
    rw[e]
    exact F4 (nX.wp (Q:=λe ar w'=>∃s',aj e s'/\Rel w0 I0 C.nt s' ar w') (λs' a w U Y=>⟨s',U,Y⟩) ops.toList s0 a w aB ah)
  |seq a b=>exact(Y0 (ab C L _ a σ w0 I0 G O aa af Z) (λM=>ab C L F b M w0 I0 G O aa af Z)).go B ae N j k
  |cond c a b=>
   simp only[exec]at j
   have ah:=qe B.t c
   split at j
   ·rename_i an
    rw[an]at ah
    obtain⟨ak,U,Y⟩:=iQ ah
    have:ak=true:=fN (U.symm.trans (rfl:(X.bool true).den ρ=some ⟨.bool,true⟩))
    subst this
    exact aL.cond (by rw[Y];rfl) (λ_=>(ab C L F a σ w0 I0 G O aa af Z).go B ae N j k) (λh=>by cases h)
   ·rename_i an
    rw[an]at ah
    obtain⟨ak,U,Y⟩:=iQ ah
    have:ak=false:=fN (U.symm.trans (rfl:(X.bool false).den ρ=some ⟨.bool,false⟩))
    subst this
    exact aL.cond (by rw[Y];rfl) (λh=>by cases h) (λ_=>(ab C L F b σ w0 I0 G O aa af Z).go B ae N j k)
   ·rename_i x _ _ an
    rw[an]at ah
    obtain⟨ak,U,Y⟩:=iQ ah
    obtain⟨au,aD,aE,aF⟩:=j
    have:ak=au:=fN (U.symm.trans aD)
    subst this
    exact aL.cond (b:=ak) (by rw[Y];rfl) (λh=>(ab C L F a σ w0 I0 G O aa af Z).go B ae N (aE h) k) (λh=>(ab C L F b σ w0 I0 G O aa af Z).go B ae N (aF h) k)
   exact j.elim
  |block id b=>
   have j:Tr.wp cs (eJ (λe M=>match e with |.exit i=>(bif Nat.beq i id then .leaf .normal M else .leaf e M)|e=>.leaf e M) (exec f C L {F with ex:=(id,F.out)::F.ex} b σ)) ρ Q J:=j
   refine aL.block ((ab C L _ b σ w0 I0 G O aa af Z).go B ae (tv N) (jQ N j) λe bH ρ' J' ai ad al s' ag=>?_)
   cases e with
   |normal=>exact k .normal _ ρ' J' ai ad al s' ag
   |ret=>exact k .ret _ ρ' J' ai ad al s' ag
   |fp e=>exact k (.fp e) _ ρ' J' ai ad al s' ag
   |exit i=>
    show if i=id then aj .normal s' else aj (.exit i) s'
    by_cases hi:i=id
    ·subst hi
     rw[if_pos rfl]
     simp only[ia,cond_true]at ai
     exact k .normal _ ρ' J' ai ad al s' ag
    rw[if_neg hi]
    simp only[kz hi,cond_false]at ai
    exact k (.exit i) _ ρ' J' ai ad al s' ag
  |loop b=>exact(Eu (λM=>ab C L _ b M w0 I0 G O aa af Z) 6 σ _).go B ae N j k
  |exit id=>exact aL.exit (k (.exit id) _ _ _ j (.refl _ _) (eb _) s B)
  |ret=>exact aL.ret (k .ret _ _ _ j (.refl _ _) (eb _) s B)
  |rangeFunc g ps bc aG=>
   simp only[exec]at j
   cases ao:C.kV with
   |true=>rw[ao]at j;exact j.elim
   |false=>
    rw[ao]at j
    simp only[cond_false]at j
    split at j
    ·rename_i gf caps ay
     split at j
     ·rename_i fn az
      exact F7 @ab G O aq aa (af ao) Z ay az B ae N j k
     exact j.elim
    exact j.elim
  |_=>exact j.elim
end
end Go.Sy
namespace Go.Sy
open Go Go.ag
variable [aG][cK][dw][bq][pv]
section
variable [bX]
def zF:LQ:=λ_ _ _ _=>False
def To{cs:List Callee}:∀{T:Tr}{B:List Ty}{ρ:aS}{r:qD B},Tr.den cs B T ρ=some r->Tr.wp cs T ρ zF (λk v=>ky B k v=some r):=by
 intro T
 induction T with
 |leaf e σ=>intro B ρ r h;simp[Tr.den]at h
 |out k x=>
  intro B ρ r h
  simp only[Tr.den]at h
  split at h
  ·rename_i v an;exact⟨v,an,h⟩
  cases h
 |bS x t G=>
  intro B ρ r h
  simp only[Tr.den]at h
  split at h
  ·rename_i b Y
   cases b with
   |true=>exact⟨Y,G h⟩
   |false=>cases h
  cases h
 |get v xs k t G=>
  intro B ρ r h
  simp only[Tr.den]at h
  split at h
  ·rename_i u l kk i ah ai
   cases ab:au (α:=u.den) l i with
   |none=>rw[ab]at h;cases h
   |some e=>rw[ab]at h;exact⟨u,l,kk,i,e,ah,ai,ab,G h⟩
  cases h
 |call v c x t G=>
  intro B ρ r h
  simp only[Tr.den]at h
  split at h
  ·rename_i C aj
   split at h
   ·rename_i u aa
    split at h
    ·rename_i a ak
     cases M:C.fn a with
     |none=>rw[M]at h;cases h
     |some y=>
      rw[M]at h
      have:=pB ak
      subst this
      exact⟨C,a,y,aj,aa,M,G h⟩
    cases h
   cases h
  cases h
 |fP c a b O U=>
  intro B ρ r h
  simp only[Tr.den]at h
  split at h
  ·rename_i b0 Y
   refine⟨b0,Y,λe=>?_,λe=>?_⟩
   ·subst e;exact O h
   subst e;exact U h
  cases h
 |gE c a b O U=>
  intro B ρ r h
  simp only[Tr.den]at h
  split at h
  ·rename_i u xs ao
   refine⟨u,xs,ao,λe=>?_,?_⟩
   ·subst e
    simp only[List.isEmpty_nil,oP]at h
    split at h
    ·rename_i Z;exact O (Z.trans h)
    cases h
   cases xs with
   |nil=>
    simp only[List.isEmpty_nil,oP]at h
    split at h
    ·exact U h
    cases h
   |cons y ys=>exact U h
  cases h
 |join ty v a b O U=>
  intro B ρ r h
  have ae:∀{w:Sy.V}{z:ty.den},dr ty w=some z->Tr.den cs B b ((v,⟨ty,z⟩)::ρ)=some r->∃y:ty.den,w=⟨ty,y⟩/\Tr.wp cs b ((v,⟨ty,y⟩)::ρ) zF (λk v=>ky B k v=some r):=λal Y=>⟨_,pB al,U Y⟩
  simp only[Tr.den]at h
  cases Z:jn 0 a with
  |false=>
   rw[Z]at h
   simp only[cond_false]at h
   cases N:Tr.den cs [ty] a ρ with
   |none=>rw[N]at h;cases h
   |some z=>
    rw[N]at h
    have h:Tr.den cs B b ((v,⟨ty,z⟩)::ρ)=some r:=h
    show Tr.wp cs a ρ _ (gR _ _)
    refine Tr.wp_mono (λk w j=>?_) (λ_ _ _ _ _ _ h=>h) (O N)
    cases k with
    |zero=>exact ae j h
    |succ k=>simp[ky]at j
  |true=>
   rw[Z]at h
   simp only[cond_true]at h
   cases N:Tr.den cs (ty::B) a ρ with
   |none=>rw[N]at h;cases B<;>cases h
   |some z=>
    rw[N]at h
    cases B with
    |nil=>exact r.elim
    |cons s rest=>
     show Tr.wp cs a ρ _ (gR _ _)
     refine Tr.wp_mono (λk w j=>?_) (λ_ _ _ _ _ _ h=>h) (O N)
     match z,h with
     |.inl z,h=>
      have h:Tr.den cs (s::rest) b ((v,⟨ty,z⟩)::ρ)=some r:=h
      cases k with
      |zero=>
       simp only[ky]at j
       split at j
       ·rename_i z' ad
        injection j with j;injection j with j;subst j
        exact ae ad h
       cases j
      |succ k=>
       simp only[ky]at j
       split at j
       ·injection j with j;cases j
       cases j
     |.inr z,h=>
      have h:some z=some r:=h
      injection h with h;subst h
      cases k with
      |zero=>
       simp only[ky]at j
       split at j
       ·injection j with j;cases j
       cases j
      |succ k=>
       simp only[ky]at j
       split at j
       ·rename_i y M;injection j with j;injection j with j;subst j;exact M
       cases j
 |loop ty v i b G=>
  intro B ρ r h
  cases B with
  |nil=>simp[Tr.den]at h
  |cons s rest=>
   simp only[Tr.den]at h
   split at h
   ·rename_i u aa
    split at h
    ·rename_i ag af
     have:=pB af
     subst this
     obtain⟨m,F⟩:=zn h
     refine⟨ag,aa,m,?_⟩
     clear af h aa
     induction m generalizing ag with
     |zero=>cases F
     |succ m av=>
      simp only[kG]at F
      show Tr.wp cs b _ _ (gR _ _)
      split at F
      ·rename_i z' ad
       refine Tr.wp_mono (λk w j=>?_) (λ_ _ _ _ _ _ h=>h) (G ad)
       cases k with
       |zero=>
        simp only[ky]at j
        split at j
        ·rename_i ax ar
         injection j with j;injection j with j;subst j
         exact⟨_,pB ar,av _ F⟩
        cases j
       |succ k=>
        simp only[ky]at j
        split at j
        ·injection j with j;cases j
        cases j
      ·rename_i y M
       injection F with F;subst F
       refine Tr.wp_mono (λk w j=>?_) (λ_ _ _ _ _ _ h=>h) (G M)
       cases k with
       |zero=>
        simp only[ky]at j
        split at j
        ·injection j with j;cases j
        cases j
       |succ k=>
        simp only[ky]at j
        split at j
        ·rename_i aw aq;injection j with j;injection j with j;subst j;exact aq
        cases j
      cases F
    cases h
   cases h
 |bad w=>intro B ρ r h;simp[Tr.den]at h
theorem Us{cs:List Callee}{g:Sk->Option X}{p:Sy.V->Prop}:∀{t:Tr}{k:Nat}{ρ:aS}{J:LJ},(∀v,J k v->p v)->Tr.wp cs (jv g k t) ρ zF J ->
  Tr.wp cs t ρ (λe σ ρ' _=>(e=.ret\/e=.normal)/\∃x v,g σ=some x/\x.den ρ'=some v/\p v) J:=by
 intro t
 induction t with
 |leaf e σ=>
  intro k ρ J B h
  cases e with
  |exit i=>exact h.elim
  |fp e=>exact h.elim
  |normal=>
   simp only[jv]at h
   split at h
   ·rename_i x Z;obtain⟨v,F,G⟩:=h;exact⟨.inr rfl,x,v,Z,F,B v G⟩
   exact h.elim
  |ret=>
   simp only[jv]at h
   split at h
   ·rename_i x Z;obtain⟨v,F,G⟩:=h;exact⟨.inl rfl,x,v,Z,F,B v G⟩
   exact h.elim
 |out k x=>intro _ ρ J B h;exact h
 |bS x t N=>intro k ρ J B ⟨F,G⟩;exact⟨F,N B G⟩
 |get v xs i t N=>intro k ρ J B ⟨u,l,kk,j,e,F,G,M,O⟩;exact⟨u,l,kk,j,e,F,G,M,N B O⟩
 |call v c x t N=>intro k ρ J B ⟨C,a,y,F,G,M,O⟩;exact⟨C,a,y,F,G,M,N B O⟩
 |fP c a b U Y=>intro k ρ J B ⟨b0,F,G,M⟩;exact⟨b0,F,λh=>U B (G h),λh=>Y B (M h)⟩
 |gE c a b U Y=>intro k ρ J B ⟨u,xs,F,G,M⟩;exact⟨u,xs,F,λh=>U B (G h),Y B M⟩
 |join ty v a b U Y=>
  intro k ρ J B h
  have:=U (k:=k+1) (J:=gR (λz=>∃y:ty.den,z=⟨ty,y⟩/\Tr.wp cs (jv g k b) ((v,⟨ty,y⟩)::ρ) zF J) J) B h
  show Tr.wp cs a ρ _ (gR _ J)
  refine Tr.wp_mono (nd ?_ (λ_ _ h=>h)) (λ_ _ _ _ _ _ h=>h) this
  rintro z ⟨y,F,G⟩;exact⟨y,F,Y B G⟩
 |loop ty v i b N=>
  intro k ρ J B ⟨ad,F,n,G⟩
  refine⟨ad,F,n,tQ ?_ G⟩
  intro ae q z aa ab
  refine Tr.wp_mono (nd ?_ (λ_ _ h=>h)) (λ_ _ _ _ _ _ h=>h) (N (k:=k+1) (J:=gR _ J) B ab)
  rintro z' ⟨y,M,O⟩;exact⟨y,M,aa y O⟩
 |bad w=>intro k ρ J B h;exact h
section
variable {P:Program}{V:Env}{C:Cx}{cs:List Callee}{ρ:aS}{σ:Sk}{s:St}
def YF(G:bU P V C)(h:bn ρ σ s){rs:List ResultVar}{k:List Ty}(B:∀t∈k,isVal t){x:X}(j:Gj C rs k σ=some x){r:(ba k).den}(M:x.den ρ=some ⟨ba k,r⟩):xA V s rs ((ba k).enc r):=by
 unfold Gj at j
 split at j
 ·rename_i xs N
  split at j
  ·rename_i ys l' O
   injection j with j;subst j
   obtain⟨U,Y⟩:=Bz G h N
   obtain⟨a,aa,F,Z,ab⟩:=u9 h.l Y O
   have e:=(qy F.1 F.2).symm.trans M
   injection e with e;injection e with _ e
   subst e
   refine⟨U,?_⟩
   rw[Z]
   match k,a,B with
   | [],a,_=>rfl
   | [t],a,_=>rfl
   |t::u::ts,a,B=>
    have e:(ba (t::u::ts)).enc a=.aN (ec (t::u::ts) a):=by rw[<-yJ B];rfl
    rw[e]
    cases ts<;>rfl
  cases j
 cases j
theorem Jo:∀{ts:List Ty}{a:(ba ts).den}{k j:Nat}{v:Sy.V},cW ts a j=some v->lk (ov ts a k) (k+j)=some v
 | [],a,k,j,v,h=>by simp[cW]at h
 | [t],a,k,0,v,h=>by
  simp only[cW,c4]at h;subst h
  exact jZ k _ _
 | [t],a,k,j+1,v,h=>by simp[cW]at h
 |t::u::ts,a,k,0,v,h=>by
  simp only[cW,c4]at h;subst h
  exact jZ k _ _
 |t::u::ts,a,k,j+1,v,h=>by
  have:=Jo (ts:=u::ts) (a:=a.2) (k:=k+1) (j:=j) h
  show lk ((k,_)::ov (u::ts) a.2 (k+1)) _=_
  rw[show k+(j+1)=k+1+j by omega]
  simp only[lk,kz (by omega:k≠k+1+j),cond_false]
  exact this
theorem Jn:∀{ts:List Ty}{a:(ba ts).den}{k:Nat},ey (k+ts.length) (ov ts a k)
 | [],a,k=>λp hp=>by simp[ov]at hp
 | [t],a,k=>λp hp=>by simp[ov]at hp;subst hp;simp
 |t::u::ts,a,k=>λp hp=>by
  simp only[ov,fb]at hp
  rcases hp with rfl|hp
  ·simp
  have:=Jn (ts:=u::ts) (a:=a.2) (k:=k+1) p hp
  simp at this⊢;omega
theorem N4:∀{ts:List Ty}{a:(ba ts).den}{k:Nat},(∀t∈ts,isVal t)->(∀j v,cW ts a j=some v->lk ρ (k+j)=some v)->∀i,RX ρ (bd (uV k ts) i) (get (lY k (ec ts a)) i)
 | [],a,k,F,h=>λi=>.undef _
 | [t],a,k,F,h=>λi=>by
  show RX ρ (bif Nat.beq k i then .d t (.var k)else .undef) (if k=i then .d (t.enc a)else .undef)
  by_cases B:k=i
  ·subst B
   rw[if_pos rfl,ia]
   exact .d t _ a (F t (by simp)) (h 0 _ rfl)
  rw[if_neg B,kz B];exact .undef _
 |t::u::ts,a,k,F,h=>λi=>by
  show RX ρ (bif Nat.beq k i then .d t (.var k)else bd (uV (k+1) (u::ts)) i) (if k=i then .d (t.enc a.1)else get (lY (k+1) (ec (u::ts) a.2)) i)
  by_cases B:k=i
  ·subst B
   rw[if_pos rfl,ia]
   exact .d t _ a.1 (F t (by simp)) (h 0 _ rfl)
  rw[if_neg B,kz B]
  exact N4 (ts:=u::ts) (a:=a.2) (k:=k+1) (λt ht=>F t (nb _ ht)) (λj v G=>by
   have:=h (j+1) v G
   rw[show k+1+j=k+(j+1) by omega];exact this) i
omit [bX]in
theorem Jj:∀(ws:List Ty)(b:(ba ws).den),(ec ws b).length=ws.length
 | [],_=>rfl
 | [_],_=>rfl
 |t::u::ts,b=>by simp[ec,Jj (u::ts) b.2]
end
end
def Dj{α:Type}:∀(j:List (Nat×α))(t:Nat),j.find? (λp=>p.1 == t)=j.find? λp=>Nat.beq p.1 t
 | [],_=>rfl
 |p::r,t=>by
  have e:(p.1 == t)=Nat.beq p.1 t:=by
   rw[hC,sk]
   exact(Nat.beq_eq▸J4)
  simp only[List.find?_cons,e,Dj r t]
omit [bq] [cK] [dw]in
theorem WZ{C j:Cx}{B:List (Nat×Ty)}(h:B.all (λp=>sF C p.1 p.2)=true)(e:∀ty t,sF j ty t=sF C ty t:=by intros;rfl):∀ty t,(B.find? λp=>Nat.beq p.1 ty).map (·.2)=some t->sF j ty t=true:=by
 intro ty t ht
 rw[e5]at ht
 obtain⟨p,k,rfl⟩:=ht
 have F:=j5 k
 have G:=er F
 rw[e,<-G]
 exact dT.1 h p (gW k)
section
variable {P:Program}{V:Env}{C:Cx}{cs:List Callee}
def UB{f:FuncId}{fn:Func}{c:Code}{B F:List Ty}{a:(ba B).den}{r:(ba F).den}(N:bU P V C)(ad:il P C cs)(Y:pq P C.ni)(ai:C.nt=fn.ntmps)(ah:P.follows .mixedOrders=true)(af:P.funcs[f]?=some fn)(ab:fn.body=some c)(aa:∀t∈B,isVal t)(aj:∀t∈F,isVal t)(ag:B.length<=fn.ntmps)(h:tz cs (uY C fn.results.toList c B F) B F a=some r):fE P f (ec B a) ((ba F).enc r):=by
 haveI:bX:=ch
 refine fE.of N.ok af ab (by rw[Jj];exact ag) λR Z w0 I0=>?_
 have an:=Us (p:=λv=>v=⟨ba F,r⟩) (λv G=>by
  have G:dr (ba F) v=some r:=G
  exact pB G) (To h)
 have ak:bn (ov B a 0) ⟨B.length,uV 0 B,[]⟩ ⟨lY 0 (ec B a),[]⟩:=⟨by have:=Jn (ts:=B) (a:=a) (k:=0);simpa using this,N4 aa λj v G=>Jo G,.nil⟩
 have M:=Ud (V:=V) (cs:=cs) Y ah 400 C [] ⟨lW fn.results.toList,[],lW fn.results.toList⟩ c ⟨B.length,uV 0 B,[]⟩ w0 I0 N ad rfl (λ_=>Z) (λ_ _=>rfl)
 rw[ai]at M
 refine kl.go (Λ:=VM) (R0:=R) M ak (λx M=>by cases M) (λ_ _ _ _ _ _ h=>h) an ?_
 rintro e bH ρ' J' ⟨ae,x,v,O,U,rfl⟩ _ _ s' al
 refine⟨?_,YF N al aj O U⟩
 rcases ae with rfl|rfl
 ·exact .inl rfl
 exact .inr rfl
def tw(fn:Func)(j k:List Ty):Bool:= !(fn.name == "runtime.NumGoroutine") && !fn.body.isNone&&j.all dV&&k.all dV&&Nat.ble j.length fn.ntmps
def Si{f:FuncId}{fn:Func}{j k:List Ty}{g:(ba j).den->Option (ba k).den}(U:bU P V C)(Z:il P C cs)(Y:pq P C.ni)(ad:C.nt=fn.ntmps)(ab:P.follows .mixedOrders=true)(M:P.funcs[f]?=some fn)(N:tw fn j k=true)(h:∀a,tz cs (uY C fn.results.toList (ko fn) j k) j k a=g a):ij P ⟨f,j,k,g⟩:=by
 simp only[tw,db,dT,gL]at N
 obtain⟨⟨⟨⟨af,F⟩,ag⟩,ah⟩,ai⟩:=N
 have aa:Enters P f:=Enters.of M ⟨af,F⟩
 have G:∀t∈j,isVal t:=λt ht=>cP (ag t ht)
 have O:∀t∈k,isVal t:=λt ht=>cP (ah t ht)
 have B:fn.body=some (ko fn):=by
  unfold ko
  cases B:fn.body with
  |none=>rw[B]at F;cases F
  |some c=>rfl
 exact⟨aa,λa r ae=>UB U Z Y ad ab M B G O (hg ai) (by rw[h];exact ae),G,O⟩
def JP(fn:Func):Bool:= !(fn.name == "runtime.NumGoroutine") && !fn.body.isNone
def UJ{P:Program}{fs:List (Nat×Func)}(h:fs.foldr (λp q=>P.funcs[p.1]?=some p.2/\q) True)(B:fs.all (λp=>JP p.2)=true):pq P fs:=by
 induction fs with
 |nil=>intro g fn h;cases h
 |cons c r G=>
  intro g fn j
  simp only[List.all_cons,db]at B
  simp only[findF]at j
  cases e:Nat.beq c.1 g with
  |false=>rw[e]at j;exact G h.2 B.2 g fn j
  |true=>
   rw[e]at j
   simp only[cond_true,c4]at j
   subst j
   have:=er e
   subst this
   have k:=B.1
   simp only[JP,db,gL]at k
   refine⟨h.1,Enters.of h.1 k,?_⟩
   unfold ko
   cases F:c.2.body with
   |none=>rw[F]at k;cases k.2
   |some c=>rfl
def qx:List jm->Nat->List lq
 | [],_=>[]
 |c::r,k=>⟨c.f,c.t,c.args,k⟩::qx r (k+1)
def Sn{P:Program}{cs:List Callee}(h:cs.foldr (λc p=>ij P c/\p) True):∀(j:Nat)(s:mS),(cs.map o7)[j]?=some s->∃c:Callee,cs[j]?=some c/\o7 c=s/\ij P c:=by
 induction cs with
 |nil=>intro j s k;simp at k
 |cons c r B=>
  intro j s k
  cases j with
  |zero=>simp at k;exact⟨c,rfl,k,h.1⟩
  |succ j=>simpa using B h.2 j s (by simpa using k)
def OD{P:Program}:∀{ts:List jm}{k:Nat},ts.foldr (λc p=>nZ P c.f c.t c.args c.fn/\p) True->∀s∈qx ts k,∃fn:(ba (.list s.t::s.args)).den->Option (List s.t.den),k<=s.k/\((ts.map jm.pA)[s.k-k]?=some (jm.mk s.f s.t s.args fn).pA)/\nZ P s.f s.t s.args fn
 | [],k,_,s,hs=>by simp[qx]at hs
 |c::r,k,h,s,hs=>by
  simp only[qx,fb]at hs
  rcases hs with rfl|hs
  ·exact⟨c.fn,eb _,by simp,h.1⟩
  obtain⟨fn,F,j,B⟩:=OD h.2 s hs
  refine⟨fn,by omega,?_,B⟩
  rw[show s.k-k=(s.k-(k+1))+1 by omega]
  simpa using j
def Sp{P:Program}{C:Cx}{cs:List Callee}{ts:List jm}(h:cs.foldr (λc p=>ij P c/\p) True)(B:ts.foldr (λc p=>nZ P c.f c.t c.args c.fn/\p) True)(G:C.sigs=cs.map o7)(M:C.turns=qx ts cs.length):il P C (cs++ts.map jm.pA):=by
 refine⟨λj s k=>?_,λs k=>?_⟩
 ·rw[G]at k
  obtain⟨c,F,B,N⟩:=Sn h j s k
  exact⟨c,by rw[e1 (c5.1 F).1];exact F,B,N⟩
 rw[M]at k
 obtain⟨fn,O,U,Y⟩:=OD B s k
 exact⟨fn,by rw[hz O];exact U,Y⟩
end
end Go.Sy
namespace Go.ag
open Go Go.RowKit bP
variable [bq]
section
variable {w0 w:World}{I0 I:ay}{m:Nat->Value}{l:List AO}
variable [bX]{s:St}
end
def V5{k j:Nat}(h:k<=j){t:T}(ht:t.pW k=true):t.pW j=true:=by cases t<;>simp only[T.pW,ea]at ht⊢<;>first|exact ht|omega|cases ht
def V6{k j:Nat}(h:k<=j){t:T}(ht:t.dF k=true):t.dF j=true:=by
 cases t<;>simp only[T.dF,ea]at ht⊢<;>first|exact ht|omega|skip
 rw[dT]at *
 exact λx B=>V5 h (ht x B)
def Pa{k B:Nat}(h:k<=B){o:AO}(j:o.dF k=true):o.dF B=true:=by
 cases o<;>simp only[AO.dF,ea]at j⊢<;>first|exact j|omega|skip
 rw[dT]at *
 exact λx F=>V6 h (j x F)
def pt(l:List AO):Prop:=l.all (AO.dF l.length)=true
theorem pt.frame{l:List AO}(h:pt l)(vals:Nat->Value)(ft:Tm):pt (l++[.frame l.length vals ft]):=by
 unfold pt at *
 rw[abz]
 simp only[e3,List.length_singleton,List.all_cons,List.all_nil,qn,db]
 refine⟨?_,by simp[AO.dF]⟩
 rw[dT]at *
 exact λo j=>Pa (ss _) (h o j)
def Sub.sw[bX]{L:List AO}{t t':Tm}(M:oy t t'):Sub ⟨t,L⟩ ⟨t',L⟩:=by
 intro w0 I0 n a w N
 obtain⟨k,I,m,F,B,G⟩:=N
 refine⟨k,I,m,F,B,λj=>?_⟩
 rcases Dz M j with h|h
 ·rw[h];exact .undef _
 rw[h];exact G j
def Sub.drop[bX]{L j:List AO}{t t':Tm}(h:pt L)(ht:t'.all (λp=>T.dF L.length p.2)=true)(k:oy t t'):Sub ⟨t,L++j⟩ ⟨t',L⟩:=Sub.S3 L.length (by simp) (by simp) (by unfold pt at h;simpa using h) ht k
def UO{L:List AO}{id:Nat}{o:AO}(h:L[id]?=some o)(x:List AO):(L++x)[id]?=some o:=by rw[e1 (c5.1 h).1];exact h
end Go.ag
namespace Go.ag
open Go Go.RowKit bP Go.ChangeShapes Go.WideShapes
variable [bq]
open Classical in
noncomputable def allI(w:World):ay:=⟨λb o=>w.cell? ⟨b,o,none⟩,λb=>if h:∃j,dZ w.heap[b]? j then some (Classical.choose h)else none,λ_=>False⟩
def O6(w:World)(j:∀g d,bq.iS g=some d->Rd (allI w) (.pointer (some ⟨g,0,none⟩)) (.box d)):du w (allI w):=by
 refine⟨λ_ _ _ h=>h,λb B h=>?_,λb h=>h.elim,j⟩
 unfold allI at h
 simp only at h
 split at h
 ·rename_i k
  cases h
  exact l2 k
 cases h
def SH(I:ay){cs:List Value}{n:Nat}(h:cs.length=n):Cells I (cs.drop n) []:=by refine⟨by simp[h],by simp,λi v d _ j=>by simp at j⟩
def SG{I:ay}{cs:List Value}{o s:Nat}{ys zs:List D}(U:Cells I ((cs.drop o).take s) ys)(Y:Cells I (cs.drop (o+s)) zs):Cells I (cs.drop o) (ys++zs):=by
 have e:cs.drop o=(cs.drop o).take s++cs.drop (o+s):=by rw[<-ti,r2]
 rw[e]
 obtain⟨B,F,G⟩:=U
 obtain⟨M,N,O⟩:=Y
 refine⟨by simp only[e3,B,M],λd j=>(hP.1 j).elim (F d) (N d),λi v d k j=>?_⟩
 by_cases hi:i<ys.length
 ·rw[e1 (by omega)]at k
  rw[e1 hi]at j
  exact G i v d k j
 rw[hz (by omega),B]at k
 rw[hz (by omega)]at j
 exact O _ v d k j
def cells_one{I:ay}{v:Value}{d:D}(B:d.one=true)(h:Rd I v d):Cells I [v] [d]:=
 ⟨rfl,by simpa using B,λi x y j k=>by
  rcases i with _|i
  ·simp at j k;subst j;subst k;exact h
  simp at j⟩
def O5(b o k:Nat):(⟨b,o,none⟩:Addr).add k=⟨b,o+k,none⟩:=by
 unfold Addr.add;split
 ·rename_i h;subst h;rfl
 rfl
section
variable {P:Program}{t e:TypeId}
def WH{W:World}{r:Reach}{b:Nat}{v:Value}(h:Value.okWide P W r b t v)(k:(match P.underlying t with|some (.struct _)|some (.array _ _)=>false|_=>true)=true):∀cs,v ≠ .agg cs:=by
 rintro cs rfl
 cases j:P.underlying t with
 |none=>simp[Value.okWide,j,Cell.okWide,Cell.ok]at h
 |some d=>
  rw[j]at k
  cases d<;>first| (simp[Value.okWide,j,Cell.okWide,Cell.ok]at h;done)| (simp at k;done)
variable {H:Type}{en:TypeId×Value->H}{W:World}{base:Nat}{sp:Nat->Bool}{held:Bool}{v:Value}{d:DataW H}{ps:List MemPlace}{α:Type}[bP α]{abl:(H:Type)->DataW H->α->Prop}
end
def Ox{H:Type}{en:TypeId×Value->H}{P:Program}(F:laidOutB P=true){W k:World}(B:Below W.heap.size W k) :
  ∀{ts:List TypeId}{vs:List Value}{ds:List (DataW H)}{ps:List MemPlace},(ts.all λt=>P.readableRec t&&decide (t<P.types.size))=true->DataW.TrodAll en P W 0 (λ_=>true) true ts vs ds ps->(∀x∈ps,x.block<W.heap.size)->DataW.TrodAll en P k 0 (λb=>decide (b<W.heap.size)) true ts vs ds ps
 | [],[],[],_,_,h,_=>h
 |t::ts,v::vs,d::ds,_,ht,⟨p,q,h1,M,e⟩,G=>by
  simp only[List.all_cons,db,ea]at ht
  exact⟨p,q,Below.trod F ht.1.1 ht.1.2 h1 B (λx j=>G x (by rw[e];exact q0 _ j)),Ox F B ht.2 M (λx j=>G x (by rw[e];exact tr _ j)),e⟩
 | [],_::_,_,_,_,h,_=>h.elim
 | [],[],_::_,_,_,h,_=>h.elim
 |_::_,[],_,_,_,h,_=>h.elim
 |_::_,_::_,[],_,_,h,_=>h.elim
theorem YL{P:Program}{f:FuncId}{ds:List D}{r:D}(h:fE P f ds r){W:World}(F:∀g d,bq.iS g=some d->Rd (allI W) (.pointer (some ⟨g,0,none⟩)) (.box d)){vs:Array Value}(M:vs.size=ds.length)(G:∀(i:Nat) v d,vs[i]?=some v->ds[i]?=some d->Rd (allI W) v d) :
  Calls P f vs W λe w'=>∃v J,e=.returned v/\Below W.heap.size W w'/\Rd J v r:=
 (h W (allI W) vs (O6 W F) M G).mono λ_ _ ⟨v,J,j,k,_,_,B⟩=>⟨v,J,j,k.below,B⟩
end Go.ag
namespace Go.Sy
open Go Go.ag Go.RowKit Go.ChangeShapes Go.WideShapes
variable [aG]
structure sJ(bk:(H:Type)->DataW H->Nat)(jr:(H:Type)->List (DataW H)->Nat):Prop where
 str:∀H bs,bk H (.lit (.string bs))=bs.length+1
 sl:∀H a b,bk H (.slice a b)=jr H a+jr H b+1
 agg:∀H a,bk H (.agg a)=jr H a+1
 nil:∀H,jr H []=0
 cons:∀H d r,jr H (d::r)=bk H d+jr H r
 one:∀H d,1<=bk H d
def xU(g:(t:Ty)->t.den->Nat):(ts:List Ty)->(ba ts).den->Nat
 | [],_=>0
 | [t],x=>g t x
 |t::u::ts,x=>g t x.1+xU g (u::ts) x.2
def cJ:Nat->(t:Ty)->t.den->Nat
 |0,_,_=>0
 |f+1,.list t,xs=>(List.map (λx=>cJ f t x) xs).sum+1
 |f+1,.st i,x=>xU (λt x=>cJ f t x) (aG.cj i) (aG.un i x)+1
 |_+1,.str,s=>ByteArray.size s+1
 |_+1,_,_=>1
def zN(g:(t:Ty)->t.den->Prop):(ts:List Ty)->(ba ts).den->Prop
 | [],_=>True
 | [t],x=>g t x
 |t::u::ts,x=>g t x.1/\zN g (u::ts) x.2
def kO:Nat->(t:Ty)->t.den->Prop
 |0,_,_=>True
 |f+1,.list t,xs=>∀x∈(show List t.den from xs),kO f t x
 |f+1,.st i,x=>zN (λt x=>kO f t x) (aG.cj i) (aG.un i x)
 |_+1,.int k,n=>(Lit.int k n).wf=true
 |_+1,_,_=>True
def rR(P:Program)(g:TypeId->Ty->Bool)(j:Nat):List Field->List Ty->Nat->Bool
 | [],[],off=>Nat.beq off j
 |fd::fs,u::us,off=>Nat.beq fd.offset off&&Nat.beq (P.cellsOf fd.type) u.size&&g fd.type u&&rR P g j fs us (off+u.size)
 |_,_,_=>false
def oR(P:Program):Nat->TypeId->Ty->Bool
 |0,_,_=>false
 |f+1,ty,t=>match t,P.underlying ty with
  |.int k,some (.int j)=>decide (k=j)
  |.bool,some .bool=>true
  |.str,some .string=>true
  |.list u,some (.slice e)=>Nat.beq (P.cellsOf e) u.size&&Nat.ble 1 u.size&&dV u&&oR P f e u
  |.st i,some (.struct fs)=>rR P (oR P f) (P.cellsOf ty) fs.toList (aG.cj i) 0
  |_,_=>false
def x6[bq](P:Program)(bk:(H:Type)->DataW H->Nat)(f:Nat)(ty:TypeId)(t:Ty):Prop:=
 ∀(H:Type)(en:TypeId×Value->H)(w:World)(base:Nat)(k:Nat->Bool)(held:Bool)(j:Nat)(cs:List Value)(x:DataW H×List MemPlace),
  DataW.trod en P w base k held j ty cs=some x->∃a:t.den,cJ f t a<=bk H x.1/\kO f t a/\Cells (allI w) cs (t.enc a).cells
theorem N7{bk:(H:Type)->DataW H->Nat}{jr:(H:Type)->List (DataW H)->Nat}(j:sJ bk jr){α H:Type}{g:α->Nat}:∀{l:List α}{ds:List (DataW H)},ds.length=l.length->(∀(i:Nat) y d,l[i]?=some y->ds[i]?=some d->g y<=bk H d)->(l.map g).sum<=jr H ds
 | [],ds,_,_=>j2 _
 |y::l,[],h,_=>by simp at h
 |y::l,d::ds,h,k=>by
  rw[fa,List.sum_cons,j.cons]
  have G:=k 0 y d rfl rfl
  have M:=N7 j (l:=l) (ds:=ds) (g:=g) (by simpa using h) λi y d F B=>k (i+1) y d (by simpa using F) (by simpa using B)
  omega
variable [cK][dw][bq]
section
variable {P:Program}{bk:(H:Type)->DataW H->Nat}{jr:(H:Type)->List (DataW H)->Nat}
def LY(Z:sJ bk jr){f:Nat}{ad:Nat}(aa:∀ty t,oR P f ty t=true->x6 P bk f ty t){H:Type}{en:TypeId×Value->H}{w:World}{base:Nat}{ab:Nat->Bool}{held:Bool}{n:Nat}{cs:List Value}(ai:cs.length=ad):∀(fs:List Field)(j:List Ty)(off:Nat)(xs:List (DataW H×List MemPlace)),rR P (oR P f) ad fs j off=true->xs.length=fs.length ->
  (∀(i:Nat) fd,fs[i]?=some fd->DataW.trod en P w base ab held n fd.type ((cs.drop fd.offset).take (P.cellsOf fd.type))=xs[i]?) ->
  ∃a:(ba j).den,xU (λt x=>cJ f t x) j a<=jr H (xs.map (·.1))/\zN (λt x=>kO f t x) j a/\Cells (allI w) (cs.drop off) (cellsOf j a)
 | [],[],off,xs,h,F,B=>by
  simp only[rR]at h
  have:=er h
  exact⟨(),j2 _,trivial,SH _ (by omega)⟩
 |fd::fs,[],off,xs,h,F,B=>by simp[rR]at h
 | [],_::_,off,xs,h,F,B=>by simp[rR]at h
 |fd::fs,u::j,off,[],h,F,B=>by simp at F
 |fd::fs,u::j,off,x::xs,h,F,B=>by
  simp only[rR,db]at h
  obtain⟨⟨⟨N,O⟩,ag⟩,ah⟩:=h
  have N:=er N
  have O:=er O
  have Y:=B 0 fd rfl
  rw[N,O]at Y
  obtain⟨a,aj,U,ae⟩:=aa _ _ ag H en w base ab held n _ x Y
  obtain⟨b,M,G,af⟩:=LY Z aa ai fs j (off+u.size) xs ah (by simpa using F) λi fd hi=>by
   have:=B (i+1) fd (by simpa using hi)
   simpa using this
  have k:=SG ae af
  rw[fa,Z.cons]
  match j,b,M,G,k with
  | [],b,M,G,k=>
   refine⟨a,?_,U,?_⟩
   ·show cJ f u a<=_
    omega
   have e:(u.enc a).cells++cellsOf [] b=(u.enc a).cells:=mb _
   rw[e]at k;exact k
  |v::j,b,M,G,k=>
   refine⟨(a,b),?_,⟨U,G⟩,k⟩
   show cJ f u a+xU (λt x=>cJ f t x) (v::j) b<=_
   omega
def W9(ad:sJ bk jr){f:Nat}{ty e:TypeId}{u:Ty}(ht:P.underlying ty=some (.slice e))(aF:P.cellsOf e=u.size)(ak:1<=u.size)(av:isVal u)(aD:x6 P bk f e u):x6 P bk (f+1) ty (.list u):=by
 intro H en w base aK held aM cs x h
 have af:∀y:u.den,(u.enc y).cells.length=u.size:=λy=>ku av y
 rcases Go.Deep.open_slice ht h with ⟨rfl,rfl⟩| ⟨a,len,ax,m,n,D0,Pl,rfl,_,aB,ar,aC,aH,hi⟩
 ·exact⟨([]:List u.den),ad.one _ _,(λx Y=>by cases Y),cells_one rfl (.kf _ _ _ (j2 _))⟩
 have aN:len<=m:=by rw[aC];split<;>omega
 rcases s6 len with h0|h0
 ·subst h0
  exact⟨([]:List u.den),ad.one _ _,(λx Y=>by cases Y),cells_one rfl (.kf _ _ _ ar)⟩
 have ao:∀i,i<len->∃(y:u.den)(M:List Value),(cJ f u y<=bk H (D0 i)/\kO f u y)/\(∀j,j<u.size->w.cell? (a.add (i*u.size+j))=M[j]?)/\M.length=u.size/\Cells (allI w) M (u.enc y).cells:=λi ae=>by
  obtain⟨M,an,aG⟩:=hi i (by omega)
  obtain⟨y,G,aI,aj⟩:=aD H en w base aK held n M _ aG
  rw[aF]at an
  obtain⟨_,ai,aa⟩:=World.cells?_some an
  exact⟨y,M,⟨G,aI⟩,λj O=>by rw[<-aa j O,Go.Deep.add_add],ai,aj⟩
 obtain⟨b,off,aL⟩:=a
 have aE:aL=none:=by
  obtain⟨y,M,_,aa,ai,_⟩:=ao 0 h0
  have N:=aa 0 ak
  rw[c3 (by omega)]at N
  simpa [Addr.add]using World.cell?_spot N
 subst aE
 have ay:∀k,k<=len->∃l:List u.den,l.length=k/\(∀(i:Nat) y,l[i]?=some y->cJ f u y<=bk H (D0 i)/\kO f u y)/\∀(i:Nat)(y:u.den),l[i]?=some y->∀j,j<u.size->∃v d,w.cell? ⟨b,off+(i*u.size+j),none⟩=some v/\(u.enc y).cells[j]?=some d/\Rd (allI w) v d:=by
  intro k
  induction k with
  |zero=>exact λ_=>⟨[],rfl,by simp,by simp⟩
  |succ k aJ=>
   intro U
   obtain⟨l,N,ab,ah⟩:=aJ (by omega)
   obtain⟨y,M,G,aa,ai,aj⟩:=ao k (by omega)
   have au:∀(i:Nat)(z:u.den),(l++[y])[i]?=some z->l[i]?=some z\/(i=k/\z=y):=λi z B=>by
    by_cases ae:i<l.length
    ·rw[e1 ae]at B;exact .inl B
    rw[hz (by omega)]at B
    have aA:i=k:=by
     have:=(c5.1 B).1
     simp at this;omega
    subst aA
    rw[N]at B
    simp at B
    exact .inr ⟨rfl,B.symm⟩
   refine⟨l++[y],by simp[N],λi z B=>?_,λi z B j O=>?_⟩
   ·rcases au i z B with B| ⟨rfl,rfl⟩
    ·exact ab i z B
    exact G
   rcases au i z B with B| ⟨rfl,rfl⟩
   ·exact ah i z B j O
   have aw:M[j]?=some (M[j]'(by omega)):=c3 (by omega)
   have F:(u.enc z).cells[j]?=some ((u.enc z).cells[j]'(by rw[af];exact O)):=c3 _
   refine⟨_,_,?_,F,aj.2.2 j _ _ aw F⟩
   have:=aa j O
   rw[aw,O5]at this
   exact this
 obtain⟨l,N,ab,ah⟩:=ay len (eb _)
 refine⟨l,?_,λy G=>?_,cells_one rfl ?_⟩
 ·rw[aH]
  show(l.map λx=>cJ f u x).sum+1<=bk H (.slice _ _)
  rw[ad.sl]
  have:=N7 ad (g:=λx=>cJ f u x) (l:=l) (ds:=(List.range len).map D0) (by simp[N]) λi y d G F=>by
   have ae:i<len:=by rw[<-N];exact(c5.1 G).1
   rw[et,ie ae]at F
   injection F with F;subst F
   exact(ab i y G).1
  omega
 ·obtain⟨i,hi⟩:=u4 G
  exact(ab i y hi).2
 show Rd (allI w) _ (.slice u.size (List.map u.enc l))
 have az:(flat (l.map u.enc)).length=len*u.size:=by
  rw[iA (l.map u.enc) (size:=u.size) λd F=>by obtain⟨y,_,rfl⟩:=gj.1 F;exact af y]
  simp[N]
 have aq:∀k,k<len*u.size->∃v d,w.cell? ⟨b,off+k,none⟩=some v/\(flat (l.map u.enc))[k]?=some d/\Rd (allI w) v d:=λk U=>by
  have hi:k/u.size<len:=(q4 ak).2 U
  have O:k%u.size<u.size:=q6 _ ak
  have G:l[k/u.size]?=some (l[k/u.size]'(by omega)):=c3 (by omega)
  obtain⟨v,d,Z,ag,al⟩:=ah _ _ G _ O
  refine⟨v,d,?_,?_,al⟩
  ·rw[nn,vb]at Z;exact Z
  rw[show k=k/u.size*u.size+k%u.size by rw[nn];exact(vb k u.size).symm]
  rw[flat_get (l.map u.enc) (λd F=>by obtain⟨y,_,rfl⟩:=gj.1 F;exact af y) _ _ (u.enc (l[k/u.size]'(by omega))) (by rw[et,G];rfl) O]
  exact ag
 refine .slice b off len ax u.size _ (λk=>(w.cell? ⟨b,off+k,none⟩).getD undef) (by simp[N]) aB ar (λd F=>?_) (λk U=>?_) (λk x Y=>?_)
 ·obtain⟨y,_,rfl⟩:=gj.1 F
  exact⟨af y,vH av y⟩
 ·obtain⟨v,d,Z,_,_⟩:=aq k U
  show w.cell? ⟨b,off+k,none⟩=_
  simp[Z]
 have U:k<len*u.size:=by rw[<-az];exact(c5.1 Y).1
 obtain⟨v,d,Z,ag,al⟩:=aq k U
 rw[Y]at ag;cases ag
 simpa [Z]using al
def EZ(B:sJ bk jr):∀(f:Nat)(ty:TypeId)(t:Ty),oR P f ty t=true->x6 P bk f ty t
 |0,_,_,h=>by cases h
 |f+1,ty,t,h=>by
  simp only[oR]at h
  split at h
  ·rename_i k ae j
   have:=hA h
   subst this
   intro H en w base G held F cs x h
   obtain⟨n,rfl,_,Y⟩:=DataW.trod_int j h
   exact⟨n,B.one _ _,Y,cells_one rfl (.int _ _)⟩
  ·rename_i j
   intro H en w base G held F cs x h
   obtain⟨n,rfl,_⟩:=DataW.trod_bool j h
   exact⟨n,B.one _ _,trivial,cells_one rfl (.bool _)⟩
  ·rename_i j
   intro H en w base G held F cs x h
   obtain⟨s,rfl,rfl,ad⟩:=DataW.trod_string j h
   refine⟨s,?_,trivial,cells_one rfl (.str _)⟩
   show ByteArray.size s+1<=bk H (.lit (.string _))
   rw[B.str]
   exact Nat.le_of_eq rfl
  ·rename_i u e j
   simp only[db]at h
   exact W9 B j (er h.1.1.1) (hg h.1.1.2) (cP h.1.2) (EZ B f e u h.2)
  ·rename_i i fs j
   intro H en w base G held F cs x Z
   obtain⟨xs,n,_,rfl,U,aa,O⟩:=DataW.trod_struct j Z
   obtain⟨a,ab,N,M⟩:=LY B (λty t=>EZ B f ty t) U fs.toList (aG.cj i) 0 xs h (by simpa using aa) λi fd hi=>O i fd (by simpa using hi)
   rw[rr]at M
   refine⟨aG.eN i a,?_,?_,?_⟩
   ·show xU _ (aG.cj i) (aG.un i (aG.eN i a))+1<=bk H (.agg _)
    rw[aG.pg,B.agg];omega
   ·show zN _ (aG.cj i) (aG.un i (aG.eN i a))
    rw[aG.pg];exact N
   show Cells (allI w) cs (aG.cells i (aG.eN i a))
   rw[cK.cells,aG.pg];exact M
  cases h
variable {H:Type}{en:TypeId×Value->H}{W:World}{base:Nat}{sp:Nat->Bool}{held:Bool}{v:Value}{d:DataW H}{ps:List MemPlace}
theorem Cl(aa:sJ bk jr){f:Nat}{ty:TypeId}{t:Ty}(j:oR P f ty t=true)(F:dV t=true){r:Reach}{b:Nat}(M:Value.okWide P W r b ty v)(h:DataW.Trod en P W base sp held ty v d ps):∃a:t.den,cJ f t a<=bk H d/\kO f t a/\Rd (allI W) v (t.enc a):=by
 obtain⟨Y,ae⟩:=h
 obtain⟨a,N,O,k⟩:=EZ aa f ty t j H en W base sp held Y _ _ ae
 refine⟨a,N,O,?_⟩
 cases f with
 |zero=>cases j
 |succ f=>
  by_cases B:ct t=true
  ·obtain⟨i,rfl⟩:∃i,t=.st i:=by cases t<;>simp[ct]at B;exact⟨_,rfl⟩
   simp only[oR]at j
   split at j<;>first|contradiction|skip
   rename_i aj fs ai ag
   obtain⟨cs,rfl,_⟩:=okWide_struct ag M
   show Rd (allI W) _ (.agg (aG.cells i a))
   have Z:cs.toList.length=(aG.cells i a).length:=k.1
   exact .agg cs _ (by simpa using Z) k.2.1 λi v d F ad=>k.2.2 i v d (by simpa [Value.cells]using F) ad
  have B:ct t=false:=by simpa using B
  have G:=cP F
  obtain⟨U,ah⟩:=lC B G.1 G.2 a
  rw[U]at k
  have af:∀cs,v ≠ .agg cs:=by
   refine WH M ?_
   simp only[oR]at j
   split at j<;>simp_all [ct]
  have ab:v.cells.toList=[v]:=by cases v<;>first|rfl|exact absurd rfl (af _)
  rw[ab]at k
  exact k.2.2 0 _ _ rfl rfl
end
end Go.Sy
namespace Go.ag
open Go Go.RowKit bP Go.Proofs Go.Sort
variable [bq]
def Wd(w:World)(b:Nat)(f:Array Value->Array Value)(cur:Array Value)(e:TypeId)(B:Nat×Nat)(h:w.heap[b]?=some (.cells cur e B)):mapBlock w b f=w.setRow b (f cur):=by
 unfold mapBlock World.setRow
 congr 1
 apply Array.ext_getElem?
 intro k
 simp only[p0]
 by_cases j:b=k
 ·subst j;simp[h,onCells]
 simp[j]
def XH(F cur:Array Value)(k:F.size<=cur.size):(putCells (λv=>v) 0 F cur).toList=F.toList++cur.toList.drop F.size:=by
 apply hW
 intro i
 have j:(putCells (λv=>v) 0 F cur).toList[i]?=(cur[i]?).map λx=>if i<F.size then F[i]! else x:=by
  rw[j3]
  unfold putCells
  rw[Array.getElem?_mapIdx]
  simp
 rw[j,hB]
 by_cases hi:i<F.size
 ·have:i<cur.size:=by omega
  simp[hi,this]
 simp[hi,kb,show F.size+(i-F.size)=i by omega]
def Ux{α:Type}[Inhabited α](venc:α->List Value)(k:Nat)(j:∀x,(venc x).length=k)(d:Array α):(flatK venc k d).toList=d.toList.flatMap venc:=by
 apply hW
 intro i
 have U:∀(l:List α)(i:Nat),(l.flatMap venc)[i]?=(l[i/k]?).bind λx=>(venc x)[i%k]?:=by
  intro l
  induction l with
  |nil=>intro i;simp
  |cons x l Z=>
   intro i
   rw[hM,hB,j]
   by_cases hi:i<k
   ·rw[if_pos hi,Nat.div_eq_of_lt hi,Nat.mod_eq_of_lt hi];simp
   rw[if_neg hi,Z]
   have hk:0<k\/k=0:=by omega
   rcases hk with hk|hk
   ·have N:i/k=(i-k)/k+1:=by rw[Nat.div_eq_sub_div hk (by omega)]
    have O:i%k=(i-k)%k:=by rw[Nat.mod_eq_sub_mod (by omega)]
    rw[N,O];simp
   subst hk
   have B:∀y:α,venc y=[]:=λy=>j1 (j y)
   simp[B]
 rw[U]
 have Y:(flatK venc k d).toList.length=d.size*k:=by simp
 by_cases hi:i<d.size*k
 ·have hk:0<k:=by
             rcases s6 k with h|h;· subst h;simp at hi
             exact h
  have F:i/k<d.size:=(q4 hk).2 hi
  have M:i%k<k:=q6 _ hk
  have G:=get_flatK venc k d i hi
  rw[j3,e7 (by simpa using hi),j3,e7 F]
  rw[r0 _ i (by simpa using hi),r0 d _ F]at G
  rw[G]
  simp only[Option.bind_some]
  rw[r0 _ _ (by rw[j];exact M),c3 (by rw[j];exact M)]
 rw[hF (by rw[Y];omega)]
 rcases s6 k with h|h
 ·subst h
  have B:∀y:α,venc y=[]:=λy=>j1 (j y)
  cases d.toList[i/0]?<;>simp[B]
 rw[hF (by rw[Array.length_toList];exact(Nat.le_div_iff_mul_le h).2 (by omega))];rfl
section
variable {P:Program}{V:Env}{w0 w:World}{I0 I:ay}{m:Nat->Value}{l:List AO}{α:Type}[Inhabited α]
def aH.grown(h:aH w0 I0 w I m l)(q:Nat)(M:Array Obj):aH w0 I0 (grow (w.drewN q) M) I m l/\Le I m l I m l:=by
 have B:∀k,k<w.heap.size->(grow (w.drewN q) M).heap[k]?=w.heap[k]?:=λk F=>by simp[grow,Array.getElem?_append,F]
 refine h.call ⟨rfl,rfl,rfl,by simp[grow],λk F=>B k F,λ_=>by simp[grow,World.drewN]⟩ (fD.refl _ _) ⟨λb o v j=>?_,λb N j=>?_,λb G=>(B b (h.sat.kI G)).trans (h.sat.df b G),h.sat.dz⟩
 ·exact(la (w:=w) (a:=⟨b,o,none⟩) (B b (h.sat.lt j))).trans (h.sat.cell b o v j)
 have O:=h.sat.mp b N j
 exact dZ.to (B b (h.sat.ny j)) O
def aH.sorted(ah:aH w0 I0 w I m l){id b c e size:Nat}{els:List D}{ys:List α}{venc:α->List Value}{denc:α->D}(ag:l[id]?=some (.row e size els))(ae:m id=.slice (some ⟨b,0,none⟩) els.length c)(F:ys.length=els.length)(ai:∀x,(venc x).length=size)(ab:∀x,(denc x).cells.length=size/\∀y∈(denc x).cells,y.one=true)(aG:∀x(j:Nat) u y,(venc x)[j]?=some u->(denc x).cells[j]?=some y->Rd I u y)(q:Nat)(M:Array Obj) :
  Le I m l I m (l.set id (.row e size (ys.map denc)))/\aH w0 I0 (sortWorldK venc size w b 0 q ys.toArray M) I m (l.set id (.row e size (ys.map denc))):=by
 obtain⟨xs,ak,aN,aO,aP⟩:=ah.obj id _ ag
 rw[ae]at ak
 obtain⟨aM,ay⟩:=ak
 rcases ay with ⟨U,_⟩| ⟨g,aJ,cur,U,aw,O,af,ax,aa,aK⟩
 ·cases U
 injection U with G aL aF
 injection G with G;injection G with G;subst G;subst aF
 have N:(flatK venc size ys.toArray).size=els.length*size:=by simp[F]
 have Y:(flatK venc size ys.toArray).toList=ys.flatMap venc:=by rw[Ux venc size ai]
 have aC:els.length*size<=cur.size:=by rw[aa];exact ka _ af
 have Z:=XH (flatK venc size ys.toArray) cur (by rw[N];exact aC)
 have aj:sortWorldK venc size w b 0 q ys.toArray M=grow ((w.setRow b (putCells (λv=>v) 0 (flatK venc size ys.toArray) cur)).drewN q) M:=by
  unfold sortWorldK putRowK putRow
  have aB:(Sort.ahead w q).heap[b]?=some (.cells cur e (0,0)):=O
  rw[Wd _ b _ cur e (0,0) aB]
  rfl
 generalize aD:putCells (λv=>v) 0 (flatK venc size ys.toArray) cur=new at Z aj
 have aE:new.size=cur.size:=by rw[<-aD];simp[putCells]
 have aA:flat (ys.map denc)=ys.flatMap λx=>(denc x).cells:=by simp[flat,sx]
 have al:(ys.flatMap venc).length=(ys.map denc).length*size:=by rw[<-Y,Array.length_toList,N,hG,F]
 have an:new.toList.take ((ys.map denc).length*size)=ys.flatMap venc:=by rw[Z,hG,F,<-N,J0 (by rw[Array.length_toList];exact eb _),k5 (by rw[Array.length_toList];exact eb _),Y]
 have ao:∀d∈ys.map denc,d.cells.length=size/\∀x∈d.cells,x.one=true:=by
  intro d az
  obtain⟨x,_,rfl⟩:=gj.1 az
  exact ab x
 have aq:∀(j:Nat) u y,(ys.flatMap venc)[j]?=some u->(flat (ys.map denc))[j]?=some y->Rd I u y:=by
  intro j u y k B
  rw[aA]at B
  have key:∀(zs:List α)(j:Nat),(zs.flatMap venc)[j]?=some u->(zs.flatMap λx=>(denc x).cells)[j]?=some y->Rd I u y:=by
   intro zs
   induction zs with
   |nil=>intro j k;simp at k
   |cons z zs aI=>
    intro j k B
    rw[hM,hB,ai]at k
    rw[hM,hB,(ab z).1]at B
    by_cases ad:j<size
    ·rw[if_pos ad]at k B;exact aG z j u y k B
    rw[if_neg ad]at k B;exact aI _ k B
  exact key ys j k B
 obtain⟨ar,au⟩:=ah.BU (n:=els.length) (c:=c) (cur:=cur) (new:=new) (xs:=ys.flatMap venc) (els':=ys.map denc) ag ae O ⟨al,.inr ⟨b,c,new,by simp[F],aw,K1 w b cur new e (0,0) O,by simpa [F]using af,ax,by rw[aE,aa],an⟩⟩ ao aq
 obtain⟨av,_⟩:=au.grown q M
 rw[aj]
 exact⟨ar,av⟩
def UX(Z:bq.on){w w':World}(h:dN w.heap.size w w'):∃q O,w'=grow (w.drewN q) O:=by
 refine⟨w'.drawn-w.drawn,w'.heap.extract w.heap.size w'.heap.size,?_⟩
 obtain⟨Y,ae,aa,O,ad⟩:=w'
 obtain⟨B,F,G,U,M,j⟩:=h
 have j:=j Z
 simp only at B F G U M j
 subst B;subst F;subst G
 unfold grow World.drewN
 simp only
 congr 1
 ·apply Array.ext_getElem?
  intro k
  rw[Array.getElem?_append]
  split
  ·rename_i N;exact M k N
  rename_i N
  simp only[Array.getElem?_extract]
  by_cases ab:k<Y.size
  ·have:w.heap.size+(k-w.heap.size)=k:=by omega
   rw[this];simp;omega
  rw[Array.getElem?_eq_none (by omega)];simp;omega
 omega
end
end Go.ag
namespace Go.ag
open Go Go.RowKit bP Go.Proofs Go.Sort
variable [bq]
section
variable {P:Program}{V:Env}{w0 w:World}{I0 I:ay}{m:Nat->Value}{l:List AO}{α:Type}[Inhabited α]
theorem IQ(aa:bq.on){P:Program}{g k:Nat}{venc:α->List Value}{denc:α->D}{cf:α->α->Int}{caps:List D}(O:∀x y,fE P g ([denc x,denc y]++caps) (.int .i64 (cf x y)))(M:∀I x,Rd I (.agg (venc x).toArray) (denc x)){oe off size:Nat}{w:World}{I:ay}{vs:Array Value}(Y:vs.size=caps.length)(U:∀(i:Nat) v d,vs[i]?=some v->caps[i]?=some d->Rd I v d)(af:∀(mm:Nat)(G:Array Obj)(B:Array α),B.size=size->du (sortWorldK venc k w oe off mm B G) I):CmpLays P g vs venc k cf oe off size w:=by
 intro mm G B ae x y
 have ag:(#[Value.agg (venc x).toArray,Value.agg (venc y).toArray]++vs).size=([denc x,denc y]++caps).length:=by rw[Array.size_append,e3,Y];rfl
 have ad:∀(i:Nat) v d,(#[Value.agg (venc x).toArray,Value.agg (venc y).toArray]++vs)[i]?=some v->([denc x,denc y]++caps)[i]?=some d->Rd I v d:=by
  intro i v d j F
  rcases i with _|_|i
  ·rw[ik (by simp)]at j
   simp at j F;subst j;subst F;exact M I x
  ·rw[ik (by simp)]at j
   simp at j F;subst j;subst F;exact M I y
  rw[q1 (by simp)]at j
  exact U i v d (by simpa using j) (by simpa using F)
 have h:=O x y (sortWorldK venc k w oe off mm B G) I (#[Value.agg (venc x).toArray,Value.agg (venc y).toArray]++vs) (af mm G B ae) ag ad
 refine h.mono ?_
 rintro e w' ⟨v,J,Z,N,_,_,ab⟩
 cases ab
 exact⟨Z,UX aa N⟩
theorem NQ{P:Program}{g:Nat}{fd:D}{e size:Nat}{venc:α->List Value}{denc:α->D}{S:Array α->Array α}(ax:∀d,(S d).size=d.size)(aM:∀(b c:Nat)(d:Array α)(w:World)(I:ay)(Y:Value),HoldsK venc size w b 0 d->b<w.heap.size->d.size<4611686018427387904->Rd I Y fd->(∀(mm:Nat)(G:Array Obj)(U:Array α),U.size=d.size->du (sortWorldK venc size w b 0 mm U G) I)->Calls P g #[.slice (some ⟨b,0,none⟩) d.size c,Y] w λe w'=>e=.returned (.tuple #[])/\∃n G,w'=sortWorldK venc size w b 0 n (S d) G)(aW:∀(p:Option Addr)(c:Nat)(Y:Value)(w:World),Calls P g #[.slice p 0 c,Y] w λe w'=>e=.returned (.tuple #[])/\w'=w)(ad:∀x,(venc x).length=size)(ag:∀x,(denc x).cells.length=size/\∀y∈(denc x).cells,y.one=true)(aA:∀(I:ay) x (j:Nat) u y,(venc x)[j]?=some u->(denc x).cells[j]?=some y->Rd I u y)(aR:∀(I:ay) x (j:Nat) u y,(denc x).cells[j]?=some y->Rd I u y->(venc x)[j]?=some u){l:List AO}{id:Nat}{xs:List α}(M:l[id]?=some (.row e size (xs.map denc)))(a6:xs.length<4611686018427387904) :
  sL P g [.row id,.d fd] l (.d (.aN [])) (l.set id (.row e size ((S xs.toArray).toList.map denc))):=by
 intro w0 I0 w I m aw ab aZ az
 obtain⟨O,ae,rfl⟩:∃O ae,aw = #[O,ae]:=by
  match aw,aZ with
  | ⟨[a,b]⟩,_=>exact⟨a,b,rfl⟩
 have aG:=az 0 O (.row id) rfl rfl
 have af:=cz (az 1 ae (.d fd) rfl rfl)
 obtain⟨ys,aC,ba,bb,bl⟩:=ab.obj id _ M
 obtain⟨A,n,c,ao,al⟩:∃A n c,O=.slice A n c/\m id=O:=by
  cases aG with
  |row A n c _ bm bc=>exact⟨A,n,c,rfl,bc (by simp[isRow,M,AO.isRow])⟩
 rw[al,ao]at aC
 obtain⟨a7,aK⟩:=aC
 have aS:id<l.length:=(c5.1 M).1
 rcases aK with ⟨an,aV⟩| ⟨b,bd,cur,an,bf,ak,bj,bg,bh,a1⟩
 ·injection an with ar au av;subst ar;subst au;subst av
  have a8:xs=[]:=by simpa using aV
  subst a8
  subst ao
  refine(aW none 0 _ w).mono ?_
  rintro aD w' ⟨ai,aq⟩
  subst aq
  have aJ:(S ([]:List α).toArray).toList=[]:=by have:=ax ([]:List α).toArray;exact j1 (by rw[Array.length_toList,this];rfl)
  have aY:l.set id (.row e size ((S ([]:List α).toArray).toList.map denc))=l:=by
   rw[aJ]
   apply hW
   intro k
   rw[e4]
   by_cases N:id=k
   ·subst N;rw[if_pos rfl,if_pos aS,M]
   rw[if_neg N]
  rw[aY]
  exact⟨_,ai,I,m,.refl ..,ab,.d _ _ (.aN #[] [] rfl (λi v d h=>by simp at h))⟩
 injection an with ar au av;subst ar;subst au;subst av
 subst ao
 have Z:(xs.map denc).length=xs.toArray.size:=by simp
 have aL:∀j,j<xs.toArray.size*size->∃u,cur[j]?=some u/\ys[j]?=some u/\(flatK venc size xs.toArray)[j]! = u:=by
  intro j F
  have aT:j<ys.length:=by rw[a7,Z];exact F
  obtain⟨z,B⟩:∃z,ys[j]?=some z:=⟨_,c3 aT⟩
  have aO:cur[j]?=some z:=by
   have B:=B
   rw[<-a1,gl]at B
   split at B
   ·simpa using B
   cases B
  refine⟨_,aO,B,?_⟩
  have N:0<size:=by
               rcases s6 size with h|h;· subst h;simp at F
               exact h
  have ah:j/size<xs.toArray.size:=(q4 N).2 F
  have aa:j%size<size:=q6 _ N
  rw[get_flatK venc size xs.toArray j F]
  have aj:=flat_get (xs.map denc) (λd aQ=>(ba d aQ).1) (j/size) (j%size) (denc xs[j/size]) (by rw[et,c3 (by simpa using ah)];rfl) aa
  rw[nn,vb]at aj
  obtain⟨y,aB⟩:∃y,(denc xs[j/size]).cells[j%size]?=some y:=⟨_,c3 (by rw[(ag (xs[j/size]'(by simpa using ah))).1];exact aa)⟩
  rw[aB]at aj
  have aX:=bb j _ y B aj
  have:=aR I _ _ _ _ aB aX
  rw[r0 xs.toArray _ ah,r0 _ _ (by rw[ad];exact aa)]
  rw[c3 (by rw[ad];exact aa)]at this
  simpa using this
 have aI:HoldsK venc size w b 0 xs.toArray:=by
  intro j F
  rw[size_flatK]at F
  obtain⟨u,af,_,aH⟩:=aL j F
  rw[aH]
  refine⟨?_,?_⟩
  ·simp[World.cell?,ak,af]
  simp[World.frozen?,ak]
 have aU:b<w.heap.size:=(e6.1 ak).1
 rw[Z]
 refine(aM b c xs.toArray w I ae aI aU (by simpa using a6) af (λmm G U aP=>(ab.sorted (ys:=U.toList) (venc:=venc) (denc:=denc) M (by rw[al]) (by rw[Array.length_toList,aP,Z]) ad ag (λx j u y=>aA I x j u y) mm G).2.sat)).mono ?_
 rintro aD w' ⟨ai,q,G,aq⟩
 obtain⟨aE,aF⟩:=ab.sorted (ys:=(S xs.toArray).toList) (venc:=venc) (denc:=denc) M (by rw[al]) (by rw[Array.length_toList,ax,Z]) ad ag (λx j u y=>aA I x j u y) q G
 refine⟨_,ai,I,m,aE,?_,.d _ _ (.aN #[] [] rfl (λi v d h=>by simp at h))⟩
 rw[aq];simpa using aF
end
end Go.ag
namespace Go.ag
open Go Go.RowKit bP Go.Proofs Go.Sort
def vD:D->Value
 |.int k n=>.int k n
 |.bool b=>.bool b
 |.str s=>.string s
 |_=>undef
def o6:D->Bool
 |.int .. =>true
 |.bool _=>true
 |.str _=>true
 |_=>false
def OJ(I:ay){y:D}(h:o6 y=true):Rd I (vD y) y:=by cases y<;>simp[o6]at h<;>constructor
def aaC{I:ay}{u:Value}{y:D}(h:o6 y=true)(r:Rd I u y):u=vD y:=by cases y<;>simp[o6]at h<;>cases r<;>rfl
section
variable {α:Type}[bP α]
def gK(x:α):List Value:=(enc x:D).cells.map vD
structure Flat(α:Type)[bP α](k:Nat):Prop where
 agg:∀x:α,(enc x:D)=.agg (enc x:D).cells
 len:∀x:α,(enc x:D).cells.length=k
 sc:∀(x:α),∀y∈(enc x:D).cells,o6 y=true
def Gt{y:D}(h:o6 y=true):y.one=true:=by cases y<;>simp[o6]at h<;>rfl
def Flat.rd{k:Nat}(F:Flat α k)(I:ay)(x:α):Rd I (.agg (gK x).toArray) (enc x):=by
 rw[F.agg x]
 refine .agg _ _ (by simp[gK,D.cells]) (λd B=>Gt (F.sc x d B)) λi v d j B=>?_
 simp only[gK,z1,et]at j
 have G:(enc x:D).cells[i]?=some d:=B
 rw[G]at j
 simp at j;subst j
 exact OJ I (F.sc x d (dk G))
def Flat.vd{k:Nat}(F:Flat α k)(I:ay)(x:α)(j:Nat)(u:Value)(y:D)(B:(gK x)[j]?=some u)(G:(enc x:D).cells[j]?=some y):Rd I u y:=by
 simp only[gK,et,G]at B
 simp at B;subst B
 exact OJ I (F.sc x y (dk G))
def Flat.dv{k:Nat}(F:Flat α k)(I:ay)(x:α)(j:Nat)(u:Value)(y:D)(B:(enc x:D).cells[j]?=some y)(G:Rd I u y):(gK x)[j]?=some u:=by
 simp only[gK,et,B]
 rw[aaC (F.sc x y (dk B)) G];rfl
end
section
variable {α:Type}
def gw(cf:α->α->Int)(l:List α):List α:=l.mergeSort λa b=>!decide (cf b a<0)
def iM(cf:α->α->Int)(l:List α):(gw cf l).Perm l:=va _ _
def lt_iff(cf:α->α->Int)(a b:α):ltOf cf a b=true↔cf a b<0:=by simp[ltOf]
def zp(cf:α->α->Int)(a b:α):ltOf cf a b=false↔¬cf a b<0:=by simp[ltOf]
def mK{cf:α->α->Int}(h:SWO (ltOf cf))(l:List α):(gw cf l).Pairwise λa b=>¬cf b a<0:=by
 have:=List.pairwise_mergeSort (le:=λa b=>!decide (cf b a<0)) (λa b c F j=>by
  simp only[gL,hL]at *
  exact(zp cf _ _).1 (h.ntrans _ _ _ ((zp cf _ _).2 j) ((zp cf _ _).2 F))) (λa b=>by
  simp only[hR,gL,hL]
  by_cases B:cf b a<0
  ·right;intro j
   have k:=h.trans _ _ _ ((lt_iff cf _ _).2 j) ((lt_iff cf _ _).2 B)
   rw[h.irrefl]at k;cases k
  left;exact B) l
 exact this.imp λh=>by simpa using h
def gM(cf:α->α->Int)(l:List α):Prop:=∀a∈l,∀b∈l,¬cf a b<0->¬cf b a<0->a=b
def xI{cf:α->α->Int}{l m:List α}(N:l.Pairwise λa b=>¬cf b a<0)(O:m.Pairwise λa b=>¬cf b a<0)(j:l.Perm m)(M:gM cf l):l=m:=List.Perm.eq_of_pairwise (le:=λa b=>¬cf b a<0) (λa b k B F G=>M a k b (j.symm.subset B) G F) N O j
def gM.perm{cf:α->α->Int}{l m:List α}(h:gM cf l)(j:l.Perm m):gM cf m:=λa k b B=>h a (j.symm.subset k) b (j.symm.subset B)
section
variable {ok:α->Prop}[Inhabited {x:α // ok x}]
def oh(ok:α->Prop)(cf:α->α->Int)(a b:{x:α // ok x}):Int:=cf a.1 b.1
def BN{cf:α->α->Int}(h:SWO (ltOf cf)):SWO (ltOf (oh ok cf)):=⟨λx=>h.irrefl x.1,λx y z=>h.trans x.1 y.1 z.1,λx y z=>h.ntrans x.1 y.1 z.1⟩
def iL(ok:α->Prop)[Inhabited {x:α // ok x}](cf:α->α->Int)(d:Array {x:α // ok x}):Array {x:α // ok x}:=Go.Sort.pdq (ltOf (oh ok cf)) d 0 d.size (Go.Lib.bitLen d.size) true true
def GB{cf:α->α->Int}(h:SWO (ltOf cf))(d:Array {x:α // ok x}):Go.Sort.PermIn 0 d.size d (iL ok cf d)/\Go.Sort.SortedIn (ltOf (oh ok cf)) 0 d.size (iL ok cf d):=Go.Sort.pdq_sorts (ltOf (oh ok cf)) (BN h) d 0 d.size (Go.Lib.bitLen d.size) true true (j2 _) (eb _) (Or.inl rfl)
def NL{cf:α->α->Int}(M:SWO (ltOf cf)){xs:List α}(h:∀x∈xs,ok x)(U:gM cf xs):∃k:List {x:α // ok x},k.map (·.1)=xs/\(iL ok cf k.toArray).toList.map (·.1)=gw cf xs:=by
 refine⟨xs.pmap Subtype.mk h,by simp[List.map_pmap],?_⟩
 generalize Y:xs.pmap Subtype.mk h=k
 have Z:k.map (·.1)=xs:=by rw[<-Y];simp[List.map_pmap]
 obtain⟨F,O⟩:=GB M k.toArray
 have N:=F.1
 have af:(iL ok cf k.toArray).toList.Perm k:=by
  have B:=F.2.2
  simp only[<-N,Array.extract_size]at B
  rw[N,Array.extract_size]at B
  simpa using B
 have ag:((iL ok cf k.toArray).toList.map (·.1)).Pairwise λa b=>¬cf b a<0:=by
  rw[om]
  refine pb.2 λi j hi ad ab=>?_
  have aa:i<(iL ok cf k.toArray).size:=by simpa using hi
  have ae:j<(iL ok cf k.toArray).size:=by simpa using ad
  have:=O i j (j2 _) ab (by omega)
  rw[r0 (iL ok cf k.toArray) i aa,r0 (iL ok cf k.toArray) j ae]at this
  have:=(zp (oh ok cf) _ _).1 this
  simpa [oh]using this
 have G:((iL ok cf k.toArray).toList.map (·.1)).Perm xs:=by rw[<-Z];exact af.map _
 exact xI ag (mK M xs) (G.trans (iM cf xs).symm) (U.perm G.symm)
end
end
section
variable {α:Type}[bP α]
theorem Uj(B:bq)[D0:bq](aw:@bq.on B)(ak:@bq.iS B=@bq.iS D0){P:Program}{g j e k:Nat}{caps:List D}{ok:α->Prop}[Inhabited {x:α // ok x}]{cf:α->α->Int}(F:Flat α k)(Y:SWO (ltOf cf))(ai:∀x y,ok x->ok y->@fE B P j ([enc x,enc y]++caps) (.int .i64 (cf x y)))(
   ah:∀(b c:Nat)(d:Array {x:α // ok x})(w:World)(vs:Array Value),CmpLays P j vs (λx:{x:α // ok x}=>gK x.1) k (oh ok cf) b 0 d.size w->HoldsK (λx:{x:α // ok x}=>gK x.1) k w b 0 d->b<w.heap.size->d.size<4611686018427387904 ->
   Calls P g #[.slice (some ⟨b,0,none⟩) d.size c,.func (.func j) #[] vs] w λe w'=>e=.returned (.tuple #[])/\∃n N,w'=sortWorldK (λx:{x:α // ok x}=>gK x.1) k w b 0 n (iL ok cf d) N)(aq:∀(p:Option Addr)(c:Nat)(M:Value)(w:World),Calls P g #[.slice p 0 c,M] w λe w'=>e=.returned (.tuple #[])/\w'=w){l:List AO}{id:Nat}{xs:List α}(ar:l[id]?=some (.row e k (xs.map enc)))(Z:xs.length<4611686018427387904)(av:∀x∈xs,ok x)(af:gM cf xs) :
  sL P g [.row id,.d (.aD j caps)] l (.d (.aN [])) (l.set id (.row e k ((gw cf xs).map enc))):=by
 obtain⟨O,U,ao⟩:=NL Y av af
 have au:l[id]?=some (.row e k (O.map λx:{x:α // ok x}=>(enc x.1:D))):=by rw[ar,<-U,j4];rfl
 have:=NQ (P:=P) (g:=g) (fd:=.aD j caps) (S:=iL ok cf) (venc:=λx:{x:α // ok x}=>gK x.1) (denc:=λx:{x:α // ok x}=>(enc x.1:D)) (λd=>(GB Y d).1.1)
  (
   λb c d w I M ae ag aj an ax=>by
   obtain⟨vs,rfl,ab,ad⟩:∃vs,M=.func (.func j) #[] vs/\vs.size=caps.length/\∀(i:Nat) v d,vs[i]?=some v->caps[i]?=some d->Rd I v d:=by
    cases an with
    |aD _ vs _ az aA=>exact⟨vs,rfl,az,aA⟩
   exact ah b c d w vs (@IQ B _ _ aw _ _ _ _ (λx:{x:α // ok x}=>(enc x.1:D)) _ _ (λx y=>ai x.1 y.1 x.2 y.2) (λI x=>F.rd I x.1) _ _ _ _ I _ ab ad (λmm N aa al=>by
    have G:=ax mm N aa al
    exact @du.mk B _ _ G.cell G.mp G.df (λg d h=>G.dz g d (by rw[<-ak];exact h)))) ae ag aj) aq
  (λx=>by simp[gK,F.len]) (λx=>⟨F.len x.1,λy ay=>Gt (F.sc x.1 y ay)⟩) (λI x=>F.vd I x.1) (λI x=>F.dv I x.1) au (by rw[<-U]at Z;simpa using Z)
 have e:(iL ok cf O.toArray).toList.map (λx:{x:α // ok x}=>(enc x.1:D))=(gw cf xs).map enc:=by rw[<-ao,j4];rfl
 rw[e]at this
 exact this
end
end Go.ag
namespace Go.Sy
open Go Go.ag
local instance abj:bq:=⟨False,λ_=>none⟩
attribute [local instance] ch
theorem an{β:Type}{c:Bool}{a b:Option β}(h:c=true):ab c a b=a:=by subst h;rfl
theorem aj{β:Type}{c:Bool}{a b:Option β}(h:c=false):ab c a b=b:=by subst h;rfl
theorem aW{α:Type}{l:List α}{k:Nat}{x:α}(h:l[k]?=some x):au l (k:Int)=some x:=by unfold au;rw[if_pos (by omega)];simpa using h
def cr{β:Type}{p:Bool}{o:Option β}(h:p=true):ae p o=o:=by subst h;rfl
theorem aE{β:Type}{n:Int}{o:Option β}(h: -9223372036854775808<=n/\n<=9223372036854775807):ae (ai n) o=o:=cr (da h)
theorem fk{α β:Type}(x:α)(f:α->Option β):aZ (some (.inl x)) f=f x:=rfl
theorem fQ{α β:Type}(y:β)(f:α->Option β):aZ (some (.inr y)) f=some y:=rfl
theorem aO{α β:Type}{o:Option α}{f:α->Option β}{x:α}(h:o=some x):aa o f=f x:=by subst h;rfl
theorem gC{α β:Type}{o:Option (α⊕β)}{f:α->Option β}{x:α⊕β}(h:o=some x):aZ o f=Sum.elim f some x:=by subst h;cases x<;>rfl
theorem gV{β:Type}(a b:Option β):ab false a b=b:=rfl
def bG{α:Type}{l:List α}{k:Nat}{x:α}(h:l[k]?=some x):k<l.length:=(c5.1 h).1
def tH(c d:Bool):ab c (some true) (some d)=some (c||d):=by cases c<;>rfl
def iB(c d:Bool):ab c (some d) (some false)=some (c&&d):=by cases c<;>rfl
def Vb(c d:Bool):ab c (some false) (some d)=some (!c&&d):=by cases c<;>rfl
def JJ{α:Type}(l:List α)(p:α->Bool):l.any p=(l.find? p).isSome:=by rw[hC,List.find?_isSome,h5]
theorem oA{α:Type}{f:α->Int}{l:List α}(h:(l.map f).Nodup){a b:α}(ha:a∈l)(hb:b∈l)(e:f a=f b):a=b:=by
 induction l with
 |nil=>cases ha
 |cons x l j=>
  simp only[fa,h9,gj]at h
  rcases fb.1 ha with rfl|ha<;>rcases fb.1 hb with rfl|hb
  ·rfl
  ·exact absurd ⟨b,‹_›,e.symm⟩ h.1
  ·exact absurd ⟨a,‹_›,e⟩ h.1
  exact j h.2 ‹_› ‹_›
def ed{α σ ρ:Type}(f:σ->α->σ⊕ρ)(fin:σ->ρ):List α->σ->ρ
 | [],z=>fin z
 |x::xs,z=>match f z x with
  |.inl z'=>ed f fin xs z'
  |.inr r=>r
theorem dU{α σ G ρ:Type}(st:σ->Int->G){step:G->Option (G⊕ρ)}{l:List α}(f:σ->α->σ⊕ρ)(fin:σ->ρ)(Inv:Nat->σ->Prop)(h:∀(k:Nat) x z,l[k]?=some x->Inv k z->step (st z (k:Int))=some (match f z x with |.inl z'=>.inl (st z' ((k+1:Nat):Int)) |.inr r=>.inr r))(Y:∀(k:Nat) x z z',l[k]?=some x->Inv k z->f z x=.inl z'->Inv (k+1) z')(U:∀z,Inv l.length z->step (st z (l.length:Int))=some (.inr (fin z)))(B:σ)(O:Inv 0 B):aB step (st B 0)=some (ed f fin l B):=by
 have key:∀(n k:Nat)(z:σ),k+n=l.length->Inv k z->aB step (st z (k:Int))=some (ed f fin (l.drop k) z):=by
  intro n
  induction n with
  |zero=>
   intro k z Z hi
   have:k=l.length:=by omega
   subst this
   rw[zz]
   exact tZ (U z hi)
  |succ n aa=>
   intro k z Z hi
   have M:k<l.length:=by omega
   have N:l[k]?=some l[k]:=c3 M
   rw[hT M]
   have j:=h k _ z N hi
   simp only[ed]
   cases F:f z l[k]with
   |inl z'=>
    rw[F]at j
    rw[Es j]
    exact aa (k+1) z' (by omega) (Y k _ z z' N hi F)
   |inr r=>
    rw[F]at j
    rw[tZ j]
 simpa using key l.length 0 B (by omega) O
theorem fG{α σ ρ:Type}{f:σ->α->σ⊕ρ}{fin:σ->ρ}(g:σ->α->σ):∀(l:List α)(z:σ),(∀z x,x∈l->f z x=.inl (g z x))->ed f fin l z=fin (l.foldl g z)
 | [],z,_=>rfl
 |x::l,z,h=>by
  simp only[ed,h z x (by simp),List.foldl_cons]
  exact fG g l _ λz y j=>h z y (by simp[j])
theorem nv{α ρ:Type}{step:Int->Option (Int⊕(Unit⊕ρ))}{l:List α}(p:α->Bool)(r:ρ)(h:∀(k:Nat) x,l[k]?=some x->step (k:Int)=some (if p x=true then .inr (.inr r)else .inl ((k+1:Nat):Int)))(B:step (l.length:Int)=some (.inr (.inl ()))) :
  aB step 0=some (if l.any p=true then .inr r else .inl ()):=by
 have:=dU (σ:=Unit) (st:=λ_ k=>k) (step:=step) (l:=l) (λ_ x=>if p x=true then .inr (.inr r)else .inl ()) (λ_=>.inl ()) (λ_ _=>True) (λk x z F _=>by rw[h k x F];split<;>rename_i j<;>simp[j]) (λ_ _ _ _ _ _ _=>trivial) (λz _=>B) () trivial
 rw[this]
 congr 1
 clear this h B
 induction l with
 |nil=>rfl
 |cons x l G=>
  simp only[ed,List.any_cons]
  by_cases j:p x=true
  ·simp[j]
  simp only[j,q9]
  simpa using G
def pV{ρ:Type}{step:Int->Option (Int⊕(Unit⊕ρ))}(n:Nat)(p:Nat->Bool)(r:ρ)(h:∀(k:Nat),k<n->step (k:Int)=some (if p k=true then .inr (.inr r)else .inl ((k+1:Nat):Int)))(F:step (n:Int)=some (.inr (.inl ()))) :
  aB step 0=some (if(List.range n).any p=true then .inr r else .inl ()):=
 nv (l:=List.range n) p r (λk x j=>by
  have B:=bG j
  rw[ie (by simpa using B)]at j
  injection j with j;subst j
  exact h k (by simpa using B)) (by rw[xd];exact F)
theorem nw{α:Type}{step:Int->Option (Int⊕(Unit⊕Int))}{l:List α}(p:α->Bool)(h:∀(k:Nat) x,l[k]?=some x->step (k:Int)=some (if p x=true then .inr (.inr (k:Int))else .inl ((k+1:Nat):Int)))(F:step (l.length:Int)=some (.inr (.inl ()))) :
  aB step 0=some (match l.findIdx? p with|some i=>.inr (i:Int)|none=>.inl ()):=by
 have:=dU (σ:=Nat) (st:=λ_ k=>k) (step:=step) (l:=l) (λz x=>if p x=true then .inr (.inr (z:Int))else .inl (z+1)) (λ_=>.inl ()) (λk z=>z=k) (λk x z M G=>by
  subst G;rw[h z x M];split<;>rename_i B<;>simp[B]) (λk x z z' _ G j=>by
  split at j
  ·cases j
  injection j with j;omega) (λz _=>F) 0 rfl
 rw[this]
 congr 1
 clear this h F
 have key:∀(l:List α)(z:Nat),ed (λ(z:Nat) x=>if p x=true then .inr (.inr (z:Int))else .inl (z+1)) (λ_=>(.inl ():Unit⊕Int)) l z=match l.findIdx? p with|some i=>.inr ((z+i:Nat):Int)|none=>.inl ():=by
  intro l
  induction l with
  |nil=>intro z;simp[ed]
  |cons x l N=>
   intro z
   simp only[ed,p4]
   by_cases B:p x=true
   ·simp[B]
   simp only[B,h8,hQ]
   rw[N]
   cases l.findIdx? p<;>simp<;>omega
 simpa using key l 0
def ix{α:Type}(l:List α)(p:α->Bool):Int:=match l.findIdx? p with|some i=>(i:Int)|none=> -1
def DT{α:Type}(l:List α)(p:α->Bool):decide (0<=ix l p)=l.any p:=by
 have:(l.findIdx? p).isSome=l.any p:=List.findIdx?_isSome
 unfold ix
 cases j:l.findIdx? p with
 |none=>rw[j]at this;simp[<-this]
 |some i=>rw[j]at this;simp[<-this]
def ru{α:Type}(l:List α)(p:α->Bool):(l.find? p=none/\ix l p = -1)\/∃(k:Nat)(x:α),l[k]?=some x/\l.find? p=some x/\ix l p=(k:Int)/\p x=true:=by
 unfold ix
 induction l with
 |nil=>left;simp
 |cons x l O=>
  rw[p4,List.find?_cons]
  by_cases G:p x=true
  ·right;exact⟨0,x,rfl,by simp[G],by simp[G],G⟩
  simp only[G]
  rcases O with ⟨M,B⟩| ⟨k,y,M,B,F,N⟩
  ·left
   refine⟨M,?_⟩
   cases j:l.findIdx? p with
   |none=>simp[j]
   |some i=>rw[j]at B;exact absurd B (by simp only;omega)
  right
  refine⟨k+1,y,by simpa using M,B,?_,N⟩
  cases j:l.findIdx? p with
  |none=>rw[j]at F;exact absurd F (by simp only;omega)
  |some i=>rw[j]at F;simp at F;simp[j];omega
def mH{α:Type}(q:α->Bool)(r:α->α->Bool)(l:List α)(k:Nat):Bool:=match l[k]? with|some y=>q y||(l.take k).any λx=>r x y|none=>false
def Gu{α:Type}(q:α->Bool)(r:α->α->Bool)(l:List α):(List.range l.length).any (mH q r l)=true↔¬((∀x∈l,q x=false)/\l.Pairwise λx y=>r x y=false):=by
 rw[h5]
 constructor
 ·rintro⟨k,B,h⟩ ⟨U,M⟩
  have B:=hN.1 B
  unfold mH at h
  rw[c3 B]at h
  simp only[hR,h5]at h
  rcases h with h| ⟨x,G,h⟩
  ·rw[U _ (h6 B)]at h;cases h
  obtain⟨j,F,rfl⟩:=List.mem_take_iff_getElem.1 G
  rw[pb]at M
  rw[M j k (by omega) B (by omega)]at h;cases h
 intro h
 refine hf λN=>h ⟨λx G=>?_,?_⟩
 ·refine hf λO=>N ?_
  obtain⟨k,B,rfl⟩:=gT.1 G
  refine⟨k,hN.2 B,?_⟩
  unfold mH
  rw[c3 B]
  simp at O;simp[O]
 rw[pb]
 intro i j hi F Z
 refine hf λY=>N ⟨j,hN.2 F,?_⟩
 unfold mH
 rw[c3 F]
 simp only[hR,h5]
 right
 exact⟨l[i],List.mem_take_iff_getElem.2 ⟨i,by omega,rfl⟩,by simpa using Y⟩
def Ob{α:Type}{l:List α}{k j:Nat}{x:α}(h:(l.take k)[j]?=some x):j<k/\l[j]?=some x:=by
 have B:=bG h
 rw[e8]at B
 rw[List.getElem?_take_of_lt (by omega)]at h
 exact⟨by omega,h⟩
def F6{α:Type}(id:α->Int)(l:List α):(l.Pairwise λx y=>decide (id x=id y)=false)↔(l.map id).Nodup:=by
 unfold List.Nodup
 rw[om]
 simp
def c8:List Int->Int
 | []=>0
 |x::l=>if x=0 then c8 l else x
def cC{α:Type}(K:α->List Int)(a b:α):Int:=c8 ((K a).zipWith (· - ·) (K b))
def JQ:∀l:List Int,c8 (l.zipWith (· - ·) l)=0
 | []=>rfl
 |x::l=>by
  simp only[List.zipWith_cons_cons,c8]
  rw[if_pos (by omega)];exact JQ l
def Dw:∀(a b c:List Int),a.length=b.length->b.length=c.length->c8 (a.zipWith (· - ·) b)<0->c8 (b.zipWith (· - ·) c)<0->c8 (a.zipWith (· - ·) c)<0
 | [],[],[],_,_,h,_=>by simp[c8]at h
 |x::a,y::b,z::c,h1,B,j,k=>by
  simp only[List.zipWith_cons_cons,c8]at j k⊢
  have F:=Dw a b c (by simpa using h1) (by simpa using B)
  split at j<;>split at k<;>split<;>first|omega|exact F j k
 | [],_::_,_,h,_,_,_=>by simp at h
 |_::_,[],_,h,_,_,_=>by simp at h
 |_::_,_::_,[],_,h,_,_=>by simp at h
 | [],[],_::_,_,h,_,_=>by simp at h
def Dv:∀(a b c:List Int),a.length=b.length->b.length=c.length->¬c8 (a.zipWith (· - ·) b)<0->¬c8 (b.zipWith (· - ·) c)<0->¬c8 (a.zipWith (· - ·) c)<0
 | [],[],[],_,_,h,_=>by simp[c8]
 |x::a,y::b,z::c,h1,B,j,k=>by
  simp only[List.zipWith_cons_cons,c8]at j k⊢
  have F:=Dv a b c (by simpa using h1) (by simpa using B)
  split at j<;>split at k<;>split<;>first|omega|exact F j k
 | [],_::_,_,h,_,_,_=>by simp at h
 |_::_,[],_,h,_,_,_=>by simp at h
 |_::_,_::_,[],_,h,_,_=>by simp at h
 | [],[],_::_,_,h,_,_=>by simp at h
def JS:∀(a b:List Int),a.length=b.length->c8 (a.zipWith (· - ·) b)=0->a=b
 | [],[],_,_=>rfl
 |x::a,y::b,h1,j=>by
  simp only[List.zipWith_cons_cons,c8]at j
  split at j
  ·rename_i h;rw[JS a b (by simpa using h1) j];congr 1;omega
  rename_i h;exact absurd j h
 | [],_::_,h,_=>by simp at h
 |_::_,[],h,_=>by simp at h
def Du:∀(a b:List Int),a.length=b.length->c8 (b.zipWith (· - ·) a) = - c8 (a.zipWith (· - ·) b)
 | [],[],_=>rfl
 |x::a,y::b,h=>by
  have j:=Du a b (by simpa using h)
  simp only[List.zipWith_cons_cons,c8]
  split<;>split<;>omega
 | [],_::_,h=>by simp at h
 |_::_,[],h=>by simp at h
def BO{α:Type}{K:α->List Int}{n:Nat}(j:∀a,(K a).length=n):Go.Sort.SWO (Go.Proofs.ltOf (cC K)) where
 irrefl x:=by
  unfold Go.Proofs.ltOf cC
  rw[JQ];rfl
 trans x y z k B:=by
  have k:=hA k
  have B:=hA B
  exact da (Dw (K x) (K y) (K z) (by rw[j,j]) (by rw[j,j]) k B)
 ntrans x y z k B:=by
  have k:=M0 k
  have B:=M0 B
  exact dd (Dv (K x) (K y) (K z) (by rw[j,j]) (by rw[j,j]) k B)
theorem CM{α:Type}{K:α->List Int}{n:Nat}(j:∀a,(K a).length=n){a b:α}(B:¬cC K a b<0)(k:¬cC K b a<0):K a=K b:=by
 have F:=Du (K a) (K b) (by rw[j,j])
 unfold cC at B k
 rw[F]at k
 exact JS _ _ (by rw[j,j]) (by omega)
def bk{α:Type}(p:α->Bool)(l:List α):Nat:=(l.reverse.dropWhile p).length
def Vn{α:Type}(p:α->Bool)(l:List α)(x:α):List α:=l.take (bk p l)++[x]++l.drop (bk p l)
abbrev eC{α:Type}(m:List (Int×α)):List Int:=m.map (·.1)
theorem oK{α:Type}(k:Int)(d:α):aq ([]:List (Int×α)) k d=d:=rfl
theorem Wl{α:Type}(k:Int):dG ([]:List (Int×α)) k=false:=rfl
def rG{α:Type}(p:Int×α)(m:List (Int×α))(k:Int)(d:α):aq (p::m) k d=if p.1=k then p.2 else aq m k d:=by
 unfold aq
 rw[List.find?_cons]
 by_cases h:p.1=k
 ·rw[if_pos h,show(p.1 == k)=true by simpa using h];rfl
 rw[if_neg h,show(p.1 == k)=false by simpa using h]
def p7{α:Type}(p:Int×α)(m:List (Int×α))(k:Int):dG (p::m) k=(decide (p.1=k)||dG m k):=by
 unfold dG
 rw[List.any_cons]
 congr 1
def wA{α:Type}(n:Int):∀(m:List (Int×α)),dG m n=true↔n∈eC m
 | []=>by simp[dG]
 |p::m=>by
  rw[p7,hR,wA n m,ea]
  simp only[eC,fa,fb]
  constructor<;>(rintro(h|h);exact .inl h.symm;exact .inr h)
theorem p9{α:Type}(p:Int×α)(m:List (Int×α))(k:Int)(v:α):aM (p::m) k v=if p.1=k then(k,v)::m else p::aM m k v:=rfl
def mw{α:Type}(n:Int)(v:α)(k:Int)(z:α):∀(m:List (Int×α)),aq (aM m n v) k z=if k=n then v else aq m k z
 | []=>by
  show aq [(n,v)] k z=_
  rw[rG,oK]
  by_cases h:k=n
  ·rw[if_pos h,if_pos h.symm]
  rw[if_neg h,if_neg (hS h)]
 |p::m=>by
  have B:=mw n v k z m
  rw[p9]
  by_cases h:p.1=n
  ·rw[if_pos h,rG,rG]
   by_cases j:k=n
   ·rw[if_pos j,if_pos j.symm]
   rw[if_neg j,if_neg (hS j),if_neg (by rw[h];exact hS j)]
  rw[if_neg h,rG,rG,B]
  by_cases j:k=n
  ·subst j;rw[if_neg h,if_pos rfl,if_pos rfl]
  rw[if_neg j,if_neg j]
def zu{α:Type}(n:Int)(v:α)(k:Int):∀(m:List (Int×α)),dG (aM m n v) k=(decide (k=n)||dG m k)
 | []=>by
  show dG [(n,v)] k=_
  rw[p7,Wl]
  congr 1;exact j0.2 eq_comm
 |p::m=>by
  have j:=zu n v k m
  rw[p9]
  by_cases h:p.1=n
  ·rw[if_pos h,p7,p7,h]
   rw[show decide (n=k)=decide (k=n)from j0.2 eq_comm]
   cases decide (k=n)<;>simp
  rw[if_neg h,p7,p7,j]
  cases decide (p.1=k)<;>cases decide (k=n)<;>simp
def zA{α:Type}(n:Int)(v:α):∀(m:List (Int×α)),(aM m n v).length=if dG m n=true then m.length else m.length+1
 | []=>rfl
 |p::m=>by
  have j:=zA n v m
  rw[p9,p7]
  by_cases h:p.1=n
  ·rw[if_pos h,if_pos (by simp[h])];rfl
  rw[if_neg h,List.length_cons,j]
  simp only[h,decide_false,q9]
  split<;>simp
def Lk{α:Type}{n:Int}(v:α):∀{m:List (Int×α)},n∉eC m->aM m n v=m++[(n,v)]
 | [],_=>rfl
 |p::m,h=>by
  simp only[eC,fa,fb,not_or]at h
  rw[p9,if_neg (hS h.1),Lk v h.2];rfl
def zy{α:Type}(n:Int)(v:α)(k:Int)(m:List (Int×α)):k∈eC (aM m n v)↔k=n\/k∈eC m:=by rw[<-wA,zu,hR,ea,wA]
def EN{α:Type}(n:Int)(v:α):∀{m:List (Int×α)},(eC m).Nodup->(eC (aM m n v)).Nodup
 | [],_=>by show [n].Nodup;simp
 |p::m,h=>by
  simp only[eC,fa,h9]at h
  rw[p9]
  by_cases e:p.1=n
  ·rw[if_pos e];simp only[eC,fa,h9];exact⟨by rw[<-e];exact h.1,h.2⟩
  rw[if_neg e];simp only[eC,fa,h9]
  refine⟨λj=>?_,EN n v h.2⟩
  rcases (zy n v p.1 m).1 j with h'|h'
  ·exact e h'
  exact h.1 h'
def Dx{α ρ:Type}(bad:α->Bool)(id:α->Int)(r:ρ):∀(l:List α)(z:List (Int×Bool)),ed (λ(z:List (Int×Bool)) x=>if bad x||aq z (id x) false then(.inr (.inr r):_⊕(Unit⊕ρ))else .inl (aM z (id x) true)) (λ_=>.inl ()) l z =
  if(∀x∈l,bad x=false)/\(l.map id).Nodup/\(∀x∈l,aq z (id x) false=false)then .inl ()else .inr r
 | [],z=>by simp[ed]
 |x::l,z=>by
  have N:=Dx bad id r l (aM z (id x) true)
  simp only[ed]
  by_cases h:bad x||aq z (id x) false
  ·rw[if_pos h,if_neg]
   rintro⟨k,_,j⟩
   rw[k x (by simp),j x (by simp)]at h;cases h
  rw[if_neg h]
  simp only[hR,not_or,nh]at h
  dsimp only
  rw[N]
  have e:((∀y∈l,bad y=false)/\(l.map id).Nodup/\∀y∈l,aq (aM z (id x) true) (id y) false=false)↔((∀y∈x::l,bad y=false)/\((x::l).map id).Nodup/\∀y∈x::l,aq z (id y) false=false):=by
   simp only[mw,fb,fa,h9,gj]
   constructor
   ·rintro⟨k,F,j⟩
    refine⟨?_,⟨?_,F⟩,?_⟩
    ·rintro y (rfl|hy)
     ·exact h.1
     exact k y hy
    ·rintro⟨y,hy,M⟩
     have:=j y hy
     rw[if_pos M]at this;cases this
    rintro y (rfl|hy)
    ·exact h.2
    have:=j y hy
    split at this
    ·cases this
    exact this
   rintro⟨k,⟨F,j⟩,G⟩
   refine⟨λy hy=>k y (.inr hy),j,λy hy=>?_⟩
   rw[if_neg λe=>F ⟨y,hy,e⟩]
   exact G y (.inr hy)
  by_cases B:((∀y∈x::l,bad y=false)/\((x::l).map id).Nodup/\∀y∈x::l,aq z (id y) false=false)
  ·rw[if_pos B,if_pos (e.2 B)]
  rw[if_neg B,if_neg λh=>B (e.1 h)]
def jt{α:Type}(id:α->Int)(l:List α):List (Int×α):=l.map λx=>(id x,x)
def mr{σ ρ:Type}{step:σ->Option (σ⊕ρ)}{z z':σ}(h:step z=some (.inl z')):aB step z=aB step z':=Es h
theorem iE{σ ρ:Type}{step:σ->Option (σ⊕ρ)}{z:σ}{r:ρ}(h:step z=some (.inr r)):aB step z=some r:=tZ h
def l7(n lo hi:Int):aa (ab (leI lo n) (some (leI n hi)) (some false)) (λv:Bool=>some v)=some (decide (lo<=n/\n<=hi)):=by by_cases h:lo<=n<;>simp[h,vZ,af]
def kg{b:Bool}{p:Prop}[Decidable p](h:b=true↔p):some b=some (decide p):=dn some (hC.2 (by rw[h,ea]))
def ya(a b c:Bool):ab a (ab b (some c) (some false)) (some false)=some (a&&b&&c):=by cases a<;>cases b<;>rfl
def KX{α:Type}[DecidableEq α]{step:Int->Option (Int⊕(Unit⊕Bool))}{a b:List α}(U:a.length=b.length)(h:∀(k:Nat) x y,a[k]?=some x->b[k]?=some y->step (k:Int)=some (if x=y then .inl ((k+1:Nat):Int)else .inr (.inr false)))(M:step (a.length:Int)=some (.inr (.inl ()))) :
  aB step 0=some (if a=b then .inl ()else .inr false):=by
 rw[pV a.length (λk=>!decide (a[k]?=b[k]?)) false (λk B=>by
  have F:a[k]?=some a[k]:=c3 B
  have G:b[k]?=some b[k]:=c3 (by omega)
  rw[h k _ _ F G,F,G]
  by_cases j:a[k]=b[k]
  ·rw[if_pos j,if_neg (by simp[j])]
  rw[if_neg j,if_pos (by simp[j])]) M]
 congr 1
 by_cases j:a=b
 ·rw[if_pos j,if_neg]
  subst j;simp
 rw[if_neg j,if_pos]
 refine hf λO=>j (hW λk=>?_)
 by_cases B:k<a.length
 ·refine hf λN=>O (h5.2 ⟨k,hN.2 B,by simp[N]⟩)
 rw[hF (by omega),hF (by omega)]
def YP{α:Type}[DecidableEq α]{beq:α->α->Bool}(N:∀a b,beq a b=decide (a=b)){a b:List α}(Z:a.length<=1048576):(ab (!(aF (a.length:Int) (b.length:Int))) (some false) (aZ (aB (λB:Int=>ab (ah B (a.length:Int)) (aa (au a B) λU=>aa (au b B) λY=>ab (!(beq U Y)) (some (.inr (.inr false))) (ae (ai (B+1)) <|some (.inl (B+1)))) (some (.inr (.inl ())))) 0) λ(B:Unit)=>some true))=some (decide (a=b)):=by
 by_cases F:a.length=b.length
 ·rw[aj (by simp[F]),KX F (λk x y G M=>by
   have O:=bG G
   rw[an (by simpa using O),bh (aW G),bh (aW M),N]
   by_cases j:x=y
   ·rw[aj (by simp[j]),aE (by omega),if_pos j];rfl
   rw[an (by simp[j]),if_neg j]) (by rw[aj (by simp)])]
  by_cases j:a=b
  ·rw[if_pos j,fk];simp[j]
  rw[if_neg j,fQ];simp[j]
 have:a≠b:=λh=>F (by rw[h])
 rw[an (by simp;omega)];simp[this]
theorem ma{α:Type}{step:Int->Option (Int⊕(Unit⊕Int))}{l:List α}(p:α->Bool)(h:∀(k:Nat) x,l[k]?=some x->step (k:Int)=some (if p x=true then .inr (.inr (k:Int))else .inl ((k+1:Nat):Int)))(j:step (l.length:Int)=some (.inr (.inl ()))) :
  (aa (aZ (aB step 0) λ_=>some (-1)) λx=>some (leI 0 x))=some (l.any p):=by
 rw[nw p h j,<-DT]
 unfold ix
 cases l.findIdx? p<;>rfl
def ue{α:Type}(r:α->α->Bool)(l:List α)(k:Nat):Bool:=match l[k]?,l[k+1]? with
 |some a,some b=>r a b
 |_,_=>true
def mX{α:Type}(r:α->α->Bool)(l:List α):Bool:=(List.range (l.length-1)).all (ue r l)
def CO{α:Type}{r:α->α->Bool}{l:List α}:mX r l=true↔∀(k:Nat) a b,l[k]?=some a->l[k+1]?=some b->r a b=true:=by
 unfold mX
 rw[dT]
 constructor
 ·intro h k a b B j
  have:=h k (hN.2 (by have:=bG j;omega))
  unfold ue at this
  rwa [B,j]at this
 intro h k F
 unfold ue
 split
 ·rename_i a b B j;exact h k a b B j
 rfl
def V2{α:Type}{step:Int->Option (Int⊕(Unit⊕Bool))}{l:List α}(r:α->α->Bool)(h:∀(k:Nat) a b,l[k]?=some a->l[k+1]?=some b->step ((k:Int)+1)=some (if r a b=true then .inl (k:Int)else .inr (.inr false)))(F:∀z:Int,z<=0->step z=some (.inr (.inl ()))) :
  aB step ((l.length:Int)-1)=some (if mX r l=true then .inl ()else .inr false):=by
 have key:∀n,n<l.length->aB step (n:Int)=some (if(List.range n).all (ue r l)=true then .inl ()else .inr false):=by
  intro n
  induction n with
  |zero=>intro _;rw[tZ (F _ (by simp))];rfl
  |succ n Y=>
   intro U
   have G:l[n]?=some l[n]:=c3 (by omega)
   have M:l[n+1]?=some l[n+1]:=c3 U
   have B:=h n _ _ G M
   have N:ue r l n=r l[n] l[n+1]:=by unfold ue;rw[G,M]
   rw[I1,abz]
   simp only[List.all_cons,List.all_nil,qn]
   rw[N]
   by_cases j:r l[n] l[n+1]=true
   ·rw[if_pos j]at B
    rw[j,qn,<-Y (by omega)]
    exact Es B
   rw[if_neg j]at B
   rw[if_neg (by simp[j])]
   exact tZ B
 unfold mX
 by_cases O:l.length=0
 ·rw[tZ (F _ (by omega)),O];rfl
 have:=key (l.length-1) (by omega)
 rw[show((l.length-1:Nat):Int)=(l.length:Int)-1 by omega]at this
 exact this
theorem CP{α:Type}{R:α->α->Prop}(F:∀a b c,R a b->R b c->R a c):∀{l:List α},(∀(k:Nat) a b,l[k]?=some a->l[k+1]?=some b->R a b)->l.Pairwise R
 | [],_=>List.Pairwise.nil
 | [a],_=>by simp
 |a::b::l,h=>by
  have B:=CP F (l:=b::l) λk x y G M=>h (k+1) x y (by simpa using G) (by simpa using M)
  rw[Qd]
  refine⟨λy hy=>?_,B⟩
  have j:=h 0 a b rfl rfl
  rcases fb.1 hy with rfl|hy
  ·exact j
  exact F _ _ _ j ((Qd.1 B).1 y hy)
def Mn{α:Type}{R:α->α->Prop}{l:List α}(h:l.Pairwise R)(k:Nat)(a b:α)(B:l[k]?=some a)(j:l[k+1]?=some b):R a b:=by
 have M:=bG j
 have F:a=l[k]:=by rw[c3 (by omega)]at B;exact(pa B).symm
 have G:b=l[k+1]:=by rw[c3 (by omega)]at j;exact(pa j).symm
 rw[F,G]
 exact(pb.1 h) k (k+1) (by omega) (by omega) (by omega)
def JZ{α β:Type}(id:α->Int)(g:α->β):∀(l:List α)(z:List (Int×β)),(l.foldl (λm x=>aM m (id x) (g x)) z).length<=z.length+l.length/\((l.foldl (λm x=>aM m (id x) (g x)) z).length=z.length+l.length↔(l.map id).Nodup/\∀x∈l,dG z (id x)=false)
 | [],z=>by simp
 |x::l,z=>by
  obtain⟨O,M⟩:=JZ id g l (aM z (id x) (g x))
  have F:=zA (id x) (g x) z
  rw[List.foldl_cons,List.length_cons]
  by_cases k:dG z (id x)=true
  ·rw[if_pos k]at F
   refine⟨by omega,⟨λh=>by omega,λh=>?_⟩⟩
   have:=h.2 x (by simp)
   rw[k]at this;cases this
  rw[if_neg k]at F
  refine⟨by omega,?_⟩
  rw[show(List.foldl (λm x=>aM m (id x) (g x)) (aM z (id x) (g x)) l).length=z.length+(l.length+1)↔(List.foldl (λm x=>aM m (id x) (g x)) (aM z (id x) (g x)) l).length=(aM z (id x) (g x)).length+l.length by omega,M]
  simp only[fa,h9,gj,fb,zu]
  constructor
  ·rintro⟨B,j⟩
   refine⟨⟨?_,B⟩,?_⟩
   ·rintro⟨y,hy,N⟩
    have:=j y hy
    simp[N]at this
   rintro y (rfl|hy)
   ·simpa using k
   have:=j y hy
   simp at this;exact this.2
  rintro⟨⟨G,B⟩,j⟩
  refine⟨B,λy hy=>?_⟩
  rw[dd (λe=>G ⟨y,hy,e⟩),j y (.inr hy)];rfl
end Go.Sy
namespace Go.Sy
open Go Go.ag Go.RowKit Go.Proofs Go.Sort
variable [aG][cK][dw]
@[reducible] noncomputable def C3(i:Nat)(d:bY.cB i)(hi:∀x y:bY.cB i,aG.cells i x=aG.cells i y->x=y):bP (bY.cB i):=
 ⟨λx=>.agg (aG.cells i x),λz=>open Classical in if h:∃x,D.agg (aG.cells i x)=z then Classical.choose h else d,aG.sz i,
  λx=>by
  have h:∃y,D.agg (aG.cells i y)=D.agg (aG.cells i x):=⟨x,rfl⟩
  have e:∀(dec:Decidable (∃y,D.agg (aG.cells i y)=D.agg (aG.cells i x))),(@dite _ _ dec (λh=>Classical.choose h) λ_=>d)=x:=λdec=>by
   rw[dif_pos h]
   have:=l2 h
   injection this with this
   exact hi _ _ this
  exact e _,
  λx=>cK.len i x,λx y j=>cK.zO i x y j⟩
open Classical in
noncomputable def sy{α β:Type}(ok:β->α->Prop)(cf:β->α->α->Int)(a:List α×β):Option (List α):=if(∀x∈a.1,ok a.2 x)/\gM (cf a.2) a.1/\a.1.length<4611686018427387904 then some (gw (cf a.2) a.1)else none
theorem OC(M:bq)[D0:bq](aq:@bq.on M)(ak:@bq.iS M=@bq.iS D0){P:Program}{g F i k:Nat}{t:Ty}(d:bY.cB i)(hi:∀x y:bY.cB i,aG.cells i x=aG.cells i y->x=y)(ab:∀x:bY.cB i,(aG.cells i x).length=k)(ar:∀(x:bY.cB i),∀y∈aG.cells i x,o6 y=true){ok:t.den->bY.cB i->Prop}{cf:t.den->bY.cB i->bY.cB i->Int}(an:∀c,∃x,ok c x)(ae:∀c,SWO (ltOf (cf c)))(aj:∀c x y,ok c x->ok c y->@fE M P F ([(Ty.st i).enc x,(Ty.st i).enc y]++(t.ff c).2) (.int .i64 (cf c x y)))(al:ag.Enters P g)(
   ai:∀(e:Nat)(B:bY.cB i->Prop)[Inhabited {x:bY.cB i // B x}](N:bY.cB i->bY.cB i->Int),SWO (ltOf N)->∀(b c:Nat)(d:Array {x:bY.cB i // B x})(w:World)(vs:Array Value),CmpLays P F vs (λx:{x:bY.cB i // B x}=>(aG.cells i x.1).map vD) k (oh B N) b 0 d.size w->HoldsK (λx:{x:bY.cB i // B x}=>(aG.cells i x.1).map vD) k w b 0 d->b<w.heap.size->d.size<4611686018427387904 ->
   Calls P g #[.slice (some ⟨b,0,none⟩) d.size c,.func (.func F) #[] vs] w λe w'=>e=.returned (.tuple #[])/\∃n ax,w'=sortWorldK (λx:{x:bY.cB i // B x}=>(aG.cells i x.1).map vD) k w b 0 n (iL B N d) ax)(ao:∀(p:Option Addr)(c:Nat)(af:Value)(w:World),Calls P g #[.slice p 0 c,af] w λe w'=>e=.returned (.tuple #[])/\w'=w) :
  nZ P g (.st i) [.aD F t] (sy ok cf):=by
 refine⟨al,cP rfl,λa r j l id e els ds Z ad=>?_⟩
 change List (bY.cB i)×t.den at a
 change List (bY.cB i)at r
 obtain⟨xs,c⟩:=a
 have j:sy ok cf (xs,c)=some r:=j
 unfold sy at j
 split at j
 ·rename_i ah
  injection j with j;subst j
  obtain⟨O,U,Y⟩:=ah
  have O:∀x∈xs,ok c x:=O
  have U:gM (cf c) xs:=U
  have Y:xs.length<4611686018427387904:=Y
  have Z:[Ty.enc (.list (.st i)) xs,Ty.enc (.aD F t) c]=D.slice (Ty.st i).size els::ds:=Z
  injection Z with G ay
  subst ay
  have G:D.slice (Ty.st i).size (xs.map (Ty.st i).enc)=D.slice (Ty.st i).size els:=G
  injection G with _ G
  subst G
  have au:(Ty.st i).size=k:=by rw[<-ab d];exact(cK.len i d).symm
  rw[au]at ad⊢
  obtain⟨az,aw⟩:=an c
  haveI:Inhabited {x:bY.cB i // ok c x}:=⟨⟨az,aw⟩⟩
  letI:bP (bY.cB i):=C3 i d hi
  exact @Uj (bY.cB i) (C3 i d hi) M D0 aq ak P g F e k (t.ff c).2 (ok c) _ (cf c) ⟨λx=>rfl,λx=>ab x,λx y aa=>ar x y aa⟩ (ae c) (λx y av aa=>aj c x y av aa)
   (ai e (ok c) (cf c) (ae c)) ao l id xs ad Y O U
 cases j
end Go.Sy
namespace Go.ag
open Go Go.RowKit bP Go.Proofs Go.Sort
section
variable {α:Type}[bP α]
variable {α:Type}
variable {ok:α->Prop}[Inhabited {x:α // ok x}]
variable {α:Type}[bP α]
theorem Uk(B:bq)[D0:bq](aw:@bq.on B)(ak:@bq.iS B=@bq.iS D0){P:Program}{g j e k:Nat}{ok:α->Prop}[Inhabited {x:α // ok x}]{cf:α->α->Int}(F:Flat α k)(Y:SWO (ltOf cf))(ai:∀x y,ok x->ok y->@fE B P j ([enc x,enc y]++[]) (.int .i64 (cf x y)))(
   ah:∀(b c:Nat)(d:Array {x:α // ok x})(w:World)(vs:Array Value),CmpLays P j vs (λx:{x:α // ok x}=>gK x.1) k (oh ok cf) b 0 d.size w->HoldsK (λx:{x:α // ok x}=>gK x.1) k w b 0 d->b<w.heap.size->d.size<4611686018427387904 ->
   Calls P g #[.slice (some ⟨b,0,none⟩) d.size c,.func (.func j) #[] vs] w λe w'=>e=.returned (.tuple #[])/\∃n N,w'=sortWorldK (λx:{x:α // ok x}=>gK x.1) k w b 0 n (iL ok cf d) N)(aq:∀(p:Option Addr)(c:Nat)(M:Value)(w:World),Calls P g #[.slice p 0 c,M] w λe w'=>e=.returned (.tuple #[])/\w'=w){l:List AO}{id:Nat}{xs:List α}(ar:l[id]?=some (.row e k (xs.map enc)))(Z:xs.length<4611686018427387904)(av:∀x∈xs,ok x)(af:gM cf xs) :
  sL P g [.row id,.d (.fn j)] l (.d (.aN [])) (l.set id (.row e k ((gw cf xs).map enc))):=by
 obtain⟨O,U,ao⟩:=NL Y av af
 have au:l[id]?=some (.row e k (O.map λx:{x:α // ok x}=>(enc x.1:D))):=by rw[ar,<-U,j4];rfl
 have:=NQ (P:=P) (g:=g) (fd:=.fn j) (S:=iL ok cf) (venc:=λx:{x:α // ok x}=>gK x.1) (denc:=λx:{x:α // ok x}=>(enc x.1:D)) (λd=>(GB Y d).1.1)
  (
   λb c d w I M ae ag aj an ax=>by
   obtain⟨vs,rfl,ab,ad⟩:∃vs,M=.func (.func j) #[] vs/\vs.size=([]:List D).length/\∀(i:Nat) v d,vs[i]?=some v->([]:List D)[i]?=some d->Rd I v d:=by
    cases an
    exact⟨#[],rfl,rfl,by simp⟩
   exact ah b c d w vs (@IQ B _ _ aw _ _ _ _ (λx:{x:α // ok x}=>(enc x.1:D)) _ _ (λx y=>ai x.1 y.1 x.2 y.2) (λI x=>F.rd I x.1) _ _ _ _ I _ ab ad (λmm N aa al=>by
    have G:=ax mm N aa al
    exact @du.mk B _ _ G.cell G.mp G.df (λg d h=>G.dz g d (by rw[<-ak];exact h)))) ae ag aj) aq
  (λx=>by simp[gK,F.len]) (λx=>⟨F.len x.1,λy ay=>Gt (F.sc x.1 y ay)⟩) (λI x=>F.vd I x.1) (λI x=>F.dv I x.1) au (by rw[<-U]at Z;simpa using Z)
 have e:(iL ok cf O.toArray).toList.map (λx:{x:α // ok x}=>(enc x.1:D))=(gw cf xs).map enc:=by rw[<-ao,j4];rfl
 rw[e]at this
 exact this
end
end Go.ag
namespace Go.Proofs.YthhlipkkjippfaaGreatDoor
open Go Go.ag Go.Sy
abbrev zI:D:=.int .i64 0
def zs(n:Nat):List D:=List.replicate n zI
def BV:List (Nat×TI):=[(2,⟨1,8,[zI],.dS .i64⟩),
 (3,⟨1,8,[zI],.dS .i64⟩),
 (4,⟨1,1,[.bool false],.jc⟩),
 (5,⟨1,1,[.int .u8 0],.dS .u8⟩),
 (6,⟨1,1,[.int .u8 0],.dS .u8⟩),
 (7,⟨4,24,[zI,zI,.bool false,.int .u8 0],.struct [(0,2),(1,3),(2,4),(3,6)]⟩),
 (8,⟨4,24,[zI,zI,.bool false,.int .u8 0],.struct [(0,2),(1,3),(2,4),(3,6)]⟩),
 (9,⟨1,16,[.str ⟨#[]⟩],.string⟩),
 (10,⟨1,16,[.str ⟨#[]⟩],.string⟩),
 (11,⟨1,16,[.str ⟨#[]⟩],.string⟩),
 (12,⟨1,8,[.int .u64 0],.dS .u64⟩),
 (13,⟨2,24,[.str ⟨#[]⟩,.int .u64 0],.struct [(0,9),(1,12)]⟩),
 (14,⟨2,24,[.str ⟨#[]⟩,.int .u64 0],.struct [(0,9),(1,12)]⟩),
 (15,⟨1,8,[.dX],.jc⟩),
 (16,⟨1,8,[.dX],.jc⟩),
 (17,⟨1,8,[.dX],.jc⟩),
 (18,⟨1,8,[.dX],.struct [(0,17)]⟩),
 (19,⟨1,8,[.dX],.struct [(0,17)]⟩),
 (21,⟨1,4,[.int .i32 0],.dS .i32⟩),
 (22,⟨1,24,[.slice 4 []],.slice 79⟩),
 (23,⟨1,24,[.slice 13 []],.slice 95⟩),
 (24,⟨1,24,[.slice 12 []],.slice 126⟩),
 (25,⟨4,80,[zI,.slice 4 [],.slice 13 [],.slice 12 []],.struct [(0,3),(1,22),(2,23),(3,24)]⟩),
 (26,⟨4,80,[zI,.slice 4 [],.slice 13 [],.slice 12 []],.struct [(0,3),(1,22),(2,23),(3,24)]⟩),
 (27,⟨1,24,[.slice 3 []],.slice 68⟩),
 (28,⟨1,24,[.slice 3 []],.slice 269⟩),
 (29,⟨3,24,zs 3,.struct [(0,3),(1,3),(2,3)]⟩),
 (30,⟨3,24,zs 3,.struct [(0,3),(1,3),(2,3)]⟩),
 (31,⟨1,24,[.slice 3 []],.slice 70⟩),
 (32,⟨7,104,[zI,.slice 3 [],.slice 3 [],zI,zI,zI,.slice 3 []],.struct [(0,3),(1,27),(2,28),(3,30),(6,31)]⟩),
 (33,⟨7,104,[zI,.slice 3 [],.slice 3 [],zI,zI,zI,.slice 3 []],.struct [(0,3),(1,27),(2,28),(3,30),(6,31)]⟩),
 (34,⟨1,24,[.slice 3 []],.slice 364⟩),
 (35,⟨12,208,[zI,.slice 4 [],.slice 13 [],.slice 12 [],zI,.slice 3 [],.slice 3 [],zI,zI,zI,.slice 3 [],.slice 3 []],.struct [(0,26),(4,33),(11,34)]⟩),
 (36,⟨12,208,[zI,.slice 4 [],.slice 13 [],.slice 12 [],zI,.slice 3 [],.slice 3 [],zI,zI,zI,.slice 3 [],.slice 3 []],.struct [(0,26),(4,33),(11,34)]⟩),
 (37,⟨1,24,[.slice 1 []],.slice 3⟩),
 (38,⟨9,136,[zI,zI,.slice 3 [],.slice 3 [],zI,zI,zI,.slice 3 [],.slice 1 []],.struct [(0,3),(1,33),(8,37)]⟩),
 (39,⟨9,136,[zI,zI,.slice 3 [],.slice 3 [],zI,zI,zI,.slice 3 [],.slice 1 []],.struct [(0,3),(1,33),(8,37)]⟩),
 (40,⟨1,24,[.slice 2 []],.slice 65⟩),
 (44,⟨1,24,[.slice 8 []],.slice 62⟩),
 (45,⟨1,8,[zI],.dS .i64⟩),
 (54,⟨1,8,[.map [] []],.map 3 4⟩),
 (57,⟨2,16,[zI,zI],.struct [(0,3),(1,3)]⟩),
 (58,⟨2,16,[zI,zI],.struct [(0,3),(1,3)]⟩),
 (59,⟨3,24,zs 3,.struct [(0,3),(1,3),(2,3)]⟩),
 (60,⟨3,24,zs 3,.struct [(0,3),(1,3),(2,3)]⟩),
 (61,⟨8,64,zs 8,.struct [(0,3),(1,58),(3,58),(5,60)]⟩),
 (62,⟨8,64,zs 8,.struct [(0,3),(1,58),(3,58),(5,60)]⟩),
 (63,⟨1,24,[.slice 5 []],.slice 138⟩),
 (64,⟨2,32,[zI,.slice 5 []],.struct [(0,3),(1,63)]⟩),
 (65,⟨2,32,[zI,.slice 5 []],.struct [(0,3),(1,63)]⟩),
 (67,⟨3,24,zs 3,.struct [(0,3),(1,3),(2,3)]⟩),
 (68,⟨3,24,zs 3,.struct [(0,3),(1,3),(2,3)]⟩),
 (69,⟨3,24,zs 3,.struct [(0,3),(1,3),(2,3)]⟩),
 (70,⟨3,24,zs 3,.struct [(0,3),(1,3),(2,3)]⟩),
 (72,⟨1,24,[.slice 2 []],.slice 75⟩),
 (74,⟨2,16,[zI,zI],.struct [(0,3),(1,3)]⟩),
 (75,⟨2,16,[zI,zI],.struct [(0,3),(1,3)]⟩),
 (78,⟨4,32,zs 4,.struct [(0,3),(1,58),(3,3)]⟩),
 (79,⟨4,32,zs 4,.struct [(0,3),(1,58),(3,3)]⟩),
 (92,⟨2,16,[zI,zI],.struct [(0,3),(1,3)]⟩),
 (93,⟨2,16,[zI,zI],.struct [(0,3),(1,3)]⟩),
 (94,⟨13,104,zs 13,.struct [(0,3),(1,3),(2,3),(3,3),(4,3),(5,93),(7,60),(10,60)]⟩),
 (95,⟨13,104,zs 13,.struct [(0,3),(1,3),(2,3),(3,3),(4,3),(5,93),(7,60),(10,60)]⟩),
 (97,⟨1,8,[.dX],.jc⟩),
 (108,⟨1,8,[.map [] []],.map 3 40⟩),
 (116,⟨2,16,[zI,zI],.struct [(0,3),(1,3)]⟩),
 (117,⟨2,16,[zI,zI],.struct [(0,3),(1,3)]⟩),
 (125,⟨12,96,zs 12,.struct [(0,3),(1,3),(2,3),(3,3),(4,3),(5,58),(7,58),(9,60)]⟩),
 (126,⟨12,96,zs 12,.struct [(0,3),(1,3),(2,3),(3,3),(4,3),(5,58),(7,58),(9,60)]⟩),
 (129,⟨7,104,[zI,.slice 3 [],.slice 3 [],zI,zI,zI,.slice 3 []],.struct [(0,33)]⟩),
 (130,⟨7,104,[zI,.slice 3 [],.slice 3 [],zI,zI,zI,.slice 3 []],.struct [(0,33)]⟩),
 (136,⟨1,24,[.slice 10 []],.slice 170⟩),
 (137,⟨5,56,[zI,zI,zI,zI,.slice 10 []],.struct [(0,3),(1,3),(2,58),(4,136)]⟩),
 (138,⟨5,56,[zI,zI,zI,zI,.slice 10 []],.struct [(0,3),(1,3),(2,58),(4,136)]⟩),
 (140,⟨15,264,[zI,.slice 4 [],.slice 13 [],.slice 12 [],zI,zI,.slice 3 [],.slice 3 [],zI,zI,zI,.slice 3 [],.slice 1 [],.slice 2 [],.slice 8 []],.struct [(0,26),(4,39),(13,72),(14,44)]⟩),
 (141,⟨15,264,[zI,.slice 4 [],.slice 13 [],.slice 12 [],zI,zI,.slice 3 [],.slice 3 [],zI,zI,zI,.slice 3 [],.slice 1 [],.slice 2 [],.slice 8 []],.struct [(0,26),(4,39),(13,72),(14,44)]⟩),
 (144,⟨13,104,zs 13,.struct [(0,95)]⟩),
 (145,⟨13,104,zs 13,.struct [(0,95)]⟩),
 (152,⟨1,8,[.map [] []],.map 3 24⟩),
 (169,⟨10,80,zs 10,.struct [(0,3),(1,3),(2,3),(3,58),(5,58),(7,60)]⟩),
 (170,⟨10,80,zs 10,.struct [(0,3),(1,3),(2,3),(3,58),(5,58),(7,60)]⟩),
 (176,⟨1,8,[.map [] []],.map 3 170⟩),
 (206,⟨1,8,[.map [] []],.map 3 3⟩),
 (234,⟨1,8,[.int .u64 0],.dS .u64⟩),
 (249,⟨1,8,[.map [] []],.map 3 95⟩),
 (269,⟨3,24,zs 3,.struct [(0,3),(1,3),(2,3)]⟩),
 (272,⟨1,8,[.map [] []],.map 70 4⟩),
 (281,⟨7,56,zs 7,.array 7 3⟩),
 (283,⟨1,8,[zI],.dS .i64⟩),
 (290,⟨1,4,[.int .u32 0],.dS .u32⟩),
 (292,⟨1,8,[.int .u64 0],.dS .u64⟩),
 (311,⟨1,8,[.int .u64 0],.dS .u64⟩),
 (315,⟨1,8,[.dX],.jc⟩),
 (327,⟨1,8,[.dX],.jc⟩),
 (349,⟨4,40,[.dX,.dX,.dX,.str ⟨#[]⟩],.struct [(0,17),(1,17),(2,17),(3,9)]⟩),
 (350,⟨4,40,[.dX,.dX,.dX,.str ⟨#[]⟩],.struct [(0,17),(1,17),(2,17),(3,9)]⟩),
 (351,⟨0,0,[],.array 0 16⟩),
 (352,⟨0,0,[],.struct [(0,351)]⟩),
 (353,⟨0,0,[],.struct [(0,351)]⟩),
 (355,⟨1,1,[.int .u8 0],.dS .u8⟩),
 (356,⟨1,1,[.int .u8 0],.dS .u8⟩),
 (358,⟨1,8,[.dX],.jc⟩),
 (359,⟨1,4,[.int .i32 0],.dS .i32⟩),
 (360,⟨1,4,[.int .i32 0],.dS .i32⟩),
 (361,⟨11,48,[.int .u64 0,.int .u64 0,.int .u32 0,.int .u8 0,.int .u8 0,.int .u8 0,.int .u8 0,.iU,.dX,.int .i32 0,.int .i32 0],.struct [(0,12),(1,12),(2,290),(3,355),(4,5),(5,5),(6,356),(7,357),(8,358),(9,359),(10,360)]⟩),
 (362,⟨11,48,[.int .u64 0,.int .u64 0,.int .u32 0,.int .u8 0,.int .u8 0,.int .u8 0,.int .u8 0,.iU,.dX,.int .i32 0,.int .i32 0],.struct [(0,12),(1,12),(2,290),(3,355),(4,5),(5,5),(6,356),(7,357),(8,358),(9,359),(10,360)]⟩),
 (363,⟨3,24,zs 3,.struct [(0,3),(1,58)]⟩),
 (364,⟨3,24,zs 3,.struct [(0,3),(1,58)]⟩)]++[1,41,42,43,47,48,49,51,52,53,56,66,71,73,77,81,82,83,85,86,88,90,91,96,99,101,102,103,104,105,106,107,109,111,112,113,114,115,118,119,120,121,122,123,124,127,128,131,132,133,134,135,139,143,147,148,149,150,151,153,154,155,156,157,158,159,160,161,162,163,164,165,166,168,171,172,173,174,175,178,179,180,181,182,183,184,185,186,188,189,190,191,192,193,194,195,196,197,198,199,200,201,202,203,204,205,207,208,209,210,211,212,213,214,215,216,217,218,219,220,222,223,224,225,226,227,228,229,230,231,232,233,235,236,237,238,239,240,241,242,243,244,245,246,247,248,251,252,253,254,255,256,257,258,259,260,261,262,263,264,265,266,267,268,270,271,273,274,275,276,277,278,280,282,285,286,287,288,289,291,293,295,296,297,298,299,300,301,302,303,304,305,306,308,310,312,313,314,316,317,318,319,320,321,322,323,324,325,326,328,329,330,331,332,333,334,335,336,337,338,339,340,341,342,343,344,345,346,347,348,354,357].map λn=>(n,⟨1,8,[.iU],.jc⟩)
def jJ:cm:=λt=>(BV.find? λp=>Nat.beq p.1 t).map (·.2)
structure Rat where
 n:Int
 d:Int
 deriving DecidableEq
structure aT where
 id:Int
 length:Rat
 key:Int
 deriving DecidableEq
structure bZ where
 steps:Int
 cw:Int
 deriving DecidableEq
structure aV where
 step:Int
 alter:Int
 bm:Int
 deriving DecidableEq
structure aC where
 id:Int
 nQ:Int
 of:Int
 bm:Int
 eA:Int
 shift:bZ
 low:aV
 high:aV
 deriving DecidableEq
structure ak where
 id:Int
 part:Int
 av:Int
 bp:Int
 bO:Int
 start:Rat
 length:Rat
 aU:aV
 deriving DecidableEq
structure bI where
 version:Int
 bars:(List aT)
 parts:(List aC)
 aK:(List ak)
 deriving DecidableEq
structure im where
 at_:Int
 to:Int
 dj:Int
 deriving DecidableEq
structure bL where
 from_:Int
 aQ:Int
 times:Int
 deriving DecidableEq
structure Ending where
 from_:Int
 aQ:Int
 pass:Int
 deriving DecidableEq
structure bK where
 from_:Int
 aQ:Int
 pass:Int
 deriving DecidableEq
structure Form where
 bars:Int
 aY:(List bL)
 bE:(List Ending)
 jump:im
 bj:(List bK)
 deriving DecidableEq
structure sR where
 av:Int
 quarter:Rat
 deriving DecidableEq
structure eo where
 aI:bI
 form:Form
 GR:(List sR)
 deriving DecidableEq
structure ej where
 version:Int
 form:Form
 bF:(List Int)
 deriving DecidableEq
structure az where
 part:Int
 start:Rat
 length:Rat
 aU:aV
 deriving DecidableEq
structure aw where
 id:Int
 bp:Int
 bO:Int
 start:Rat
 length:Rat
 aU:aV
 deriving DecidableEq
structure aR where
 av:Int
 key:Int
 length:Rat
 aK:(List aw)
 deriving DecidableEq
structure aJ where
 part:Int
 bu:(List aR)
 deriving DecidableEq
structure aA where
 av:Int
 pass:Int
 deriving DecidableEq
structure eQ where
 n:Int
 d:Int
 deriving DecidableEq
structure dp where
 form:Form
 deriving DecidableEq
structure x7 where
 aI:bI
 room:ej
 OL:(List aA)
 Ou:(List az)
 deriving DecidableEq
structure nW where
 part:aC
 deriving DecidableEq
def cB:Nat->Type
 |0=>Rat
 |1=>aT
 |2=>bZ
 |3=>aV
 |4=>aC
 |5=>ak
 |6=>bI
 |7=>im
 |8=>bL
 |9=>Ending
 |10=>bK
 |11=>Form
 |12=>sR
 |13=>eo
 |14=>ej
 |15=>az
 |16=>aw
 |17=>aR
 |18=>aJ
 |19=>aA
 |20=>eQ
 |21=>dp
 |22=>x7
 |23=>nW
 |_+24=>Unit
instance:bY:=⟨cB⟩
def cj:Nat->List Ty
 |0=>[.int .i64,.int .i64]
 |1=>[.int .i64,.st 0,.int .i64]
 |2=>[.int .i64,.int .i64]
 |3=>[.int .i64,.int .i64,.int .i64]
 |4=>[.int .i64,.int .i64,.int .i64,.int .i64,.int .i64,.st 2,.st 3,.st 3]
 |5=>[.int .i64,.int .i64,.int .i64,.int .i64,.int .i64,.st 0,.st 0,.st 3]
 |6=>[.int .i64,.list (.st 1),.list (.st 4),.list (.st 5)]
 |7=>[.int .i64,.int .i64,.int .i64]
 |8=>[.int .i64,.int .i64,.int .i64]
 |9=>[.int .i64,.int .i64,.int .i64]
 |10=>[.int .i64,.int .i64,.int .i64]
 |11=>[.int .i64,.list (.st 8),.list (.st 9),.st 7,.list (.st 10)]
 |12=>[.int .i64,.st 0]
 |13=>[.st 6,.st 11,.list (.st 12)]
 |14=>[.int .i64,.st 11,.list (.int .i64)]
 |15=>[.int .i64,.st 0,.st 0,.st 3]
 |16=>[.int .i64,.int .i64,.int .i64,.st 0,.st 0,.st 3]
 |17=>[.int .i64,.int .i64,.st 0,.list (.st 16)]
 |18=>[.int .i64,.list (.st 17)]
 |19=>[.int .i64,.int .i64]
 |20=>[.int .i64,.int .i64]
 |21=>[.st 11]
 |22=>[.st 6,.st 14,.list (.st 19),.list (.st 15)]
 |23=>[.st 4]
 |_+24=>[]
def ZW:Nat->Nat
 |0=>2
 |1=>4
 |2=>2
 |3=>3
 |4=>13
 |5=>12
 |6=>4
 |7=>3
 |8=>3
 |9=>3
 |10=>3
 |11=>7
 |12=>3
 |13=>12
 |14=>9
 |15=>8
 |16=>10
 |17=>5
 |18=>2
 |19=>2
 |20=>2
 |21=>7
 |22=>15
 |23=>13
 |_+24=>0
def un:∀i,cB i->(ba (cj i)).den
 |0=>λ(x:Rat)=>(x.n,x.d)
 |1=>λ(x:aT)=>(x.id,x.length,x.key)
 |2=>λ(x:bZ)=>(x.steps,x.cw)
 |3=>λ(x:aV)=>(x.step,x.alter,x.bm)
 |4=>λ(x:aC)=>(x.id,x.nQ,x.of,x.bm,x.eA,x.shift,x.low,x.high)
 |5=>λ(x:ak)=>(x.id,x.part,x.av,x.bp,x.bO,x.start,x.length,x.aU)
 |6=>λ(x:bI)=>(x.version,x.bars,x.parts,x.aK)
 |7=>λ(x:im)=>(x.at_,x.to,x.dj)
 |8=>λ(x:bL)=>(x.from_,x.aQ,x.times)
 |9=>λ(x:Ending)=>(x.from_,x.aQ,x.pass)
 |10=>λ(x:bK)=>(x.from_,x.aQ,x.pass)
 |11=>λ(x:Form)=>(x.bars,x.aY,x.bE,x.jump,x.bj)
 |12=>λ(x:sR)=>(x.av,x.quarter)
 |13=>λ(x:eo)=>(x.aI,x.form,x.GR)
 |14=>λ(x:ej)=>(x.version,x.form,x.bF)
 |15=>λ(x:az)=>(x.part,x.start,x.length,x.aU)
 |16=>λ(x:aw)=>(x.id,x.bp,x.bO,x.start,x.length,x.aU)
 |17=>λ(x:aR)=>(x.av,x.key,x.length,x.aK)
 |18=>λ(x:aJ)=>(x.part,x.bu)
 |19=>λ(x:aA)=>(x.av,x.pass)
 |20=>λ(x:eQ)=>(x.n,x.d)
 |21=>λ(x:dp)=>(x.form)
 |22=>λ(x:x7)=>(x.aI,x.room,x.OL,x.Ou)
 |23=>λ(x:nW)=>(x.part)
 |_+24=>λ_=>()
def eN:∀i,(ba (cj i)).den->cB i
 |0=>λx=>(⟨x.1,x.2⟩:Rat)
 |1=>λx=>(⟨x.1,x.2.1,x.2.2⟩:aT)
 |2=>λx=>(⟨x.1,x.2⟩:bZ)
 |3=>λx=>(⟨x.1,x.2.1,x.2.2⟩:aV)
 |4=>λx=>(⟨x.1,x.2.1,x.2.2.1,x.2.2.2.1,x.2.2.2.2.1,x.2.2.2.2.2.1,x.2.2.2.2.2.2.1,x.2.2.2.2.2.2.2⟩:aC)
 |5=>λx=>(⟨x.1,x.2.1,x.2.2.1,x.2.2.2.1,x.2.2.2.2.1,x.2.2.2.2.2.1,x.2.2.2.2.2.2.1,x.2.2.2.2.2.2.2⟩:ak)
 |6=>λx=>(⟨x.1,x.2.1,x.2.2.1,x.2.2.2⟩:bI)
 |7=>λx=>(⟨x.1,x.2.1,x.2.2⟩:im)
 |8=>λx=>(⟨x.1,x.2.1,x.2.2⟩:bL)
 |9=>λx=>(⟨x.1,x.2.1,x.2.2⟩:Ending)
 |10=>λx=>(⟨x.1,x.2.1,x.2.2⟩:bK)
 |11=>λx=>(⟨x.1,x.2.1,x.2.2.1,x.2.2.2.1,x.2.2.2.2⟩:Form)
 |12=>λx=>(⟨x.1,x.2⟩:sR)
 |13=>λx=>(⟨x.1,x.2.1,x.2.2⟩:eo)
 |14=>λx=>(⟨x.1,x.2.1,x.2.2⟩:ej)
 |15=>λx=>(⟨x.1,x.2.1,x.2.2.1,x.2.2.2⟩:az)
 |16=>λx=>(⟨x.1,x.2.1,x.2.2.1,x.2.2.2.1,x.2.2.2.2.1,x.2.2.2.2.2⟩:aw)
 |17=>λx=>(⟨x.1,x.2.1,x.2.2.1,x.2.2.2⟩:aR)
 |18=>λx=>(⟨x.1,x.2⟩:aJ)
 |19=>λx=>(⟨x.1,x.2⟩:aA)
 |20=>λx=>(⟨x.1,x.2⟩:eQ)
 |21=>λx=>(⟨x⟩:dp)
 |22=>λx=>(⟨x.1,x.2.1,x.2.2.1,x.2.2.2⟩:x7)
 |23=>λx=>(⟨x⟩:nW)
 |_+24=>λ_=>()
def CH(x:Rat):List D:=[.int .i64 x.n,.int .i64 x.d]
def yw(x:aT):List D:=[.int .i64 x.id,.int .i64 x.length.n,.int .i64 x.length.d,.int .i64 x.key]
def CI(x:bZ):List D:=[.int .i64 x.steps,.int .i64 x.cw]
def Sz(x:aV):List D:=[.int .i64 x.step,.int .i64 x.alter,.int .i64 x.bm]
def yz(x:aC):List D:=[.int .i64 x.id,.int .i64 x.nQ,.int .i64 x.of,.int .i64 x.bm,.int .i64 x.eA,.int .i64 x.shift.steps,.int .i64 x.shift.cw,.int .i64 x.low.step,.int .i64 x.low.alter,.int .i64 x.low.bm,.int .i64 x.high.step,.int .i64 x.high.alter,.int .i64 x.high.bm]
def sZ(x:ak):List D:=[.int .i64 x.id,.int .i64 x.part,.int .i64 x.av,.int .i64 x.bp,.int .i64 x.bO,.int .i64 x.start.n,.int .i64 x.start.d,.int .i64 x.length.n,.int .i64 x.length.d,.int .i64 x.aU.step,.int .i64 x.aU.alter,.int .i64 x.aU.bm]
def SA(x:bI):List D:=[.int .i64 x.version,.slice 4 (List.map (λy=>D.agg (yw y)) x.bars),.slice 13 (List.map (λy=>D.agg (yz y)) x.parts),.slice 12 (List.map (λy=>D.agg (sZ y)) x.aK)]
def CK(x:im):List D:=[.int .i64 x.at_,.int .i64 x.to,.int .i64 x.dj]
def s7(x:bL):List D:=[.int .i64 x.from_,.int .i64 x.aQ,.int .i64 x.times]
def s8(x:Ending):List D:=[.int .i64 x.from_,.int .i64 x.aQ,.int .i64 x.pass]
def pC(x:bK):List D:=[.int .i64 x.from_,.int .i64 x.aQ,.int .i64 x.pass]
def Sq(x:Form):List D:=[.int .i64 x.bars,.slice 3 (List.map (λy=>D.agg (s7 y)) x.aY),.slice 3 (List.map (λy=>D.agg (s8 y)) x.bE),.int .i64 x.jump.at_,.int .i64 x.jump.to,.int .i64 x.jump.dj,.slice 3 (List.map (λy=>D.agg (pC y)) x.bj)]
def IF(x:sR):List D:=[.int .i64 x.av,.int .i64 x.quarter.n,.int .i64 x.quarter.d]
def Sr(x:eo):List D:=[.int .i64 x.aI.version,.slice 4 (List.map (λy=>D.agg (yw y)) x.aI.bars),.slice 13 (List.map (λy=>D.agg (yz y)) x.aI.parts),.slice 12 (List.map (λy=>D.agg (sZ y)) x.aI.aK),.int .i64 x.form.bars,.slice 3 (List.map (λy=>D.agg (s7 y)) x.form.aY),.slice 3 (List.map (λy=>D.agg (s8 y)) x.form.bE),.int .i64 x.form.jump.at_,.int .i64 x.form.jump.to,.int .i64 x.form.jump.dj,.slice 3 (List.map (λy=>D.agg (pC y)) x.form.bj),.slice 3 (List.map (λy=>D.agg (IF y)) x.GR)]
def Ss(x:ej):List D:=[.int .i64 x.version,.int .i64 x.form.bars,.slice 3 (List.map (λy=>D.agg (s7 y)) x.form.aY),.slice 3 (List.map (λy=>D.agg (s8 y)) x.form.bE),.int .i64 x.form.jump.at_,.int .i64 x.form.jump.to,.int .i64 x.form.jump.dj,.slice 3 (List.map (λy=>D.agg (pC y)) x.form.bj),.slice 1 (List.map (λy=>D.int .i64 y) x.bF)]
def yx(x:az):List D:=[.int .i64 x.part,.int .i64 x.start.n,.int .i64 x.start.d,.int .i64 x.length.n,.int .i64 x.length.d,.int .i64 x.aU.step,.int .i64 x.aU.alter,.int .i64 x.aU.bm]
def yy(x:aw):List D:=[.int .i64 x.id,.int .i64 x.bp,.int .i64 x.bO,.int .i64 x.start.n,.int .i64 x.start.d,.int .i64 x.length.n,.int .i64 x.length.d,.int .i64 x.aU.step,.int .i64 x.aU.alter,.int .i64 x.aU.bm]
def IG(x:aR):List D:=[.int .i64 x.av,.int .i64 x.key,.int .i64 x.length.n,.int .i64 x.length.d,.slice 10 (List.map (λy=>D.agg (yy y)) x.aK)]
def Su(x:aJ):List D:=[.int .i64 x.part,.slice 5 (List.map (λy=>D.agg (IG y)) x.bu)]
def IH(x:aA):List D:=[.int .i64 x.av,.int .i64 x.pass]
def CJ(x:eQ):List D:=[.int .i64 x.n,.int .i64 x.d]
def Sv(x:dp):List D:=[.int .i64 x.form.bars,.slice 3 (List.map (λy=>D.agg (s7 y)) x.form.aY),.slice 3 (List.map (λy=>D.agg (s8 y)) x.form.bE),.int .i64 x.form.jump.at_,.int .i64 x.form.jump.to,.int .i64 x.form.jump.dj,.slice 3 (List.map (λy=>D.agg (pC y)) x.form.bj)]
def Sw(x:x7):List D:=[.int .i64 x.aI.version,.slice 4 (List.map (λy=>D.agg (yw y)) x.aI.bars),.slice 13 (List.map (λy=>D.agg (yz y)) x.aI.parts),.slice 12 (List.map (λy=>D.agg (sZ y)) x.aI.aK),.int .i64 x.room.version,.int .i64 x.room.form.bars,.slice 3 (List.map (λy=>D.agg (s7 y)) x.room.form.aY),.slice 3 (List.map (λy=>D.agg (s8 y)) x.room.form.bE),.int .i64 x.room.form.jump.at_,.int .i64 x.room.form.jump.to,.int .i64 x.room.form.jump.dj,.slice 3 (List.map (λy=>D.agg (pC y)) x.room.form.bj),.slice 1 (List.map (λy=>D.int .i64 y) x.room.bF),.slice 2 (List.map (λy=>D.agg (IH y)) x.OL),.slice 8 (List.map (λy=>D.agg (yx y)) x.Ou)]
def Sx(x:nW):List D:=[.int .i64 x.part.id,.int .i64 x.part.nQ,.int .i64 x.part.of,.int .i64 x.part.bm,.int .i64 x.part.eA,.int .i64 x.part.shift.steps,.int .i64 x.part.shift.cw,.int .i64 x.part.low.step,.int .i64 x.part.low.alter,.int .i64 x.part.low.bm,.int .i64 x.part.high.step,.int .i64 x.part.high.alter,.int .i64 x.part.high.bm]
abbrev CA(a b:Rat):Bool:=di (CH a) (CH b)
abbrev Is(a b:bZ):Bool:=di (CI a) (CI b)
abbrev Iu(a b:ak):Bool:=di (sZ a) (sZ b)
abbrev Cz(a b:im):Bool:=di (CK a) (CK b)
abbrev Iq(a b:bK):Bool:=di (pC a) (pC b)
abbrev Iw(a b:az):Bool:=di (yx a) (yx b)
abbrev sX(a b:aw):Bool:=di (yy a) (yy b)
abbrev Ir(a b:eQ):Bool:=di (CJ a) (CJ b)
def cells:∀i,cB i->List D
 |0=>CH
 |1=>yw
 |2=>CI
 |3=>Sz
 |4=>yz
 |5=>sZ
 |6=>SA
 |7=>CK
 |8=>s7
 |9=>s8
 |10=>pC
 |11=>Sq
 |12=>IF
 |13=>Sr
 |14=>Ss
 |15=>yx
 |16=>yy
 |17=>IG
 |18=>Su
 |19=>IH
 |20=>CJ
 |21=>Sv
 |22=>Sw
 |23=>Sx
 |_+24=>λ_=>[]
def pg(i x):un i (eN i x)=x:=by(iterate 24 (rcases i with _|i;rfl));rfl
def EM(i x):eN i (un i x)=x:=by(iterate 24 (rcases i with _|i;rfl));rfl
def Ww:List Int:=[0,2,4,5,7,9,11]
def pO:Nat->Option (List Int):=λg=>bif Nat.beq g 0 then some Ww else none
instance:aG:=⟨cj,ZW,un,eN,cells,pg,EM,pO⟩
def fX:List (Nat×Ty):=[(2,.int .i64),(3,.int .i64),(4,.bool),(5,.int .u8),(6,.int .u8),(9,.str),(10,.str),(11,.str),(12,.int .u64),(21,.int .i32),(22,.list (.st 1)),(23,.list (.st 4)),(24,.list (.st 5)),(25,.st 6),(26,.st 6),(27,.list (.st 8)),(28,.list (.st 9)),(29,.st 7),(30,.st 7),(31,.list (.st 10)),(32,.st 11),(33,.st 11),(34,.list (.st 12)),(35,.st 13),(36,.st 13),(37,.list (.int .i64)),(38,.st 14),(39,.st 14),(40,.list (.st 18)),(44,.list (.st 15)),(45,.int .i64),(54,.map (.int .i64) (.bool)),(57,.st 0),(58,.st 0),(59,.st 3),(60,.st 3),(61,.st 15),(62,.st 15),(63,.list (.st 17)),(64,.st 18),(65,.st 18),(67,.st 8),(68,.st 8),(69,.st 10),(70,.st 10),(72,.list (.st 19)),(74,.st 19),(75,.st 19),(78,.st 1),(79,.st 1),(92,.st 2),(93,.st 2),(94,.st 4),(95,.st 4),(108,.map (.int .i64) (.list (.st 18))),(116,.st 20),(117,.st 20),(125,.st 5),(126,.st 5),(129,.st 21),(130,.st 21),(136,.list (.st 16)),(137,.st 17),(138,.st 17),(140,.st 22),(141,.st 22),(144,.st 23),(145,.st 23),(152,.map (.int .i64) (.list (.st 5))),(169,.st 16),(170,.st 16),(176,.map (.int .i64) (.st 16)),(206,.map (.int .i64) (.int .i64)),(234,.int .u64),(249,.map (.int .i64) (.st 4)),(269,.st 9),(272,.map (.st 10) (.bool)),(283,.int .i64),(290,.int .u32),(292,.int .u64),(311,.int .u64),(355,.int .u8),(356,.int .u8),(359,.int .i32),(360,.int .i32),(363,.st 12),(364,.st 12)]
def aak:TypeId->Option Ty:=λt=>(fX.find? λp=>Nat.beq p.1 t).map (·.2)
end Go.Proofs.YthhlipkkjippfaaGreatDoor
namespace Go.Proofs.YthhlipkkjippfaaGreatDoor
open Go Go.ag Go.Sy
def ZJ(i a):aG.cells i a=cellsOf (aG.cj i) (aG.un i a):=by(iterate 24 (rcases i with _|i;rfl));rfl
def ZK(i a):(aG.cells i a).length=aG.sz i:=by(iterate 24 (rcases i with _|i;rfl));rfl
def ZL(i a):(aG.cells i a).all D.one=true:=by(iterate 24 (rcases i with _|i;rfl));rfl
instance:cK:=⟨ZJ,ZK,λi a=>dT.1 (ZL i a)⟩
def ZM(i):(aG.cj i).all dV=true:=by(iterate 24 (rcases i with _|i;rfl));rfl
instance:dw:=haveI:bq:=⟨True,λ_=>none⟩;⟨λi t h=>cP (dT.1 (ZM i) t h)⟩
class mP where
 on:Prop
def ZY:Nat->Option D:=λg=>(pO g).map λl=>.agg (l.map (.int .i64))
instance ou[mP]:bq:=⟨mP.on,ZY⟩
instance [mP]:pv:=⟨λg ls h=>by show(pO g).map _=_;rw[show pO g=some ls from h];rfl⟩
variable [mP]
def aal:BV.all (λp=>xP Tryz.prog p.1 p.2)=true:=by kernel_rfl
def Oe:cq Tryz.prog jJ:=by
 have h:=cq.EX aal
 have e:(λt=>(BV.find? λp=>p.1 == t).map (·.2))=jJ:=by funext t;exact dn (Option.map Prod.snd) (Dj BV t)
 rw[<-e];exact h
def rI(n:Nat):List Lf:=List.replicate n (.int .i64)
def yM:List (Nat×List Lf):=[(4,[.bool]),(58,rI 2),(79,rI 4),(93,rI 2),(60,rI 3),(95,rI 13),(126,rI 12),(30,rI 3),(68,rI 3),(269,rI 3),(70,rI 3),(364,rI 3),(62,rI 8),(170,rI 10),(75,rI 2),(117,rI 2),(145,rI 13)]
def TN:qF Tryz.prog (KN yM):=qF.EX (by kernel_rfl)
def DG:List Nat:=[40,53,62,76,96,118,119,135,144,147,148,153,157,190,196,200,201,208,211,222,225,229,231,233,234,273,276,278,280]
def eqs:TypeId->Option (List Lf):=λt=>(yM.find? λp=>Nat.beq p.1 t).map (·.2)
def Jr:qF Tryz.prog eqs:=by
 have e:KN yM=eqs:=by funext t;exact dn (Option.map Prod.snd) (Dj yM t)
 rw[<-e];exact TN
def cx(j:Nat)(k:List mS)(fs:List (Nat×Func))(ts:List lq):Cx:=⟨jJ,aak,eqs,j,k,fs,0,false,DG,ts,[],[]⟩
noncomputable def TL:Env:={E:=jJ,C:=λ_ _=>none,jA:=eqs,P:=Tryz.prog}
def S5:fX.all (λp=>sF (cx 0 [] [] []) p.1 p.2)=true:=by kernel_rfl
def S6(j:Nat)(k:List mS)(fs:List (Nat×Func))(ts:List lq):bU Tryz.prog TL (cx j k fs ts):=haveI:=ch;⟨⟨Oe,(λ_ _ _ _ h=>by cases h),Jr,(λ_ _ _ _ h=>by cases h),rfl⟩,rfl,rfl,rfl,WZ S5⟩
def mixed:Tryz.prog.follows .mixedOrders=true:=by kernel_rfl
noncomputable def tM:List (Nat×Func):=[(234,Tryz.f234),(70,Tryz.f70),(154,Tryz.f154),(236,Tryz.f236),(237,Tryz.f237),(259,Tryz.f259),(281,Tryz.f281),(310,Tryz.f310),(233,Tryz.f233),(152,Tryz.f152),(271,Tryz.f271),(32,Tryz.f32),(34,Tryz.f34),(35,Tryz.f35),(73,Tryz.f73),(72,Tryz.f72),(157,Tryz.f157),(61,Tryz.f61),(135,Tryz.f135),(136,Tryz.f136),(137,Tryz.f137),(225,Tryz.f225),(123,Tryz.f123),(209,Tryz.f209),(232,Tryz.f232),(210,Tryz.f210),(226,Tryz.f226),(227,Tryz.f227),(211,Tryz.f211),(119,Tryz.f119),(148,Tryz.f148),(231,Tryz.f231),(147,Tryz.f147),(229,Tryz.f229)]
def Vl:pq Tryz.prog tM:=UJ ⟨Tryz.func234,Tryz.func70,Tryz.func154,Tryz.func236,Tryz.func237,Tryz.func259,Tryz.func281,Tryz.func310,Tryz.func233,Tryz.func152,Tryz.func271,Tryz.func32,Tryz.func34,Tryz.func35,Tryz.func73,Tryz.func72,Tryz.func157,Tryz.func61,Tryz.func135,Tryz.func136,Tryz.func137,Tryz.func225,Tryz.func123,Tryz.func209,Tryz.func232,Tryz.func210,Tryz.func226,Tryz.func227,Tryz.func211,Tryz.func119,Tryz.func148,Tryz.func231,Tryz.func147,Tryz.func229,trivial⟩ (by kernel_rfl)
def KH{f:FuncId}{fn:Func}{j k:List Ty}{g:(ba j).den->Option (ba k).den}(cs:List Sy.Callee)(ts:List jm)(B:cs.foldr (λc p=>ij Tryz.prog c/\p) True)(M:ts.foldr (λc p=>nZ Tryz.prog c.f c.t c.args c.fn/\p) True)(F:Tryz.prog.funcs[f]?=some fn)(G:tw fn j k=true)(h:∀a,tz (cs++ts.map jm.pA) (uY (cx fn.ntmps (cs.map o7) tM (qx ts cs.length)) fn.results.toList (ko fn) j k) j k a=g a):ij Tryz.prog ⟨f,j,k,g⟩:=Si (S6 fn.ntmps (cs.map o7) tM (qx ts cs.length)) (Sp B M rfl rfl) Vl rfl mixed F G h
theorem kk{f:FuncId}{fn:Func}{j k:List Ty}{g:(ba j).den->Option (ba k).den}(cs:List Sy.Callee)(B:cs.foldr (λc p=>ij Tryz.prog c/\p) True)(F:Tryz.prog.funcs[f]?=some fn)(G:tw fn j k=true)(h:∀a,tz (cs++[]) (uY (cx fn.ntmps (cs.map o7) tM []) fn.results.toList (ko fn) j k) j k a=g a):ij Tryz.prog ⟨f,j,k,g⟩:=KH cs [] B trivial F G h
structure Bk where
 c:Sy.Callee
 k:ij Tryz.prog c
def Iz(j:List Bk):(j.map Bk.c).foldr (λc p=>ij Tryz.prog c/\p) True:=by
 induction j with
 |nil=>trivial
 |cons b r B=>exact⟨b.k,B⟩
abbrev tI:Ty:=.int .i64
noncomputable def bk(j k:List Ty)(g:(ba j).den->Option (ba k).den)(B:List Bk){f:FuncId}{fn:Func}(F:Tryz.prog.funcs[f]?=some fn)(G:tw fn j k=true:=by kernel_rfl)(h:∀a,tz (B.map Bk.c++[]) (uY (cx fn.ntmps ((B.map Bk.c).map o7) tM []) fn.results.toList (ko fn) j k) j k a=g a:=by intro a;kernel_rfl):Bk:=⟨⟨f,j,k,g⟩,kk (B.map Bk.c) (Iz B) F G h⟩
noncomputable def CB(j B:List Ty)(g:(ba j).den->Option (ba B).den)(k:List Bk)(ts:List jm)(M:ts.foldr (λc p=>nZ Tryz.prog c.f c.t c.args c.fn/\p) True){f:FuncId}{fn:Func}(F:Tryz.prog.funcs[f]?=some fn)(G:tw fn j B=true:=by kernel_rfl)(h:∀a,tz (k.map Bk.c++ts.map jm.pA) (uY (cx fn.ntmps ((k.map Bk.c).map o7) tM (qx ts (k.map Bk.c).length)) fn.results.toList (ko fn) j B) j B a=g a:=by intro a;kernel_rfl):Bk:=⟨⟨f,j,B,g⟩,KH (k.map Bk.c) ts (Iz k) M F G h⟩
end Go.Proofs.YthhlipkkjippfaaGreatDoor
namespace Go.Proofs.YthhlipkkjippfaaGreatDoor
open Go Go.ag Go.Sy Go.RowKit Go.ChangeShapes Go.WideShapes
def own:ownKnob Tryz.prog.godebug=none:=by kernel_rfl
def laidOut:laidOutB Tryz.prog=true:=by kernel_rfl
theorem oe:sJ (λH=>Rows.uptoBulk (H:=H)) (λH=>Rows.uptoBulkAll (H:=H)) where
 str _ bs:=by simp[Rows.uptoBulk]
 sl _ a b:=by simp[Rows.uptoBulk]
 agg _ a:=by simp[Rows.uptoBulk]
 nil _:=by simp[Rows.uptoBulkAll]
 cons _ d r:=by simp[Rows.uptoBulkAll]
 one _ d:=by
  cases d with
  |lit l=>cases l<;>simp[Rows.uptoBulk]
  |_=>simp[Rows.uptoBulk]
def Y7{H:Type}{en:TypeId×Value->H}{W:World}{base:Nat}{sp:Nat->Bool}{held:Bool}(b:Bool):DataW.Trod en Tryz.prog W base sp held 4 (.bool b) (.lit (.bool b)) []:=⟨1,by simp[DataW.trod,Value.cells,Tryz.underlying4]⟩
def Sg{H:Type}{d:DataW H}{l:List (DataW H)}(h:d∈l):Rows.uptoBulk d<=Rows.uptoBulkAll l:=by
 induction l with
 |nil=>cases h
 |cons x r j=>
  simp only[Rows.uptoBulkAll]
  rcases fb.1 h with e|e
  ·subst e;omega
  have:=j e;omega
theorem GA{H:Type}{ds:List (DataW H)}(h:Rows.uptoSmall H ds=true){d:DataW H}(j:d∈ds):Rows.uptoBulk d<=1048576:=by
 have k:Rows.uptoBulkAll ds<=1048576:=hA h
 have:=Sg j
 omega
def Ke:Tryz.prog.globalNamed "partbook/pitch.naturals" = some 0:=by kernel_rfl
def UK:(Tryz.prog.globals[0]?).map (·.type)=some 281:=by kernel_rfl
def SF:Tryz.prog.cellsOf 281=7:=by kernel_rfl
def SB:Tryz.prog.cellsOf 3=1:=by kernel_rfl
def u7:List Int:=[0,2,4,5,7,9,11]
def table{W:World}(h:laidMetH Tryz.prog [("partbook/pitch.naturals",Rows.laid_partbook_pitch_naturals)] W):Lib.TabIs Tryz.prog W "partbook/pitch.naturals" .i64 u7:=Lib.tabIs_of_head (rest:=[]) Ke UK Tryz.underlying281 Tryz.underlying3 SB SF h
def dz[mP]{W:World}(h:laidMetH Tryz.prog [("partbook/pitch.naturals",Rows.laid_partbook_pitch_naturals)] W):∀g d,bq.iS g=some d->Rd (allI W) (.pointer (some ⟨g,0,none⟩)) (.box d):=by
 intro g d U
 have j:(pO g).map (λl=>D.agg (l.map (.int .i64)))=some d:=U
 by_cases G:g=0
 ·subst G
  have e:(pO 0).map (λl=>D.agg (l.map (.int .i64)))=some (.agg (u7.map (.int .i64))):=rfl
  rw[e]at j
  injection j with j
  subst j
  have ht:=λi hi=>(table h).cell Ke i hi
  refine .box 0 _ (λk=>(W.cell? ⟨0,k,none⟩).getD undef) (λx F=>?_) (λk Y=>?_) (λk x F=>?_)
  ·obtain⟨n,_,rfl⟩:=gj.1 (show x∈u7.map (D.int .i64)from F);rfl
  ·have B:k<u7.length:=by simpa [D.cells]using Y
   show W.cell? ⟨0,k,none⟩=_
   rw[ht k B];rfl
  have N:(u7.map (D.int .i64))[k]?=some x:=F
  rw[et]at N
  obtain⟨n,M,rfl⟩:=e5.1 N
  have B:k<u7.length:=(c5.1 M).1
  rw[ht k B,List.getD_eq_getElem?_getD,M]
  exact .int _ _
 have O:Nat.beq g 0=false:=by
  cases h:Nat.beq g 0 with
  |false=>rfl
  |true=>exact absurd (er h) G
 have e:pO g=none:=by simp only[pO,O,cond_false]
 rw[e]at j;cases j
end Go.Proofs.YthhlipkkjippfaaGreatDoor
namespace Go.Proofs.YthhlipkkjippfaaGreatDoor
open Go Go.ag Go.Sy
variable [mP]
set_option maxRecDepth 100000
noncomputable def oV:Int->Option Int:=λ(j)=>ae (ai (j8 j)) <|some (max j (j8 j))
noncomputable def Cw:=bk [tI] [tI] oV [] Tryz.func216
end Go.Proofs.YthhlipkkjippfaaGreatDoor
namespace Go.Proofs.YthhlipkkjippfaaGreatDoor
open Go Go.ag bP
variable [mP]
attribute [local instance] ch
set_option maxRecDepth 10000
instance:bP eQ:=⟨λr=>.agg [.int .i64 r.n,.int .i64 r.d],λd=>match d with |.agg [.int _ j,.int _ k]=>⟨j,k⟩|_=>⟨0,0⟩,2,λ_=>rfl,λ_=>rfl,by simp[D.cells,D.one,th]⟩
theorem TE(r:eQ):bP.enc r=.agg [.int .i64 r.n,.int .i64 r.d]:=rfl
theorem Te(B F:IntKind)(j:Int)(k:Int):(bP.dec (.agg [.int B j,.int F k]):eQ)=⟨j,k⟩:=rfl
theorem Ze:bP.size eQ=2:=rfl
theorem Od:jJ 3=some ⟨1,8,[.int .i64 0],.dS .i64⟩:=rfl
theorem Oc:jJ 4=some ⟨1,1,[.bool false],.jc⟩:=rfl
theorem Z2:jJ 241=some ⟨1,8,[.iU],.jc⟩:=rfl
theorem Z1:jJ 117=some ⟨2,16,[.int .i64 0,.int .i64 0],.struct [(0,3),(1,3)]⟩:=rfl
noncomputable def env(l:List (FuncId×ag.Spec)):Env:={E:=jJ,C:=qQ l,jA:=eqs,P:=Tryz.prog}
def ow{l:List (FuncId×ag.Spec)}(h:sQ Tryz.prog l):cA Tryz.prog (env l):=haveI:=ch;⟨Oe,h.ok,Jr,(λ_ _ _ _ h=>by cases h),rfl⟩
attribute [local congr] aL.IW
attribute [local simp] dP fT dA aX bN ag.get lY strip bR ag.after qT typed lR holds dJ R.ok R.bad kN eS ve nI GM xK Op.operands Call.operands dx cV fh dq sY qM fM qQ nM jC NU NV NW NX qU Jk I8 I6 NC bx D.cells T.fS D.one gk fi iO gJ setAt fo iD mL kv mh bD dm jV iq jY jH yI arith fH rz rp eM lF se TD.agg env cD List.map gd Mz MA MB MC MD MF MG MH Jm ND I9 NY sA NZ N0 N1 oQ BG gone unbox mf k9 lv lN Jl I7 NB Nq CR List.contains_cons List.contains_nil Jh TE Te Ze Od Oc Z2 Z1
noncomputable def GF:ag.Spec:=sA λ(j:Int)=>(oV j).map λr=>enc r
def W3:qH Tryz.prog 216 GF:=qH.LR Cw.k.enters λa r h=>by
 obtain⟨y,j,rfl⟩:=e5.1 h
 exact Cw.k.ly a y j
def gr(a b:Int):Int:=if h:b=0 then a else gr b (a.tmod b)
termination_by b.natAbs
decreasing_by
 rw[abA]
 exact q6 _ (by omega)
def Bh(a:Int):gr a 0=a:=by rw[gr];simp
def FU{a b:Int}(h:b≠0):gr a b=gr b (a.tmod b):=by rw[gr];simp[h]
def Nr:∀(k:Nat)(a b:Int){j:List AO}{id:Nat},b.natAbs<=k->j[id]?=some (.var 241 [.aD 230 [.ptr id 0]])->pt j ->
  iP Tryz.prog 230 [.d (.int .i64 a),.d (.int .i64 b),.ptr id 0] j λu l'=>u=.d (.int .i64 (gr a b))/\∃vals ft,l'=j++[.frame j.length vals ft]
 |k,a,b,j,id,hk,U,af=>by
  have B:cA Tryz.prog (env []):=ow trivial
  refine iP.of B (Enters.of Tryz.func230 (by decide)) Tryz.func230 rfl (by rw[Tryz.ntmps230];simp) λR au w0 I0 vals ft Q ad=>?_
  rw[Tryz.ntmps230]
  have M:=UO U [.frame j.length vals ft]
  have N:=af.frame vals ft
  have ae:(j++[AO.frame j.length vals ft])[j.length]?=some (.frame j.length vals ft):=by simp
  have G:∀(n:Int)(t:Tm),ag.get t 5=.d (.int .i64 n)->n=gr a b->∀st,ag.Sub st ⟨t,j++[AO.frame j.length vals ft]⟩->Q .ret st:=by
   intro n t ht ah st aj
   refine ad _ _ (.inl rfl) ⟨_,aj,by simp[fq],ae,?_,vals,ft,rfl⟩
   simp[fq,xS,ht,ah]
  have av:id<j.length:=(c5.1 U).1
  obtain⟨L,ab⟩:∃L,L=j++[AO.frame j.length vals ft]:=⟨_,rfl⟩
  rw[<-ab]at M N G⊢
  simp only[jf]
  refine aL.rS B none [0,1,2] λK ak=>?_
  simp
  refine ep (s':=⟨[(0,.d (.int .i64 a)),(1,.d (.int .i64 b)),(2,.ptr id 0)],L⟩) (by first|rfl|simp) (ak _ ?_)
  refine aL.Gw (λs'=>b≠0/\Sub s' ⟨[(0,.d (.int .i64 a)),(1,.d (.int .i64 b)),(2,.ptr id 0)],L⟩) (λ_ al=>?_) ?_
  ·refine aL.rS B none [0,1,2,7] λK O=>?_
   simp
   refine ep (s':=⟨[(0,.d (.int .i64 a)),(1,.d (.int .i64 b)),(2,.ptr id 0),(7,.d (.bool (decide (b=0))))],L⟩) (by first|rfl|simp) (O _ ?_)
   refine aL.cond (b:=decide (b=0)) rfl (λh=>?_) λh=>?_
   ·have F:b=0:=by simpa using h
    refine aL.rS B none [5] λK an=>?_
    simp
    refine ep (s':=⟨[(5,.d (.int .i64 a))],L⟩) (by first|rfl|simp) (an _ ?_)
    refine aL.ret ?_
    exact G a _ rfl (by rw[F,Bh]) _ (Sub.refl _)
   refine aL.skip (al _ ⟨by simpa using h,Sub.sw (by simp[oy])⟩)
  rintro s' ⟨F,ai⟩
  refine aL.sub ai ?_
  refine aL.My B mixed none 5 [] [9,10,13] [5] (by decide) (by decide) λK O aq Z=>?_
  simp[M,F]
  refine ep (s':=⟨[(9,.aD 230 [.ptr id 0]),(10,.d (.int .i64 b)),(13,.d (.int .i64 (a.tmod b)))],L⟩) (by first|rfl|simp) (Z _ ?_)
  refine dy.call B 230 [.d (.int .i64 b),.d (.int .i64 (a.tmod b)),.ptr id 0] rfl rfl trivial (by decide) (by simp[ez]) λar aa=>?_
  have aw:(a.tmod b).natAbs<b.natAbs:=by rw[abA];exact q6 _ (by omega)
  match k,hk with
  |0,hk=>omega
  |k+1,hk=>
   refine(Nr k b (a.tmod b) (by omega) M N).mono ?_
   rintro _ _ ⟨rfl,ao,Y,rfl⟩
   refine aa _ _ (dy.fin B none ?_)
   simp
   refine ep (s':=⟨[(5,.d (.int .i64 (gr b (a.tmod b))))],L++[.frame L.length ao Y]⟩) (by first|rfl|simp) (O _ ?_)
   refine aL.ret ?_
   exact G _ [(5,.d (.int .i64 (gr b (a.tmod b))))] rfl (FU F).symm _ (Sub.drop N (by simp[T.dF]) (by simp[oy]))
noncomputable def uh(f:eQ)(g:Int):Option eQ:=bS (g≠0) (bS (iC (f.n.tdiv g)) (bS (iC (f.d.tdiv g)) (some ⟨f.n.tdiv g,f.d.tdiv g⟩)))
noncomputable def qg(f:eQ):Option eQ:=
 aa (oV f.n) λa=>aa (oV f.d) λb=>
 ab (decide (f.d<0)) (bS (iC (0-gr a b)) (uh f (0-gr a b))) (uh f (gr a b))
noncomputable def NT:ag.Spec:=sA λ(f:eQ)=>(qg f).map λr=>enc r
def LU:qH Tryz.prog 143 NT:=by
 have k:cA Tryz.prog (env [(216,GF)]):=ow ⟨W3,trivial⟩
 refine qH.LR (Enters.of Tryz.func143 (by decide)) ?_
 intro f an M
 obtain⟨r,j,rfl⟩:=e5.1 M
 clear M
 refine fE.LS k Tryz.func143 rfl (by rw[Tryz.ntmps143];simp) λR al w0 I0 Q ab=>?_
 rw[Tryz.ntmps143]
 unfold qg at j
 obtain⟨a,ad,j⟩:=IB j
 obtain⟨b,ae,j⟩:=IB j
 refine aL.rS k none [1,2] λK B=>?_
 simp
 refine ep (s':=⟨[(1,.ptr 0 0),(2,.ptr 1 0)],[.var 117 (bx (.d (enc f))),.var 117 [.d (.int .i64 0),.d (.int .i64 0)]]⟩) (by first|rfl|simp) (B _ ?_)
 refine aL.rS k none [1,2,3] λK B=>?_
 simp
 refine ep (s':=⟨[(1,.ptr 0 0),(2,.ptr 1 0),(3,.ptr 2 0)],[.var 117 (bx (.d (enc f))),.var 117 [.d (.int .i64 0),.d (.int .i64 0)],.var 241 [.d .iU]]⟩) (by first|rfl|simp) (B _ ?_)
 refine aL.rS k none [1,2,3] λK B=>?_
 simp
 refine ep (s':=⟨[(1,.ptr 0 0),(2,.ptr 1 0),(3,.ptr 2 0)],[.var 117 (bx (.d (enc f))),.var 117 [.d (.int .i64 0),.d (.int .i64 0)],.var 241 [.aD 230 [.ptr 2 0]]]⟩) (by first|rfl|simp) (B _ ?_)
 refine aL.My k mixed none 7 [] [1,2,6,9,12] [1,2,4] (by decide) (by decide) λK ag aj Z=>?_
 simp[GF,ad,ae]
 refine ep (s':=⟨[(1,.ptr 0 0),(2,.ptr 1 0),(6,.aD 230 [.ptr 2 0]),(9,.d (.int .i64 a)),(12,.d (.int .i64 b))],[.var 117 (bx (.d (enc f))),.var 117 [.d (.int .i64 0),.d (.int .i64 0)],.var 241 [.aD 230 [.ptr 2 0]]]⟩) (by first|rfl|simp) (Z _ ?_)
 refine dy.call k 230 [.d (.int .i64 a),.d (.int .i64 b),.ptr 2 0] rfl rfl trivial (by decide) (by simp[ez]) λak aa=>?_
 refine(Nr b.natAbs a b (eb _) rfl (by simp[pt,AO.dF,T.dF,T.pW])).mono ?_
 rintro _ _ ⟨rfl,ai,O,rfl⟩
 refine aa _ _ (dy.fin k none ?_)
 simp
 refine ep (s':=⟨[(1,.ptr 0 0),(2,.ptr 1 0),(4,.d (.int .i64 (gr a b)))],[.var 117 (bx (.d (enc f))),.var 117 [.d (.int .i64 0),.d (.int .i64 0)],.var 241 [.aD 230 [.ptr 2 0]]]++[.frame 3 ai O]⟩) (by first|rfl|simp) (ag _ ?_)
 refine aL.sub (s':=⟨[(1,.ptr 0 0),(2,.ptr 1 0),(4,.d (.int .i64 (gr a b)))],[.var 117 (bx (.d (enc f))),.var 117 [.d (.int .i64 0),.d (.int .i64 0)]]⟩) (Sub.bV [0,1] (by decide) (by simp[ng]) (by simp[c6,AO.bV,T.bV,T.cZ]) (by simp[kx,T.bV,T.cZ,idx])) ?_
 refine aL.Gw (λs'=>∃g,uh f g=some r/\Sub s' ⟨[(1,.ptr 0 0),(2,.ptr 1 0),(4,.d (.int .i64 g))],[.var 117 (bx (.d (enc f))),.var 117 [.d (.int .i64 0),.d (.int .i64 0)]]⟩) (λ_ N=>?_) ?_
 ·refine aL.rS k none [1,2,4,16] λK ah=>?_
  simp
  refine ep (s':=⟨[(1,.ptr 0 0),(2,.ptr 1 0),(4,.d (.int .i64 (gr a b))),(16,.d (.bool (decide (f.d<0))))],[.var 117 (bx (.d (enc f))),.var 117 [.d (.int .i64 0),.d (.int .i64 0)]]⟩) (by first|rfl|simp) (ah _ ?_)
  refine aL.cond (b:=decide (f.d<0)) rfl (λh=>?_) λh=>?_
  ·replace j:=Ve h j
   obtain⟨F,j⟩:=y3 j
   unfold iC at F
   refine aL.Bw k none [1,2,4] λK G=>?_
   simp
   refine And.intro (by omega) ?_
   refine ep (s':=⟨[(1,.ptr 0 0),(2,.ptr 1 0),(4,.d (.int .i64 (0-gr a b)))],[.var 117 (bx (.d (enc f))),.var 117 [.d (.int .i64 0),.d (.int .i64 0)]]⟩) (by first|rfl|simp) (G _ ?_)
   exact N _ ⟨_,j,Sub.refl _⟩
  replace j:=Va h j
  exact aL.skip (N _ ⟨_,j,Sub.sw (by simp[oy])⟩)
 rintro s' ⟨g,j,af⟩
 refine aL.sub af ?_
 unfold uh at j
 obtain⟨F,j⟩:=y3 j
 obtain⟨U,j⟩:=y3 j
 obtain⟨Y,j⟩:=y3 j
 unfold iC at U Y
 have j:=pa j
 subst j
 refine aL.Yj k mixed none 9 [] [2] (by decide) λK G=>?_
 simp
 repeat refine And.intro (by first|omega|exact F) ?_
 refine ep (s':=⟨[(2,.ptr 1 0)],[.var 117 (bx (.d (enc f))),.var 117 (bx (.d (enc (⟨f.n.tdiv g,f.d.tdiv g⟩:eQ))))]⟩) (by first|rfl|simp) (G _ ?_)
 refine aL.ret ?_
 refine ab _ _ (.inl rfl) ?_
 simp[xA,fq,fo]
open Go.Sy
noncomputable def uy:eQ->Option eQ:=qg
noncomputable def yt:Sy.Callee:=⟨143,[.st 20],[.st 20],uy⟩
def Ys(a r:eQ)(h:qg a=some r):fE Tryz.prog 143 [enc a] (enc r):=LU.ly [enc a] (enc r) (enc (dec (enc a):eQ)=enc a/\((qg (dec (enc a))).map λr=>enc r).isSome=true) (by
 simp only[NT,sA,vG,h,Option.map_some,oQ]
 rfl) ⟨by rw[vG],by simp[vG,h]⟩
def VA:ij Tryz.prog yt:=⟨LU.enters,λa r h=>Ys a r h,λt h=>cP (dT.1 (rfl:yt.args.all dV=true) t h),λt h=>cP (dT.1 (rfl:yt.res.all dV=true) t h)⟩
noncomputable def Ia:Bk:=⟨yt,VA⟩
end Go.Proofs.YthhlipkkjippfaaGreatDoor