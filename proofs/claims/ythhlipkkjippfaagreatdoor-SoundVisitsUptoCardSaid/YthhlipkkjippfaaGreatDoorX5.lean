import Derived.Test.YthhlipkkjippfaaGreatDoorX4
set_option linter.all false
namespace Go.Sy
open Go Go.ag
variable [aG][cQ][cK][dw][bq]
section
variable {P:Program}{V:Env}{C:Cx}{o:Oper}{ρX:Operand->TX}{ρT:Operand->T}{lX:List AX}{l:List AO}{n nid:Nat}{cs:List Callee}{ρ ρ':aS}{q:dB}
def TJ{t:Ty}(h:isVal t)(v:t.den):(t.ff v).2=[t.enc v]:=by cases t<;>first|rfl|exact absurd rfl (h.1 _ _)|exact absurd rfl h.2
theorem yJ:∀{ts:List Ty}{a:(ba ts).den},(∀t∈ts,isVal t)->((ba ts).ff a).2=ec ts a
 | [],a,_=>rfl
 | [t],a,h=>TJ (h t (by simp)) a
 |t::u::ts,a,h=>by
  show(t.ff a.1).1::((ba (u::ts)).ff a.2).2=_
  rw[yJ (ts:=u::ts) (λw j=>h w (nb _ j))]
  rfl
def OB:∀{xs:List TX}{F:List T}{ps:List (Ty×X)},F2 (RX ρ) xs F->xs.mapM tf=some ps->∃a:(ba (ps.map (·.1))).den,kc ρ (ps.map (·.1)) (ps.map (·.2)) a/\F=(ec (ps.map (·.1)) a).map .d/\∀t∈ps.map (·.1),isVal t
 | [],F,ps,G,h=>by
  cases G
  simp at h;subst h
  exact⟨(),⟨rfl,λj t h=>by simp at h⟩,rfl,λt h=>by simp at h⟩
 |x::xs,F,ps,G,h=>by
  cases G with
  |cons Z aa=>
   simp only[k8,Option.bind_eq_bind,k3,Option.pure_def,c4]at h
   obtain⟨p,B,M,ad,rfl⟩:=h
   have:=I2 B
   subst this
   obtain⟨a,ag,ah,ai⟩:=OB aa ad
   obtain⟨ae,v,N,aj⟩:=kq Z
   have e:∀(ts:List Ty)(a:(ba ts).den)(ys:List X),kc ρ ts ys a->∃b:(ba (p.1::ts)).den,kc ρ (p.1::ts) (p.2::ys) b/\ec (p.1::ts) b=p.1.enc v::ec ts a:=by
    intro ts a ys B
    cases ts with
    |nil=>
     refine⟨v,⟨by simp[B.1],λj w k=>?_⟩,rfl⟩
     cases j with
     |zero=>simp at k;subst k;exact⟨p.2,rfl,by simpa [cW]using N⟩
     |succ j=>simp at k
    |cons u ts=>
     refine⟨(v,a),⟨by simp[B.1],λj w k=>?_⟩,rfl⟩
     cases j with
     |zero=>simp at k;subst k;exact⟨p.2,rfl,by simpa [cW]using N⟩
     |succ j=>
      obtain⟨y,af,ab⟩:=B.2 j w (by simpa using k)
      exact⟨y,by simpa using af,by simpa [cW]using ab⟩
   obtain⟨b,O,U⟩:=e _ a _ ag
   refine⟨b,O,?_,?_⟩
   ·have Y:ec (List.map (λx:Ty×X=>x.1) (p::M)) b=p.1.enc v::ec (M.map λx:Ty×X=>x.1) a:=U
    rw[Y,aj,ah];rfl
   intro t ht
   rcases fb.1 ht with rfl|ht
   ·exact ae
   exact ai t ht
def De{xs:List Operand}(h:∀x∈xs,RX ρ (ρX x) (ρT x)):F2 (RX ρ) (xs.map ρX) (xs.map ρT):=by
 induction xs with
 |nil=>exact .nil
 |cons x xs k=>exact .cons (h x (by simp)) (k λy j=>h y (by simp[j]))
def V9(M:bU P V C){g:FuncId}{first caps:Array Operand}(G:o.op=.makeFunc (.func g) first caps)(U:∀x∈o.op.operands,RX ρ (ρX x) (ρT x))(h:dQ C ρX lX n nid o=some q)(hi:cu cs n ρ q.ins ρ'):cO P o ρT l nid ρ' q:=by
 have Y:∀x∈caps.toList,RX ρ (ρX x) (ρT x):=λx ab=>U x (by simp[G,Op.operands];right;simpa using ab)
 have j:=De Y
 simp only[dQ,G]at h
 cases B:first.isEmpty with
 |false=>simp[B]at h
 |true=>
  have N:aX V ρT l nid o=.ok (mf g (caps.toList.map ρT)):=by simp only[aX,G,B,hK]
  simp only[B,cond_true]at h
  split at h
  ·rename_i ps aa
   have:=gY h;subst this;cases hi
   obtain⟨a,O,ae,af⟩:=OB j aa
   have e:mf g (caps.toList.map ρT)=.d (Ty.enc (.aD g (ba (ps.map λx:Ty×X=>x.1))) a):=by
    have F:∀ds:List D,(ds.map T.d).mapM fi=some ds:=by
     intro ds
     induction ds with
     |nil=>rfl
     |cons d ds ad=>simp[fi,ad]
    rw[ae]
    unfold mf
    rw[F]
    show T.d (.aD g _)=T.d (.aD g _)
    rw[yJ af]
   refine .val M.ok N trivial rfl ?_
   show RX ρ _ (mf g (caps.toList.map ρT))
   rw[e]
   refine .d (.aD g (ba (ps.map λx:Ty×X=>x.1))) _ a (cP rfl) ?_
   simp only[X.den,qy O.1 O.2]
  have:=gY h;subst this;cases hi
  refine .val M.ok N trivial rfl ?_
  show RX ρ _ (mf g (caps.toList.map ρT))
  unfold mf
  cases F:(caps.toList.map ρT).mapM fi with
  |none=>exact .aD g _ _ j.len λi c t k ht=>j.get k ht
  |some ds=>
   have:=Ez F
   rw[this]at j
   exact .ju g _ ds (by simpa using j.len) λi c d k Z=>j.get k (by simp[Z])
theorem SS:∀{t:Ty}{x:X}{v:t.den}{r:List TX},x.den ρ=some ⟨t,v⟩->oi t x=some r->F2 (RX ρ) r ((t.ff v).2.map .d):=by
 intro t
 induction t with
 |aN a b _ M=>
  intro x v r j h
  simp only[oi]at h
  cases k:dV a with
  |false=>simp[k]at h
  |true=>
   simp only[k,cond_true]at h
   split at h
   ·rename_i N G
    simp only[c4]at h;subst h
    have B:=Ka (p:=v) j
    have F:=NI (p:=v) j
    exact .cons (.d a _ v.1 (cP k) B) (M F G)
   cases h
 |unit=>intro x v r j h;simp only[oi,c4]at h;subst h;exact .nil
 |_=>intro x v r j h;simp only[oi,c4]at h;subst h;exact .cons (.d _ x v (cP rfl) j) .nil
def CT{x:TX}{u:T}{g:FuncId}{r:List TX}(Z:RX ρ x u)(h:lx x=some (g,r)) :
  ∃k:List T,F2 (RX ρ) r k/\((u=.aD g k)\/(u=.d (.fn g)/\k=[])\/∃ds,u=.d (.aD g ds)/\k=ds.map .d):=by
 cases Z with
 |aD f cs ts F j=>
  simp only[lx,c4,e0]at h
  obtain⟨rfl,rfl⟩:=h
  exact⟨ts,F2.of F j,.inl rfl⟩
 |ju f cs ds F j=>
  simp only[lx,c4,e0]at h
  obtain⟨rfl,rfl⟩:=h
  exact⟨ds.map .d,F2.of (by simpa using F) (λi c t O ht=>by
   simp only[et,e5]at ht
   obtain⟨d,U,rfl⟩:=ht
   exact j i c d O U),.inr (.inr ⟨ds,rfl,rfl⟩)⟩
 |d t x v F j=>
  cases t with
  |fn B=>
   simp only[lx,c4,e0]at h
   obtain⟨rfl,rfl⟩:=h
   exact⟨[],.nil,.inr (.inl ⟨rfl,rfl⟩)⟩
  |aD B t=>
   have key:∀y:X,y.den ρ=some ⟨t,v⟩->(oi t y).map (λr=>(B,r))=some (g,r)->∃k:List T,F2 (RX ρ) r k/\((T.d (Ty.enc (.aD B t) v)=.aD g k)\/(T.d (Ty.enc (.aD B t) v)=.d (.fn g)/\k=[])\/∃ds,T.d (Ty.enc (.aD B t) v)=.d (.aD g ds)/\k=ds.map .d):=by
    intro y G M
    simp only[e5,e0]at M
    obtain⟨aa,Y,rfl,rfl⟩:=M
    exact⟨_,SS (t:=t) (v:=v) G Y,.inr (.inr ⟨(t.ff v).2,rfl,rfl⟩)⟩
   by_cases N:∃f y,x=.aD f y
   ·obtain⟨f,y,rfl⟩:=N
    simp only[lx]at h
    refine key y ?_ h
    simp only[X.den]at j
    cases G:X.den ρ y with
    |none=>simp[G]at j
    |some w=>simp only[G,c4]at j;cases j;rfl
   have e:lx (.d (.aD B t) x)=(oi t (.u1 .G2 x)).map λr=>(B,r):=by cases x<;>first|rfl|exact absurd ⟨_,_,rfl⟩ N
   rw[e]at h
   exact key _ (by simp only[X.den,j];rfl) h
  |_=>simp[lx]at h
 |_=>simp[lx]at h
def GZ(F:bU P V C):∀{ts:List TypeId}{xs:List TX}{j:List T},F2 (RX ρ) xs j->F2 (RX ρ) (pf C.E ts xs) (fM V.E ts j)
 | [],xs,j,h=>by cases h<;>exact by first|exact .nil| (rename_i k B;exact .cons k B)
 |t::ts,[],j,h=>by cases h;exact .nil
 |t::ts,x::xs,j,h=>by
  cases h with
  |cons k B=>exact .cons (BX F k t) (GZ F B)
def o7(c:Callee):mS:=⟨c.f,c.args,c.res⟩
def JH(Z:RL ρ lX l){g:FuncId}{ts:List TX}{ab:List T}(aa:F2 (RX ρ) ts ab):∀{F:List mS}{k B:Nat}{xs:List X}{l':List AX}{s:mS},rh lX g ts F k=some (B,xs,l',s) ->
  ∃j,B=k+j/\F[j]?=some s/\s.f=g/\hY lX s.args ts=some (xs,l')
 | [],k,B,xs,l',s,h=>by simp[rh]at h
 |s0::F,k,B,xs,l',s,h=>by
  have M:rh lX g ts F (k+1)=some (B,xs,l',s)->∃j,B=k+j/\(s0::F)[j]?=some s/\s.f=g/\hY lX s.args ts=some (xs,l'):=λh=>by
   obtain⟨j,ad,N,O,U⟩:=JH Z aa h
   exact⟨j+1,by omega,by simpa using N,O,U⟩
  simp only[rh]at h
  cases G:Nat.beq s0.f g with
  |false=>simp only[G,cond_false]at h;exact M h
  |true=>
   simp only[G,cond_true]at h
   split at h
   ·rename_i ys l1 Y
    simp only[c4,e0]at h
    obtain⟨rfl,rfl,rfl,rfl⟩:=h
    exact⟨0,rfl,rfl,er G,Y⟩
   exact M h
def YD{v:X}{ts:List Ty}{a:(ba ts).den}(F:∀t∈ts,isVal t)(h:v.den ρ=some ⟨ba ts,a⟩):RX ρ (nP v ts) (.d ((ba ts).enc a)):=by
 match ts,a,F,h with
 | [],a,_,_=>exact .fW [] [] rfl λi c d B=>by simp at B
 | [t],a,F,h=>exact .d t v a (F t (by simp)) h
 |t::u::ts,a,F,h=>
  have e:(ba (t::u::ts)).enc a=.aN (ec (t::u::ts) a):=by rw[<-yJ F];rfl
  rw[e]
  have key:∀(m:Nat)(ws:List Ty)(b:(ba ws).den)(j:Nat),j+ws.length=(t::u::ts).length->(∀w∈ws,isVal w)->(∀k w,ws[k]?=some w->(rO (t::u::ts).length (j+k) v).den ρ=cW ws b k)->∀(i:Nat) c d,(nP.mY (t::u::ts).length v ws j)[i]?=some c->(ec ws b)[i]?=some d->RX ρ c (.d d):=by
   intro m ws
   induction ws with
   |nil=>intro b j _ _ _ i c d B;simp[nP.mY]at B
   |cons w ws N=>
    intro b j Z M U i c d B G
    have O:=U 0 w rfl
    cases i with
    |zero=>
     simp only[nP.mY,List.getElem?_cons_zero,c4]at B
     subst B
     cases ws with
     |nil=>
      simp[ec]at G;subst G
      exact .d w _ b (M w (by simp)) (by simpa [cW]using O)
     |cons Y ws=>
      simp[ec]at G;subst G
      exact .d w _ b.1 (M w (by simp)) (by simpa [cW]using O)
    |succ i=>
     cases ws with
     |nil=>simp[nP.mY]at B
     |cons Y ws=>
      simp only[nP.mY,List.getElem?_cons_succ]at B
      exact N b.2 (j+1) (by simp at Z⊢;omega) (λw aa=>M w (nb _ aa)) (λk z ab=>by
       have:=U (k+1) z (by simpa using ab)
       rw[show j+1+k=j+(k+1) by omega]
       simpa [cW]using this) i c d B (by simpa [ec]using G)
  refine .fW _ _ ?_ (key 0 (t::u::ts) a 0 (by simp) F λk w M=>by
   rw[hV]
   exact zK k h (c5.1 M).1)
  have l1:∀(m:Nat)(ws:List Ty)(j:Nat),(nP.mY m v ws j).length=ws.length:=by
   intro m ws
   induction ws with
   |nil=>intro j;rfl
   |cons w ws N=>intro j;simp[nP.mY,N]
  have ad:∀(ws:List Ty)(b:(ba ws).den),(ec ws b).length=ws.length:=by
   intro ws
   induction ws with
   |nil=>intro b;rfl
   |cons w ws N=>
    intro b
    cases ws with
    |nil=>rfl
    |cons Y ws=>simp[ec,N]
  show(nP.mY _ v _ 0).length=_
  rw[l1,ad]
structure il(P:Program)(C:Cx)(cs:List Callee):Prop where
 sigs:∀(j:Nat)(s:mS),C.sigs[j]?=some s->∃c:Callee,cs[j]?=some c/\o7 c=s/\ij P c
 turns:∀s∈C.turns,∃fn:(ba (.list s.t::s.args)).den->Option (List s.t.den),cs[s.k]?=some (jm.mk s.f s.t s.args fn).pA/\nZ P s.f s.t s.args fn
theorem Ji{t:Ty}{ts:List Ty}{x:X}{xs:List X}{v:t.den}{a:(ba ts).den}(F:x.den ρ=some ⟨t,v⟩)(B:kc ρ ts xs a):∃b:(ba (t::ts)).den,kc ρ (t::ts) (x::xs) b/\ec (t::ts) b=t.enc v::ec ts a:=by
 cases ts with
 |nil=>
  have:xs=[]:=by simpa using B.1
  subst this
  refine⟨v,⟨rfl,λj u k=>?_⟩,rfl⟩
  cases j with
  |zero=>simp at k;subst k;exact⟨x,rfl,F⟩
  |succ j=>simp at k
 |cons u N=>
  refine⟨(v,a),⟨by simp[B.1],λj w k=>?_⟩,rfl⟩
  cases j with
  |zero=>simp at k;subst k;exact⟨x,rfl,F⟩
  |succ j=>
   obtain⟨y,G,M⟩:=B.2 j w (by simpa using k)
   exact⟨y,by simpa using G,M⟩
def JI{g:FuncId}{t:Ty}{ts:List TX}:∀{j:List lq}{s:lq}{xs:List X}{l':List AX},pM lX g t ts j=some (s,xs,l')->s∈j/\s.t=t/\s.f=g/\hY lX s.args ts=some (xs,l')
 | [],s,xs,l',h=>by simp[pM]at h
 |s0::j,s,xs,l',h=>by
  have B:pM lX g t ts j=some (s,xs,l')->s∈s0::j/\s.t=t/\s.f=g/\hY lX s.args ts=some (xs,l'):=λh=>by
   obtain⟨F,G⟩:=JI h
   exact⟨nb _ F,G⟩
  simp only[pM]at h
  split at h
  ·rename_i ht
   cases k:Nat.beq s0.f g with
   |false=>simp only[k,cond_false]at h;exact B h
   |true=>
    simp only[k,cond_true]at h
    split at h
    ·rename_i ys l1 M
     simp only[c4,e0]at h
     obtain⟨rfl,rfl,rfl⟩:=h
     exact⟨LL,ht,er k,M⟩
    exact B h
  exact B h
def JG{g:FuncId}{ts:List TX}:∀{j:List lq}{s:lq}{xs:List X}{l':List AX},rf lX g ts j=some (s,xs,l')->s∈j/\s.f=g/\hY lX s.args ts=some (xs,l')
 | [],s,xs,l',h=>by simp[rf]at h
 |s0::j,s,xs,l',h=>by
  have B:rf lX g ts j=some (s,xs,l')->s∈s0::j/\s.f=g/\hY lX s.args ts=some (xs,l'):=λh=>by
   obtain⟨F,G⟩:=JG h
   exact⟨nb _ F,G⟩
  simp only[rf]at h
  cases k:Nat.beq s0.f g with
  |false=>simp only[k,cond_false]at h;exact B h
  |true=>
   simp only[k,cond_true]at h
   split at h
   ·rename_i ys l1 M
    simp only[c4,e0]at h
    obtain⟨rfl,rfl,rfl⟩:=h
    exact⟨LL,er k,M⟩
   exact B h
def aaj(
         aW:il P C cs)(aY:RL ρ lX l){g:FuncId}{a1:List TX}{as:List T}(aV:F2 (RX ρ) a1 as)(ah:ez V.E ρT o=some (g,as))(h:GY C lX n g a1=some q)(hi:cu cs n ρ q.ins ρ')(ba:Ext ρ ρ'):cO P o ρT l nid ρ' q:=by
 have aX:=ba
 unfold GY at h
 split at h
 ·rename_i id rest
  obtain⟨Y,F,rfl,O,aG⟩:∃Y F,as=Y::F/\RX ρ (.row id) Y/\F2 (RX ρ) rest F:=by
   cases aV with
   |cons av aw=>exact⟨_,_,rfl,av,aw⟩
  have O:=xC O
  subst O
  split at h
  ·rename_i e t x bp
   split at h
   ·rename_i s xs l' aF
    split at h
    ·rename_i ao t' bq bb
     split at h
     ·rename_i ad
      obtain⟨rfl,rfl⟩:=ad
      simp only[c4]at h
      subst h
      obtain⟨aq,a6,ar,au⟩:=JI aF
      subst a6;subst ar
      obtain⟨a,G,aJ,aK,ak⟩:=u9 aY aG au
      obtain⟨bo,a7,a8⟩:=F2.left ak bb
      cases a8 with
      |row _ _ _ zs ag bm=>
      obtain⟨b,ab,an⟩:=Ji bm aJ
      cases hi with
      |call _ _ _ _ _ _ D al y aP aQ aR aS=>
       cases aS
       obtain⟨fn,M,Z⟩:=aW.turns s aq
       rw[aP]at M
       injection M with M
       subst M
       have:=(qy ab.1 ab.2).symm.trans aQ
       injection this with this
       have ax:b=al:=by injection this
       subst ax
       refine⟨.d (.aN []),.fW [] [] rfl (λi c d ay=>by simp at ay),G.set id (.row ao s.t.size (List.map s.t.enc y)),F2.set (RL.mono aX ak) (.row ao s.t (.var n) y ag (show lk _ n=_ from jZ n ⟨.list s.t,y⟩ ρ)) id,λbd=>?_⟩
       refine⟨vC ah,λw0 I0 w I m aU aD aI=>?_⟩
       obtain⟨j,aE,ae,af⟩:=qS (P:=P) (w:=w) (ρ:=aU) Z.enters aI ah
       rw[aE]
       show Calls P s.f j w _
       obtain⟨aa,vs,U⟩:∃ag vs,j.toList=ag::vs:=by
        cases aB:j.toList with
        |nil=>
             have:j.toList.length=F.length+1:=by simpa using ae
             rw[aB]at this;simp at this
        |cons a b=>exact⟨a,b,rfl⟩
       have aH:vs.length=F.length:=by
        have:j.toList.length=F.length+1:=by simpa using ae
        rw[U]at this;simpa using this
       have N:∀(i:Nat),j[i]?=(aa::vs)[i]?:=λi=>by rw[<-U];simp
       obtain⟨J,aj,aT,aA,aC,_⟩:=oa F l I vs _ G aD aH (λi v x k B=>af (i+1) v x (by rw[N];simpa using k) (by simpa using B)) aK
       have ai:=Z.ly b y aR G id ao (List.map s.t.enc zs) (ec s.args a) (by rw[an,th]) a7
       refine(ai w0 I0 w J m j aT (by rw[<-Array.length_toList,U];simpa using aA) λi v x k B=>?_).mono ?_
       ·rw[N]at k
        cases i with
        |zero=>
         simp at k B;subst k;subst B
         exact(af 0 aa (.row id) (by rw[N];rfl) rfl).mono aj
        |succ i=>
         simp only[List.getElem?_cons_succ]at k B
         rw[et,e5]at B
         obtain⟨d,az,rfl⟩:=B
         exact .d _ _ (aC i v d k az)
       rintro e bn ⟨v,ad,J',m',aL,aM,aO⟩
       exact⟨v,ad,J',m',aj.trans aL,aM,aO⟩
     cases h
    cases h
   cases h
  cases h
 ·rename_i sz rest
  obtain⟨Y,F,rfl,O,aG⟩:∃Y F,as=Y::F/\RX ρ (.bC sz) Y/\F2 (RX ρ) rest F:=by
   cases aV with
   |cons av aw=>exact⟨_,_,rfl,av,aw⟩
  have O:=zD O
  subst O
  split at h
  ·rename_i s xs l' aF
   simp only[c4]at h
   subst h
   obtain⟨aq,ar,au⟩:=JG aF
   subst ar
   obtain⟨a,G,aJ,aK,ak⟩:=u9 aY aG au
   obtain⟨b,ab,an⟩:=Ji (t:=.list s.t) (x:=.nil s.t) (v:=([]:List s.t.den)) rfl aJ
   cases hi with
   |call _ _ _ _ _ _ D al y aP aQ aR aS=>
    cases aS
    obtain⟨fn,M,Z⟩:=aW.turns s aq
    rw[aP]at M
    injection M with M
    subst M
    have:=(qy ab.1 ab.2).symm.trans aQ
    injection this with this
    have ax:b=al:=by injection this
    subst ax
    refine⟨.d (.aN []),.fW [] [] rfl (λi c d ay=>by simp at ay),G++[.row 0 s.t.size (List.map s.t.enc y)],F2.app (RL.mono aX ak) (.cons (show bT ((n,⟨.list s.t,y⟩)::ρ) _ _ from .row 0 s.t (.var n) y Z.val (jZ n ⟨.list s.t,y⟩ ρ)) .nil),λbd=>?_⟩
    refine⟨vC ah,λw0 I0 w I m aU aD aI=>?_⟩
    obtain⟨j,aE,ae,af⟩:=qS (P:=P) (w:=w) (ρ:=aU) Z.enters aI ah
    rw[aE]
    show Calls P s.f j w _
    obtain⟨aa,vs,U⟩:∃ag vs,j.toList=ag::vs:=by
     cases aB:j.toList with
     |nil=>
          have:j.toList.length=F.length+1:=by simpa using ae
          rw[aB]at this;simp at this
     |cons a b=>exact⟨a,b,rfl⟩
    have aH:vs.length=F.length:=by
     have:j.toList.length=F.length+1:=by simpa using ae
     rw[U]at this;simpa using this
    have N:∀(i:Nat),j[i]?=(aa::vs)[i]?:=λi=>by rw[<-U];simp
    obtain⟨J,aj,aT,aA,aC,_⟩:=oa F l I vs _ G aD aH (λi v x k B=>af (i+1) v x (by rw[N];simpa using k) (by simpa using B)) aK
    haveI:=ch
    obtain⟨bj,bl,aZ,bc⟩:=aT.M4 0 s.t.size
    have bh:aa=.slice none 0 0:=by
     have:=af 0 aa (.bC sz) (by rw[N];rfl) rfl
     cases this;rfl
    have bf:(G++[AO.row 0 s.t.size []])[G.length]?=some (.row 0 s.t.size []):=by simp
    have ai:=Z.ly b y aR (G++[.row 0 s.t.size []]) G.length 0 [] (ec s.args a) (by rw[an,th];rfl) bf
    have bg:(G++[AO.row 0 s.t.size []]).set G.length (.row 0 s.t.size (List.map s.t.enc y))=G++[.row 0 s.t.size (List.map s.t.enc y)]:=by simp
    rw[bg]at ai
    refine(ai w0 I0 w J bj j bl (by rw[<-Array.length_toList,U];simpa using aA) λi v x k B=>?_).mono ?_
    ·rw[N]at k
     cases i with
     |zero=>
      simp at k B;subst k;subst B
      rw[bh]
      exact .row none 0 0 G.length (by simp) (λ_=>bc)
     |succ i=>
      simp only[List.getElem?_cons_succ]at k B
      rw[et,e5]at B
      obtain⟨d,az,rfl⟩:=B
      exact .d _ _ ((aC i v d k az).mono aZ.dg)
    rintro e bn ⟨v,ad,J',m',aL,aM,aO⟩
    exact⟨v,ad,J',m',aj.trans (aZ.trans aL),aM,aO⟩
  cases h
 cases h
def Sm(aq:bU P V C)(ah:il P C cs){c:Call}{f:Operand}(F:o.op=.call c)(B:c.callee=.value f)(ab:RL ρ lX l)(af:∀x∈o.op.operands,RX ρ (ρX x) (ρT x))(h:dQ C ρX lX n nid o=some q)(hi:cu cs n ρ q.ins ρ')(ag:Ext ρ ρ'):cO P o ρT l nid ρ' q:=by
 have ay:=ag
 have az:=af f (by simp[F,Op.operands,Call.operands,B])
 have au:∀x∈c.args.toList,RX ρ (ρX x) (ρT x):=λx G=>af x (by simp[F,Op.operands,Call.operands,B];right;simpa using G)
 simp only[dQ,F,B]at h
 split at h
 ·rename_i g ts aA
  obtain⟨ae,aM,aN⟩:=CT az aA
  have M:F2 (RX ρ) (pf C.E c.argTypes.toList (c.args.toList.map ρX)++ts) (fM V.E c.argTypes.toList (c.args.toList.map ρT)++ae):=(GZ aq (De au)).app aM
  have N:ez V.E ρT o=some (g,fM V.E c.argTypes.toList (c.args.toList.map ρT)++ae):=by
   rcases aN with e| ⟨e,rfl⟩| ⟨ds,e,rfl⟩
   ·simp only[ez,F,B,e]
   ·simp only[ez,F,B,e,mb]
   simp only[ez,F,B,e]
  generalize fM V.E c.argTypes.toList (c.args.toList.map ρT)++ae=as at M N
  cases aa:CE C lX n g (pf C.E c.argTypes.toList (c.args.toList.map ρX)++ts)with
  |none=>rw[aa]at h;exact aaj ah ab M N h hi ag
  |some a7=>
  rw[aa]at h
  simp only[c4]at h
  subst h
  have h:=aa
  unfold CE at h
  split at h
  ·rename_i k xs l' s aJ
   simp only[c4]at h;subst h
   obtain⟨j,a1,an,Y,ao⟩:=JH ab M aJ
   obtain⟨a,ai,aj,aP,aQ⟩:=u9 ab M ao
   cases hi with
   |call _ _ _ _ _ _ D al y aT aU aV aW=>
    cases aW
    have aB:k=j:=by omega
    subst aB
    obtain⟨aZ,O,aX,Z⟩:=ah.sigs _ _ an
    rw[aT]at O
    injection O with O
    subst O
    subst aX
    have:=(qy aj.1 aj.2).symm.trans aU
    injection this with this
    have ar:a=al:=by injection this
    subst ar
    have Y:D.f=g:=Y
    subst Y
    refine⟨_,YD Z.res (jZ n _ ρ),ai,RL.mono ay aQ,λa6=>?_⟩
    refine⟨vC N,λw0 I0 w I m aY aG G=>?_⟩
    obtain⟨U,aH,aD,aE⟩:=qS (P:=P) (w:=w) (ρ:=aY) Z.enters G N
    rw[aH]
    show Calls P D.f U w _
    obtain⟨J,aO,ak,aC,aF,_⟩:=oa as l I U.toList _ ai aG (by simpa using aD) (λi v x ad G=>aE i v x (by simpa using ad) G) aP
    refine(Z.ly a y aV w J U ak.sat (by rw[<-Array.length_toList];exact aC) (λi v d ad aw=>aF i v d (by simpa using ad) aw)).mono ?_
    rintro e a8 ⟨v,J',ax,av,aL,aK,aI⟩
    obtain⟨aR,aS⟩:=ak.call av aL aK
    exact⟨v,ax,J',m,aO.trans aS,aR,.d _ _ aI⟩
  cases h
 cases h
def cO.Hh{F:Operand->T}(h:cO P o F l nid ρ' q)(U:∀I m v x,x∈o.op.operands->ar I m l v (ρT x)->ar I m l v (F x)):cO P o ρT l nid ρ' q:=by
 have key:∀{t:T}{l':List AO},cn P o F l t l'->cn P o ρT l t l':=λh=>⟨h.1,λw0 I0 w I m ρ O Y=>h.2 w0 I0 w I m ρ O λx G=>U I m _ x G (Y x G)⟩
 obtain⟨t,N,j⟩:=h
 refine⟨t,N,?_⟩
 split at j
 ·exact key j
 ·obtain⟨M,k,B,Z⟩:=j
  exact⟨M,k,λh=>key (B h),λh=>key (Z h)⟩
 obtain⟨l',k,B⟩:=j
 exact⟨l',k,λh=>key (B h)⟩
def WA{x:Operand}(j:o.op=.nilCheck x)(B:RX ρ (ρX x) (ρT x))(h:(match ρX x with |.ptr id off=>eY (.ptr id off)|_=>none)=some q)(hi:cu cs n ρ q.ins ρ'):cO P o ρT l nid ρ' q:=by
 generalize ρX x=A at h B
 generalize N:ρT x=aa at B
 cases B with
 |ptr id off=>
  have:=gY h;subst this;cases hi
  refine⟨.ptr id off,.ptr _ _,⟨λc F=>(by rw[j]at F;cases F),λw0 I0 w I m r Y U=>?_⟩⟩
  have k:=U x (by simp[j,Op.operands])
  rw[N]at k
  generalize Z:r x=v at k
  cases k with
  |ptr _ b _ G M=>
   have O:(execOp r o).run P w=.ok (.value (.pointer (some ⟨b,off,none⟩))) w:=by
    unfold execOp
    simp only[j,Z]
    rfl
   rw[O]
   exact⟨I,m,.refl ..,Y,.ptr id b off G M⟩
 |_=>simp at h
def TV(F:bU P V C)(Z:il P C cs)(N:RL ρ lX l)(B:∀x∈o.op.operands,RX ρ (ρX x) (ρT x))(Y:∀g ls,aG.eG g=some ls->ρT (.global g)=.bB ls.length [.agg (ls.map (.int .i64))] 0 0)(U:Ext ρ ρ')(h:dQ C ρX lX n nid o=some q)(hi:cu cs n ρ q.ins ρ'):cO P o ρT l nid ρ' q:=by
 have G:=h
 unfold dQ at h
 split at h
 ·rename_i x j;exact Lj F (.inl j) (B x (by simp[j,Op.operands])) h hi
 ·rename_i x j;exact Lj F (.inr j) (B x (by simp[j,Op.operands])) h hi
 ·rename_i c a b j;exact FV F j B G hi
 ·rename_i e x j;exact Sa F j (B x (by simp[j,Op.operands])) G hi
 ·rename_i e j;exact O9 F j G hi
 ·rename_i t a j;exact VV F j N (B a (by simp[j,Op.operands])) h hi U
 ·rename_i t a x j;exact(GJ (ρX:=λy=>sG C.E t (ρX y)) (ρT:=λy=>typed V.E t (ρT y)) F j N (BX F (B a (by simp[j,Op.operands])) t) (BX F (B x (by simp[j,Op.operands])) t) h hi U).Hh λI m v y _ aa=>BY aa
 ·rename_i x j;exact WA j (B x (by simp[j,Op.operands])) h hi
 ·rename_i s x f j;exact Uo F j (B x (by simp[j,Op.operands])) h hi
 ·rename_i s x f j;exact Uq F j (B x (by simp[j,Op.operands])) h hi
 ·rename_i ab ty x y af j;exact R8 F j (B x (by simp[j,Op.operands])) (B y (by simp[j,Op.operands])) G hi
 ·rename_i ab ty x j;exact aao F j (B x (by simp[j,Op.operands])) G hi
 ·rename_i t x i j
  split at h
  ·exact Vh F j Y (B i (by simp[j,Op.operands])) h hi U
  exact Vi F j N (B x (by simp[j,Op.operands])) (B i (by simp[j,Op.operands])) h hi U
 ·rename_i t x lo ad j;exact Zj F j N B G hi
 ·rename_i t parts j;exact Sf F j B G hi
 ·rename_i t len parts j;exact Sc F j N B G hi
 ·rename_i x i j;exact Ue F j (B x (by simp[j,Op.operands])) G hi
 ·rename_i c j
  split at h
  ·rename_i f M;exact Sm F Z j M N B G hi U
  ·rename_i M
   split at h
   ·rename_i x t O ht
    exact VS F j M O ht N (B x (by simp[j,Op.operands,Call.operands,M,<-hX,O])) h hi
   cases h
  ·rename_i M
   split at h
   ·rename_i s x t t' O ht
    split at h
    ·rename_i e;subst e
     exact Pg F j M O ht N (B s (by simp[j,Op.operands,Call.operands,M,<-hX,O])) (B x (by simp[j,Op.operands,Call.operands,M,<-hX,O])) h hi
    cases h
   cases h
  ·rename_i M;exact K9 F j B (.inl M) G hi
  ·rename_i M;exact K9 F j B (.inr M) G hi
  ·rename_i M
   split at h
   ·rename_i x k t t' O ht
    exact Tn F j M O ht N (B x (by simp[j,Op.operands,Call.operands,M,<-hX,O])) (B k (by simp[j,Op.operands,Call.operands,M,<-hX,O])) h hi
   cases h
  cases h
 ·rename_i t a b j;exact Wa F j N (B a (by simp[j,Op.operands])) (B b (by simp[j,Op.operands])) h hi
 ·rename_i t j;exact Ew F j N G hi
 ·rename_i t m k x j;exact K8 F (.inl j) N (B m (by simp[j,Op.operands])) (B k (by simp[j,Op.operands])) (B x (by simp[j,Op.operands])) h hi
 ·rename_i t m k x j;exact K8 F (.inr j) N (B m (by simp[j,Op.operands])) (B k (by simp[j,Op.operands])) (B x (by simp[j,Op.operands])) h hi
 ·rename_i t x k ok j;exact VY F j N (B x (by simp[j,Op.operands])) (B k (by simp[j,Op.operands])) G hi
 ·rename_i ae t x j;exact CX F j (B x (by simp[j,Op.operands])) G hi
 ·rename_i g first caps j;exact V9 F j B G hi
 cases h
end
end Go.Sy
namespace Go.ag
open Go Go.RowKit
variable [bq]
section
variable {P:Program}{V:Env}{w0 w:World}{I0 I:ay}{m:Nat->Value}{l:List AO}
def aH.Kq(F:aH w0 I0 w I m l){id e size:Nat}{j vs:List D}{O:Option Nat}(k:l[id]?=some (.bz e size j vs O)):Le I m l I m (l.set id (.map j vs))/\aH w0 I0 w I m (l.set id (.map j vs)):=by
 have B:Le I m l I m (l.set id (.map j vs)):=Le.setKind k rfl rfl (by simp)
 obtain⟨b,N,G,U,Y,Z,aa,ab,ad,M,_⟩:=F.obj id _ k
 exact⟨B,F.lg k (by simp) (b:=b) (by rw[G];rfl) M rfl rfl B rfl rfl rfl (eb _) (eb _) (λ_ _=>rfl) ⟨b,N,G,U,Y,Z,aa,ab,ad,M⟩⟩
def aH.UR(G:aH w0 I0 w I m l){id e size:Nat}(Y:0<size)(k:l[id]?=some (.map [] [])):Le I m l I m (l.set id (.bz e size [] [] none))/\aH w0 I0 w I m (l.set id (.bz e size [] [] none)):=by
 have F:Le I m l I m (l.set id (.bz e size [] [] none)):=Le.setKind k rfl rfl (by simp)
 obtain⟨b,B,M,Z,aa,N,ab,ad,ae,O⟩:=G.obj id _ k
 have af:B.1.size=0:=by simpa using N
 exact⟨F,G.lg k (by simp) (b:=b) (by rw[M];rfl) O rfl rfl F rfl rfl rfl (eb _) (eb _) (λ_ _=>rfl) ⟨b,B,M,Z,aa,N,ab,ad,ae,O,Y,λ_=>0,
  λi en d _ U=>(by have:=(e6.1 U).1;omega),λi j _ hi=>(by omega),λq i _ hi=>(by omega)⟩⟩
def jj.rd{B:Nat}{v:Value}{e size:Nat}{els:List D}(h:jj B w I v e size els):Rd I v (.slice size els):=by
 obtain⟨xs,j,k,F,G⟩:=h
 exact uK j k F λb M=>(G b M).2.1
end
end Go.ag
namespace Go.ag
open Go Go.RowKit
variable [bq]
section
variable {P:Program}{V:Env}{w0 w:World}{I0 I:ay}{m:Nat->Value}{l:List AO}
theorem jj.nil{B:Nat}{e size:Nat}:jj B w I (.slice none 0 0) e size []:=⟨[],⟨by simp,.inl ⟨rfl,rfl⟩⟩,by simp,by simp,by simp[own]⟩
def aH.Kk(Z:aH w0 I0 w I m l){id e size i:Nat}{aa vs:List D}{els:List D}{v:Value}(aj:l[id]?=some (.bz e size aa vs none))(aU:∀q o,q≠id->l[q]?=some o->o.tP=false)(ak:(∃b O,m id=.map (some b)/\dZ w.heap[b]? O/\∃en,O.1[i]?=some en/\en.val=v/\vs[i]?=some (.slice size els))\/(aa.length<=i/\els=[]/\v=.slice none 0 0)) :
  Le I m l I (aP m l.length v) (l.set id (.bz e size aa vs (some i))++[.br e size els])/\aH w0 I0 w I (aP m l.length v) (l.set id (.bz e size aa vs (some i))++[.br e size els]):=by
 have aT:id<l.length:=(c5.1 aj).1
 obtain⟨b,O,aG,a6,aI,a7,a8,ba,bb,bc,aJ,ao,au,aD,aE⟩:=Z.obj id _ aj
 have aS:jj w0.heap.size w I v e size els/\(∀G,own v=some G->i<O.1.size/\G=ao i):=by
  rcases ak with ⟨G,es',ab,aY,en,aF,aZ,a1⟩| ⟨ab,rfl,rfl⟩
  ·rw[aG]at ab;injection ab with ab;injection ab with ab;subst ab
   have:es'=O:=by
    have F:=aY.1;rw[aI.1]at F;injection F with F;injection F with F N
    exact Prod.ext F.symm N.symm
   subst this
   obtain⟨els',av,aK,al,an⟩:=au i en _ (by simp) aF a1
   injection av with _ av;subst av
   rw[aZ]at al an
   exact⟨an,λG M=>⟨(e6.1 aF).1,by rw[al]at M;injection M with M;exact M.symm⟩⟩
  exact⟨.nil,λG M=>by cases M⟩
 obtain⟨aR,ax⟩:=aS
 have aA:Le I m l I (aP m l.length v) (l.set id (.bz e size aa vs (some i))++[.br e size els]):=by
  have F:Le I m l I m (l.set id (.bz e size aa vs (some i))):=Le.setKind aj rfl rfl (by simp)
  refine F.trans ⟨.refl I,by simp,λk B ak=>⟨?_,bW m v (by simp at B;omega)⟩,λk B ar=>⟨?_,bW m v (by simp at B;omega)⟩,λk bd s' els' B ay=>⟨els',?_⟩⟩
  ·unfold isVar at ak⊢;rw[e1 B];exact ak
  ·unfold isRow at ar⊢;rw[e1 B]at ar;exact ar
  rw[e1 B]at ay;exact ay
 have aN:∀j,j<O.1.size->∃u,I.cell (ao j) 0=some u:=λj Y=>by
  obtain⟨els',_,aK,al,an⟩:=au j O.1[j] vs[j] (by simp) (e7 Y) (c3 (by omega))
  exact an.mV aJ aK al
 have aB:∀j G,alive l j=true->own (m j)=some G->own v≠some G:=λj G Y M aX=>by
  obtain⟨hi,rfl⟩:=ax G aX
  obtain⟨o,az,aQ⟩:=bM.1 Y
  rcases (Z.obj j o az).G8 aQ M with h|h
  ·exact aE j i (by unfold cI;rw[az];exact h) hi (by simp) M
  obtain⟨u,aW⟩:=aN i hi;rw[aW]at h;cases h
 refine⟨aA,Z.below,Z.sat,Z.ext,λk o B=>?_,λa c G af ah aw ad ae=>?_⟩
 ·rcases lB k l.length with hkl|hkl
  ·rw[e1 (by simpa using hkl)]at B
   rw[bW m v (by omega)]
   by_cases aq:k=id
   ·subst aq
    rw[e4,if_pos rfl,if_pos aT]at B
    injection B with B;subst B
    refine⟨b,O,aG,a6,aI,a7,a8,ba,bb,bc,aJ,ao,λj en d Y=>au j en d (by simp),λa c F N aM _ _=>aD a c F N aM (by simp) (by simp),λq j U Y aV M=>?_⟩
    rcases tO U with ⟨ag,U⟩| ⟨ag,_⟩
    ·rw[bW m v (by simp at ag;omega)]at M
     rcases zb U with U| ⟨_,U⟩
     ·exact aE q j U Y (by simp) M
     cases U
    rw[ag,o2,dM]at M
    obtain⟨hi,aO⟩:=ax _ M
    exact aD i j (λe=>aV (by rw[e])) hi Y (by simp) (by simp) aO.symm
   rw[e4,if_neg (hS aq)]at B
   exact(Z.obj k o B).KD aA (λ_ _=>rfl) (λ_ _=>⟨rfl,rfl⟩) (aU k o aq B)
  rw[hz (by simpa using hkl)]at B
  have aL:k=l.length:=by have:=(c5.1 B).1;simp at this;omega
  subst aL
  simp at B;subst B
  rw[dM]
  exact aR
 have ai:∀q,q≠l.length->alive (l.set id (.bz e size aa vs (some i))++[.br e size els]) q=true->alive l q=true:=λq U ah=>by
  obtain⟨o,F,N⟩:=bM.1 ah
  have ag:q<l.length:=by have:=(c5.1 F).1;simp at this;omega
  rw[e1 (by simpa using ag)]at F
  by_cases aC:q=id
  ·subst aC;exact bM.2 ⟨_,aj,by simp⟩
  rw[e4,if_neg (hS aC)]at F;exact bM.2 ⟨o,F,N⟩
 by_cases F:a=l.length
 ·subst F;rw[dM]at ad;rw[bW m v (hS af)]at ae
  exact aB c G (ai c (hS af) aw) ae ad
 by_cases N:c=l.length
 ·subst N;rw[dM]at ae;rw[bW m v af]at ad
  exact aB a G (ai a af ah) ad ae
 rw[bW m v F]at ad;rw[bW m v N]at ae
 exact Z.sep a c G af (ai a F ah) (ai c N aw) ad ae
end
end Go.ag
namespace Go.ag
open Go Go.RowKit
variable [bq]
section
variable {P:Program}{V:Env}{w0 w w':World}{I0 I:ay}{m:Nat->Value}{l:List AO}
def aH.kill(h:aH w0 I0 w I m l){k:Nat}{a:AO}(U:l[k]?=some a)(ad:a.isVar=false):Le I m l I m (l.set k .dead)/\aH w0 I0 w I m (l.set k .dead):=by
 have ab:k<l.length:=(c5.1 U).1
 have M:(l.set k AO.dead)[k]?=some .dead:=by rw[e4,if_pos rfl,if_pos ab]
 have G:∀q,q≠k->(l.set k AO.dead)[q]?=l[q]?:=λq F=>by rw[e4,if_neg (hS F)]
 have Y:Le I m l I m (l.set k .dead):=by
  refine⟨.refl I,by simp,λq F hh=>⟨?_,rfl⟩,λq F hh=>⟨?_,rfl⟩,λq e s els F hh=>⟨els,?_⟩⟩
  ·by_cases e:q=k
   ·subst e;unfold isVar at hh;rw[U]at hh;simp[ad]at hh
   unfold isVar at hh⊢;rw[G q e];exact hh
  ·by_cases e:q=k
   ·subst e;unfold isRow at hh;rw[M]at hh;simp[AO.isRow]at hh
   unfold isRow at hh⊢;rw[G q e]at hh;exact hh
  by_cases e:q=k
  ·subst e;rw[M]at hh;rcases hh with hh|hh<;>cases hh
  rw[G q e]at hh;exact hh
 refine⟨Y,h.below,h.sat,h.ext,λid o B=>?_,λi j b Z hi aa=>?_⟩
 ·by_cases e:id=k
  ·subst e;rw[M]at B;injection B with B;subst B;trivial
  rw[G id e]at B
  exact(h.obj id o B).cM Y (λ_ _=>rfl) (λ_ _=>⟨rfl,rfl⟩) (.set (λ_ _ _=>rfl) λh=>by cases h)
 have N:∀q,alive (l.set k .dead) q=true->alive l q=true:=λq F=>by
  obtain⟨o,B,O⟩:=bM.1 F
  by_cases e:q=k
  ·subst e;rw[M]at B;injection B with B;exact absurd B.symm O
  rw[G q e]at B;exact bM.2 ⟨o,B,O⟩
 exact h.sep i j b Z (N i hi) (N j aa)
def aH.Ki(h:aH w0 I0 w I m l){id B e size i b:Nat}{aQ al vs af:List D}{els:List D}{Z es':ME}(ar:l[id]?=some (.bz e size aQ vs (some i)))(ad:l[B]?=some (.br e size els))(aC:els≠[])(aq:m id=.map (some b))(aV:dZ w.heap[b]? Z)(aZ:w'.os=w.os)(ba:w'.tape=w.tape)(a1:w'.output=w.output)(aU:w.drawn<=w'.drawn)(a7:w.heap.size<=w'.heap.size)(aN:∀k,k≠b->w'.heap[k]?=w.heap[k]?)(aW:dZ w'.heap[b]? es')(n1:es'.1.size=al.length)(bh:es'.1.size=af.length)(bj:∀(j:Nat)(en:MapEntry)(d:D),es'.1[j]?=some en->al[j]?=some d->Rd I en.key d)(aw:∀(j:Nat)(en:MapEntry)(d:D),es'.1[j]?=some en->af[j]?=some d->(j=i/\en.val=m B/\d=.slice size els)\/(j≠i/\vs[j]?=some d/\∃G,Z.1[j]?=some G/\G.val=en.val)) :
  Le I m l I m ((l.set B .dead).set id (.bz e size al af none))/\aH w0 I0 w' I m ((l.set B .dead).set id (.bz e size al af none)):=by
 have aL:id≠B:=λe=>by subst e;rw[ar]at ad;cases ad
 obtain⟨bg,bo⟩:=h.kill ad rfl
 have aM:(l.set B .dead)[id]?=some (.bz e size aQ vs (some i)):=by rw[e4,if_neg (hS aL)];exact ar
 have aK:Le I m (l.set B .dead) I m ((l.set B .dead).set id (.bz e size al af none)):=Le.setKind aM rfl rfl (by simp)
 obtain⟨b0,ay,ah,bl,bm,bs,bt,bu,bn,aD,aS,ax,bd,bf,aP⟩:=h.obj id _ ar
 rw[aq]at ah;injection ah with ah;injection ah with ah;subst ah
 have:ay=Z:=by
  have F:=aV.1;rw[bm.1]at F;injection F with F;injection F with F aa
  exact Prod.ext F aa
 subst this
 have aA:jj w0.heap.size w I (m B) e size els:=h.obj B _ ad
 obtain⟨g,ak⟩:∃g,own (m B)=some g:=by
  obtain⟨xs,F,_⟩:=aA
  rcases F.2 with ⟨_,bc⟩| ⟨g,bp,cur,aa,_⟩
  ·exact absurd (j1 bc) aC
  exact⟨g,by rw[aa];rfl⟩
 have bq:g≠b:=λe=>by
  subst e
  exact h.sep B id g (hS aL) (bM.2 ⟨_,ad,by simp⟩) (bM.2 ⟨_,ar,by simp⟩) ak (by rw[aq];rfl)
 have a8:∀Y u,I.cell Y 0=some u->w'.heap[Y]?=w.heap[Y]?:=λY u av=>aN Y λe=>by subst e;rw[aD.1 0]at av;cases av
 have aJ:∀{v:Value}{Z:List D}{Y:Nat},Z≠[]->own v=some Y->jj w0.heap.size w I v e size Z->jj w0.heap.size w' I v e size Z:=λ{v Z Y} aX ab aI=>by
  obtain⟨u,av⟩:=aI.mV aS aX ab
  exact aI.cM (λ_ _ h=>h) λaT ao=>⟨a8 aT u (by rw[ab]at ao;injection ao with ao;subst ao;exact av),rfl,rfl⟩
 have aY:∀{j:Nat}{en G:MapEntry}{d:D},j≠i->vs[j]?=some d->ay.1[j]?=some G->G.val=en.val->∃els,d=.slice size els/\els≠[]/\own en.val=some (ax j)/\jj w0.heap.size w' I en.val e size els:=λ{j en G d} ae ai aj bb=>by
  obtain⟨els,an,O,M,ag⟩:=bd j G d (λe=>ae (pa e).symm) aj ai
  rw[bb]at M ag
  exact⟨els,an,O,M,aJ O M ag⟩
 refine⟨bg.trans aK,bo.lg aM (by simp) (b:=b) (by rw[aq];rfl) aD rfl rfl aK aZ ba a1 aU a7 aN ⟨b,es',aq,bl,aW,n1,bh,bj,λj en d aj ai=>?_,aD,aS,λj=>if j=i then g else ax j,λj en d _ aj ai=>?_,λa c az aF aG _ _=>?_,λq j N ae _ ab=>?_⟩⟩
 ·rcases aw j en d aj ai with ⟨rfl,O,rfl⟩| ⟨an,O,G,M,ag⟩
  ·rw[O];exact aA.rd
  rw[<-ag];exact bn j G d M O
 ·rcases aw j en d aj ai with ⟨rfl,O,rfl⟩| ⟨an,O,G,M,ag⟩
  ·dsimp only;rw[O,if_pos rfl];exact⟨els,rfl,aC,ak,aJ aC ak aA⟩
  dsimp only;rw[if_neg an];exact aY an O M ag
 ·have aE:∀j,j<es'.1.size->j≠i->j<ay.1.size:=λj ae U=>by
   rcases aw j es'.1[j] af[j] (e7 ae) (c3 (by omega))with ⟨e,_⟩| ⟨_,_,G,M,_⟩
   ·exact absurd e U
   exact(e6.1 M).1
  have aR:∀j,j<es'.1.size->j≠i->g≠ax j:=λj ae U e=>aP B j (by unfold cI;rw[ad];rfl) (aE j ae U) (λe=>U (pa e).symm) (by rw[ak,e])
  dsimp only
  by_cases F:a=i
  ·subst F;rw[if_pos rfl,if_neg (hS az)];exact aR c aG (hS az)
  rw[if_neg F]
  by_cases aa:c=i
  ·subst aa;rw[if_pos rfl];exact hS (aR a aF F)
  rw[if_neg aa];exact bf a c az (aE a aF F) (aE c aG aa) (λe=>F (pa e).symm) (λe=>aa (pa e).symm)
 rcases zb N with N| ⟨_,N⟩
 ·have aO:q≠B:=λe=>by
   subst e;unfold cI at N;rw[e4,if_pos rfl,if_pos (c5.1 ad).1]at N;simp[AO.cI]at N
  have au:cI l q=true:=by unfold cI at N⊢;rw[e4,if_neg (hS aO)]at N;exact N
  have a6:alive l q=true:=by
   unfold cI at au
   cases aB:l[q]? with
   |none=>simp[aB]at au
   |some o=>exact bM.2 ⟨o,aB,λe=>by subst e;simp[aB,AO.cI]at au⟩
  dsimp only at ab
  by_cases U:j=i
  ·subst U;rw[if_pos rfl]at ab
   exact h.sep q B g aO a6 (bM.2 ⟨_,ad,by simp⟩) ab ak
  rw[if_neg U]at ab
  rcases aw j es'.1[j] af[j] (e7 ae) (c3 (by omega))with ⟨e,_⟩| ⟨_,_,G,M,_⟩
  ·exact absurd e U
  exact aP q j au (e6.1 M).1 (λe=>U (pa e).symm) ab
 cases N
end
end Go.ag
namespace Go.ag
open Go Go.RowKit
variable [bq]
section
variable {P:Program}{V:Env}{w0 w w':World}{I0 I:ay}{m:Nat->Value}{l:List AO}
theorem UT(aE:cq P V.E)(ak:aH w0 I0 w I m l){t:TypeId}{x v:Value}{kk:IntKind}{n:Int}{aN:TI}{id O e size:Nat}{M vs els:List D}(aD:kJ V.E t=some (kk,aN))(aw:ar I m l x (.map id))(aG:v=m O)(Z:l[id]?=some (.bz e size M vs (some ((eu n M 0).getD M.length))))(aq:l[O]?=some (.br e size els))(au:els≠[])(aF:np kk M=true) :
  ∃w',(Instr.mapUpdate t x (.int kk n) v).run P w=.ok () w' /\
   let l':=(l.set O .dead).set id (match eu n M 0 with|some j=>.bz e size M (vs.set j (.slice size els)) none|none=>.bz e size (M++[.int kk n]) (vs++[.slice size els]) none)
   Le I m l I m l'/\aH w0 I0 w' I m l':=by
 subst aG
 obtain⟨aJ,aO,aB,an,aQ⟩:=wv aE aD
 obtain⟨b,⟨N,G⟩,ae,az,U,s1,s2,af,aM,aP,_⟩:=ak.obj id _ Z
 have aA:=U
 replace U:w.heap[b]?=some (.map N G)/\MapKept.Stamped N G:=U
 simp only at s1 s2 af aM
 have aI:x=.map (some b):=by
  cases aw with
  |map r _ aa ad=>
   have:=ad (by unfold isRow;rw[Z];rfl)
   rw[ae]at this;exact this.symm
 subst aI
 have ao:∀e:Bool,(Instr.checkKey e 10000 aJ (.int kk n)).run P w=.ok () w:=λe=>qs (d:=.int kk) (n:=9999) an (by simp[MapKept.IsKey]) e
 rcases tq (kk:=kk) (n:=n) N.toList M 0 (by simpa using s1) (λj e d ae az=>af j e d (by simpa using ae) az) aF with ⟨aa,ad,aL⟩| ⟨j,aC,aa,ad,ax,aK,ay⟩
 ·have hi:(eu n M 0).getD M.length=M.length:=by rw[aa];rfl
  rw[hi]at Z
  simp only[aa]
  have ai:=oo (w:=w) an ad
  have al:=lb (P:=P) (.map (N.push {key:=.int kk n,val:=m O,born:=G}) (G+1)) U.1
  obtain⟨ag,ah⟩:=p3 (o':=.map (N.push {key:=.int kk n,val:=m O,born:=G}) (G+1)) U.1
  refine⟨{w with heap:=w.heap.setIfInBounds b (.map (N.push {key:=.int kk n,val:=m O,born:=G}) (G+1))},?_,?_⟩
  ·unfold Instr.mapUpdate
   simp only[fv,hD aB,Result.andThen_ok,ih U.1,ao,ai,al]
  refine ak.Ki Z aq au ae aA rfl rfl rfl (eb _) (by simp) (λk aj=>ah k aj) (es':=(N.push {key:=.int kk n,val:=m O,born:=G},G+1)) ⟨ag,F0 U.2 (by simpa using aL)⟩ (by simp[s1]) (by simp[s2]) (λi e d B F=>?_) λi en d B F=>?_
  ·rw[ra]at B
   split at B
   ·injection B with B;subst B
    rename_i hi;subst hi
    rw[s1,hz (eb _)]at F;simp at F;subst F;exact .int _ _
   have hi:i<M.length:=by have:=(e6.1 B).1;omega
   rw[e1 hi]at F;exact af i e d B F
  rw[ra]at B
  split at B
  ·injection B with B;subst B
   rename_i hi;subst hi
   rw[s2,hz (eb _)]at F;simp at F;subst F
   exact .inl ⟨s1,rfl,rfl⟩
  have hi:i<N.size:=(e6.1 B).1
  rw[e1 (by omega)]at F
  exact .inr ⟨by omega,F,en,B,rfl⟩
 have hi:(eu n M 0).getD M.length=j:=by rw[aa];simp
 rw[hi]at Z
 simp only[aa,hV]
 rw[hV]at ay
 have ai:=oo (w:=w) an ay
 have ab:N[j]?=some aC:=by simpa using ad
 have al:=lb (P:=P) (.map (N.modify j λe=>{e with key:=.int kk n,val:=m O}) G) U.1
 obtain⟨ag,ah⟩:=p3 (o':=.map (N.modify j λe=>{e with key:=.int kk n,val:=m O}) G) U.1
 refine⟨{w with heap:=w.heap.setIfInBounds b (.map (N.modify j λe=>{e with key:=.int kk n,val:=m O}) G)},?_,?_⟩
 ·unfold Instr.mapUpdate
  simp only[fv,hD aB,Result.andThen_ok,ih U.1,ao,ai,ab,Option.map_some,Option.getD_some,ax,stays,al]
 refine ak.Ki Z aq au ae aA rfl rfl rfl (eb _) (by simp) (λk aj=>ah k aj) (es':=(N.modify j λe=>{e with key:=.int kk n,val:=m O},G)) ⟨ag,x1 U.2 j _ (λ_ _=>rfl) (λx aw Y=>by rw[ab]at Y;injection Y with Y;subst Y;exact ax.symm)⟩ (by simp[s1]) (by simp[s2]) (λi e d B F=>?_) λi en d B F=>?_
 ·rw[p0]at B
  split at B
  ·rename_i hi;subst hi
   rw[ab]at B;simp at B;subst B
   rw[aK]at F;injection F with F;subst F;exact .int _ _
  exact af i e d B F
 rw[p0]at B
 split at B
 ·rename_i hi;subst hi
  rw[ab]at B;simp at B;subst B
  have Y:j<vs.length:=by rw[<-s2];exact(e6.1 ab).1
  rw[e4,if_pos rfl,if_pos Y]at F
  injection F with F;exact .inl ⟨rfl,rfl,F.symm⟩
 rename_i av
 rw[e4,if_neg av]at F
 exact .inr ⟨λe=>av e.symm,F,en,B,rfl⟩
theorem abi{E:cm}{t:TypeId}{s b e sz:Nat}{z:Value}(h:fY z.cells.toList [.slice sz []]=true)(j:kD z=false):z=.slice none 0 0:=by
 cases z with
 |agg cs=>simp[kD]at j
 |slice a n c=>
  simp only[Value.cells,fY,qn]at h
  unfold pk at h
  split at h<;>simp_all
 |_=>simp_all [Value.cells,fY,pk]
theorem UP(Z:cq P V.E)(Y:aH w0 I0 w I m l){t:TypeId}{x:Value}{kk:IntKind}{n:Int}{id e ak size sz aj zs:Nat}{F vs:List D}(al:kJ V.E t=some (kk,⟨sz,aj,[.slice zs []],.slice ak⟩))(aw:ar I m l x (.map id))(O:l[id]?=some (.bz e size F vs none))(ab:∀q o,q≠id->l[q]?=some o->o.tP=false)(aq:np kk F=true){els:List D}(B:match eu n F 0 with|some j=>vs[j]?=some (.slice size els)|none=>els=[]) :
  ∃v,(Instr.lookup t x (.int kk n) false).run P w=.ok v w/\(∃A c k,v=.slice A c k) /\
   let l':=l.set id (.bz e size F vs (some ((eu n F 0).getD F.length)))++[.br e size els]
   Le I m l I (aP m l.length v) l'/\aH w0 I0 w I (aP m l.length v) l':=by
 obtain⟨az,aI,aC,ai,aD⟩:=wv Z al
 obtain⟨b,N,U,ag,ah,s1,s2,aA,aB,aJ,_⟩:=Y.obj id _ O
 obtain⟨z,aE,aF,aG,aM⟩:=xD Z aD w
 have ay:z=.slice none 0 0:=abi (E:=V.E) (t:=t) (s:=0) (b:=0) (e:=0) aF (by rw[aG];rfl)
 subst ay
 have ax:x=.map (some b):=by
  cases aw with
  |map r _ G M=>
   have:=M (by unfold isRow;rw[O];rfl)
   rw[U]at this;exact this.symm
 subst ax
 have an:∀e:Bool,(Instr.checkKey e 10000 az (.int kk n)).run P w=.ok () w:=λe=>qs (d:=.int kk) (n:=9999) ai (by simp[MapKept.IsKey]) e
 have ae:∀r,Instr.findNow (.int kk) (.int kk n) N.1.toList 0=some r->(Instr.lookup t (.map (some b)) (.int kk n) false).run P w=.ok (match r with|some (_,v)=>v|none=>.slice none 0 0) w:=by
  intro r au
  have ao:=oo (w:=w) ai au
  unfold Instr.lookup
  simp only[fv,hD aC,Result.andThen_ok,Sem.run_pure,ih ah.1,an,ao]
  cases r<;>simp[aE]
 rcases tq (kk:=kk) (n:=n) N.1.toList F 0 (by simpa using s1) (λj e d U ag=>aA j e d (by simpa using U) ag) aq with ⟨G,M,_⟩| ⟨j,en,G,M,aK,aL,af⟩
 ·rw[G]at B
  have B:els=[]:=B
  refine⟨_,ae _ M,⟨_,_,_,rfl⟩,?_⟩
  rw[G]
  exact Y.Kk O ab (.inr ⟨eb _,B,rfl⟩)
 rw[G]at B
 have B:vs[j]?=some (.slice size els):=by simpa using B
 rw[hV]at af
 have aa:N.1[j]?=some en:=by simpa using M
 have ad:=aB j en _ aa B
 have av:∃A c k,en.val=.slice A c k:=by
  generalize en.val=u at ad
  cases ad<;>exact⟨_,_,_,rfl⟩
 refine⟨_,ae _ af,av,?_⟩
 rw[G]
 simp only[hV,Option.getD_some]
 exact Y.Kk O ab (.inl ⟨b,N,U,ah,en,aa,rfl,B⟩)
end
end Go.ag
namespace Go.Sy
open Go Go.ag
variable [aG][cQ][cK][dw][bq]
section
variable {P:Program}{V:Env}{C:Cx}{o:Oper}{ops:List Oper}{ρX:Operand->TX}{ρT:Operand->T}{lX:List AX}{l:List AO}{n nid:Nat}{cs:List Callee}{ρ ρ':aS}{q:dB}
def Oq{e:TypeId}{kk:IntKind}{u:Ty}{a:AX}{M:AO}{x:X}(af:isVal u)(ad:0<u.size)(N:bT ρ a M)(h:BS e kk u a=some x) :
  ∃m:List (Int×List u.den),x.den ρ=some ⟨.map (.int kk) (.list u),m⟩/\∀(w0:World)(I0:ay)(w:World)(I:ay)(mm:Nat->Value)(l:List AO)(id:Nat),l[id]?=some M->aH w0 I0 w I mm l ->
   Le I mm l I mm (l.set id (.bz e u.size (m.map λp=>D.int kk p.1) (m.map λp=>(Ty.list u).enc p.2) none))/\aH w0 I0 w I mm (l.set id (.bz e u.size (m.map λp=>D.int kk p.1) (m.map λp=>(Ty.list u).enc p.2) none)):=by
 unfold BS at h
 split at h
 ·rename_i U ae O y
  split at h
  ·rename_i F
   obtain⟨rfl,rfl,rfl⟩:=F
   simp only[c4]at h;subst h
   cases N with
   |bz _ _ _ _ m Y Z j=>
    refine⟨m,j,λw0 I0 w I mm l id B G=>?_⟩
    have:l.set id (.bz U O.size (m.map λp=>D.int ae p.1) (m.map λp=>(Ty.list O).enc p.2) none)=l:=by
     refine hW λk=>?_
     rw[e4]
     split
     ·rename_i aa;subst aa;rw[if_pos (c5.1 B).1,B]
     rfl
    rw[this]
    exact⟨.refl ..,G⟩
  cases h
 ·rename_i k v ag ah
  split at h
  ·rename_i F
   obtain⟨rfl,rfl,rfl,rfl⟩:=F
   simp only[c4]at h;subst h
   cases N with
   |map _ _ _ m Y Z j=>
    have ab:m=[]:=by
     simp only[X.den]at j
     injection j with j
     cases j;rfl
    subst ab
    exact⟨[],rfl,λw0 I0 w I mm l id B G=>G.UR ad B⟩
  cases h
 cases h
def Cf(a b:AO):Prop:=a=b\/∃e s j vs k,a=.bz e s j vs k/\b=.map j vs
def G6{w0 w:World}{I0 I:ay}{m:Nat->Value}:∀{j k:List AO}(pre:List AO),F2 Cf j k->aH w0 I0 w I m (pre++j)->Le I m (pre++j) I m (pre++k)/\aH w0 I0 w I m (pre++k)
 | [],[],pre,_,h=>⟨.refl ..,h⟩
 |a::r,b::M,pre,.cons h1 B,h=>by
  have e:∀(x:AO)(s:List AO),pre++x::s=(pre++[x])++s:=λx s=>by simp
  rcases h1 with rfl| ⟨el,s,ks,vs,op,rfl,rfl⟩
  ·rw[e a r]at h
   have:=G6 (pre++[a]) B h
   rw[e a r,e a M];exact this
  have N:(pre++AO.bz el s ks vs op::r)[pre.length]?=some (.bz el s ks vs op):=by simp
  obtain⟨F,G⟩:=h.Kq N
  have O:(pre++AO.bz el s ks vs op::r).set pre.length (.map ks vs)=(pre++[.map ks vs])++r:=by simp
  rw[O]at F G
  obtain⟨U,Y⟩:=G6 (pre++[.map ks vs]) B G
  rw[e (.map ks vs) M]
  exact⟨F.trans U,Y⟩
def aaA{a:AX}{j:AO}(B:bT ρ a j):∃k,bT ρ (B3 a) k/\Cf j k:=by
 cases B with
 |bz e kk t x m G M F=>exact⟨_,.map (.int kk) (.list t) x m (cP rfl) (cP rfl) F,.inr ⟨_,_,_,_,_,rfl,rfl⟩⟩
 |_=>exact⟨_,by constructor<;>assumption,.inl rfl⟩
def Vp{a:AX}{j:AO}(k:bT ρ a j)(h:DY a=false):j.tP=false:=by
 cases k<;>first|rfl|cases h|skip
 rename_i o B
 cases j<;>first|rfl|cases B
theorem OG{id:Nat}:∀{lX:List AX}{l:List AO}(i:Nat),RL ρ lX l->wE id lX i=true->∃l',RL ρ (qA id lX i) l'/\F2 Cf l l'/\(∀k,i+k=id->(qA id lX i)[k]?=lX[k]?/\l'[k]?=l[k]?)/\∀k o,i+k≠id->l'[k]?=some o->o.tP=false
 | [],[],i,_,_=>⟨[],.nil,.nil,λk _=>⟨rfl,rfl⟩,λk o _ h=>by simp at h⟩
 |a::r,b::s,i,.cons h1 Y,F=>by
  simp only[wE,db,hR,gL]at F
  obtain⟨l',G,M,aa,N⟩:=OG (i+1) Y F.2
  cases hi:Nat.beq i id with
  |true=>
   have:=er hi
   subst this
   refine⟨b::l',by simp only[qA,hi,cond_true];exact .cons h1 G,.cons (.inl rfl) M,λk B=>?_,λk o B j=>?_⟩
   ·have:k=0:=by omega
    subst this
    exact⟨by simp[qA,hi],rfl⟩
   cases k with
   |zero=>omega
   |succ k=>exact N k o (by omega) (by simpa using j)
  |false=>
   have af:i≠id:=λe=>by subst e;rw[ia]at hi;cases hi
   obtain⟨U,O,ab⟩:=aaA h1
   have Z:DY (B3 a)=false:=by rcases F.1 with h|h;exact absurd h (by rw[hi];simp);exact h
   refine⟨U::l',by simp only[qA,hi,cond_false];exact .cons O G,.cons ab M,λk B=>?_,λk o B j=>?_⟩
   ·cases k with
    |zero=>omega
    |succ k=>
     obtain⟨ad,ae⟩:=aa k (by omega)
     exact⟨by simpa [qA,hi]using ad,by simpa using ae⟩
   cases k with
   |zero=>simp at j;subst j;exact Vp O Z
   |succ k=>exact N k o (by omega) (by simpa using j)
def cn.pre{t:T}{l1 l':List AO}(M:∀(w0:World)(I0:ay)(w:World)(I:ay)(m:Nat->Value),aH w0 I0 w I m l->Le I m l I m l1/\aH w0 I0 w I m l1)(h:cn P o ρT l1 t l'):cn P o ρT l t l':=by
 refine⟨h.1,λw0 I0 w I m ρ N U=>?_⟩
 obtain⟨j,O⟩:=M w0 I0 w I m N
 exact(h.2 w0 I0 w I m ρ O λx G=>(U x G).mono j).mono λv w' ⟨J,m',k,B,F⟩=>⟨J,m',j.trans k,B,F⟩
def UM{t e:TypeId}(h:yX C t=some e):∃sz k z M j N B z',C.E t=some ⟨sz,k,z,.map M j⟩/\C.E j=some ⟨N,B,z',.slice e⟩:=by
 unfold yX at h
 split at h
 ·rename_i F
  split at h
  ·rename_i G
   simp only[c4]at h;subst h
   exact⟨_,_,_,_,_,_,_,_,F,G⟩
  cases h
 cases h
def UQ(B:bU P V C){t e:TypeId}{kk:IntKind}{u:Ty}(ht:C.ty t=some (.map (.int kk) (.list u)))(ah:yX C t=some e):∃sz U,kJ V.E t=some (kk,⟨sz,U,[.slice u.size []],.slice e⟩)/\isVal u/\0<u.size:=by
 obtain⟨i,j,an,ao,aq,k⟩:=B.map ht
 obtain⟨s1,s2,aC,ax,aD,ab,ad,O,Y,Z⟩:=UM ah
 obtain⟨au,M,_,_,_,aa,_⟩:=B.info ht
 rw[B.E,Y]at M
 simp only[c4]at M;subst M
 simp only[oq,db,ea]at aa
 obtain⟨sz,U,z',al,av,N,ay,az,aA,aj,ak,aB⟩:=B.list aa.1.1.1.1.2
 rw[B.E,Z]at N
 simp only[c4,TI.mk.injEq,TD.slice.injEq]at N
 obtain⟨rfl,rfl,rfl,rfl⟩:=N
 have F:kJ V.E t=some (kk,⟨ab,ad,O,.slice e⟩):=by
  unfold kJ at j⊢
  rw[B.E,Y]at j⊢
  simp only at j⊢
  rw[Z]at j⊢
  split at j
  ·rename_i aw ar ae G
   injection G with G
   subst G
   injection j with j
   injection j with af ag
   subst af;subst ag
   first|rfl|rw[ae]
  cases j
 rw[j]at F
 injection F with F
 injection F with _ F
 subst F
 refine⟨ab,ad,?_,aj,ak⟩
 rw[j]
 have ai:O=[.slice u.size []]:=by
  unfold pn at k
  simp only[ki,gb,fO]at k
  match O,k with
  | [d],k=>
   simp only[ll,qn]at k
   unfold vj at k
   split at k<;>simp_all
  | [],k=>simp[ll]at k
  |_::_::_,k=>simp[ll]at k
 rw[ai]
theorem XJ{e sz:Nat}{α:Type}{kk:IntKind}{m:Int}{w:α}(zs:List (Int×α))(f:α->D):(match eu m (zs.map λp=>D.int kk p.1) 0 with|some j=>AO.bz e sz (zs.map λp=>D.int kk p.1) ((zs.map λp=>f p.2).set j (f w)) none|none=>AO.bz e sz ((zs.map λp=>D.int kk p.1)++[.int kk m]) ((zs.map λp=>f p.2)++[f w]) none) =
  AO.bz e sz ((aM zs m w).map λp=>D.int kk p.1) ((aM zs m w).map λp=>f p.2) none:=by
 have h:=Ml (kk:=kk) (m:=m) (w:=w) zs f
 cases F:eu m (zs.map λp=>D.int kk p.1) 0 with
 |some j=>
  rw[F]at h
  simp only at h⊢
  injection h with k B
  rw[B,<-k]
 |none=>
  rw[F]at h
  simp only at h⊢
  injection h with k B
  rw[B,<-k]
def UU(Y:bU P V C){t:TypeId}{x k:Operand}(B:o.op=.lookup t x k false)(ad:RL ρ lX l)(aj:RX ρ (ρX x) (ρT x))(aa:RX ρ (ρX k) (ρT k))(h:DO C t lX nid (ρX x) (ρX k)=some q):q.ins=[]/\cO P o ρT l nid ρ q:=by
 unfold DO at h
 split at h
 ·rename_i kk u id bb key aL av aw
  rw[av]at aj;rw[aw]at aa
  obtain⟨m,ag,aK⟩:=gh aa
  have ay:=wy aj
  split at h
  ·rename_i e a aD aF
   split at h
   ·rename_i y aU
    split at h
    ·rename_i aI;subst aI
     cases M:wE id lX 0 with
     |false=>simp[M]at h
     |true=>
      simp only[M,cond_true,c4]at h
      subst h
      obtain⟨sz,a6,aR,N,ai⟩:=UQ Y (pY aL) aD
      obtain⟨ar,az,aA⟩:=F2.left ad aF
      obtain⟨mm,Z,aQ⟩:=Oq N ai aA aU
      obtain⟨l1,aX,ao,aY,a1⟩:=OG (id:=id) 0 ad M
      obtain⟨_,aZ⟩:=aY id (by omega)
      have ae:l1[id]?=some ar:=aZ.trans az
      have aG:id<l1.length:=(c5.1 ae).1
      have aE:(X.u3 .j7 y key (.nil u)).den ρ=some ⟨.list u,aq mm m []⟩:=by
       have aB:dr (.list u) ⟨.list u,([]:List u.den)⟩=some []:=fZ (.list u) _
       simp only[X.den,Z,ag,nS,aB]
      refine⟨rfl,.row nid,.row _,_,F2.app (F2.set aX (.fz e kk u y key mm m N ai Z ag) id) (.cons (.br e u _ (aq mm m []) N aE) .nil),λaM=>?_⟩
      subst aM
      refine cn.pre (l1:=l1) (λw0 I0 w I O F=>by simpa using G6 [] ao (by simpa using F)) ?_
      refine cn.pre (l1:=l1.set id (.bz e u.size (mm.map λp=>D.int kk p.1) (mm.map λp=>(Ty.list u).enc p.2) none)) (λw0 I0 w I O F=>aQ w0 I0 w I O l1 id ae F) ?_
      refine⟨by simp[B],λw0 I0 w I O U aN ah=>?_⟩
      have ak:=ah x (by simp[B,Op.operands])
      have al:=ah k (by simp[B,Op.operands])
      rw[ay]at ak;rw[aK]at al
      have aT:U k=.int kk m:=by
       have an:=cz al
       generalize U k=bc at an
       cases an;rfl
      have aJ:l.length=l1.length:=ao.len
      obtain⟨v,aO,⟨A,c,au,aS⟩,af,F⟩:=UP (P:=P) Y.ok.E aN (n:=m) (e:=e) (size:=u.size) (els:=(aq mm m []).map u.enc) aR ak (by rw[e4,if_pos rfl,if_pos aG]) (λj aW aH B=>by
       rw[e4,if_neg (hS aH)]at B
       exact a1 j aW (by omega) B) (tV mm) (by
       cases ab:eu m (mm.map λp=>D.int kk p.1) 0 with
       |some j=>
        obtain⟨aV,a7,a8,ax,ba,G,_⟩:=wi ab
        have:j=aV:=by omega
        subst this
        simp only
        rw[et,ax]
        simp only[Option.map_some,G,th]
       |none=>
        obtain⟨G,_⟩:=wh ab
        simp only
        rw[G];rfl)
      have aC:(execOp U o).run P w=.ok (.value v) w:=by unfold execOp;simp[B,aT,aO]
      rw[aC]
      simp only[cp]
      have aP:∀b:AO,(l1.set id (.bz e u.size (mm.map λp=>D.int kk p.1) (mm.map λp=>(Ty.list u).enc p.2) none)).set id b=l1.set id b:=λb=>by rw[List.set_set]
      simp only[aP,o2]at af F
      refine⟨I,_,af,F,?_⟩
      rw[aJ]
      subst aS
      exact .row A c au l1.length (by simp) λ_=>by rw[dM]
    cases h
   cases h
  cases h
 cases h
def WG{y:X}{u:Ty}{xs:List u.den}(h:zG y=true)(j:y.den ρ=some ⟨.list u,xs⟩):xs≠[]:=by
 unfold zG at h
 split at h
 ·rename_i a b c
  intro e;subst e
  simp only[X.den]at j
  cases k:a.den ρ with
  |none=>simp[k]at j
  |some ad=>
   cases F:b.den ρ with
   |none=>simp[k,F]at j
   |some ae=>
    cases G:c.den ρ with
    |none=>simp[k,F,G]at j
    |some af=>
     simp only[k,F,G]at j
     obtain⟨B,ah⟩:=af
     cases B with
     |list B=>
      cases M:dr B ae with
      |none=>simp[cN,M]at j
      |some z=>
       simp only[cN,M]at j
       obtain⟨N,ag⟩:=ad
       cases N with
       |list N=>
        simp only at j
        split at j
        ·rename_i ys ab
         have O:=pB ab
         cases O
         injection j with j
         have U:B=u:=by injection j with aa _;injection aa
         subst U
         have Y:List.append ag (List.cons z ah)=[]:=by injection j with _ ai
         have key:∀(α:Type)(a b:List α)(z:α),List.append a (List.cons z b)≠[]:=λα a b z h=>by
          have Z:a++z::b=[]:=h
          simp at Z
         exact key _ _ _ _ Y
        cases j
       |_=>simp at j
     |_=>simp[cN]at j
 cases h
def UW(aa:bU P V C){t:TypeId}{G k x:Operand}(F:o.op=.mapUpdate t G k x)(U:RL ρ lX l)(ae:RX ρ (ρX G) (ρT G))(ad:RX ρ (ρX k) (ρT k))(ai:RX ρ (ρX x) (ρT x))(h:DP C t lX (ρX G) (ρX k) (ρX x)=some q):q.ins=[]/\cO P o ρT l nid ρ q:=by
 unfold DP at h
 split at h
 ·rename_i id bb key j ao aq ar
  rw[ao]at ae;rw[aq]at ad;rw[ar]at ai
  obtain⟨m,af,aJ⟩:=gh ad
  have aw:=wy ae
  have av:=xC ai
  split at h
  ·rename_i e kk u mx aW a7 bd y aF aD
   split at h
   ·rename_i aE
    obtain⟨rfl,rfl,rfl,aK⟩:=aE
    cases B:(X.beq key aW&&zG y)with
    |false=>simp[B]at h
    |true=>
     simp only[B,cond_true,c4]at h
     subst h
     simp only[db]at B
     have:=X.beq_eq B.1
     subst this
     obtain⟨aZ,ax,ay⟩:=F2.left U aF
     obtain⟨a1,ab,az⟩:=F2.left U aD
     cases ay with
     |fz _ _ _ _ _ mm n0 aR aQ aB O=>
      rw[af]at O
      injection O with O
      cases O
      cases az with
      |br _ _ _ xs _ aj=>
       have aL:=WG B.2 aj
       obtain⟨i,au,_⟩:=aa.map (pY aK)
       have aA:dr (.list u) ⟨.list u,xs⟩=some xs:=fZ (.list u) _
       have aN:(X.u3 .oN mx key y).den ρ=some ⟨.map (.int kk) (.list u),aM mm m xs⟩:=by simp only[X.den,aB,af,aj,nS,aA]
       refine⟨rfl,.undef,.undef _,_,F2.set (F2.set U .dead j) (.bz e kk u _ (aM mm m xs) aR aQ aN) id,λa8=>?_⟩
       refine⟨by simp[F],λw0 I0 w I M N aO Y=>?_⟩
       have ak:=Y G (by simp[F,Op.operands])
       have al:=Y k (by simp[F,Op.operands])
       have Z:=Y x (by simp[F,Op.operands])
       rw[aw]at ak;rw[aJ]at al;rw[av]at Z
       have aS:N k=.int kk m:=by
        have an:=cz al
        generalize N k=aY at an
        cases an;rfl
       have aT:N x=M j:=by
        generalize N x=aY at Z
        cases Z with
        |row A c a6 _ bc aX=>exact(aX (by unfold ag.isRow;rw[ab];rfl)).symm
       obtain⟨w',aP,aG,aU⟩:=UT (P:=P) (V:=V) aa.ok.E aO (n:=m) au ak aT ax ab (by simpa using aL) (tV mm)
       have aC:(execOp N o).run P w=.ok .skip w':=by unfold execOp;simp[F,aS,aP]
       have ah:=XJ (e:=e) (sz:=u.size) (kk:=kk) (m:=m) (w:=xs) mm (λx=>(Ty.list u).enc x)
       have ba:∀a b:AO,a=b->(l.set j .dead).set id a=(l.set j .dead).set id b:=λa b h=>by rw[h]
       have aI:Le I M l I M ((l.set j .dead).set id (.bz e u.size ((aM mm m xs).map λp=>D.int kk p.1) ((aM mm m xs).map λp=>(Ty.list u).enc p.2) none)):=by rw[<-ah];exact aG
       have aV:aH w0 I0 w' I M ((l.set j .dead).set id (.bz e u.size ((aM mm m xs).map λp=>D.int kk p.1) ((aM mm m xs).map λp=>(Ty.list u).enc p.2) none)):=by rw[<-ah];exact aU
       rw[aC]
       simp only[cp]
       exact⟨I,M,aI,aV,.undef _⟩
   cases h
  cases h
 cases h
def aaZ(h:cA P V):cA P {V with sub:=true}:=⟨h.E,h.C,h.eq,h.F,h.prog⟩
def ZS(B:bU P V C){t:TypeId}{x lo:Operand}(an:o.op=.slice t x (some lo) none none)(O:RL ρ lX l)(Z:RX ρ (ρX x) (ρT x))(Y:RX ρ (ρX lo) (ρT lo))(h:GO C t lX (ρX x) (ρX lo)=some q)(hi:cu cs n ρ q.ins ρ'):cO P o ρT l nid ρ' q:=by
 unfold GO at h
 split at h
 ·rename_i s1 s2 aw e u id av nx af ao ab ad
  rw[ab]at Z;rw[ad]at Y
  obtain⟨m,F,aa⟩:=gh Y
  have ag:=xC Z
  split at h
  ·rename_i az aG xs ak
   split at h
   ·rename_i aq;subst aq
    simp only[c4]at h;subst h
    obtain⟨j,au⟩:=jx hi
    cases au
    obtain⟨ax,ah,ai⟩:=F2.left O ak
    cases ai with
    |row _ _ _ zs aD ar=>
     obtain⟨sz,ay,z',aA,i,k,G,ae,aB,aC,aE,aF⟩:=B.list ao
     have M:V.E t=some ⟨s1,s2,aw,.slice e⟩:=by rw[B.E];exact af
     rw[M]at k
     simp only[c4,TI.mk.injEq,TD.slice.injEq]at k
     obtain⟨rfl,rfl,rfl,rfl⟩:=k
     have U:(gD xs).den ρ=some ⟨.int .i64,(zs.length:Int)⟩:=by simp only[gD,X.den,ar,gx]
     have N:0<=m/\m<=zs.length:=by
      simp only[X.den,iX,F,U,cN]at j
      have j:(leI 0 m&&leI m (zs.length:Int))=true:=fN j
      simpa using j
     have aj:aX {V with sub:=true} ρT l nid o=⟨.sub id m.toNat zs.length,.aP l,0<=m/\m<=zs.length⟩:=by
      simp only[aX,an,M,ag,Option.map_some,Option.map_none,hK,k9,ah,aa,dm,hG]
      rw[if_pos ⟨by simp[bD,G,ae],by rw[G];rfl⟩]
     exact⟨_,.sub id nx (gD xs) av .i64 m zs.length N.1 F U,l,O,λal=>cn.aP (aaZ B.ok) aj N rfl al⟩
   cases h
  cases h
 cases h
def SP(F:bU P V C){c:Call}{t:TypeId}{x:Operand}(aB:o.op=.call c)(U:c.callee=.builtin .clear)(aq:c.args.toList=[x])(aw:c.argTypes.toList=[t])(ae:RL ρ lX l)(Y:RX ρ (ρX x) (ρT x))(h:CQ C t lX (ρX x)=some q)(hi:cu cs n ρ q.ins ρ'):cO P o ρT l nid ρ' q:=by
 have B:aX V ρT l nid o=lv V.E t l (ρT x):=by simp only[aX,aB,U,aq,aw]
 unfold CQ at h
 split at h
 ·rename_i s1 s2 aI e u id lo ax ao aE aj
  rw[aj]at Y
  split at h
  ·rename_i ai k xs z ay aG
   split at h
   ·rename_i aF;subst aF
    cases O:X.beq ax (gD xs)with
    |false=>simp[O]at h
    |true=>
     simp only[O,cond_true,c4]at h;subst h
     have:=X.beq_eq O
     subst this
     cases hi
     generalize aR:ρT x=a6 at B Y
     cases Y with
     |sub _ _ _ aY aZ m aS a1 ah M=>
      obtain⟨aL,ar,av⟩:=F2.left ae ay
      cases av with
      |row _ _ _ zs aO ag=>
       obtain⟨sz,aM,z',aN,i,N,aa,ak,al,ab,aQ,an⟩:=F.list aE
       have ad:V.E t=some ⟨s1,s2,aI,.slice e⟩:=by rw[F.E];exact ao
       rw[ad]at N
       simp only[c4,TI.mk.injEq,TD.slice.injEq]at N
       obtain⟨rfl,rfl,rfl,rfl⟩:=N
       obtain⟨aW,G,aT,aU,aV,_,aH⟩:=F.info an
       rw[aa]at G
       injection G with G;subst G
       obtain⟨Z,aJ,aK⟩:=Ca (ρ:=ρ) ab aH al aG
       have af:(gD xs).den ρ=some ⟨.int .i64,(zs.length:Int)⟩:=by simp only[gD,X.den,ag,gx]
       rw[af]at M
       injection M with M
       cases M
       have aC:(X.u2 .rep (.u2 (.sub .i64) (gD xs) lo) z).den ρ=some ⟨.list k,List.replicate (zs.length-m.toNat) Z⟩:=by
        have:((zs.length:Int)-m).toNat=zs.length-m.toNat:=by omega
        rw[<-this]
        simp only[X.den,af,ah,aJ,cN]
        rfl
       have aD:(X.u2 .take xs lo).den ρ=some ⟨.list k,zs.take m.toNat⟩:=by simp only[X.den,ag,ah,cN]
       have au:=Cj aD aC
       simp only[lv,ad,aa,ar]at B
       rw[if_pos ⟨ak.symm,by simp,by omega⟩,aK]at B
       have az:List.take m.toNat (zs.map k.enc)++List.replicate ((zs.length:Int).toNat-m.toNat) (k.enc Z)=(zs.take m.toNat++List.replicate (zs.length-m.toNat) Z).map k.enc:=by simp[q7,List.map_take]
       rw[az]at B
       exact⟨_,.fW [] [] rfl (λj c d U=>by simp at U),_,F2.set ae (.row ai k _ _ ab au) id,λaA=>cn.aP F.ok B trivial rfl aA⟩
   cases h
  cases h
 cases h
theorem Dc(G:bU P V C)(ab:il P C cs)(N:RL ρ lX l)(F:∀x∈o.op.operands,RX ρ (ρX x) (ρT x))(Z:∀g ls,aG.eG g=some ls->ρT (.global g)=.bB ls.length [.agg (ls.map (.int .i64))] 0 0)(aa:Ext ρ ρ')(h:qV C ops ρX lX n nid o=some q)(hi:cu cs n ρ q.ins ρ'):cO P o ρT l nid ρ' q:=by
 unfold qV at h
 split at h
 ·rename_i O j
  injection h with h;subst h
  have key:(O.ins=[]/\cO P o ρT l nid ρ O)\/cO P o ρT l nid ρ' O:=by
   unfold Km at j
   split at j
   ·rename_i t x k B
    split at j
    ·cases M:JK ops _ with
     |false=>rw[M]at j;cases j
     |true=>
      rw[M]at j
      exact .inl (UU G B N (F x (by simp[B,Op.operands])) (F k (by simp[B,Op.operands])) j)
    cases j
   ·rename_i t ad k x B
    exact .inl (UW G B N (F ad (by simp[B,Op.operands])) (F k (by simp[B,Op.operands])) (F x (by simp[B,Op.operands])) j)
   ·rename_i t x lo B
    split at j
    ·cases M:IN ops _ with
     |false=>rw[M]at j;cases j
     |true=>
      rw[M]at j
      exact .inr (ZS G B N (F x (by simp[B,Op.operands])) (F lo (by simp[B,Op.operands])) j hi)
    cases j
   ·rename_i c B
    split at j
    ·rename_i x t Y U ht
     exact .inr (SP G B Y U ht N (F x (by simp[B,Op.operands,Call.operands,Y,<-hX,U])) j hi)
    cases j
   cases j
  rcases key with ⟨k1,k2⟩|k2
  ·rw[k1]at hi
   cases hi
   exact k2
  exact k2
 exact TV G ab N F Z aa h hi
end
end Go.Sy
namespace Go.Sy
open Go Go.ag
variable [aG][cQ][cK][dw][bq][bX]
section
variable {s:St}
def Sub.Ta(j:Nat){d:D}{l':List AO}(h:dx s.l (get s.t j)=some (d,l')):Sub s ⟨(j,.d d)::s.t,l'⟩:=by
 intro w0 I0 n a w O
 obtain⟨G,I,m,N,M,B⟩:=O
 obtain⟨J,F,Y,U,_⟩:=sD N (B j) h
 refine⟨G,J,m,Y,M.mono F.dg,λk=>?_⟩
 show ar J m l' _ (if j=k then .d d else ag.get s.t k)
 split
 ·rename_i e;subst e;exact .d _ _ U
 exact(B k).mono F
def Oo{l:List AO}{t:T}{d:D}{l':List AO}{id:Nat}{ty:TypeId}{cs:List T}(j:l[id]?=some (.var ty cs))(h:dx l t=some (d,l')):l'[id]?=some (.var ty cs):=by
 have:=BR h id (by unfold ag.isVar;rw[j];rfl)
 rw[this];exact j
def Sub.Tc(id k:Nat){ty:TypeId}{cs:List T}{t:T}{d:D}{l':List AO}(ab:s.l[id]?=some (.var ty cs))(M:cs[k]?=some t)(h:dx s.l t=some (d,l')):Sub s ⟨s.t,l'.set id (.var ty (cs.set k (.d d)))⟩:=by
 intro w0 I0 n a w ao
 obtain⟨aj,I,m,Z,ak,al⟩:=ao
 obtain⟨b,vs,Y,av,af,ag,ah,aw⟩:=Z.obj id _ ab
 have O:k<vs.size:=by rw[ag];exact(c5.1 M).1
 obtain⟨J,aa,ai,aq,_⟩:=sD Z (ah k _ _ (e7 O) M).1 h
 have U:=Oo ab h
 have N:Le J m l' J m (l'.set id (.var ty (cs.set k (.d d)))):=Le.setKind U rfl rfl (λe size els h=>by rcases h with h|h<;>cases h)
 obtain⟨b,ax,B,ar,G,au,ad,ae⟩:=ai.obj id _ U
 rw[Y]at B;injection B with B;injection B with B;injection B with B;subst B
 rw[af]at G;injection G with G;injection G with G _ _;subst G
 refine⟨aj,J,m,ai.lg U (by simp) (b:=_) (by rw[Y];rfl) ae rfl rfl N rfl rfl rfl (eb _) (eb _) (λ_ _=>rfl) ⟨_,vs,Y,ar,af,by simpa using ag,λi x t F ht=>?_,ae⟩,ak.mono aa.dg,λj=>((al j).mono aa).mono N⟩
 rw[e4]at ht
 split at ht
 ·rename_i an
  subst an
  split at ht
  ·injection ht with ht;subst ht
   rw[e7 O]at F
   injection F with F;subst F
   exact⟨.d _ _ aq,(ah k _ _ (e7 O) M).2⟩
  cases ht
 exact⟨(ad i x t F ht).1.mono N,(ad i x t F ht).2⟩
def Sub.UG{id e size:Nat}{els:List D}(j:s.l[id]?=some (.row e size els)):Sub s ⟨s.t,s.l.set id (.br e size els)⟩:=by
 intro w0 I0 n a w U
 obtain⟨M,I,m,B,N,O⟩:=U
 obtain⟨xs,Z,ab,ad,ae⟩:=B.obj id _ j
 obtain⟨_,A,aa,c,G⟩:=ug Z
 have ht:ar I m s.l (m id) (.row id):=by rw[G];exact .row A aa c id (c5.1 j).1 (λ_=>G)
 obtain⟨J,F,Y,_,_⟩:=sD B ht (x:=.slice size els) (l':=s.l.set id (.br e size els)) (by simp only[dx,cV,j])
 exact⟨M,J,m,Y,N.mono F.dg,λk=>(O k).mono F⟩
end
section
variable {P:Program}{V:Env}{C:Cx}{ρ ρ':aS}{σ bH:Sk}{s:St}
def Nw:∀(t:List (Nat×TX))(j:Nat)(x:TX)(k:Nat),bd (mI j x t) k=bd t k\/(k=j/\bd (mI j x t) k=x)
 | [],j,x,k=>Or.inl rfl
 | (i,u)::r,j,x,k=>by
  simp only[mI]
  cases F:Nat.beq i j with
  |true=>
   have:=er F
   subst this
   simp only[cond_true,bd]
   cases B:Nat.beq i k with
   |true=>exact .inr ⟨(er B).symm,by simp⟩
   |false=>exact .inl (by simp)
  |false=>
   simp only[cond_false,bd]
   cases B:Nat.beq i k with
   |true=>exact .inl (by simp)
   |false=>simpa using Nw r j x k
def bn.slot{j:Nat}{x:TX}{u:T}{lX:List AX}{l':List AO}(h:∀k,RX ρ (bd σ.t k) (get s.t k))(G:RX ρ x u)(N:ey σ.n ρ)(O:RL ρ lX l'):bn ρ ⟨σ.n,mI j x σ.t,lX⟩ ⟨(j,u)::s.t,l'⟩:=by
 refine⟨N,λk=>?_,O⟩
 show RX ρ (bd (mI j x σ.t) k) (if j=k then u else get s.t k)
 rcases Nw σ.t j x k with e| ⟨rfl,e⟩
 ·by_cases F:j=k
  ·subst F
   rw[if_pos rfl]
   rcases M σ.t j x with e2|e2
   ·rw[e2];exact G
   rw[e2];exact .undef _
  rw[if_neg F,e];exact h k
 rw[if_pos rfl,e];exact G
where M:∀(t:List (Nat×TX))(j:Nat)(x:TX),bd (mI j x t) j=x\/bd (mI j x t) j=.undef
 | [],j,x=>.inr rfl
 | (i,u)::r,j,x=>by
  simp only[mI]
  cases B:Nat.beq i j with
  |true=>simp only[cond_true,bd,B];exact .inl trivial
  |false=>simp only[cond_false,bd,B];exact M r j x
def HH(
          h:bn ρ σ s){p:Pl}{c:Co}(B:pw σ p c=some bH):∃s',Sub s s'/\bn ρ bH s'/\bH.n=σ.n:=by
 cases c with
 |sS e t=>
  simp only[pw]at B
  cases G:dV t with
  |false=>simp[G]at B
  |true=>
   simp only[G,p6,cond_false]at B
   split at B
   ·rename_i z M
    simp only[c4]at B;subst B
    have au:σ.l.length=s.l.length:=h.l.len
    cases p with
    |obj id=>cases M
    |slot j=>
     have az:get s.t j=.bC z:=by
      have:=h.t j
      simp only[mW]at M
      rw[M]at this
      exact zD this
     refine⟨_,Sub.sS j e t.size az,?_,rfl⟩
     show bn ρ ⟨σ.n,mI j (.row σ.l.length) σ.t,_⟩ _
     rw[au]
     exact bn.slot h.t (.row _) h.eT (F2.app h.l (.cons (.row e t _ ([]:List t.den) (cP G) rfl) .nil))
    |cell id k=>
     simp only[mW]at M
     cases F:σ.l[id]? with
     |none=>simp[F]at M
     |some av=>
      obtain⟨ab,O,U⟩:=F2.left h.l F
      cases U with
      |var ty xs ts ae=>
       simp only[F]at M
       have aA:xs[k]?=some (.bC z):=by
        cases Y:xs[k]? with
        |none=>rw[Y]at M;simp at M
        |some y=>rw[Y]at M;simp at M;rw[M]
       obtain⟨u,an,al⟩:=ae.left aA
       have:=zD al
       subst this
       refine⟨_,Sub.Hy id k e t.size O an,?_,?_⟩
       ·have ay:(σ.l++[AX.row false e t (.nil t)])[id]?=some (.var ty xs):=by
         rw[e1 (c5.1 F).1];exact F
        simp only[uQ,ay]
        refine⟨h.eT,h.t,?_⟩
        rw[au]
        exact F2.set (F2.app h.l (.cons (.row e t _ ([]:List t.den) (cP G) rfl) .nil)) (.var ty _ _ (ae.set (.row _) k)) id
       simp only[uQ];split<;>rfl
      |_=>simp[F]at M
   cases B
 |data t=>
  simp only[pw]at B
  cases G:dV t with
  |false=>simp[G]at B
  |true=>
   simp only[G,p6,cond_false]at B
   split at B
   ·rename_i x l' N
    simp only[c4]at B;subst B
    cases p with
    |obj id=>simp[mW,l3,gI]at N
    |slot j=>
     simp only[mW]at N
     obtain⟨v,aF,aq,af,ag⟩:=BQ h.l (h.t j) N
     exact⟨_,Sub.Ta j af,bn.slot h.t (.d t x v (cP G) aq) h.eT ag,rfl⟩
    |cell id k=>
     simp only[mW]at N
     cases F:σ.l[id]? with
     |none=>simp only[F]at N;simp[l3,gI]at N
     |some av=>
      obtain⟨ab,O,U⟩:=F2.left h.l F
      cases U with
      |var ty xs ts ae=>
       simp only[F]at N
       cases Y:xs[k]? with
       |none=>rw[Y]at N;simp[l3,gI]at N
       |some y=>
        rw[Y]at N
        obtain⟨u,an,al⟩:=ae.left Y
        obtain⟨v,aF,aq,af,ag⟩:=BQ h.l al N
        refine⟨_,Sub.Tc id k O an af,?_,?_⟩
        ·have aB:=Oo O af
         obtain⟨aG,ax,aw⟩:=F2.right ag aB
         simp only[uQ]
         cases aw with
         |var _ aH _ aE=>
          simp only[ax]
          exact⟨h.eT,h.t,F2.set ag (.var ty _ _ (aE.set (.d t x v (cP G) aq) k)) id⟩
         |eO _ Y=>cases Y
        simp only[uQ];split<;>rfl
      |_=>simp only[F]at N;simp[l3,gI]at N
   cases B
 |yV=>
  simp only[pw]at B
  split at B
  ·rename_i id M
   split at B
   ·rename_i e t x F
    simp only[c4]at B;subst B
    obtain⟨ab,O,U⟩:=F2.left h.l F
    cases U with
    |row _ _ _ zs ar aa=>exact⟨_,Sub.UG O,⟨h.eT,h.t,F2.set h.l (.br e t x zs ar aa) id⟩,rfl⟩
   cases B
  cases B
 |grow e kk t=>
  simp only[pw]at B
  split at B
  ·rename_i id M
   split at B
   ·rename_i a F
    split at B
    ·rename_i x aa
     cases G:(dV t&&Nat.ble 1 t.size)with
     |false=>simp[G]at B
     |true=>
      simp only[G,cond_true,c4]at B;subst B
      simp only[db]at G
      obtain⟨ab,O,U⟩:=F2.left h.l F
      obtain⟨m,aC,aD⟩:=Oq (cP G.1) (hg G.2) U aa
      exact⟨⟨s.t,s.l.set id (.bz e t.size (m.map λp=>D.int kk p.1) (m.map λp=>(Ty.list t).enc p.2) none)⟩,λw0 I0 n a w ak=>by
       obtain⟨ah,I,m',ai,ad,aj⟩:=ak
       obtain⟨Z,ao⟩:=aD w0 I0 w I m' s.l id O ai
       exact⟨ah,I,m',ao,ad.mono Z.dg,λk=>(aj k).mono Z⟩,⟨h.eT,h.t,F2.set h.l (.bz e kk t x m (cP G.1) (hg G.2) aC) id⟩,rfl⟩
    cases B
   cases B
  cases B
 |B2=>
  simp only[pw]at B
  split at B
  ·rename_i id M
   split at B
   ·rename_i e kk t x F
    simp only[c4]at B;subst B
    obtain⟨ab,O,U⟩:=F2.left h.l F
    cases U with
    |bz _ _ _ _ m ar ad aa=>
     exact⟨⟨s.t,s.l.set id (.map (m.map λp:Int×List t.den=>D.int kk p.1) (m.map λp:Int×List t.den=>(Ty.list t).enc p.2))⟩,λw0 I0 n a w ak=>by
      obtain⟨ah,I,m',ai,ad,aj⟩:=ak
      obtain⟨Z,ao⟩:=ai.Kq O
      exact⟨ah,I,m',ao,ad.mono Z.dg,λk=>(aj k).mono Z⟩,⟨h.eT,h.t,F2.set h.l (.map (.int kk) (.list t) x m (cP rfl) (cP rfl) aa) id⟩,rfl⟩
   cases B
  cases B
def Sub.trans'{a b c:St}(h:Sub a b)(k:Sub b c):Sub a c:=λw0 I0 n x w j=>k w0 I0 n x w (h w0 I0 n x w j)
def Wj:∀(f:Nat){A B F j:Sk}{ps:kj}{s:St},bn ρ B s->meet f A B=some (F,j,ps)->∃s',Sub s s'/\bn ρ j s'/\j.n=B.n:=by
 intro f
 induction f with
 |zero=>intro A B F j ps s _ h;simp[meet]at h
 |succ f M=>
  intro A B F j ps s G h
  simp only[meet]at h
  split at h
  ·simp only[c4,e0]at h
   obtain⟨_,rfl,_⟩:=h
   exact⟨s,Sub.refl s,G,rfl⟩
  rename_i ag ah af N _
  split at h
  ·rename_i ad ae _ k
   cases N with
   |none=>
    simp only[yF,c4]at k
    subst k
    exact M G h
   |some c=>
    simp only[yF]at k
    obtain⟨s1,O,U,Y⟩:=HH G k
    obtain⟨s2,Z,aa,ab⟩:=M U h
    exact⟨s2,Sub.trans' O Z,aa,ab.trans Y⟩
  cases h
end
end Go.Sy
namespace Go.Sy
open Go Go.ag
variable [aG][cQ][cK][dw][bq][bX]
section
variable {P:Program}{V:Env}{C:Cx}{ρ ρ':aS}{σ bH:Sk}{s:St}
def nk(id:Nat):∀(ids:List Nat)(k:Nat),tG id ids k=ag.idx id ids k
 | [],k=>rfl
 |x::xs,k=>by
  simp only[tG,ag.idx]
  by_cases h:x=id
  ·subst h;simp
  have:Nat.beq x id=false:=by
   cases e:Nat.beq x id with
   |false=>rfl
   |true=>exact absurd (er e) h
  rw[this,if_neg h];exact nk id xs (k+1)
def MN{ids:List Nat}{c:TX}{t:T}(h:RX ρ c t)(B:rj c=true):RX ρ (Bu ids c) (t.so ids):=by
 cases h with
 |d t x v j k=>exact .d t x v j k
 |ptr id off=>
  simp only[Bu,T.so,fJ,nk]
  cases ag.idx id ids 0<;>constructor
 |bf id=>
  simp only[Bu,T.so,fJ,nk]
  cases ag.idx id ids 0<;>constructor
 |_=>simp[rj]at B
def oZ{ids:List Nat}{c:TX}{t:T}(h:RX ρ c t):RX ρ (oY ids c) (t.cZ ids):=by
 cases h with
 |d t x v B F=>exact .d t x v B F
 |undef t=>exact .undef _
 |gone=>exact .undef _
 |bC s=>exact .bC s
 |ev=>exact .ev
 |ptr id off=>simp only[oY,T.cZ,fJ,nk];cases ag.idx id ids 0<;>constructor
 |bB t e b off size els k v B F G M N O=>exact .bB t e b off size els k v B F G M N O
 |row id=>simp only[oY,T.cZ,fJ,nk];cases ag.idx id ids 0<;>constructor
 |bw id k off kk n B=>
  simp only[oY,T.cZ,fJ,nk]
  cases ag.idx id ids 0 with
  |some j=>exact .bw _ k off kk n B
  |none=>exact .undef _
 |map id=>simp only[oY,T.cZ,fJ,nk];cases ag.idx id ids 0<;>constructor
 |bf id=>simp only[oY,T.cZ,fJ,nk];cases ag.idx id ids 0<;>constructor
 |cE id n=>simp only[oY,T.cZ,fJ,nk];cases ag.idx id ids 0<;>constructor
 |bJ id t x xs B=>
  simp only[oY,T.cZ,nk]
  cases ag.idx id ids 0 with
  |some j=>exact .bJ _ t x xs B
  |none=>exact sq B
 |sub=>exact .undef _
 |agg cs ts B F=>exact .undef _
 |jo cs ds B F=>exact .undef _
 |aN cs ts B F=>exact .undef _
 |fW cs ds B F=>exact .undef _
 |aD f cs ts B F=>exact .undef _
 |ju f cs ds B F=>exact .undef _
def Bv{ids:List Nat}{c:TX}{t:T}(h:RX ρ c t):RX ρ (c.re ids) (t.bV ids):=by
 cases h with
 |d t x v B F=>exact .d t x v B F
 |undef t=>exact .undef _
 |gone=>exact .undef _
 |bC s=>exact .bC s
 |ev=>exact .ev
 |ptr id off=>exact oZ (.ptr id off)
 |bB t e b off size els k v B F M O Z aa=>exact .bB t e b off size els k v B F M O Z aa
 |row id=>exact oZ (.row id)
 |bw id k off kk n B=>exact oZ (.bw id k off kk n B)
 |map id=>exact oZ (.map id)
 |bf id=>exact oZ (.bf id)
 |cE id n=>exact oZ (.cE id n)
 |bJ id t x xs B=>exact oZ (.bJ id t x xs B)
 |sub=>exact .undef _
 |agg cs ts B F=>
  refine .agg _ _ (by simpa using B) λi c t j ht=>?_
  simp only[et,e5]at j ht
  obtain⟨G,j,rfl⟩:=j
  obtain⟨t',ht,rfl⟩:=ht
  exact oZ (F i G t' j ht)
 |jo cs ds B F=>
  refine .jo _ _ (by simpa using B) λi c d j U=>?_
  simp only[et,e5]at j
  obtain⟨G,j,rfl⟩:=j
  exact oZ (ids:=ids) (F i G d j U)
 |aN cs ts B F=>
  simp only[TX.re]
  cases N:cs.all y9 with
  |false=>exact .undef _
  |true=>
   have:ts.all T.data=true:=by
    rw[dT]at N⊢
    intro t ht
    obtain⟨i,hi,rfl⟩:=gT.1 ht
    have j:cs[i]?=some (cs[i]'(by omega)):=c3 (by omega)
    have M:=F i _ _ j (c3 hi)
    have O:=N _ (h6 (by omega:i<cs.length))
    generalize cs[i]'(by omega)=c at M O
    generalize ts[i]=t at M
    cases M<;>first|rfl| (simp[y9]at O;done)
   simp only[cond_true,T.bV,this,hK]
   exact .aN cs ts B F
 |fW cs ds B F=>
  simp only[TX.re]
  cases N:cs.all y9 with
  |false=>exact .undef _
  |true=>exact .fW cs ds B F
 |aD f cs ts B F=>
  simp only[TX.re]
  cases N:cs.all rj with
  |false=>exact .undef _
  |true=>
   have Y:∀(i:Nat) c,cs[i]?=some c->rj c=true:=λi c j=>by rw[dT]at N;exact N c (dk j)
   have:ts.all T.flat=true:=by
    rw[dT]
    intro t ht
    obtain⟨i,hi,rfl⟩:=gT.1 ht
    have j:cs[i]?=some (cs[i]'(by omega)):=c3 (by omega)
    have M:=F i _ _ j (c3 hi)
    have O:=Y i _ j
    generalize cs[i]'(by omega)=c at M O
    generalize ts[i]=t at M
    cases M<;>first|rfl| (simp[rj]at O;done)
   have e:(T.aD f ts).bV ids=.aD f (ts.map (T.so ids)):=by simp only[T.bV,T.cZ,this,hK]
   rw[e]
   refine .aD f _ _ (by simpa using B) λi c t j ht=>?_
   simp only[et,e5]at j ht
   obtain⟨G,j,rfl⟩:=j
   obtain⟨t',ht,rfl⟩:=ht
   exact MN (F i G t' j ht) (Y i G j)
 |ju f cs ds B F=>
  simp only[TX.re]
  cases N:cs.all rj with
  |false=>exact .undef _
  |true=>
   refine .ju f _ _ (by simpa using B) λi c d j U=>?_
   simp only[et,e5]at j
   obtain⟨G,j,rfl⟩:=j
   rw[dT]at N
   exact MN (ids:=ids) (F i G d j U) (N G (dk j))
def zE:∀{ids:List Nat},rN ids=true->ids.Nodup
 | [],_=>List.nodup_nil
 |x::xs,h=>by
  simp only[rN,db,gL]at h
  refine h9.2 ⟨λj=>?_,zE h.2⟩
  have:(xs.any λy=>Nat.beq x y)=true:=h5.2 ⟨x,j,ia x⟩
  rw[this]at h;simp at h
def Pq{ids:List Nat}{a:AX}{o:AO}(h:bT ρ a o):bT ρ (a.re ids) (o.bV ids):=by
 cases h with
 |dead=>exact .dead
 |var ty cs ts B=>
  refine .var ty _ _ (F2.of (by simp[B.len]) λi c t M ht=>?_)
  simp only[et,e5]at M ht
  obtain⟨U,M,rfl⟩:=M
  obtain⟨t',ht,rfl⟩:=ht
  exact Bv (B.get M ht)
 |row e t x xs F B=>exact .row e t x xs F B
 |br e t x xs F B=>exact .br e t x xs F B
 |map k v x m F G B=>exact .map k v x m F G B
 |dR k v x m F G B=>exact .dR k v x m F G B
 |bz e kk t x m F G B=>exact .bz e kk t x m F G B
 |fz e kk t x k m n F G B O=>exact .fz e kk t x k m n F G B O
 |dD j b rs vals ft B G=>exact .dD j b rs vals ft B G
 |lp j b rs st k ps bc N tm B G=>exact .lp j b rs st k ps bc N tm B G
 |eO o h=>exact(by cases o<;>first|exact .eO _ h|cases h)
def yZ(f:TX->TX)(j:f .undef=.undef):∀(t:List (Nat×TX))(k:Nat),bd (t.map λp=>(p.1,f p.2)) k=f (bd t k)
 | [],k=>j.symm
 | (i,u)::r,k=>by
  simp only[fa,bd]
  cases Nat.beq i k with
  |true=>rfl
  |false=>exact yZ f j r k
def Sk.MO{ids:List Nat}(h:bn ρ σ s)(aj:ids.Nodup)(Y:rl ids σ.l=true):∃s':St,(vl ids s.l/\c6 ids s.l=s'.l/\kx ids s.t s'.t)/\bn ρ (σ.re ids) s':=by
 have ae:vl ids s.l:=by
  intro id af o b t ab Z
  unfold rl at Y
  rw[dT]at Y
  have:=Y id af
  obtain⟨a,M,U⟩:=F2.right h.l ab
  rw[M]at this
  have fin:∀rs,(Nat.ble b ids.length&&rs.all λr=>Nat.blt r b&&(match ids[r]? with|some i=>Nat.beq i r|none=>false))=true->mR t rs->b<=ids.length/\∀k,∀r∈eI (ag.get t k),r<b/\ids[r]?=some r:=by
   intro rs B F
   rw[db,dT]at B
   refine⟨hg B.1,λk r ah=>?_⟩
   have N:=B.2 r (F k r ah)
   rw[db]at N
   refine⟨hg N.1,?_⟩
   have O:=N.2
   split at O
   ·rename_i i hi
    have:=er O
    subst this;exact hi
   cases O
  cases U with
  |dD j ad rs vals ft B F=>cases Z;exact fin rs this F
  |lp j ad rs st k ps bc ai tm B F=>cases Z;exact fin rs this F
  |eO o h=>cases this
  |_=>cases Z
 refine⟨⟨σ.t.map λp=>(p.1,(ag.get s.t p.1).bV ids),c6 ids s.l⟩,⟨ae,rfl,?_⟩,h.eT,λk=>?_,?_⟩
 ·have:∀(r:List (Nat×TX)),kx ids s.t (r.map λp=>(p.1,(ag.get s.t p.1).bV ids)):=by
   intro r
   induction r with
   |nil=>trivial
   |cons p r G=>exact⟨rfl,G⟩
  exact this _
 ·show RX ρ (bd (σ.t.map λp=>(p.1,p.2.re ids)) k) _
  rw[yZ (TX.re ids) rfl]
  have key:∀(r:List (Nat×TX)),(ag.get (r.map λp=>(p.1,(ag.get s.t p.1).bV ids)) k=(ag.get s.t k).bV ids)\/bd r k=.undef:=by
   intro r
   induction r with
   |nil=>exact .inr rfl
   |cons p r G=>
    obtain⟨i,u⟩:=p
    simp only[fa,ag.get,bd]
    by_cases aa:i=k
    ·subst aa;rw[if_pos rfl];exact .inl rfl
    have:Nat.beq i k=false:=by
     cases e:Nat.beq i k with
     |false=>rfl
     |true=>exact absurd (er e) aa
    rw[if_neg aa,this];exact G
  rcases key σ.t with e|e
  ·rw[e];exact Go.Sy.Bv (h.t k)
  rw[e];exact .undef _
 show F2 (bT ρ) (ids.map λid=>((σ.l[id]?).getD .dead).re ids) (ids.map λid=>((s.l[id]?).getD .dead).bV ids)
 have:∀is:List Nat,F2 (bT ρ) (is.map λid=>((σ.l[id]?).getD .dead).re ids) (is.map λid=>((s.l[id]?).getD .dead).bV ids):=by
  intro is
  induction is with
  |nil=>exact .nil
  |cons id is G=>
   refine .cons (Pq ?_) G
   cases M:σ.l[id]? with
   |none=>rw[F2.none h.l M];exact .dead
   |some a=>
    obtain⟨o,ab,U⟩:=F2.left h.l M
    rw[ab];exact U
 exact this ids
def Sk.Bv{ids:List Nat}(h:bn ρ σ s)(j:rN ids=true)(M:rl ids σ.l=true):∃s',Sub s s'/\bn ρ (σ.re ids) s':=by
 obtain⟨s',⟨k,B,F⟩,G⟩:=Sk.MO h (zE j) M
 exact⟨s',ZR ids (zE j) k B F,G⟩
end
end Go.Sy
namespace Go.Sy
open Go Go.ag
variable [aG][Λ:cQ][cK][dw][bq][R0:bX]
section
variable {P:Program}{V:Env}{C:Cx}{ρ ρ':aS}{σ bH:Sk}{s:St}
def kz{i j:Nat}(h:i≠j):Nat.beq i j=false:=by
 cases e:Nat.beq i j with
 |false=>rfl
 |true=>exact absurd (er e) h
def tF(m k j:Nat):hasB (jN m k) j=(hasB m j||decide (k=j)):=by
 have h:∀m j:Nat,hasB m j=m.testBit j:=λm j=>by
  unfold hasB Nat.testBit
  have:∀x:Nat,Nat.beq (Nat.land x 1) 1=(1 &&& x != 0):=λx=>by
   show Nat.beq (x &&& 1) 1=_
   rw[Nat.and_comm 1 x,Nat.and_one_is_mod]
   have:=T0 x
   rcases this with h|h<;>rw[h]<;>rfl
  exact this _
 rw[h,h]
 show(m ||| (1 <<< k)).testBit j=_
 rw[Nat.testBit_or]
 congr 1
 rw[Nat.testBit_shiftLeft]
 by_cases e:k=j
 ·subst e;simp
 simp[e]
 intro F
 have:j-k≠0:=by omega
 obtain⟨q,B⟩:∃q,j-k=q+1:=⟨j-k-1,by omega⟩
 rw[B,Nat.testBit_succ]
 simp
def gX(k:Nat):List (Nat×TX)->Bool
 | []=>false
 | (i,_)::r=>Nat.beq i k||gX k r
def DJ{k:Nat}:∀{t:List (Nat×TX)},gX k t=false->bd t k=.undef
 | [],_=>rfl
 | (i,u)::r,h=>by
  simp only[gX,k4]at h
  simp only[bd,h.1,cond_false]
  exact DJ h.2
def y7(j:Nat)(x:TX):∀(t:List (Nat×TX))(k:Nat),k≠j->bd (oC j x t) k=bd t k/\gX k (oC j x t)=gX k t
 | [],k,h=>by
  have:=kz (λe:j=k=>h e.symm)
  simp[oC,bd,gX,this]
 | (i,u)::r,k,h=>by
  have B:=kz (λe:j=k=>h e.symm)
  simp only[oC]
  cases M:Nat.ble j i with
  |true=>
   cases N:Nat.beq j i with
   |true=>simp
   |false=>simp[bd,gX,B]
  |false=>
   simp only[cond_false,bd,gX]
   obtain⟨F,G⟩:=y7 j x r k h
   rw[F,G];exact⟨rfl,rfl⟩
def Kx(j:Nat)(x:TX):∀(t:List (Nat×TX)),gX j t=false->bd (oC j x t) j=x
 | [],_=>by simp[oC,bd]
 | (i,u)::r,h=>by
  simp only[gX,k4]at h
  simp only[oC]
  cases k:Nat.ble j i with
  |true=>
   have:Nat.beq j i=false:=kz (λe=>by subst e;simp at h)
   simp[this,bd]
  |false=>simp only[cond_false,bd,h.1];exact Kx j x r h.2
def BB(F:Nat):∀(t:List (Nat×TX))(seen k:Nat),(hasB seen k=true->gX k (jG F t seen)=false)/\(hasB seen k=false->bd (jG F t seen) k=.undef\/bd (jG F t seen) k=bd t k)
 | [],seen,k=>⟨λ_=>rfl,λ_=>.inl rfl⟩
 | (
    i,u)::r,seen,k=>by
  simp only[jG]
  have M:=BB F r (jN seen i) k
  have U:=BB F r seen k
  have ab:=BB F r (jN seen i) i
  cases G:(hasB F i && !hasB seen i)with
  |false=>
   simp only[cond_false]
   refine⟨U.1,λh=>?_⟩
   by_cases B:i=k
   ·subst B
    have aa:hasB F i=false:=by simpa [h]using G
    left
    have:∀(t:List (Nat×TX))(seen:Nat),gX i (jG F t seen)=false:=by
     intro t
     induction t with
     |nil=>intro _;rfl
     |cons p t N=>
      obtain⟨j,w⟩:=p
      intro seen
      simp only[jG]
      cases Y:(hasB F j && !hasB seen j)with
      |false=>exact N seen
      |true=>
       have Z:i≠j:=by rintro rfl;simp[aa]at Y
       simp only[cond_true]
       cases we w with
       |true=>exact N _
       |false=>simp only[cond_false];rw[(y7 j w _ i Z).2];exact N _
    exact DJ (this r seen)
   rcases U.2 h with e|e
   ·exact .inl e
   right;rw[e];simp only[bd,kz B,cond_false]
  |true=>
   simp only[cond_true]
   simp only[db,gL]at G
   have O:gX i (jG F r (jN seen i))=false:=ab.1 (by rw[tF];simp)
   cases ad:we u with
   |true=>
    simp only[cond_true]
    refine⟨λh=>M.1 (by rw[tF,h];rfl),λh=>?_⟩
    by_cases B:i=k
    ·subst B;exact .inl (DJ O)
    rcases M.2 (by rw[tF,h];simp[B])with e|e
    ·exact .inl e
    right;rw[e];simp only[bd,kz B,cond_false]
   |false=>
    simp only[cond_false]
    refine⟨λh=>?_,λh=>?_⟩
    ·have B:k≠i:=by rintro rfl;rw[h]at G;simp at G
     rw[(y7 i u _ k B).2]
     exact M.1 (by rw[tF,h];rfl)
    by_cases B:i=k
    ·subst B
     right
     rw[Kx i u _ O]
     simp[bd]
    rw[(y7 i u _ k (λe=>B e.symm)).1]
    rcases M.2 (by rw[tF,h];simp[B])with e|e
    ·exact .inl e
    right;rw[e];simp only[bd,kz B,cond_false]
def Kr(k:Nat):hasB 0 k=false:=by
 unfold hasB
 have:Nat.shiftRight 0 k=0:=Nat.zero_shiftRight k
 rw[this];rfl
theorem uM(j:Nat)(h:bn ρ σ s):bn ρ (σ.cD j) s:=by
 refine⟨h.eT,λk=>?_,h.l⟩
 show RX ρ (bd (jG j σ.t 0) k) _
 rcases (BB j σ.t 0 k).2 (Kr k)with e|e
 ·rw[e];exact .undef _
 rw[e];exact h.t k
mutual
theorem TX.beq_eq:∀{x y:TX},TX.beq x y=true->x=y
 |.undef,y,h=>by cases y<;>simp[TX.beq]at h<;>rfl
 |.gone,y,h=>by cases y<;>simp[TX.beq]at h<;>rfl
 |.d t x,y,h=>by
  cases y<;>simp[TX.beq]at h
  obtain⟨rfl,j⟩:=h
  rw[X.beq_eq j]
 |.bC s,y,h=>by cases y<;>simp[TX.beq]at h;rw[h]
 |.ev,y,h=>by cases y<;>simp[TX.beq]at h<;>rfl
 |.ptr i o,y,h=>by cases y<;>simp[TX.beq]at h;rw[h.1,h.2]
 |.bB t e o,y,h=>by
  cases y<;>simp[TX.beq]at h
  obtain⟨⟨rfl,j⟩,B⟩:=h
  rw[X.beq_eq j,B]
 |.row i,y,h=>by cases y<;>simp[TX.beq]at h;rw[h]
 |.bw i k o,y,h=>by
  cases y<;>simp[TX.beq]at h
  obtain⟨⟨rfl,j⟩,B⟩:=h
  rw[X.beq_eq j,B]
 |.map i,y,h=>by cases y<;>simp[TX.beq]at h;rw[h]
 |.bf i,y,h=>by cases y<;>simp[TX.beq]at h;rw[h]
 |.cE i n,y,h=>by cases y<;>simp[TX.beq]at h;rw[h.1,h.2]
 |.bJ i t x,y,h=>by
  cases y<;>simp[TX.beq]at h
  obtain⟨⟨rfl,rfl⟩,B⟩:=h
  rw[X.beq_eq B]
 |.agg a,y,h=>by
  cases y<;>simp[TX.beq]at h
  rw[TX.vv h]
 |.aN a,y,h=>by
  cases y<;>simp[TX.beq]at h
  rw[TX.vv h]
 |.aD f a,y,h=>by
  cases y<;>simp[TX.beq]at h
  rw[h.1,TX.vv h.2]
theorem TX.vv:∀{x y:List TX},TX.pz x y=true->x=y
 | [],y,h=>by cases y<;>simp[TX.pz]at h<;>rfl
 |a::r,y,h=>by
  cases y<;>simp[TX.pz]at h
  rw[TX.beq_eq h.1,TX.vv h.2]
end
def Oi:∀{x y:List (Nat×TX)},sC x y=true->x=y
 | [],[],_=>rfl
 | (i,a)::r,(j,b)::s,h=>by
  simp only[sC,db]at h
  rw[er h.1.1,TX.beq_eq h.1.2,Oi h.2]
 | [],_::_,h=>by simp[sC]at h
 |_::_,[],h=>by simp[sC]at h
def AX.beq_eq{x y:AX}(h:AX.beq x y=true):x=y:=by
 cases x<;>cases y<;>simp[AX.beq]at h
 ·rfl
 ·rw[h.1,TX.vv h.2]
 ·obtain⟨⟨⟨j,k⟩,B⟩,F⟩:=h;rw[j,k,B,X.beq_eq F]
 ·obtain⟨⟨⟨j,k⟩,B⟩,F⟩:=h;rw[j,k,B,X.beq_eq F]
 ·obtain⟨⟨⟨j,k⟩,B⟩,F⟩:=h;rw[j,k,B,X.beq_eq F]
 ·obtain⟨⟨⟨⟨j,k⟩,B⟩,F⟩,G⟩:=h;rw[j,k,B,X.beq_eq F,X.beq_eq G]
 ·obtain⟨⟨j,k⟩,B⟩:=h;rw[j,k,B]
 ·obtain⟨⟨⟨j,k⟩,B⟩,F⟩:=h;rw[j,k,B,F]
 rfl
def vq:∀{x y:List AX},lr x y=true->x=y
 | [],[],_=>rfl
 |a::r,b::s,h=>by
  simp only[lr,db]at h
  rw[AX.beq_eq h.1,vq h.2]
 | [],_::_,h=>by simp[lr]at h
 |_::_,[],h=>by simp[lr]at h
structure vk(n h:Nat)(ρ:aS)(g:Nat->X)(ρ':aS)(g':Nat->X):Prop where
 lk:∀i v,i<n->lk ρ i=some v->lk ρ' i=some v
 g:∀p v,p<h->(g p).den ρ=some v->(g' p).den ρ'=some v
def IA{i n:Nat}(h:Nat.blt i n=true):i<n:=hg h
theorem X.fF{n h:Nat}{g U:Nat->X}(aa:vk n h ρ g ρ' U):∀{x:X},x.cL n h=true->∀{v:Sy.V},(x.fill g).den ρ=some v->(x.fill U).den ρ'=some v:=by
 intro x
 induction x with
 |var i=>intro B v k;exact aa.lk i v (IA B) k
 |hole p=>intro B v k;exact aa.g p v (IA B) k
 |pair a b ad ae=>
  intro B v k
  simp only[X.cL,db]at B
  simp only[X.fill,X.den]at k⊢
  cases Y:(a.fill g).den ρ<;>cases Z:(b.fill g).den ρ<;>simp[Y,Z]at k
  rw[ad B.1 Y,ae B.2 Z];simp[k]
 |aD f x M|box x M|proj i j x M|mk i x M|u1 o x M=>
  intro B v k
  simp only[X.cL]at B
  simp only[X.fill,X.den]at k⊢
  cases F:(x.fill g).den ρ<;>simp[F]at k
  rw[M B F];simpa using k
 |u2 o x y N O=>
  intro B v k
  simp only[X.cL,db]at B
  simp only[X.fill,X.den]at k⊢
  cases F:(x.fill g).den ρ<;>cases G:(y.fill g).den ρ<;>simp[F,G]at k
  rw[N B.1 F,O B.2 G];simpa using k
 |u3 o x y z N O af=>
  intro B v k
  simp only[X.cL,db]at B
  simp only[X.fill,X.den]at k⊢
  cases F:(x.fill g).den ρ<;>cases G:(y.fill g).den ρ<;>cases ab:(z.fill g).den ρ<;>simp[F,G,ab]at k
  rw[N B.1.1 F,O B.1.2 G,af B.2 ab];simpa using k
 |_=>intro B v k;exact k
mutual
theorem TX.fF {n h:Nat} {g aa:Nat->X} (Y:vk n h ρ g ρ' aa):∀{c:TX},c.cL n h=true->∀{t:T},RX ρ (c.fill g) t->RX ρ' (c.fill aa) t
 |.undef,_,t,_=>.undef t
 |.gone,_,t,j=>by simp only[TX.fill]at j⊢;cases j;exact .gone
 |.d t x,B,u,j=>by
  simp only[TX.fill]at j⊢
  obtain⟨ah,v,F,rfl⟩:=kq j
  exact .d t _ v ah (X.fF Y B F)
 |.bC s,_,t,j=>by simp only[TX.fill]at j⊢;cases j;exact .bC _
 |.ev,_,t,j=>by simp only[TX.fill]at j⊢;cases j;exact .ev
 |.ptr i o,_,t,j=>by simp only[TX.fill]at j⊢;cases j;exact .ptr _ _
 |.bB t e o,B,u,j=>by
  simp only[TX.fill]at j⊢
  cases j with
  |bB _ _ b off size els k v F O ad ae af ag=>exact .bB t _ b _ size els k v F (X.fF Y B O) ad ae af ag
 |.row i,_,t,j=>by simp only[TX.fill]at j⊢;cases j;exact .row _
 |.bw i k o,B,t,j=>by
  simp only[TX.fill]at j⊢
  cases j with
  |bw _ _ _ kk m F=>exact .bw _ _ _ kk m (X.fF Y B F)
 |.map i,_,t,j=>by simp only[TX.fill]at j⊢;cases j;exact .map _
 |.bf i,_,t,j=>by simp only[TX.fill]at j⊢;cases j;exact .bf _
 |.cE i n,_,t,j=>by simp only[TX.fill]at j⊢;cases j;exact .cE _ _
 |.bJ i t x,B,u,j=>by
  simp only[TX.fill]at j⊢
  cases j with
  |bJ _ _ _ xs F=>exact .bJ _ _ _ xs (X.fF Y B F)
 |.agg cs,B,t,j=>by
  simp only[TX.fill,TX.cL]at j B⊢
  obtain⟨M,Z⟩:=TX.vQ Y (cs:=cs) B
  cases j with
  |agg _ ts F O=>exact .agg _ ts (by rw[M.2,<-M.1];exact F) λi c t G ht=>Z i c t G λN U=>O i N t U ht
  |jo _ ds F O=>exact .jo _ ds (by rw[M.2,<-M.1];exact F) λi c d G ab=>Z i c (.d d) G λN U=>O i N d U ab
 |.aN cs,B,t,j=>by
  simp only[TX.fill,TX.cL]at j B⊢
  obtain⟨M,Z⟩:=TX.vQ Y (cs:=cs) B
  cases j with
  |aN _ ts F O=>exact .aN _ ts (by rw[M.2,<-M.1];exact F) λi c t G ht=>Z i c t G λN U=>O i N t U ht
  |fW _ ds F O=>exact .fW _ ds (by rw[M.2,<-M.1];exact F) λi c d G ab=>Z i c (.d d) G λN U=>O i N d U ab
 |.aD f cs,B,t,j=>by
  simp only[TX.fill,TX.cL]at j B⊢
  obtain⟨M,Z⟩:=TX.vQ Y (cs:=cs) B
  cases j with
  |aD _ _ ts F O=>exact .aD f _ ts (by rw[M.2,<-M.1];exact F) λi c t G ht=>Z i c t G λN U=>O i N t U ht
  |ju _ _ ds F O=>exact .ju f _ ds (by rw[M.2,<-M.1];exact F) λi c d G ab=>Z i c (.d d) G λN U=>O i N d U ab
theorem TX.vQ {n h:Nat} {g aa:Nat->X} (Y:vk n h ρ g ρ' aa):∀{cs:List TX},TX.rQ n h cs=true->((TX.jS g cs).length=cs.length/\(TX.jS aa cs).length=cs.length)/\∀(i:Nat) c t,(TX.jS aa cs)[i]?=some c->(∀N,(TX.jS g cs)[i]?=some N->RX ρ N t)->RX ρ' c t
 | [],_=>⟨⟨rfl,rfl⟩,λi c t G=>by simp[TX.jS]at G⟩
 |c0::cs,B=>by
  simp only[TX.rQ,db]at B
  obtain⟨M,Z⟩:=TX.vQ Y (cs:=cs) B.2
  refine⟨⟨by simp[TX.jS,M.1],by simp[TX.jS,M.2]⟩,λi c t G j=>?_⟩
  cases i with
  |zero=>
   simp only[TX.jS,List.getElem?_cons_zero,c4]at G j
   subst G
   exact TX.fF Y B.1 (j _ rfl)
  |succ i=>
   simp only[TX.jS,List.getElem?_cons_succ]at G j
   exact Z i c t G j
end
end
end Go.Sy
namespace Go.Sy
open Go Go.ag
variable [aG][cQ][cK][dw][bq][bX]
section
variable {P:Program}{V:Env}{C:Cx}{ρ ρ':aS}{σ bH:Sk}{s:St}
theorem AX.fF{n h:Nat}{g U:Nat->X}(O:vk n h ρ g ρ' U){a:AX}(G:a.cL n h=true){o:AO}(F:bT ρ (a.fill g) o):bT ρ' (a.fill U) o:=by
 cases a with
 |dead=>simp only[AX.fill]at F⊢;cases F;exact .dead
 |var ty cs=>
  simp only[AX.fill,AX.cL]at F G⊢
  obtain⟨Y,af⟩:=TX.vQ O (cs:=cs) G
  cases F with
  |var _ _ ts B=>exact .var ty _ ts (F2.of (by rw[Y.2,<-Y.1];exact B.len) λi c t ad ht=>af i c t ad λag ae=>B.get ae ht)
 |row aa e t x=>
  simp only[AX.fill,AX.cL]at F G⊢
  cases F with
  |row _ _ _ xs M B=>exact .row e t _ xs M (X.fF O G B)
  |br _ _ _ xs M B=>exact .br e t _ xs M (X.fF O G B)
 |map aa k v x=>
  simp only[AX.fill,AX.cL]at F G⊢
  cases F with
  |map _ _ _ m M N B=>exact .map k v _ m M N (X.fF O G B)
  |dR _ _ _ m M N B=>exact .dR k v _ m M N (X.fF O G B)
 |bz e kk t x=>
  simp only[AX.fill,AX.cL]at F G⊢
  cases F with
  |bz _ _ _ _ m M N B=>exact .bz e kk t _ m M N (X.fF O G B)
 |fz e kk t x k=>
  simp only[AX.fill,AX.cL,db]at F G⊢
  cases F with
  |fz _ _ _ _ _ m n M N B ab=>exact .fz e kk t _ _ m n M N (X.fF O G.1 B) (X.fF O G.2 ab)
 |dD j b rs=>simp only[AX.fill]at F⊢;cases F with|dD _ _ _ vals ft B N=>exact .dD j b rs vals ft B N
 |lp j b rs st=>simp only[AX.fill]at F⊢;cases F with|lp _ _ _ _ k ps bc Z tm B N=>exact .lp j b rs st k ps bc Z tm B N
 |eO=>simp only[AX.fill]at F⊢;cases F with|eO o h=>exact .eO o h
theorem Sk.fF{n h n1 Z:Nat}{g G:Nat->X}(U:vk n h ρ g ρ' G){j:Sk}(M:j.cL n h=true)(ab:ey Z ρ')(Y:bn ρ (j.fill g n1) s):bn ρ' (j.fill G Z) s:=by
 simp only[Sk.cL,db,dT]at M
 refine⟨ab,λk=>?_,?_⟩
 ·have B:=Y.t k
  show RX ρ' (bd (j.t.map λp=>(p.1,p.2.fill G)) k) _
  have B:RX ρ (bd (j.t.map λp=>(p.1,p.2.fill g)) k) (ag.get s.t k):=B
  rw[yZ (TX.fill g) rfl]at B
  rw[yZ (TX.fill G) rfl]
  by_cases F:bd j.t k=.undef
  ·rw[F];exact .undef _
  have:∀t:List (Nat×TX),bd t k ≠ .undef->∃p∈t,bd t k=p.2:=by
   intro t
   induction t with
   |nil=>intro h;exact absurd rfl h
   |cons p r ai=>
    intro F
    simp only[bd]at F⊢
    cases e:Nat.beq p.1 k with
    |true=>exact⟨p,by simp,rfl⟩
    |false=>
     rw[e]at F
     obtain⟨q,af,ah⟩:=ai F
     exact⟨q,by simp[af],ah⟩
  obtain⟨p,ae,e⟩:=this j.t F
  rw[e]at B⊢
  exact TX.fF U (M.1 p ae) B
 have B:F2 (bT ρ) (j.l.map (AX.fill g)) s.l:=Y.l
 show F2 (bT ρ') (j.l.map (AX.fill G)) s.l
 refine F2.of (by have:=B.len;simpa using this) λi a o N ad=>?_
 simp only[et,e5]at N
 obtain⟨aa,O,rfl⟩:=N
 exact AX.fF U (M.2 aa (dk O)) (B.get (i:=i) (by simp[O]) ad)
theorem Oz:∀{ts:List Ty}{xs:List X}{y:(ba ts).den},xs.length=ts.length->(fL xs).den ρ=some ⟨ba ts,y⟩->∀(j:Nat) x,xs[j]?=some x->x.den ρ=cW ts y j
 | [],xs,y,B,h,j,x,k=>by
  have:xs=[]:=by simpa using B
  subst this;simp at k
 | [t],xs,y,B,h,j,x,k=>by
  match xs,B with
  | [z],_=>
   cases j with
   |zero=>simp at k;subst k;exact h
   |succ j=>simp at k
 |t::u::ts,xs,y,B,h,j,x,k=>by
  match xs,B with
  |z::w::r,B=>
   rw[Oy]at h
   simp only[X.den]at h
   cases F:z.den ρ with
   |none=>simp[F]at h
   |some p=>
    cases G:(fL (w::r)).den ρ with
    |none=>simp[F,G]at h
    |some q=>
     simp only[F,G,c4]at h
     obtain⟨N,O⟩:=p;obtain⟨U,M⟩:=q
     have h:(⟨.aN N U,(O,M)⟩:Sy.V)=⟨.aN t (ba (u::ts)),y⟩:=h
     cases h
     cases j with
     |zero=>simp at k;subst k;rw[F];rfl
     |succ j=>
      have:=Oz (ts:=u::ts) (xs:=w::r) (y:=M) (by simpa using B) G j x (by simpa using k)
      rw[this];rfl
theorem instS_ok{j:Sk}{k n0:Nat}{ts:List Ty}{ρ0:aS}{xs:List X}{y:(ba ts).den}(h:bn ρ σ s)(hi:instS j k σ=some xs)(U:ts.length=k)(an:(fL xs).den ρ=some ⟨ba ts,y⟩)(ah:j.cL n0 k=true)(ag:∀i v,i<n0->lk ρ i=some v->lk ρ0 i=some v)(ai:ey n0 ρ0):∃s',Sub s s'/\bn ((n0,⟨ba ts,y⟩)::ρ0) (j.fill (tp n0 k) (n0+1)) s':=by
 unfold instS at hi
 split at hi
 ·rename_i A B ps ak
  simp only at hi
  generalize ax:JC j (B.re (ps.map (·.2)))=vs at hi
  cases F:(sC (j.fill (rB vs) σ.n).t (B.re (ps.map (·.2))).t&&lr (j.fill (rB vs) σ.n).l (B.re (ps.map (·.2))).l&&rN (ps.map (·.2))&&rl (ps.map (·.2)) B.l)with
  |false=>simp[F]at hi
  |true=>
   simp only[F,cond_true,c4]at hi
   simp only[db]at F
   obtain⟨⟨⟨aa,ab⟩,ad⟩,ae⟩:=F
   obtain⟨s1,ar,au,av⟩:=Wj _ (uM (ED j.t 0) h) ak
   obtain⟨s2,aw,Z⟩:=Sk.Bv au ad ae
   have N:(B.re (ps.map (·.2))).n=σ.n:=av
   have e:j.fill (rB vs) σ.n=B.re (ps.map (·.2)):=by
    have G:=Oi aa;have M:=vq ab
    show(⟨_,_,_⟩:Sk)=_
    cases af:B.re (ps.map (·.2))with
    |mk a b c=>
     rw[af]at G M N
     simp only[Sk.fill]at G M⊢
     simp only at N
     rw[G,M,N]
   rw[<-e]at Z
   refine⟨s2,Sub.trans' ar aw,Sk.fF (n1:=σ.n) ⟨λi v aj O=>?_,λp v al O=>?_⟩ ah (ai.push (rv n0) _) Z⟩
   ·have:=ag i v aj O
    simp only[lk,kz (by omega:n0≠i),cond_false]
    exact this
   have ao:xs.length=ts.length:=by rw[<-hi,U];simp
   have aq:xs[p]?=some (rB vs p):=by rw[<-hi];simp[al]
   have Y:=Oz ao an p _ aq
   rw[O]at Y
   show(rO k p (.var n0)).den _=_
   rw[<-U,zK p (a:=y) (show(X.var n0).den _=some ⟨ba ts,y⟩from jZ n0 _ ρ0) (by omega),<-Y]
 cases hi
end
def rq{α:Type}(step:(α->Prop)->α->Prop):Nat->α->Prop
 |0,_=>False
 |n+1,z=>step (rq step n) z
abbrev LJ:=Nat->Sy.V->Prop
abbrev LQ:=Ex->Sk->aS->LJ->Prop
def gR(p:Sy.V->Prop)(J:LJ):LJ
 |0=>p
 |k+1=>J k
def Tr.wp(cs:List Callee):Tr->aS->LQ->LJ->Prop
 |.leaf e σ,ρ,Q,J=>Q e σ ρ J
 |.out k x,ρ,_,J=>∃v,x.den ρ=some v/\J k v
 |.bS x t,ρ,Q,J=>x.den ρ=some ⟨.bool,true⟩/\Tr.wp cs t ρ Q J
 |.get v xs k t,ρ,Q,J=>∃(u:Ty)(l:List u.den)(kk:IntKind)(i:Int)(e:u.den),xs.den ρ=some ⟨.list u,l⟩/\k.den ρ=some ⟨.int kk,i⟩/\au l i=some e/\Tr.wp cs t ((v,⟨u,e⟩)::ρ) Q J
 |.call v c x t,ρ,Q,J=>∃(C:Callee)(a:(ba C.args).den)(y:(ba C.res).den),cs[c]?=some C/\x.den ρ=some ⟨ba C.args,a⟩/\C.fn a=some y/\Tr.wp cs t ((v,⟨ba C.res,y⟩)::ρ) Q J
 |.fP c a b,ρ,Q,J=>∃b0:Bool,c.den ρ=some ⟨.bool,b0⟩/\(b0=true->Tr.wp cs a ρ Q J)/\(b0=false->Tr.wp cs b ρ Q J)
 |.gE c a b,ρ,Q,J=>∃(u:Ty)(xs:List u.den),c.den ρ=some ⟨.list u,xs⟩/\(xs=[]->Tr.wp cs a ρ Q J)/\Tr.wp cs b ρ Q J
 |.join ty v a b,ρ,Q,J=>Tr.wp cs a ρ Q (gR (λz=>∃y:ty.den,z=⟨ty,y⟩/\Tr.wp cs b ((v,⟨ty,y⟩)::ρ) Q J) J)
 |.loop ty v init body,ρ,Q,J=>∃j:ty.den,init.den ρ=some ⟨ty,j⟩/\∃n,rq (λagain z=>Tr.wp cs body ((v,⟨ty,z⟩)::ρ) Q (gR (λz'=>∃y:ty.den,z'=⟨ty,y⟩/\again y) J)) n j
 |.bad _,_,_,_=>False
theorem tQ{α:Type}{s1 s2:(α->Prop)->α->Prop}(h:∀p q z,(∀y,p y->q y)->s1 p z->s2 q z):∀{n:Nat}{z:α},rq s1 n z->rq s2 n z
 |0,_,j=>j
 |n+1,z,j=>h _ _ z (λy k=>tQ h k) j
theorem nd{p q:Sy.V->Prop}{J J':LJ}(h:∀v,p v->q v)(B:∀k v,J k v->J' k v):∀k v,gR p J k v->gR q J' k v
 |0,v,j=>h v j
 |k+1,v,j=>B k v j
theorem Tr.wp_mono{cs:List Callee}:∀{t:Tr}{ρ:aS}{Q Q':LQ}{J J':LJ},(∀k v,J k v->J' k v)->(∀e σ ρ' Z aa,(∀k v,Z k v->aa k v)->Q e σ ρ' Z->Q' e σ ρ' aa)->Tr.wp cs t ρ Q J->Tr.wp cs t ρ Q' J':=by
 intro t
 induction t with
 |leaf e σ=>intro ρ Q Q' J J' j B h;exact B e σ ρ J J' j h
 |out k x=>intro ρ Q Q' J J' j B ⟨v,F,G⟩;exact⟨v,F,j k v G⟩
 |bS x t N=>intro ρ Q Q' J J' j B ⟨F,G⟩;exact⟨F,N j B G⟩
 |get v xs k t N=>intro ρ Q Q' J J' j B ⟨u,l,kk,i,e,F,G,M,O⟩;exact⟨u,l,kk,i,e,F,G,M,N j B O⟩
 |call v c x t N=>intro ρ Q Q' J J' j B ⟨C,a,y,F,G,M,O⟩;exact⟨C,a,y,F,G,M,N j B O⟩
 |fP c a b U Y=>intro ρ Q Q' J J' j B ⟨b0,F,G,M⟩;exact⟨b0,F,λh=>U j B (G h),λh=>Y j B (M h)⟩
 |gE c a b U Y=>intro ρ Q Q' J J' j B ⟨u,xs,F,G,M⟩;exact⟨u,xs,F,λh=>U j B (G h),Y j B M⟩
 |join ty v a b U Y=>
  intro ρ Q Q' J J' j B h
  exact U (nd (λz ⟨y,F,G⟩=>⟨y,F,Y j B G⟩) j) B h
 |loop ty v i b N=>
  intro ρ Q Q' J J' j B ⟨ae,F,n,G⟩
  exact⟨ae,F,n,tQ (s1:=λagain z=>Tr.wp cs b ((v,⟨ty,z⟩)::ρ) Q (gR (λz'=>∃y:ty.den,z'=⟨ty,y⟩/\again y) J)) (λp q z ab ad=>N (nd (λz' ⟨y,M,O⟩=>⟨y,M,ab y O⟩) j) B ad) G⟩
 |bad w=>intro ρ Q Q' J J' _ _ h;exact h
def eV(Q:LQ):Prop:=∀e σ ρ j B,(∀k v,j k v->B k v)->Q e σ ρ j->Q e σ ρ B
theorem jQ{cs:List Callee}{f:Ex->Sk->Tr}{Q:LQ}(Y:eV Q):∀{t:Tr}{ρ:aS}{J:LJ},Tr.wp cs (eJ f t) ρ Q J->Tr.wp cs t ρ (λe σ ρ' J'=>Tr.wp cs (f e σ) ρ' Q J') J:=by
 intro t
 induction t with
 |leaf e σ=>intro ρ J h;exact h
 |out k x=>intro ρ J h;exact h
 |bS x t G=>intro ρ J ⟨j,B⟩;exact⟨j,G B⟩
 |get v xs k t G=>intro ρ J ⟨u,l,kk,i,e,j,B,F,M⟩;exact⟨u,l,kk,i,e,j,B,F,G M⟩
 |call v c x t G=>intro ρ J ⟨C,a,y,j,B,F,M⟩;exact⟨C,a,y,j,B,F,G M⟩
 |fP c a b N O=>intro ρ J ⟨b0,j,B,F⟩;exact⟨b0,j,λh=>N (B h),λh=>O (F h)⟩
 |gE c a b N O=>intro ρ J ⟨u,xs,j,B,F⟩;exact⟨u,xs,j,λh=>N (B h),O F⟩
 |join ty v a b N O=>
  intro ρ J h
  have:=N (J:=gR (λz=>∃y:ty.den,z=⟨ty,y⟩/\Tr.wp cs (eJ f b) ((v,⟨ty,y⟩)::ρ) Q J) J) h
  show Tr.wp cs a ρ _ (gR _ J)
  refine Tr.wp_mono (nd ?_ (λ_ _ h=>h)) ?_ this
  ·rintro z ⟨y,j,B⟩;exact⟨y,j,O B⟩
  intro e σ ρ' Z aa U h;exact Tr.wp_mono U Y h
 |loop ty v i b G=>
  intro ρ J ⟨ae,j,n,B⟩
  refine⟨ae,j,n,tQ ?_ B⟩
  intro p q z ab ad
  refine Tr.wp_mono (nd ?_ (λ_ _ h=>h)) ?_ (G ad)
  ·rintro z' ⟨y,F,M⟩;exact⟨y,F,ab y M⟩
  intro e σ ρ' Z aa U h;exact Tr.wp_mono U Y h
 |bad w=>intro ρ J h;exact h
theorem MX{cs:List Callee}{e:Ex}{ab:Sk}{ad:Nat}{Q:LQ}{p:Sy.V->Prop}(ah:eV Q):∀{t:Tr}{k:Nat}{ρ:aS}{J:LJ},(∀v,J k v->p v)->Tr.wp cs (resolve e ab ad k t) ρ Q J ->
  Tr.wp cs t ρ (λM σ ρ' J'=>if e=M then ∃xs v,instS ab ad σ=some xs/\(fL xs).den ρ'=some v/\p v else Q M σ ρ' J') J:=by
 intro t
 have ae:eV (λM σ ρ' J'=>if e=M then ∃xs v,instS ab ad σ=some xs/\(fL xs).den ρ'=some v/\p v else Q M σ ρ' J'):=by
  intro M σ ρ' af ag ai h
  by_cases U:e=M
  ·rw[if_pos U]at h⊢;exact h
  rw[if_neg U]at h⊢;exact ah M σ ρ' af ag ai h
 induction t with
 |leaf M σ=>
  intro k ρ J B h
  simp only[resolve]at h
  show if e=M then _ else _
  split at h
  ·rename_i U
   rw[if_pos U]
   split at h
   ·rename_i xs ak
    obtain⟨v,F,G⟩:=h
    exact⟨xs,v,ak,F,B v G⟩
   exact h.elim
  rename_i U
  rw[if_neg U];exact h
 |out k x=>intro _ ρ J B h;exact h
 |bS x t O=>intro k ρ J B ⟨F,G⟩;exact⟨F,O B G⟩
 |get v xs i t O=>intro k ρ J B ⟨u,l,kk,j,e,F,G,N,Y⟩;exact⟨u,l,kk,j,e,F,G,N,O B Y⟩
 |call v c x t O=>intro k ρ J B ⟨C,a,y,F,G,N,Y⟩;exact⟨C,a,y,F,G,N,O B Y⟩
 |fP c a b Z aa=>intro k ρ J B ⟨b0,F,G,N⟩;exact⟨b0,F,λh=>Z B (G h),λh=>aa B (N h)⟩
 |gE c a b Z aa=>intro k ρ J B ⟨u,xs,F,G,N⟩;exact⟨u,xs,F,λh=>Z B (G h),aa B N⟩
 |join ty v a b Z aa=>
  intro k ρ J B h
  have:=Z (k:=k+1) (J:=gR (λz=>∃y:ty.den,z=⟨ty,y⟩/\Tr.wp cs (resolve e ab ad k b) ((v,⟨ty,y⟩)::ρ) Q J) J) B h
  show Tr.wp cs a ρ _ (gR _ J)
  refine Tr.wp_mono (nd ?_ (λ_ _ h=>h)) ae this
  rintro z ⟨y,F,G⟩;exact⟨y,F,aa B G⟩
 |loop ty v i b O=>
  intro k ρ J B ⟨an,F,n,G⟩
  refine⟨an,F,n,tQ ?_ G⟩
  intro ao q z aj al
  refine Tr.wp_mono (nd ?_ (λ_ _ h=>h)) ae (O (k:=k+1) (J:=gR _ J) B al)
  rintro z' ⟨y,N,Y⟩;exact⟨y,N,aj y Y⟩
 |bad w=>intro k ρ J B h;exact h
def WE{cs:List Callee}{e:Ex}:∀{t:Tr}{ρ:aS}{Q:LQ}{J:LJ},leaves e t=[]->eV Q->Tr.wp cs t ρ Q J->Tr.wp cs t ρ (λN σ ρ' J'=>N≠e/\Q N σ ρ' J') J:=by
 intro t
 induction t with
 |leaf N σ=>
  intro ρ Q J B F h
  refine⟨λag=>?_,h⟩
  simp[leaves,ag]at B
 |out k x=>intro ρ Q J B F h;exact h
 |bS x t U=>intro ρ Q J B F ⟨G,M⟩;exact⟨G,U B F M⟩
 |get v xs i t U=>intro ρ Q J B F ⟨u,l,kk,j,e,G,M,O,Y⟩;exact⟨u,l,kk,j,e,G,M,O,U B F Y⟩
 |call v c x t U=>intro ρ Q J B F ⟨C,a,y,G,M,O,Y⟩;exact⟨C,a,y,G,M,O,U B F Y⟩
 |fP c a b Z aa=>
  intro ρ Q J B F ⟨b0,G,M,O⟩
  simp only[leaves,y0]at B
  exact⟨b0,G,λh=>Z B.1 F (M h),λh=>aa B.2 F (O h)⟩
 |gE c a b Z aa=>
  intro ρ Q J B F ⟨u,xs,G,M,O⟩
  simp only[leaves,y0]at B
  exact⟨u,xs,G,λh=>Z B.1 F (M h),aa B.2 F O⟩
 |join ty v a b Z aa=>
  intro ρ Q J B F h
  simp only[leaves,y0]at B
  have ab:eV (λN σ ρ' J'=>N≠e/\Q N σ ρ' J'):=λN σ ρ' ae af ad h=>⟨h.1,F _ _ _ _ _ ad h.2⟩
  have:=Z B.1 F h
  show Tr.wp cs a ρ _ (gR _ J)
  refine Tr.wp_mono (nd ?_ (λ_ _ h=>h)) ab this
  rintro z ⟨y,G,M⟩;exact⟨y,G,aa B.2 F M⟩
 |loop ty v i b U=>
  intro ρ Q J B F ⟨aj,G,n,M⟩
  have ab:eV (λN σ ρ' J'=>N≠e/\Q N σ ρ' J'):=λN σ ρ' ae af ad h=>⟨h.1,F _ _ _ _ _ ad h.2⟩
  refine⟨aj,G,n,tQ ?_ M⟩
  intro p q z ah ai
  refine Tr.wp_mono (nd ?_ (λ_ _ h=>h)) ab (U B F ai)
  rintro z' ⟨y,O,Y⟩;exact⟨y,O,ah y Y⟩
 |bad w=>intro ρ Q J B F h;exact h
end Go.Sy
namespace Go.Sy
open Go Go.ag
class pv[aG][bq]:Prop where
 eG:∀g ls,aG.eG g=some ls->bq.iS g=some (.agg (ls.map (.int .i64)))
variable [aG][cQ][cK][dw][bq][pv][bX]
def N8{s:Tm}:∀g ls,aG.eG g=some ls->bN s (.global g)=.bB ls.length [.agg (ls.map (.int .i64))] 0 0:=λg ls h=>by simp only[bN,pv.eG g ls h,D.cells,hG]
def c9(n:Nat)(ρ ρ':aS):Prop:=∀i,i<n->lk ρ' i=lk ρ i
theorem c9.refl(n:Nat)(ρ:aS):c9 n ρ ρ:=λ_ _=>rfl
theorem c9.trans{n m:Nat}{a b c:aS}(h:c9 n a b)(k:c9 m b c)(j:n<=m):c9 n a c:=λi hi=>(k i (by omega)).trans (h i hi)
def c9.push{n m:Nat}(j:n<=m)(ρ:aS)(v:Sy.V):c9 n ρ ((m,v)::ρ):=λi hi=>by simp only[lk,kz (by omega:m≠i),cond_false]
def c9.ext{n:Nat}{ρ ρ':aS}(h:c9 n ρ ρ')(k:ey n ρ):Ext ρ ρ':=λi v j=>by rw[h i (En k j)];exact j
def cu.JA{cs:List Callee}{n:Nat}{ρ ρ':aS}{is:List Ins}(h:cu cs n ρ is ρ'):c9 n ρ ρ'/\n<=kC n is:=by
 induction h with
 |nil n ρ=>exact⟨.refl n ρ,eb _⟩
 |bS n ρ x r ρ' _ _ j=>exact j
 |get n ρ xs k r ρ' t l kk i e _ _ _ _ j=>
  obtain⟨B,F⟩:=j
  exact⟨(c9.push (eb n) ρ _).trans B (by omega),by simp only[kC];omega⟩
 |call n ρ c x r ρ' C a y _ _ _ _ j=>
  obtain⟨B,F⟩:=j
  exact⟨(c9.push (eb n) ρ _).trans B (by omega),by simp only[kC];omega⟩
def wa{cs:List Callee}{t:Tr}{Q:LQ}{J:LJ}:∀{is:List Ins}{n:Nat}{ρ:aS},Tr.wp cs (pQ t n is) ρ Q J->∃ρ',cu cs n ρ is ρ'/\Tr.wp cs t ρ' Q J
 | [],n,ρ,h=>⟨ρ,.nil n ρ,h⟩
 |.bS x::r,n,ρ,⟨h1,j⟩=>by
  obtain⟨ρ',B,F⟩:=wa j
  exact⟨ρ',.bS n ρ x r ρ' h1 B,F⟩
 |.get xs k::r,n,ρ,⟨u,l,kk,i,e,h1,j,G,M⟩=>by
  obtain⟨ρ',B,F⟩:=wa M
  exact⟨ρ',.get n ρ xs k r ρ' u l kk i e h1 j G B,F⟩
 |.call c x::r,n,ρ,⟨C,a,y,h1,j,G,M⟩=>by
  obtain⟨ρ',B,F⟩:=wa M
  exact⟨ρ',.call n ρ c x r ρ' C a y h1 j G B,F⟩
section
variable {P:Program}{V:Env}{C:Cx}{cs:List Callee}{n:Nat}{ops:List Oper}
def l9(P:Program)(n:Nat)(ops:List Oper)(o:Oper)(s:St)(K:St->Prop):Prop:=
 ∀(w0:World)(I0:ay)(a:Act)(w:World)(Q:Exit->Act->World->Prop)(j:Act->World->Prop),Rel w0 I0 n s a w->(∀s' k w',K s'->Rel w0 I0 n s' k w'->j k w') ->
  if Region.wanted o (yielded ops.toArray a.tmps)=true then o.wpIn dc 0 P a w j Q else(∀f,o.about P w a.eval=some f->dc.fn f)/\j (a.put o.dst undef) w
def nX(P:Program)(n:Nat)(ops:List Oper):List Oper->St->(St->Prop)->Prop
 | [],s,K=>K s
 |o::r,s,K=>l9 P n ops o s λs'=>nX P n ops r s' K
theorem nX.wp{w0:World}{I0:ay}{Q:Exit->Act->World->Prop}{K:St->Prop}(k:∀s a w,K s->Rel w0 I0 n s a w->Q .normal a w):∀(r:List Oper)(s:St)(a:Act)(w:World),Rel w0 I0 n s a w->nX P n ops r s K->wpListIn dc 0 P ops.toArray Q r a w
 | [],s,a,w,j,h=>k s a w h j
 |o::r,s,a,w,j,h=>by
  unfold wpListIn
  exact h w0 I0 a w Q _ j λs' B w' F G=>nX.wp k r s' B w' G F
def BL{o:Oper}{s:St}{K:St->Prop}{pc:PC}{t:T}{l':List AO}(Y:dA ops s.t o.guard=some pc)(Z:holds pc)(B:cn P o (bN s.t) s.l t l')(O:dJ n o.dst=true)(M:K ⟨bR s.t o.dst t,l'⟩):l9 P n ops o s K:=by
 intro w0 I0 a w Q ae aa N
 obtain⟨F,I,m,G,U,ht⟩:=aa
 rw[if_pos ((ph ht Y).2 Z)]
 refine cp.wpIn B.1 ((B.2 w0 I0 w I m a.eval G (λx af=>mg G.sat.dz ht x)).mono λv w' ⟨J,m',j,ad,ab⟩=>?_)
 exact N _ _ _ M ⟨by cases o.dst<;>simp[Act.put,F],J,m',ad,U.put j.dg,lU F O (λk=>(ht k).mono j) ab⟩
def N5{o:Oper}{s:St}{K:St->Prop}{pc:PC}(M:dA ops s.t o.guard=some pc)(O:¬holds pc)(F:dJ n o.dst=true)(k:K ⟨bR s.t o.dst ag.gone,s.l⟩):l9 P n ops o s K:=by
 intro w0 I0 a w Q Z U B
 obtain⟨j,I,m,Y,G,ht⟩:=U
 rw[if_neg (λN=>O ((ph ht M).1 N))]
 exact⟨λf _=>l8 f,B _ _ _ k ⟨by cases o.dst<;>simp[Act.put,j],I,m,Y,G.put (.refl I),lU j F ht Kj⟩⟩
theorem qe{ρ:aS}{tX:List (Nat×TX)}{t:Tm}(h:∀k,RX ρ (bd tX k) (ag.get t k))(x:Operand):RX ρ (gF tX x) (bN t x):=by
 cases x with
 |tmp k=>exact h k
 |func f=>exact .d (.fn f) _ () (cP rfl) rfl
 |global g=>exact .undef _
 |const v=>
  show RX ρ (CW v) (qT v)
  unfold CW
  split
  ·exact .d .bool _ _ (cP rfl) rfl
  ·exact .d (.int _) _ _ (cP rfl) rfl
  ·rename_i s
   exact .d .str _ s (cP rfl) (by cases s with|mk d=>cases d with|mk l=>rfl)
  ·exact .bC 0
  ·exact .ev
  exact .undef _
theorem Kp{ρ:aS}{σ:Sk}{s:St}{g:Option (Nat×Bool)}(h:∀j b d,g=some (j,b)->(ops[j]?).bind (·.dst)=some d->RX ρ (bd σ.t d) (ag.get s.t d))(k:nj ops σ g=.yes):∃pc,dA ops s.t g=some pc/\holds pc:=by
 unfold nj at k
 split at k
 ·exact⟨[],rfl,trivial⟩
 rename_i j b
 split at k
 ·rename_i d G
  have M:=h _ _ _ rfl G
  split at k
  ·rename_i c U
   rw[U]at M
   obtain⟨B,N,O⟩:=iQ M
   have:B=c:=(fN (N.symm.trans (rfl:(X.bool c).den ρ=some ⟨.bool,c⟩)))
   subst this
   cases F:(B == b)with
   |true=>exact⟨[(j,B,b)],by simp only[dA,G,O],by simpa using F,trivial⟩
   |false=>simp[F]at k
  ·cases k
  ·cases k
  cases k
 cases k
theorem Ko{ρ:aS}{σ:Sk}{s:St}{g:Option (Nat×Bool)}(h:∀j b d,g=some (j,b)->(ops[j]?).bind (·.dst)=some d->RX ρ (bd σ.t d) (ag.get s.t d))(k:nj ops σ g=.no):∃pc,dA ops s.t g=some pc/\¬holds pc:=by
 unfold nj at k
 split at k
 ·cases k
 rename_i j b
 split at k
 ·rename_i d N
  have B:=h _ _ _ rfl N
  split at k
  ·rename_i c M
   rw[M]at B
   obtain⟨F,Y,G⟩:=iQ B
   have:F=c:=(fN (Y.symm.trans (rfl:(X.bool c).den ρ=some ⟨.bool,c⟩)))
   subst this
   cases U:(F == b)with
   |true=>simp[U]at k
   |false=>exact⟨[(j,F,b)],by simp only[dA,N,G],λO=>by have:=O.1;simp[this]at U⟩
  ·cases k
  ·rename_i M
   rw[M]at B
   have G:=DN B
   exact⟨[(0,true,false)],by simp only[dA,N,G,ag.gone],λO=>by cases O.1⟩
  cases k
 cases k
def U4{ρ:aS}{σ:Sk}{s:St}(h:bn ρ σ s){g:Option (Nat×Bool)}{x:X}{b:Bool}(k:nj ops σ g=.ask x b){c:Bool}(ad:x.den ρ=some ⟨.bool,c⟩):∃pc,dA ops s.t g=some pc/\(holds pc↔c=b):=by
 unfold nj at k
 split at k
 ·cases k
 rename_i j G
 split at k
 ·rename_i d ab
  have N:=h.t d
  split at k
  ·rename_i B M
   cases aa:(B == G)<;>simp[aa]at k
  ·rename_i ae _ M
   injection k with O U
   subst O;subst U
   rw[M]at N
   obtain⟨B,Y,Z⟩:=iQ N
   have:c=B:=fN (ad.symm.trans Y)
   subst this
   exact⟨[(j,c,G)],by simp only[dA,ab,Z],⟨λF=>F.1,λF=>⟨F,trivial⟩⟩⟩
  ·cases k
  cases k
 cases k
def Ja{ρ:aS}{σ:Sk}{s:St}(h:bn ρ σ s){x:X}{c:Bool}(Z:x.den ρ=some ⟨.bool,c⟩):bn ρ (σ.decide x c) s:=by
 refine⟨h.eT,λk=>?_,h.l⟩
 show RX ρ (bd (oj x c σ.t) k) _
 have F:=h.t k
 generalize ag.get s.t k=u at F
 have key:∀t:List (Nat×TX),RX ρ (bd t k) u->RX ρ (bd (oj x c t) k) u:=by
  intro t
  induction t with
  |nil=>intro h;exact h
  |cons p r M=>
   intro h
   obtain⟨j,y⟩:=p
   by_cases G:∃z,y=.d .bool z
   ·obtain⟨z,rfl⟩:=G
    simp only[oj,bd]at h⊢
    cases B:Nat.beq j k with
    |false=>rw[B]at h;exact M h
    |true=>
     rw[B]at h
     simp only[cond_true]at h⊢
     cases Y:X.beq x z with
     |false=>exact h
     |true=>
      have:=X.beq_eq Y
      subst this
      obtain⟨N,O,U⟩:=iQ h
      have:c=N:=fN (Z.symm.trans O)
      subst this
      rw[U]
      exact fu rfl
   have:oj x c ((j,y)::r)=(j,y)::oj x c r:=by
    cases y with
    |d t z=>cases t<;>first|rfl|exact absurd ⟨_,rfl⟩ G
    |_=>rfl
   rw[this]
   simp only[bd]at h⊢
   cases B:Nat.beq j k with
   |false=>rw[B]at h;exact M h
   |true=>rw[B]at h;exact h
 exact key σ.t F
def F5{ρ:aS}{tX:List (Nat×TX)}{t:Tm}(h:∀k,RX ρ (bd tX k) (ag.get t k)){j:Option Nat}{x:TX}{u:T}(F:RX ρ x u):∀k,RX ρ (bd (je tX j x) k) (ag.get (bR t j u) k):=by
 intro k
 cases j with
 |none=>exact h k
 |some d=>
  show RX ρ (bif Nat.beq d k then x else bd tX k) (if d=k then u else ag.get t k)
  by_cases B:d=k
  ·subst B;rw[if_pos rfl,ia];exact F
  rw[if_neg B,kz B];exact h k
def Hr(P:Program)(cs:List Callee)(n:Nat)(ops:List Oper)(H:x2)(σ:Sk)(ρ:aS):Prop:=
 ∀(o:Oper)(m:Nat)(F:(TX->Sk->Tr)->Tr)(s:St)(Q:LQ)(J:LJ)(K:TX->Sk->Tr)(k:St->Prop)(pc:PC),H o m σ=some F->bn ρ σ s->eV Q->dJ n o.dst=true->dA ops s.t o.guard=some pc->holds pc->Tr.wp cs (F K) ρ Q J ->
  (∀x j ρ' J' u s',Tr.wp cs (K x j) ρ' Q J'->c9 σ.n ρ ρ'->σ.n<=j.n->bn ρ' j s'->RX ρ' x u->k ⟨bR s'.t o.dst u,s'.l⟩)->l9 P n ops o s k
theorem BC(an:bU P V C)(aq:il P C cs)(ag:C.nt=n){H:x2}{ai:Nat}{K:St->Prop}{Q:LQ}(ab:eV Q){n0:Nat}{ρ0:aS}(ao:∀σ ρ,c9 n0 ρ0 ρ->n0<=σ.n->Hr P cs n ops H σ ρ):∀(r:List Oper){σ:Sk}{ρ:aS}{s:St}{J:LJ},c9 n0 ρ0 ρ->n0<=σ.n->bn ρ σ s->Tr.wp cs (mG C H ai ops r σ) ρ Q J ->
  (∀bH ρ' J',Q .normal bH ρ' J'->c9 σ.n ρ ρ'->σ.n<=bH.n->∀s',bn ρ' bH s'->K s')->nX P n ops r s K
 | [],σ,ρ,s,J,_,_,h,j,ad=>ad σ ρ J j (.refl _ _) (eb _) s h
 |o::r,σ,ρ,s,J,av,aQ,h,j,ad=>by
  have aw:∀{σ1:Sk}{pc:PC},σ1.n=σ.n->bn ρ σ1 s->dA ops s.t o.guard=some pc->holds pc->Tr.wp cs (bif !dJ C.nt o.dst then .bad 15 else match qV C ops (gF σ1.t) σ1.l σ1.n σ1.l.length o with|some q=>pQ (mG C H ai ops r (sT σ1 o.dst q)) σ1.n q.ins|none=>match H o (KS ai ops r) σ1 with|some F=>F λx N=>mG C H ai ops r ⟨N.n,je N.t o.dst x,N.l⟩|none=>.bad (30000+o.dst.getD 9999)) ρ Q J->nX P n ops (o::r) s K:=by
   intro σ1 pc ah B M au j
   cases G:dJ C.nt o.dst with
   |false=>rw[G]at j;exact j.elim
   |true=>
    rw[G]at j
    simp only[p6,cond_false]at j
    rw[ag]at G
    split at j
    ·rename_i q aJ
     obtain⟨ρ',hi,j⟩:=wa j
     obtain⟨Z,aH⟩:=hi.ext B.eT
     obtain⟨aD,aA⟩:=hi.JA
     have aE:σ1.l.length=s.l.length:=B.l.len
     obtain⟨t,ht,ar⟩:=Dc (ρT:=bN s.t) an aq B.l (λx _=>qe B.t x) N8 Z aJ hi
     have fin:∀(l':List AO),cn P o (bN s.t) s.l t l'->RL ρ' (match q.bA with |.none=>σ1.l |.new a=>σ1.l++[a] |.aP l'=>l') l'->nX P n ops (o::r) s K:=by
      intro l' aI az
      refine BL M au aI G ?_
      refine BC an aq ag ab ao r (σ:=sT σ1 o.dst q) (av.trans aD (by omega)) (show n0<=kC σ1.n q.ins by omega) ⟨aH,F5 (λk=>(B.t k).mono Z) ht,az⟩ j ?_
      intro bH aj J' ax O af s' aa
      have af:kC σ1.n q.ins<=bH.n:=af
      have O:c9 (kC σ1.n q.ins) ρ' aj:=O
      exact ad bH aj J' ax (by rw[<-ah];exact aD.trans O aA) (by omega) s' aa
     split at ar
     ·rename_i ae;rw[ae]at fin;exact fin _ ar (B.l.mono Z)
     ·rename_i a ae
      obtain⟨aO,aB,aC,_⟩:=ar
      rw[ae]at fin
      exact fin _ (aC aE) (F2.app (B.l.mono Z) (.cons aB .nil))
     rename_i l1 ae
     obtain⟨l',aB,aC⟩:=ar
     rw[ae]at fin
     exact fin l' (aC aE) aB
    split at j
    ·rename_i F aG
     refine ao σ1 ρ av (by omega) o _ F s Q J _ _ pc aG B ab G M au j ?_
     intro x N ρ' J' u s' aM Z aA aa aL
     refine BC an aq ag ab ao r (σ:=⟨N.n,je N.t o.dst x,N.l⟩) (av.trans Z (by omega)) (show n0<=N.n by omega) ⟨aa.eT,F5 aa.t aL,aa.l⟩ aM ?_
     intro bH aj aF ax O af aN aK
     have af:N.n<=bH.n:=af
     have O:c9 N.n ρ' aj:=O
     exact ad bH aj aF ax (by rw[<-ah];exact Z.trans O aA) (by omega) aN aK
    exact j.elim
  have skip:∀{σ1:Sk}{pc:PC},σ1.n=σ.n->bn ρ σ1 s->dA ops s.t o.guard=some pc->¬holds pc->Tr.wp cs (bif !dJ C.nt o.dst then .bad 16 else mG C H ai ops r {σ1 with t:=je σ1.t o.dst .gone}) ρ Q J->nX P n ops (o::r) s K:=by
   intro σ1 pc ah B M au j
   cases G:dJ C.nt o.dst with
   |false=>rw[G]at j;exact j.elim
   |true=>
    rw[G]at j
    simp only[p6,cond_false]at j
    rw[ag]at G
    refine N5 M au G ?_
    refine BC an aq ag ab ao r (σ:={σ1 with t:=je σ1.t o.dst .gone}) av (show n0<=σ1.n by omega) ⟨B.eT,F5 B.t .gone,B.l⟩ j ?_
    intro bH ρ' J' ab O az s' aa
    exact ad bH ρ' J' ab (by rw[<-ah];exact O) (by rw[<-ah];exact az) s' aa
  simp only[mG]at j
  split at j
  ·rename_i M
   obtain⟨pc,U,Y⟩:=Kp (λ_ _ d _ _=>h.t d) M
   exact aw rfl h U Y j
  ·rename_i M
   obtain⟨pc,U,Y⟩:=Ko (λ_ _ d _ _=>h.t d) M
   exact skip rfl h U Y j
  ·rename_i x b M
   obtain⟨c,B,ak,al⟩:=j
   obtain⟨pc,U,Y⟩:=U4 h M B
   have G:=Ja h B
   cases c with
   |true=>
    have ak:=ak rfl
    cases b with
    |true=>exact aw (σ1:=σ.decide x true) rfl G U (Y.2 rfl) ak
    |false=>exact skip (σ1:=σ.decide x true) rfl G U (λay=>by cases Y.1 ay) ak
   |false=>
    have al:=al rfl
    cases b with
    |true=>exact skip (σ1:=σ.decide x false) rfl G U (λay=>by cases Y.1 ay) al
    |false=>exact aw (σ1:=σ.decide x false) rfl G U (Y.2 rfl) al
  exact j.elim
end
end Go.Sy
namespace Go.ag
open Go Go.RowKit
variable [bq][bX]
section
variable {P:Program}{V:Env}{w0 w:World}{I0 I:ay}{m:Nat->Value}{l:List AO}{n:Nat}{Q:Exit->St->Prop}{s:St}
def qG(P:Program)(g:FuncId)(ts:List T)(l:List AO)(ft:Tm)(K:T->List AO->Prop):Prop:=
 Enters P g/\∀(w0:World)(I0:ay)(w:World)(I:ay)(m:Nat->Value)(j:Array Value)(vals:Nat->Value),aH w0 I0 w I m l->j.size=ts.length->(∀(i:Nat) v x,j[i]?=some v->ts[i]?=some x->ar I m l v x)->(∀k,ar I m l (vals k) (ag.get ft k)) ->
  Calls P g j w λe w'=>∃v,e=.returned v/\∃t l' J m',K t l'/\aH w0 I0 w' J m' l'/\ar J m' l' v t/\(∀b,I.df b->J.df b)/\∀k,ar J m' l' (vals k) (ag.get ft k)
theorem qG.of{f:FuncId}{fn:Func}{c:Code}{ts:List T}{l:List AO}{ft:Tm}{K:T->List AO->Prop}(av:cA P V)(aB:Enters P f)(aD:P.funcs[f]?=some fn)(ay:fn.body=some c)(a8:ts.length<=fn.ntmps)(h:∀(R:bX),R.r=none->∀w0 I0 vals(Q:Exit->St->Prop),(∀e s2,(e=.ret\/e=.normal)->sP V s2 fn.results.toList l.length vals ft K->Q e s2)->aL P w0 I0 fn.ntmps c ⟨jf 0 ts,l++[.frame l.length vals ft]⟩ Q):qG P f ts l ft K:=by
 refine⟨aB,λw0 I0 w I m O vals aa aR ax aG=>?_⟩
 let R:bX:=⟨none,I.df⟩
 refine CG (R:=λe w'=>∃v,e=.returned v/\∃t l' J m',K t l'/\aH w0 I0 w' J m' l'/\ar J m' l' v t/\(∀b,I.df b->J.df b)/\∀k,ar J m' l' (vals k) (get ft k)) rfl aD ay ?_
 have an:aH w0 I0 w I (aP m l.length (.bool false)) (l++[.frame l.length vals ft])/\Le I m l I (aP m l.length (.bool false)) (l++[.frame l.length vals ft]):=by
  have Z:∀k,k<l.length->(l++[AO.frame l.length vals ft])[k]?=l[k]?:=λk U=>e1 U
  have aQ:(l++[AO.frame l.length vals ft])[l.length]?=some (.frame l.length vals ft):=by simp
  have ah:Le I m l I (aP m l.length (.bool false)) (l++[.frame l.length vals ft]):=by
   refine⟨.refl I,by simp,λid N G=>⟨?_,bW m _ (by omega)⟩,λid N Y=>⟨?_,bW m _ (by omega)⟩,λid au s' els' N ag=>⟨els',?_⟩⟩
   ·unfold isVar at G⊢;rw[Z id N];exact G
   ·unfold isRow at Y⊢;rw[Z id N]at Y;exact Y
   rw[Z id N]at ag;exact ag
  have aq:∀k,k≠l.length->alive (l++[AO.frame l.length vals ft]) k=true->alive l k=true:=by
   intro k U aw
   obtain⟨o,F,M⟩:=bM.1 aw
   have aM:k<l.length:=by have:=(c5.1 F).1;simp at this;omega
   rw[Z k aM]at F
   exact bM.2 ⟨o,F,M⟩
  refine⟨⟨aa.below,aa.sat,aa.ext,λid o F=>?_,λi j b aI hi aJ ae af=>?_⟩,ah⟩
  ·by_cases N:id<l.length
   ·rw[Z id N]at F;rw[bW m _ (by omega)]
    by_cases M:o=.dead
    ·subst M;trivial
    exact(aa.obj id o F).cM ah (λ_ _=>rfl) (λ_ _=>⟨rfl,rfl⟩) (.push (λ_ _ _=>rfl) rfl)
   have:id=l.length:=by have:=(c5.1 F).1;simp at this;omega
   subst this
   rw[aQ]at F;injection F with F;subst F
   rw[dM]
   refine⟨rfl,by simp,λk=>?_⟩
   have e:(l++[AO.frame l.length vals ft]).take l.length=l:=by simp
   rw[e]
   refine(aG k).mono ⟨.refl I,eb _,λid N G=>⟨G,bW m _ (by omega)⟩,λid N Y=>⟨Y,bW m _ (by omega)⟩,λid au s' els' N ag=>⟨els',ag⟩⟩
  by_cases aj:i=l.length
  ·subst aj;rw[dM]at ae;cases ae
  by_cases ak:j=l.length
  ·subst ak;rw[dM]at af;cases af
  rw[bW m _ aj]at ae;rw[bW m _ ak]at af
  exact aa.sep i j b aI (aq i aj hi) (aq j ak aJ) ae af
 obtain⟨an,ah⟩:=an
 have aU:Rel w0 I0 fn.ntmps ⟨jf 0 ts,l++[.frame l.length vals ft]⟩ {tmps:=O++Array.replicate (fn.ntmps-O.size) undef,defers:=[]} w:=by
  refine⟨by simp;omega,I,_,an,ei.nil λ_ h=>h,λk=>?_⟩
  rw[GG]
  simp only[j2,hK,Nat.sub_zero]
  cases M:ts[k]? with
  |none=>exact .undef _
  |some d=>
   have U:k<O.size:=by rw[aR];exact(c5.1 M).1
   have G:O[k]?=some O[k]:=e7 U
   have:(O++Array.replicate (fn.ntmps-O.size) undef).getD k undef=O[k]:=by rw[gg,ik U,G];rfl
   rw[this]
   exact(ax k _ d G M).mono ah
 refine n4 (λe a bb ⟨s2,⟨al,ad,aV,aS,aF,U⟩,Y⟩=>?_) (h R rfl w0 I0 vals (λe s2=>(e=.ret\/e=.normal)/\sP V s2 fn.results.toList l.length vals ft K) (λe s2 al aY=>⟨al,aY⟩) _ _ aU)
 obtain⟨_,a7,m',aX,az,aW⟩:=aV _ _ _ _ _ Y
 obtain⟨w',J,ao,aK,aA,aC⟩:=C4 (P:=P) (fn:=fn) (a:=a) al aX az
 refine aC _ ?_
 have ht:∀k,ar J m' ad.l (a.tmps.getD k undef) (get ad.t k):=λk=>aA _ _ (aW k)
 obtain⟨ab,aZ,a1,ai⟩:=BA (P:=P) av.E ao ht fn.results.toList aS
 have aT:(results fn a.tmps).run P w'=.ok (if h:ab.length=1 then ab[0]else .tuple ab.toArray) w':=by
  rw[Gi]
  simp only[fv,vc,Sem.run_map,aZ,Result.andThen_ok,Sem.run_pure]
  simp
 have aE:=ao.obj _ _ aF
 refine⟨_,aT,_,rfl,_,_,J,m',U,ao,?_,aK,λk=>(aE.2.2 k).mono (Le.vg J m' ad.l l.length)⟩
 have B:ab.length=(fn.results.toList.map λv=>(fq V ad v).1).length:=by simp[a1]
 generalize (fn.results.toList.map λv=>(fq V ad v).1)=a6 at B ai
 match a6,B with
 | [t],B=>
  have aO:ab.length=1:=B
  rw[dif_pos aO]
  exact ai 0 _ t (c3 (by omega)) rfl
 | [],B=>
  rw[dif_neg (by simp at B;simp[B])]
  exact .aN _ _ (by simpa using B) (λi v d G M=>ai i v d (by simpa using G) M)
 |t1::t2::ba,B=>
  rw[dif_neg (by rw[B];simp)]
  exact .aN _ _ (by simpa using B) (λi v d G M=>ai i v d (by simpa using G) M)
theorem Ym(aR:bX.r=none){g:Operand}{ps:Array Tmp}{assign body:Code}{gf:FuncId}{caps:List T}(aA:te (bN s.t g)=some (gf,caps))(h:∀B,ag.get s.t B=.undef->qG P gf (.bf s.l.length::caps) (s.l++[.loop s.l.length n ps assign body s.t .ready none]) ((B,.bf s.l.length)::s.t) λ_ l'=>Cg P w0 I0 n Q s s.l.length l') :
  aL P w0 I0 n (.rangeFunc g ps assign body) s Q:=λa w U=>by
 obtain⟨ai,I,m,N,aD,ht⟩:=U
 obtain⟨vs,aI,aV,aC⟩:=IP (mg N.sat.dz ht g) aA
 obtain⟨B,Z⟩:=DI s.t
 obtain⟨aF,aB⟩:=h B Z
 refine wpIn_rangeFunc ?_
 intro fn a8
 have aS:dc.round=none:=aR
 rw[aS]
 obtain⟨J,aj,M,ay,ax⟩:=N.HD
 obtain⟨j,Y⟩:∃j:Loop,j={state:=.ready,pending:=none,fn,tmps:=a.tmps,params:=ps,assign,body,defers:=w.heap.size}:=⟨_,rfl⟩
 have aN:((w.alloc (.deferred (some []))).alloc (.loop j)).heap[w.heap.size+1]?=some (.loop j):=by have:=F8 (w.alloc (.deferred (some []))) (.loop j);rwa [World.size_alloc]at this
 have aO:=aj.sat.dY (b:=w.heap.size+1) (by simp)
 have aQ:dW w0.heap.size ((w.alloc (.deferred (some []))).alloc (.loop j)) J (aP m s.l.length (.func (.yield (w.heap.size+1)) #[] #[])) (s.l++[.loop s.l.length n ps assign body s.t .ready none]) (.func (.yield (w.heap.size+1)) #[] #[]) (.loop s.l.length n ps assign body s.t .ready none):=by
  refine⟨w.heap.size+1,j,rfl,?_,aN,?_,by simp,λk=>?_,aO⟩
  ·have:=N.below.size;omega
  ·rw[Y];exact⟨rfl,rfl,rfl,rfl,rfl,ai⟩
  have e:(s.l++[AO.loop s.l.length n ps assign body s.t .ready none]).take s.l.length=s.l:=by simp
  rw[e,Y]
  exact((ht k).mono M).mono ⟨.refl J,eb _,λid ab G=>⟨G,bW m _ (by omega)⟩,λid ab U=>⟨U,bW m _ (by omega)⟩,λid a7 s' els' ab aJ=>⟨els',aJ⟩⟩
 have aH:World.grownBy (w.alloc (.deferred (some []))) ((w.alloc (.deferred (some []))).alloc (.loop j)) none:=q2 _ _ _
 obtain⟨ad,aX⟩:=aj.xp (b0:=w.heap.size+1) rfl (by simp) aH (eb _) (by simp) aQ
 have al:ar J (aP m s.l.length (.func (.yield (w.heap.size+1)) #[] #[])) (s.l++[.loop s.l.length n ps assign body s.t .ready none]) (.func (.yield (w.heap.size+1)) #[] #[]) (.bf s.l.length):=.bf _ _ (by simp[isVar,AO.isVar]) (dM m _ _)
 refine⟨w.heap.size+1,[mark w.heap.size],(w.alloc (.deferred (some []))).alloc (.loop j),{target:=.fn (.func gf) vs,args:= #[.func (.yield (w.heap.size+1)) #[] #[]]},(w.alloc (.deferred (some []))).alloc (.loop j),gf,
  #[.func (.yield (w.heap.size+1)) #[] #[]]++vs,(w.alloc (.deferred (some []))).alloc (.loop j),?_,?_,λao _=>l8 ao,?_,λh=>by simp[dc,Fence.wide]at h,?_⟩
 ·rw[Y];exact run_enterLoop_outer _ _ _ _ _
 ·simp only[resolve,aI]
  simp[go_sem]
 ·simp[invoke,aF _ _]
 refine CF ?_ _
 have au:∀(i:Nat) v x,(#[Value.func (.yield (w.heap.size+1)) #[] #[]]++vs)[i]?=some v->(T.bf s.l.length::caps)[i]?=some x->ar J (aP m s.l.length (.func (.yield (w.heap.size+1)) #[] #[])) (s.l++[.loop s.l.length n ps assign body s.t .ready none]) v x:=λi v x G O=>by
  rcases i with _|i
  ·rw[ik (by simp)]at G
   simp at G O;subst G;subst O;exact al
  have aU:vs[i]?=some v:=by
   rw[q1 (by simp)]at G
   simpa using G
  simp at O
  exact((aC i v x aU O).mono M).mono ad
 have av:∀k,ar J (aP m s.l.length (.func (.yield (w.heap.size+1)) #[] #[])) (s.l++[.loop s.l.length n ps assign body s.t .ready none]) (if k=B then .func (.yield (w.heap.size+1)) #[] #[]else a.tmps.getD k undef) (get ((B,.bf s.l.length)::s.t) k):=λk=>by
  simp only[get]
  by_cases F:B=k
  ·subst F;simp only[hK];exact al
  rw[if_neg F,if_neg (hS F)]
  exact((ht k).mono M).mono ad
 have aw:=aB w0 I0 _ J _ (#[Value.func (.yield (w.heap.size+1)) #[] #[]]++vs) (λk=>if k=B then .func (.yield (w.heap.size+1)) #[] #[]else a.tmps.getD k undef) aX (by simp[aV];omega) au av
 refine aw.mono ?_
 rintro e w' ⟨v,rfl,t,l',J',m',F,aW,G,aE,ah⟩
 obtain⟨base,k,aY,bc,gO,tm,st,cY,aK,aT,aa⟩:=F
 have ak:=ah B
 simp only[get,hK]at ak
 have aM:m' s.l.length=.func (.yield (w.heap.size+1)) #[] #[]:=by
  cases ak with
  |bf _ _ _ aq=>exact aq
 obtain⟨r,aZ,an,ba,bb,a1,a6⟩:=aW.qz (st':=.exhausted) (pend':=cY) aK aM
 have aG:=run_endLoop (P:=P) aZ (by rw[an.1];exact aT)
 have ae:r.pending=cY:=an.2.1
 refine⟨cY,_,by rw[<-ae];exact aG,?_⟩
 have af:Rel w0 I0 n ⟨s.t,l'.set s.l.length (.loop base k aY bc gO tm .exhausted cY)⟩ {a with defers:=[mark w.heap.size]++a.defers} (w'.putObj (w.heap.size+1) (.loop {r with state:=.exhausted})):=by
  refine⟨ai,J',m',?_,?_,λk=>?_⟩
  ·have:({r with state:=.exhausted}:Loop)={r with state:=.exhausted,pending:=cY}:=by rw[<-ae]
   rw[this];exact a6
  ·refine ei.oM (I:=J) (ei.cons (aD.oM (J:=I) λ_ h=>h) (λb az=>M.dg.df b az) (by exact N.below.size) ax ay) aE
  have:=ah k
  simp only[get]at this
  by_cases F:B=k
  ·subst F
   rw[Z];exact .undef _
  rw[if_neg F,if_neg (hS F)]at this
  exact this.mono a1
 cases cY with
 |none=>exact⟨_,aa,af⟩
 |some c=>exact aa _ _ af
end
end Go.ag
namespace Go.Sy
open Go Go.ag Go.RowKit
variable [bq][bX]
section
variable [aG][cK][dw]
variable {P:Program}{V:Env}{n:Nat}{ops:List Oper}
theorem ZF{o:Oper}{s:St}{K:St->Prop}{pc:PC}{g:FuncId}{ts:List T}{ft:Tm}(aa:dA ops s.t o.guard=some pc)(ad:holds pc)(O:dJ n o.dst=true)(j:ez V.E (bN s.t) o=some (g,ts))(Z:∀k,ag.get ft k=.undef\/ag.get ft k=ag.get s.t k)(h:qG P g ts s.l ft λu l'=>K ⟨bR ft o.dst u,l'⟩):l9 P n ops o s K:=by
 intro w0 I0 a w Q an ae M
 obtain⟨B,I,m,F,U,ht⟩:=ae
 rw[if_pos ((ph ht aa).2 ad)]
 refine cp.wpIn (vC j) ?_
 obtain⟨G,af,ab,N⟩:=qS (P:=P) (w:=w) (ρ:=a.eval) h.1 (λx _=>mg F.sat.dz ht x) j
 rw[af]
 simp only[cp]
 refine(h.2 w0 I0 w I m G (λk=>a.tmps.getD k undef) F ab N λk=>?_).mono ?_
 ·rcases Z k with e|e
  ·rw[e];exact .undef _
  rw[e];exact ht k
 rintro e w' ⟨v,Y,t,l',J,m',ah,ai,aj,al,ak⟩
 exact⟨v,Y,M _ _ _ ah ⟨by cases o.dst<;>simp[Act.put,B],J,m',ai,U.xr al,lU B O ak aj⟩⟩
theorem ZH{o:Oper}{s:St}{K:St->Prop}{pc:PC}{id base k:Nat}{ts:List T}{ps:Array Tmp}{bc O:Code}{tm ft:Tm}(bg:dA ops s.t o.guard=some pc)(ah:holds pc)(aW:dJ n o.dst=true)(aE:jL V.E (bN s.t) o=some (id,ts))(bd:∀k,ag.get ft k=.undef\/ag.get ft k=ag.get s.t k)(av:s.l[id]?=some (.loop base k ps bc O tm .ready none))(bo:ps.size=ts.length)(bn:ps.toList.all (λp=>decide (p<k))=true)(
   h:∀(R:bX)(w0:World)(I0:ay)(B:Nat)(vals:Nat->Value)(Q:Exit->St->Prop),ag.get ft B=.undef->(∀e G s2,oD e=some G->sO s2 s.l.length vals ((B,.bf id)::ft) id base k ps bc O tm G (λl'=>K ⟨bR ft o.dst (.d (.bool G.isNone)),l'⟩)->Q e s2) ->
   @aL _ R P w0 I0 k bc ⟨kW ps.toList ts tm,s.l++[.frame s.l.length vals ((B,.bf id)::ft)]⟩ (uf λs1=>∃s2,Sub s1 s2/\s2.l[s.l.length]?=some (.frame s.l.length vals ((B,.bf id)::ft))/\s2.l[id]?=some (.loop base k ps bc O tm .ready none)/\@aL _ R P w0 I0 k O ⟨s2.t,s2.l.set id (.loop base k ps bc O tm .busy none)⟩ Q)):l9 P n ops o s K:=by
 intro w0 I0 a w Q aJ bs aO
 obtain⟨aC,I,m,aj,aX,ht⟩:=bs
 rw[if_pos ((ph ht bg).2 ah)]
 obtain⟨b,ad,f,bT,bU,bS,az,bt,ax,aR⟩:=OV (P:=P) (w:=w) (ρ:=a.eval) (λx _=>mg aj.sat.dz ht x) aE
 obtain⟨Y,aS,br,bQ,bC,_,_⟩:=aj.qz (st':=.ready) (pend':=none) av az
 obtain⟨bW,bV,aA,has,aT,aD⟩:=br
 obtain⟨B,ao⟩:=DI ft
 generalize ai:(λj=>if j=B then Value.func (.yield b) #[] #[]else a.tmps.getD j undef)=vals
 have bh:ag.isVar s.l id=true:=by unfold ag.isVar;rw[av];rfl
 have bu:∀j,ar I m s.l (vals j) (ag.get ((B,.bf id)::ft) j):=λj=>by
  rw[<-ai]
  simp only[ag.get]
  by_cases U:B=j
  ·subst U;simp only[hK]
   exact .bf id b bh az
  rw[if_neg U,if_neg (hS U)]
  rcases bd j with e|e
  ·rw[e];exact .undef _
  rw[e];exact ht j
 have au:∀{aa:ay}{Z:Nat->Value}{an:World}{l1:List AO},aH w0 I0 an aa Z l1->l1[s.l.length]?=some (.frame s.l.length vals ((B,.bf id)::ft))->Z id=.func (.yield b) #[] #[]:=λ{aa Z an l1} ae a7=>by
  have M:=(ae.obj _ _ a7).2.2 B
  rw[<-ai]at M
  simp only[hK,ag.get]at M
  cases M with
  |bf _ _ _ af=>exact af
 unfold Oper.wpIn
 refine⟨λ_ _=>l8 _,?_⟩
 rw[Oper.semAt_eq _ _ _ (OU aE),bt,run_yield aS (by rw[aA,ax,bo]),Oper.uponIn_round]
 refine⟨λh=>by simp[dc,Fence.wide]at h,?_⟩
 obtain⟨bF,aw⟩:=aj.frame (vals:=vals) (ft:=(B,.bf id)::ft) bu
 have aB:=Gm (m:=aP m s.l.length (.bool false)) (l:=s.l++[.frame s.l.length vals ((B,.bf id)::ft)]) (I:=I) ps.toList ad.toList ts Y.tmps tm (by simpa using ax) (λi v x bD bG=>(aR i v x (by simpa using bD) bG).mono aw) (λp ah=>by rw[aD];simpa using dT.1 bn p ah) (λq=>((bC q).mono (Le.vg I m s.l base)).mono aw)
 have ba:(Y.params.zip ad).foldl (λtmps(x:Tmp×Value)=>tmps.setIfInBounds x.1 x.2) Y.tmps=(ps.toList.zip ad.toList).foldl (λt(p:Tmp×Value)=>t.setIfInBounds p.1 p.2) Y.tmps:=by rw[<-LB,Array.toList_zip,aA]
 have bw:@Rel _ ⟨some b,I.df⟩ w0 I0 k ⟨kW ps.toList ts tm,s.l++[.frame s.l.length vals ((B,.bf id)::ft)]⟩ {tmps:=(Y.params.zip ad).foldl (λtmps(x:Tmp×Value)=>tmps.setIfInBounds x.1 x.2) Y.tmps,defers:=[]} w:=by
  rw[ba]
  exact @Rel.mk _ ⟨some b,I.df⟩ _ _ _ _ _ _ (aB.1.trans aD) ⟨I,_,bF,@ei.nil _ ⟨some b,I.df⟩ _ _ λ_ h=>h,aB.2⟩
 have bE:=h ⟨some b,I.df⟩ w0 I0 B vals (λe s2=>∃G,oD e=some G/\@sO _ ⟨some b,I.df⟩ s2 s.l.length vals ((B,.bf id)::ft) id base k ps bc O tm G (λl'=>K ⟨bR ft o.dst (.d (.bool G.isNone)),l'⟩)) ao (λe G s2 M af=>⟨G,M,af⟩) _ _ bw
 refine roundIn_of_wpIn (F:=dc) (l8 _) ?_
 rw[has,aT]
 refine n4 (λe aK an N=>?_) bE
 obtain⟨s1,N,bp⟩:=N
 cases e<;>simp only[uf]at N
 obtain⟨s2,bx,bb,bl,aU⟩:=N
 obtain⟨bA,aa,Z,ae,aY,bB⟩:=bx _ _ _ _ _ bp
 obtain⟨aG,bH,aF,bZ,b0,bI,bJ⟩:=ae.qz (st':=.busy) (pend':=none) bl (au ae bb)
 have aV:=run_beginRound (P:=P) bH aF.1
 refine⟨_,aV,?_⟩
 have aM:({aG with state:=.busy}:Loop)={aG with state:=.busy,pending:=none}:=by rw[<-aF.2.1]
 rw[aM]
 refine n4 (λe bP bO N=>?_) (aU aK _ (@Rel.mk _ ⟨some b,I.df⟩ _ _ _ _ _ _ bA ⟨aa,Z,bJ,aY,λq=>(bB q).mono bI⟩))
 obtain⟨s',⟨G,U,aI,bz,aq,bm,aQ⟩,bq⟩:=N
 obtain⟨_,ab,al,ak,aZ,bY⟩:=bz _ _ _ _ _ bq
 obtain⟨b4,bK,b1,b2,b3,bL,bM⟩:=ak.qz (st':=if G.isNone then .ready else .done) (pend':=G) bm (au ak aq)
 have a1:=run_endRound (P:=P) G bK
 have bj:∀b,I.df b->ab.df b:=by
  obtain⟨_,_,_,_,aN⟩:=aZ
  exact aN
 have a8:=(ak.obj _ _ aq).2.2
 have a6:∀q,ar ab al (aI.l.set id (.loop base k ps bc O tm (if G.isNone then .ready else .done) G)) (a.tmps.getD q undef) (ag.get ft q):=λq=>by
  have M:=a8 q
  rw[<-ai]at M
  simp only[ag.get]at M
  by_cases N:B=q
  ·subst N;rw[ao];exact .undef _
  rw[if_neg N,if_neg (hS N)]at M
  exact(M.mono (Le.vg ab al aI.l s.l.length)).mono bL
 have fin:∃v w',(Instr.endRound b G).run P bO=.ok v w'/\aJ (a.put o.dst v) w':=by
  refine⟨_,_,a1,aO _ _ _ aQ ⟨by cases o.dst<;>simp[Act.put,aC],ab,al,bM,aX.xr bj,?_⟩⟩
  exact lU aC aW a6 (.d _ _ (.bool _))
 cases e<;>simp only[oD,c4]at U<;>first| (subst U;exact fin)|cases U
end
end Go.Sy
namespace Go.Sy
open Go Go.ag
variable [aG]
inductive Dn where
 |skip
 |done (n:Nat) (ins:List Ins)
abbrev fC:=List (X×Bool)
def yE(D:fC)(x:X):Option Bool:=match D with
 | []=>none
 |p::r=>bif X.beq p.1 x then some p.2 else yE r x
def tg(D:fC):TX->TX
 |.d .bool x=>(match yE D x with
  |some c=>.d .bool (.bool c)
  |none=>.d .bool x)
 |t=>t
def kr(σ:Sk):fC->Sk
 | []=>σ
 |p::r=>Sk.decide p.1 p.2 (kr σ r)
def oB:List Ins->List Ins->Bool
 | [],[]=>true
 |.bS x::r,.bS y::s=>X.beq x y&&oB r s
 |.get x k::r,.get y j::s=>X.beq x y&&X.beq k j&&oB r s
 |.call c x::r,.call d y::s=>Nat.beq c d&&X.beq x y&&oB r s
 |_,_=>false
def uX(e:xZ)(l:List AX):List AX:=match e with
 |.none=>l
 |.new a=>l++[a]
 |.aP l'=>l'
def isNone(l:List AX):xZ->Bool
 |.none=>true
 |.aP l'=>lr l' l
 |.new _=>false
def qY(C:Cx)(ops:List Oper)(ρX:Operand->TX)(l:List AX)(n:Nat)(o:Oper):Option Nat->Option dB
 |none=>qV C ops ρX l n l.length o
 |some id=>match qV C ops ρX l n id o with
  |some q=>(match q.bA,l[id]? with
   |.new a,some .dead=>some ⟨q.ins,q.t,.aP (l.set id a)⟩
   |_,_=>none)
  |none=>none
def Ky(o:Oper):Bool:=match o.op with
 |.alloc _=>true
 |_=>false
def rM(ops:List Oper):Nat:=(ops.filter Ky).length
def pT(ops:List Oper)(j i:Nat):Option Nat:=bif Nat.ble 2 (rM ops)&&(match ops[i]? with
 |some o=>Ky o
 |none=>false)then some (j-rM ops+rM (ops.take i))else none
def mF(ops:List Oper)(σ:Sk):Sk:=bif Nat.ble 2 (rM ops)then {σ with l:=σ.l++List.replicate (rM ops) .dead}else σ
def nH(C:Cx)(ops:List Oper)(kp:Nat->Option Nat)(D:fC):List (Nat×Oper×Dn)->List (Nat×TX)->List AX->List (Nat×TX)×List Nat
 | [],t,_=>(t,[])
 | (_,o,.skip)::r,t,l=>nH C ops kp D r (je t o.dst .gone) l
 | (i,o,.done n _)::r,t,l=>match qY C ops (gF t) l n o (kp i)with
  |some q=>bif isNone l q.bA then nH C ops kp D r (je t o.dst (tg D q.t)) l else
   ((nH C ops kp D r (je t o.dst (tg D q.t)) (uX q.bA l)).1,i::(nH C ops kp D r (je t o.dst (tg D q.t)) (uX q.bA l)).2)
  |none=>nH C ops kp D r t l
def Ch(A:List Nat)(ws:List Nat)(m:Nat):Nat:=ws.foldl (λm k=>Nat.lor (jN m k) ((A[k]?).getD 0)) m
def sU:List Oper->List Nat->List Nat
 | [],A=>A
 |o::r,A=>sU r (A++[Ch A (waits o) 0])
def Ci(ops:List Oper)(A:List Nat):Bool:=(List.range ops.length).all λi=>match ops[i]? with
 |some o=>Nat.beq ((A[i]?).getD 0) (Ch A (waits o) 0)
 |none=>true
def wt(A:List Nat)(i j:Nat):Bool:=hasB ((A[i]?).getD 0) j
def OS(q:Oper)(k:Nat):Bool:=match q.dst with
 |some d=>Nat.beq d k
 |none=>false
def qB(ops:List Oper)(k:Nat)(p:Nat->Bool):Bool:=(List.range ops.length).all λj=>match ops[j]? with
 |some q=>!OS q k||p j
 |none=>true
def mq(ops:List Oper)(A:List Nat)(t0 t:List (Nat×TX))(i:Nat)(o:Oper):List (Nat×TX):=((fU ops o).filterMap λk=>bif qB ops k (λj=>wt A i j)then none else some (k,bd t0 k))++t
def MP(ops:List Oper)(A:List Nat)(i:Nat)(o:Oper):Bool:=(fU ops o).all λk=>qB ops k (λj=>wt A i j)||qB ops k (λj=>wt A j i||Nat.beq i j)
def qI(A:List Nat)(i:Nat):List Nat->List Bool->Bool
 |h::H,b::S=>((!wt A i h||b)&&(!(Nat.beq h i||wt A h i) || !b))&&qI A i H S
 |_,_=>true
def sr(i:Nat):List Nat->List Bool->List Bool
 |h::H,b::S=>(b||Nat.beq h i)::sr i H S
 |_,_=>[]
def vw:List Bool->List Bool->Bool
 | [],[]=>true
 |true::a,true::b=>vw a b
 |false::a,false::b=>vw a b
 |_,_=>false
def kH(S:List Bool):List (List Bool×List AX)->Option (List AX)
 | []=>none
 |p::r=>bif vw p.1 S then some p.2 else kH S r
def wb(H:List Nat)(i:Nat):Bool:=H.any λh=>Nat.beq h i
def GP(C:Cx)(ops:List Oper)(A:List Nat)(kp:Nat->Option Nat)(t0 t:List (Nat×TX))(rs:List Dn)(H:List Nat):List Nat->List (List Bool×List AX)->List (List Bool×List AX)
 | [],T=>T
 |h::r,T=>GP C ops A kp t0 t rs H r (T++T.filterMap λp=>match ops[h]?,rs[h]? with
  |some o,some (.done n _)=>bif qI A h H p.1 then(match qY C ops (gF (mq ops A t0 t h o)) p.2 n o (kp h)with
   |some q=>some (sr h H p.1,uX q.bA p.2)
   |none=>none)else none
  |_,_=>none)
def zM(C:Cx)(ops:List Oper)(kp:Nat->Option Nat)(j t:List (Nat×TX))(D:fC)(H:List Nat)(Ls:List (List Bool×List AX))(i:Nat)(o:Oper)(S:List Bool)(l:List AX):Dn->Bool
 |.skip=>!wb H i&&(match nj ops ⟨0,j,[]⟩ o.guard with |.no=>true|_=>false)&&(match o.dst with|some d=>we (bd t d)|none=>true)
 |.done n k=>(match nj ops ⟨0,j,[]⟩ o.guard with |.yes=>true|_=>false)&&(match qY C ops (gF j) l n o (kp i)with
  |some q=>oB q.ins k&&(match o.dst with|some d=>TX.beq (tg D q.t) (bd t d)|none=>true)&&(bif isNone l q.bA then !wb H i else(match kH (sr i H S) Ls with|some l'=>lr (uX q.bA l) l'|none=>false))
  |none=>false)
def s9(C:Cx)(ops:List Oper)(A:List Nat)(kp:Nat->Option Nat)(t0 t:List (Nat×TX))(l0:List AX)(D:fC)(H:List Nat)(Ls:List (List Bool×List AX))(rs:List Dn):Bool:=
 nu ops&&Ci ops A&&(match kH (H.map λ_=>false) Ls with|some l=>lr l l0|none=>false)&&(H.all λh=>Nat.blt h ops.length)&&(List.range ops.length).all λi=>match ops[i]?,rs[i]? with
  |some o,some d=>dJ C.nt o.dst&&MP ops A i o&&Ls.all λp=>!qI A i H p.1||zM C ops kp (mq ops A t0 t i o) t D H Ls i o p.1 p.2 d
  |_,_=>false
def tW(C:Cx)(ops:List Oper)(dI:Sk)(D:fC)(n:Nat)(rs:List Dn):Option Sk:=
 let kp:=pT ops dI.l.length
 let p:=nH C ops kp D ((List.range ops.length).zip (ops.zip rs)) (kr dI D).t dI.l
 let Ls:=GP C ops (sU ops []) kp (kr dI D).t p.1 rs p.2 p.2 [(p.2.map λ_=>false,dI.l)]
 bif s9 C ops (sU ops []) kp (kr dI D).t p.1 dI.l D p.2 Ls rs then(match kH (p.2.map λ_=>true) Ls with
  |some l=>some ⟨n,p.1,l⟩
  |none=>none)else none
def o5(C:Cx)(ops:List Oper)(dI:Sk):List Oper->Sk->fC->List Dn->Tr
 | [],σ,D,rs=>(match tW C ops dI D σ.n rs.reverse with
  |some k=>.leaf .normal k
  |none=>.bad (1800+ops.length))
 |o::r,σ,D,rs=>
  let j:=λ(σ:Sk)(D:fC)=>match qY C ops (gF σ.t) σ.l σ.n o (pT ops dI.l.length rs.length)with
   |some q=>pQ (o5 C ops dI r (sT σ o.dst q) D (.done σ.n q.ins::rs)) σ.n q.ins
   |none=>.bad (30000+o.dst.getD 9999)
  let skip:=λ(σ:Sk)(D:fC)=>o5 C ops dI r {σ with t:=je σ.t o.dst .gone} D (.skip::rs)
  match nj ops σ o.guard with
  |.yes=>j σ D
  |.no=>skip σ D
  |.ask x b=>.fP x (bif b then j (σ.decide x true) ((x,true)::D)else skip (σ.decide x true) ((x,true)::D)) (bif b then skip (σ.decide x false) ((x,false)::D)else j (σ.decide x false) ((x,false)::D))
  |.bad=>.bad 4
def yG(C:Cx)(ops:List Oper)(σ:Sk):Tr:=o5 C ops (mF ops σ) ops (mF ops σ) [] []
def vV(l:List AX)(id:Nat):List Nat:=l.zipIdx.map λp=>bif Nat.beq p.2 id||(match p.1 with |.eO=>true|_=>false)then yR+p.2 else p.2
def DD(ids:List Nat)(id:Nat):Bool:=rN ids && !(ids.any λi=>Nat.beq i id)
def DE(C:Cx)(ty:TypeId)(cs:List TX):Option Ty:=match C.ty ty with
 |some t=>some t
 |none=>(match cs with
  | [.d (.aD f t) _]=>some (.aD f t)
  | [.d (.fn f) _]=>some (.fn f)
  |_=>none)
def DF(C:Cx)(σ:Sk)(j:Nat):Option Sk:=match bd σ.t j with
 |.ptr id 0=>(match σ.l[id]? with
  |some (.var ty cs)=>(match DE C ty cs with
   |some t=>(match rJ t cs with
    |some (.d u x)=>if u=t then(bif dV (.box t)&&DD (vV σ.l id) id&&rl (vV σ.l id) σ.l then some ⟨σ.n,(j,.d (.box t) (.box x))::(σ.re (vV σ.l id)).t,(σ.re (vV σ.l id)).l⟩else none)else none
    |_=>none)
   |none=>none)
  |_=>none)
 |_=>none
def vF(id:Nat):List Ty->Nat->Sk->Sk
 | [],_,σ=>σ
 |t::ts,k,σ=>vF id ts (k+1) (match mW σ (.cell id k)with
  |.d _ _=>σ
  |_=>(match pw σ (.cell id k) (.data t)with|some bH=>bH|none=>σ))
def yD(C:Cx)(σ:Sk)(j:Nat):Sk:=match bd σ.t j with
 |.ptr id 0=>(match σ.l[id]? with
  |some (.var ty _)=>(match C.ty ty with
   |some t=>(match fO gb t .unit with
    |some ps=>vF id (ps.map (·.1)) 0 σ
    |none=>σ)
   |none=>σ)
  |_=>σ)
 |_=>σ
def lI(C:Cx):Sk->List Nat->Sk
 |σ,[]=>σ
 |σ,j::r=>match DF C (yD C σ j) j with
  |some bH=>lI C bH r
  |none=>lI C σ r
def og(C:Cx):List Oper->List Nat
 | []=>[]
 |o::r=>(match o.op with
  |.makeFunc (.func f) _ cs=>bif C.DG.any (Nat.beq f)then cs.toList.filterMap (λx=>match x with |.tmp t=>some t|_=>none)else []
  |_=>[])++og C r
def ko(f:Func):Code:=match f.body with|some c=>c|none=>.skip
def lW(rs:List ResultVar):Nat:=rs.foldl (λm r=>match r with |.tmp t=>jN m t |.cell a _=>jN m a) 0
def MU(C:Cx)(ty:TypeId)(l:List AX)(a:TX):Option TX:=match C.ty ty,a with
 |some t,.ptr id off=>match l[id]? with
  |some (.var _ cs)=>bif Nat.ble (off+t.size) cs.length then rJ t ((cs.drop off).take t.size)else none
  |_=>none
 |_,_=>none
def o4(C:Cx)(σ:Sk):List ResultVar->Option (List TX)
 | []=>some []
 |.tmp t::r=>(o4 C σ r).map (bd σ.t t :: ·)
 |.cell a ty::r=>match MU C ty σ.l (bd σ.t a)with
  |some x=>(o4 C σ r).map (x :: ·)
  |none=>none
def W6(T:Tr):Tr:=eJ (λe j=>match e with |.normal=>.leaf .normal j|_=>.bad 21) T
def fp(T:Tr):Tr:=eJ (λe j=>.leaf (.fp e) j) T
def OH(T:Tr):Tr:=eJ (λe j=>match e with |.fp e=>.leaf e j|_=>.bad 27) T
def isDone(σ:Sk):Bool:=σ.l.any λa=>match a with |.lp _ _ _ (.done _)=>true|_=>false
def BF(p:Sk->Bool)(j n0:Nat)(T:Tr)(f:Sk->Tr):Tr:=
 bif (leaves .normal T).any p then
  OH (uP j n0 (eJ (λe σ=>match e with |.normal=>(bif p σ then fp (f σ)else .leaf .normal σ)|e=>.leaf (.fp e) σ) T) λk=>fp (f k))
 else uP j n0 T f
def Zo(j:Nat)(ls:List Sk)(σ:Sk):Bool:=isDone σ||ls.any λk=>k.t.any λq=>hasB j q.1&&(match q.2 with |.ptr .. =>true|_=>false)&&(match bd σ.t q.1 with |.undef=>true|_=>false)
def xF(j n0:Nat)(T:Tr)(f:Sk->Tr):Tr:=BF (Zo j (leaves .normal T)) j n0 T f
def Ge:List ResultVar->List Nat
 | []=>[]
 |.tmp t::r=>t::Ge r
 |_::r=>Ge r
def Zn(rs:List Nat)(ls:List Sk)(σ:Sk):Bool:=isDone σ||rs.any λj=>(match bd σ.t j with |.undef=>true|_=>false)&&ls.any λk=>match bd k.t j with |.ptr .. =>true|_=>false
def Ns(rs:List Nat)(j n0:Nat)(T:Tr)(f:Sk->Tr):Tr:=BF (Zn rs (leaves .normal T)) j n0 T f
mutual
def TX.clean:TX->Bool
 |.undef=>false
 |.sub _ _ _=>false
 |.gone=>false
 |.agg cs=>TX.qR cs
 |.aN cs=>TX.qR cs
 |.aD _ cs=>TX.qR cs
 |_=>true
def TX.qR:List TX->Bool
 | []=>true
 |t::ts=>t.clean&&TX.qR ts
end
mutual
def TX.refs:TX->List Nat
 |.ptr id _=>[id]
 |.row id=>[id]
 |.bw id _ _=>[id]
 |.map id=>[id]
 |.bf id=>[id]
 |.cE id _=>[id]
 |.bJ id _ _=>[id]
 |.agg cs=>TX.sn cs
 |.aN cs=>TX.sn cs
 |.aD _ cs=>TX.sn cs
 |_=>[]
def TX.sn:List TX->List Nat
 | []=>[]
 |t::ts=>t.refs++TX.sn ts
end
def oE(j:Nat)(t:List (Nat×TX)):List (Nat×TX):=(jG j t 0).map λp=>(p.1,bif p.2.clean then p.2 else .undef)
def fV:List (Nat×TX)->List Nat
 | []=>[]
 |p::r=>p.2.refs++fV r
inductive fg where
 |mk (id j k:Nat) (ps:List Nat) (bc body:Code) (t:List (Nat×TX)) (outer:List fg)
def fg.id:fg->Nat
 |.mk id _ _ _ _ _ _ _=>id
def vR(id:Nat):List fg->Option fg
 | []=>none
 |x::r=>bif Nat.beq x.id id then some x else vR id r
def findF(g:Nat):List (Nat×Func)->Option Func
 | []=>none
 |p::r=>bif Nat.beq p.1 g then some p.2 else findF g r
def pd:Nat->List TX->List (Nat×TX)
 |_,[]=>[]
 |k,t::ts=>(k,t)::pd (k+1) ts
def BT:List TX->TX
 | [x]=>x
 |xs=>.aN xs
def gZ(d:Nat):AX->AX
 |.dD j b r=>bif Nat.ble d j then .eO else .dD j b r
 |.lp j b r s=>bif Nat.ble d j then .eO else .lp j b r s
 |a=>a
def kF(j b:Nat)(l:List AX):Bool:=match l[b]? with
 |some (.dD B k _)=>Nat.beq j B&&Nat.beq b k
 |_=>false
abbrev Runner:=Cx->List fg->Lv->Code->Sk->Tr
def CD(run:Runner)(C:Cx)(L:List fg)(fn:Func)(ts:List TX)(σ:Sk)(t0:List (Nat×TX))(K:TX->Sk->Tr):Tr:=
 bif !Nat.ble ts.length fn.ntmps then .bad 24 else
 Ns (Ge fn.results.toList) (lW fn.results.toList) σ.n
  (
   eJ (λe j=>match e with |.normal=>.leaf .normal (j.cD (lW fn.results.toList)) |.ret=>.leaf .normal (j.cD (lW fn.results.toList))|_=>.bad 21)
   (run {C with nt:=fn.ntmps,dep:=C.dep+1,kV:=false} L ⟨lW fn.results.toList,[],lW fn.results.toList⟩ (ko fn) ⟨σ.n,pd 0 ts,σ.l++[.dD C.dep σ.l.length (fV t0)]⟩))
  λj=>match o4 C j fn.results.toList with
   |some xs=>bif kF C.dep σ.l.length j.l then K (BT xs) ⟨j.n,t0,j.l.map (gZ C.dep)⟩else .bad 23
   |none=>.bad 22
def xB:List Nat->List TX->List (Nat×TX)->List (Nat×TX)
 |p::ps,x::xs,t=>xB ps xs ((p,x)::t)
 |_,_,t=>t
def lD(C:Cx)(id j b:Nat)(rs:List Nat)(n1:Nat)(t0:List (Nat×TX))(K:TX->Sk->Tr)(e:Ex)(k:Sk):Tr:=match k.l[id]? with
 |some (.lp F B G .busy)=>bif Nat.beq F j&&Nat.beq B b&&decide (G=rs)&&kF C.dep n1 k.l then
   fp (K (.d .bool (.bool (decide (e=.normal)))) ⟨k.n,t0,(k.l.set id (.lp j b rs (if e=.normal then .ready else .done e))).map (gZ C.dep)⟩)else .bad 28
 |_=>.bad 28
def Hm(run:Runner)(C:Cx)(L:List fg)(id:Nat)(ts:List TX)(σ:Sk)(t0:List (Nat×TX))(K:TX->Sk->Tr):Tr:=match vR id L,σ.l[id]? with
 |some (
     .mk _ j k ps bc body t outer),some (.lp G b rs .ready)=>
  bif Nat.beq G j&&Nat.beq ps.length ts.length&&ps.all (λp=>Nat.blt p k)then
   OH (
       xF 0 σ.n
    (
     eJ (λe B=>match e with |.normal=>.leaf .normal B |.ret=>lD C id j b rs σ.l.length t0 K .ret B |.exit i=>lD C id j b rs σ.l.length t0 K (.exit i) B|_=>.bad 26)
     (
      xF (gi body ⟨0,[],0⟩) σ.n
      (W6 (run {C with nt:=k,dep:=C.dep+1,kV:=true} outer ⟨gi body ⟨0,[],0⟩,[],0⟩ bc ⟨σ.n,xB ps ts t,σ.l++[.dD C.dep σ.l.length (id::fV t0)]⟩))
      λB=>match B.l[id]? with
       |some (.lp M F N .ready)=>bif Nat.beq M j&&Nat.beq F b&&decide (N=rs)&&kF C.dep σ.l.length B.l then run {C with nt:=k,dep:=C.dep+1,kV:=true} outer ⟨0,[],0⟩ body ⟨B.n,B.t,B.l.set id (.lp j b rs .busy)⟩else .bad 25
       |_=>.bad 25))
    λB=>lD C id j b rs σ.l.length t0 K .normal B)
  else .bad 29
 |_,_=>.bad 29
def vY(
     run:Runner)(C:Cx)(L:List fg):x2:=λo m σ=>match o.op with
 |.binOp j t x y _=>(match j,C.E t,gF σ.t x,y with
  |.eql,some ⟨_,_,_,.slice _⟩,.d (.list _) xs,.const (.slice none 0 0)=>some λK=>.gE xs (K (.d .bool (.bool true)) σ) (K (.d .bool (.bool false)) σ)
  |_,_,_,_=>none)
 |.call c=>(match c.callee with
  |.value f=>(match gF σ.t f with
   |.bf id=>some λK=>Hm run C L id (pf C.E c.argTypes.toList (c.args.toList.map (gF σ.t))) σ (oE m σ.t) K
   |t=>(match lx t with
    |some (g,ts)=>(match findF g C.ni with
     |some fn=>some λK=>CD run C L fn (pf C.E c.argTypes.toList (c.args.toList.map (gF σ.t))++ts) σ (oE m σ.t) K
     |none=>none)
    |none=>none))
  |_=>none)
 |_=>none
def xv(run:Runner)(C:Cx)(L:List fg)(B:Nat)(fn:Func)(caps:List TX)(ps:List Nat)(bc F:Code)(σ:Sk)(t0:List (Nat×TX)):Tr:=
 bif !Nat.ble (caps.length+1) fn.ntmps || !fn.results.toList.isEmpty || !Nat.ble σ.l.length σ.l.length then .bad 32 else
 eJ (λe k=>match e with
  |.normal=>fin k
  |.ret=>fin k
  |_=>.bad 31) (run {C with nt:=fn.ntmps,dep:=C.dep+2,kV:=false} (.mk σ.l.length C.dep C.nt ps bc F t0 L::L) ⟨0,[],0⟩ (ko fn)
   ⟨σ.n,pd 0 (.bf σ.l.length::caps),σ.l++[.lp C.dep σ.l.length (fV t0) .ready,.dD (C.dep+1) (σ.l.length+1) (σ.l.length::fV t0)]⟩)
where fin (k:Sk):Tr:=bif kF (C.dep+1) (σ.l.length+1) k.l then(match k.l[σ.l.length]? with
 |some (.lp j _ _ .ready)=>bif Nat.beq j C.dep then .leaf .normal (Sk.cD B ⟨k.n,t0,k.l.map (gZ C.dep)⟩)else .bad 31
 |some (.lp j _ _ (.done .ret))=>bif Nat.beq j C.dep then .leaf .ret (Sk.cD B ⟨k.n,t0,k.l.map (gZ C.dep)⟩)else .bad 31
 |some (.lp j _ _ (.done (.exit i)))=>bif Nat.beq j C.dep then .leaf (.exit i) (Sk.cD B ⟨k.n,t0,k.l.map (gZ C.dep)⟩)else .bad 31
 |_=>.bad 31)else .bad 31
def exec:Nat->Cx->List fg->Lv->Code->Sk->Tr
 |0,_,_,_,_,_=>.bad 8
 |f+1,C,L,live,c,σ=>match c with
  |.skip=>.leaf .normal σ
  |.region _ ops d=>eJ (λe j=>.leaf e (j.cD live.out)) (bif d then yG C ops.toList (lI C σ (og C ops.toList))else mG C (vY (exec f) C L) live.out ops.toList ops.toList (lI C σ (og C ops.toList)))
  |.seq a b=>xF (gi b live) σ.n (exec f C L {live with out:=gi b live} a σ) (exec f C L live b)
  |.cond c a b=>match gF σ.t c with
   |.d .bool (.bool true)=>exec f C L live a σ
   |.d .bool (.bool false)=>exec f C L live b σ
   |.d .bool x=>.fP x (exec f C L live a σ) (exec f C L live b σ)
   |_=>.bad 9
  |.block id b=>eJ (λe j=>match e with |.exit i=>(bif Nat.beq i id then .leaf .normal j else .leaf e j)|e=>.leaf e j) (exec f C L {live with ex:=(id,live.out)::live.ex} b σ)
  |.loop b=>wo (gi (.loop b) live) σ.n (exec f C L {live with out:=gi (.loop b) live} b) 6 σ (σ.cD (gi (.loop b) live))
  |.exit id=>.leaf (.exit id) σ
  |.ret=>.leaf .ret σ
  |.rangeFunc g ps a b=>bif C.kV then .bad 30 else match lx (gF (oE (gi (.rangeFunc g ps a b) live) σ.t) g)with
   |some (gf,caps)=>(match findF gf C.ni with
    |some fn=>xv (exec f) C L live.out fn caps ps.toList a b σ (oE (gi (.rangeFunc g ps a b) live) σ.t)
    |none=>.bad 33)
   |none=>.bad 34
  |_=>.bad 10
def uV:Nat->List Ty->List (Nat×TX)
 |_,[]=>[]
 |k,t::ts=>(k,.d t (.var k))::uV (k+1) ts
def jv(g:Sk->Option (X)):Nat->Tr->Tr
 |k,.leaf e σ=>match e with
  |.exit _=>.bad 11
  |.fp _=>.bad 11
  |_=>match g σ with
   |some x=>.out k x
   |none=>.bad 12
 |_,.out k x=>.out k x
 |k,.bS x t=>.bS x (jv g k t)
 |k,.get v xs i t=>.get v xs i (jv g k t)
 |k,.call v c x t=>.call v c x (jv g k t)
 |k,.fP c a b=>.fP c (jv g k a) (jv g k b)
 |k,.gE c a b=>.gE c (jv g k a) (jv g k b)
 |k,.join ty v a b=>.join ty v (jv g (k+1) a) (jv g k b)
 |k,.loop ty v i b=>.loop ty v i (jv g (k+1) b)
 |_,.bad w=>.bad w
def Gj(C:Cx)(rs:List ResultVar)(j:List Ty)(σ:Sk):Option X:=match o4 C σ rs with
 |some ts=>match hY σ.l j ts with
  |some (xs,_)=>some (fL xs)
  |none=>none
 |none=>none
def uY(C:Cx)(rs:List ResultVar)(c:Code)(j k:List Ty):Tr:=jv (Gj C rs k) 0 (exec 400 C [] ⟨lW rs,[],lW rs⟩ c ⟨j.length,uV 0 j,[]⟩)
end Go.Sy
namespace Go.Sy
open Go Go.ag
variable [aG][cQ][cK][dw][bq][pv][bX]
def y6:∀{a b:List Ins},oB a b=true->a=b
 | [],[],_=>rfl
 |.bS x::r,.bS y::s,h=>by
  simp only[oB,db]at h
  rw[X.beq_eq h.1,y6 h.2]
 |.get x k::r,.get y j::s,h=>by
  simp only[oB,db]at h
  rw[X.beq_eq h.1.1,X.beq_eq h.1.2,y6 h.2]
 |.call c x::r,.call d y::s,h=>by
  simp only[oB,db]at h
  rw[er h.1.1,X.beq_eq h.1.2,y6 h.2]
 | [],_::_,h=>by cases h
 |_::_,[],h=>by simp[oB]at h
 |.bS _::_,.get _ _::_,h=>by cases h
 |.bS _::_,.call _ _::_,h=>by cases h
 |.get _ _::_,.bS _::_,h=>by cases h
 |.get _ _::_,.call _ _::_,h=>by cases h
 |.call _ _::_,.bS _::_,h=>by cases h
 |.call _ _::_,.get _ _::_,h=>by cases h
def cu.again{cs:List Callee}{n:Nat}{M af ρ:aS}{is:List Ins}(h:cu cs n M is af):ey n M->Ext af ρ->∀ρ0,(∀i,lk ρ0 i=lk ρ i)->∃B,cu cs n ρ0 is B/\∀i,lk B i=lk ρ i:=by
 induction h with
 |nil n M=>intro _ _ ρ0 F;exact⟨ρ0,.nil n ρ0,F⟩
 |bS n M x r af al Z ab=>
  intro N G ρ0 F
  obtain⟨B,ad,ae⟩:=ab N G ρ0 F
  have an:=X.eW (λi v aa=>(F i).trans (G i v ((Z.ext N).1 i v aa)):Ext M ρ0) al
  exact⟨B,.bS n ρ0 x r B an ad,ae⟩
 |get n M xs k r af t l kk i e ah ai aj Z ab=>
  intro N G ρ0 F
  have U:=N.push (rv n) ⟨t,e⟩
  have O:=(Z.ext U).1
  have ag:Ext M ρ0:=λi v aa=>(F i).trans (G i v (O i v (Ext.push N _ i v aa)))
  have ak:lk ρ n=some ⟨t,e⟩:=G n _ (O n _ (jZ n _ _))
  obtain⟨B,ad,ae⟩:=ab U G ((n,⟨t,e⟩)::ρ0) (λj=>by
   by_cases Y:n=j
   ·subst Y;rw[jZ,ak]
   simp only[lk,kz Y,cond_false];exact F j)
  exact⟨B,.get n ρ0 xs k r B t l kk i e (X.eW ag ah) (X.eW ag ai) aj ad,ae⟩
 |call n M c x r af C a y ah ai aj Z ab=>
  intro N G ρ0 F
  have U:=N.push (rv n) ⟨ba C.res,y⟩
  have O:=(Z.ext U).1
  have ag:Ext M ρ0:=λi v aa=>(F i).trans (G i v (O i v (Ext.push N _ i v aa)))
  have ak:lk ρ n=some ⟨ba C.res,y⟩:=G n _ (O n _ (jZ n _ _))
  obtain⟨B,ad,ae⟩:=ab U G ((n,⟨ba C.res,y⟩)::ρ0) (λj=>by
   by_cases Y:n=j
   ·subst Y;rw[jZ,ak]
   simp only[lk,kz Y,cond_false];exact F j)
  exact⟨B,.call n ρ0 c x r B C a y ah (X.eW ag ai) aj ad,ae⟩
def ji(ρ:aS)(D:fC):Prop:=∀p∈D,p.1.den ρ=some ⟨.bool,p.2⟩
theorem ji.mono{ρ ρ':aS}{D:fC}(h:ji ρ D)(j:Ext ρ ρ'):ji ρ' D:=λp k=>X.eW j (h p k)
def Jb{ρ:aS}:∀{D:fC},ji ρ D->∀{x c},yE D x=some c->x.den ρ=some ⟨.bool,c⟩
 | [],_,x,c,h=>by cases h
 |p::r,k,x,c,h=>by
  simp only[yE]at h
  cases j:X.beq p.1 x with
  |true=>
   rw[j]at h
   injection h with h
   rw[<-X.beq_eq j,<-h];exact k p (by simp)
  |false=>rw[j]at h;exact Jb (λq B=>k q (by simp[B])) h
def Td{ρ:aS}{D:fC}(B:ji ρ D){x:TX}{t:T}(h:RX ρ x t):RX ρ (tg D x) t:=by
 unfold tg
 split
 ·split
  ·rename_i c F
   obtain⟨b,j,k⟩:=iQ h
   have:b=c:=fN (j.symm.trans (Jb B F))
   subst this
   rw[k];exact fu rfl
  exact h
 exact h
def I5{ρ:aS}{σ:Sk}{s:St}(h:bn ρ σ s):∀{D:fC},ji ρ D->bn ρ (kr σ D) s
 | [],_=>h
 |p::r,j=>Ja (I5 h λq k=>j q (by simp[k])) (j p (by simp))
def sK(cs:List Callee)(ρ:aS):Dn->Prop
 |.skip=>True
 |.done n B=>∃j k,ey n j/\cu cs n j B k/\Ext k ρ
section
variable {P:Program}{V:Env}{C:Cx}{cs:List Callee}{n:Nat}{ops:List Oper}{dI:Sk}
def KI{D:fC}{m:Nat}{rs:List Dn}{k:Sk}(h:tW C ops dI D m rs=some k):∃(t:List (Nat×TX))(H:List Nat)(Ls:List (List Bool×List AX))(l:List AX),s9 C ops (sU ops []) (pT ops dI.l.length) (kr dI D).t t dI.l D H Ls rs=true/\kH (H.map λ_=>true) Ls=some l/\k=⟨m,t,l⟩/\t=(nH C ops (pT ops dI.l.length) D ((List.range ops.length).zip (ops.zip rs)) (kr dI D).t dI.l).1:=by
 unfold tW at h
 simp only at h
 generalize nH C ops (pT ops dI.l.length) D ((List.range ops.length).zip (ops.zip rs)) (kr dI D).t dI.l=p at h⊢
 generalize GP C ops (sU ops []) (pT ops dI.l.length) (kr dI D).t p.1 rs p.2 p.2 [(p.2.map λ_=>false,dI.l)]=Ls at h
 cases j:s9 C ops (sU ops []) (pT ops dI.l.length) (kr dI D).t p.1 dI.l D p.2 Ls rs with
 |false=>rw[j]at h;cases h
 |true=>
  rw[j]at h
  simp only[cond_true]at h
  split at h
  ·rename_i l B
   injection h with h
   exact⟨p.1,p.2,Ls,l,j,B,h.symm,rfl⟩
  cases h
theorem Gn{Q:LQ}:∀(r:List Oper){σ:Sk}{ρ:aS}{J:LJ}{D:fC}{rs:List Dn},ey σ.n ρ->ji ρ D->(∀d∈rs,sK cs ρ d)->Tr.wp cs (o5 C ops dI r σ D rs) ρ Q J ->
  ∃j ρ' J' B F,Q .normal j ρ' J'/\tW C ops dI B j.n F=some j/\ey j.n ρ'/\c9 σ.n ρ ρ'/\σ.n<=j.n/\ji ρ' B/\∀d∈F,sK cs ρ' d
 | [],σ,ρ,J,D,rs,O,N,ab,k=>by
  simp only[o5]at k
  split at k
  ·rename_i j ao
   have M:j.n=σ.n:=by
    obtain⟨_,_,_,l,_,_,rfl,_⟩:=KI ao
    rfl
   exact⟨j,ρ,J,D,rs.reverse,k,by rw[M];exact ao,by rw[M];exact O,.refl _ _,by omega,N,λd hd=>ab d (by simpa using hd)⟩
  exact k.elim
 |o::r,σ,ρ,J,D,rs,O,N,ab,k=>by
  have ae:∀{σ1:Sk}{G:fC},σ1.n=σ.n->ji ρ G->Tr.wp cs (match qY C ops (gF σ1.t) σ1.l σ1.n o (pT ops dI.l.length rs.length)with|some q=>pQ (o5 C ops dI r (sT σ1 o.dst q) G (.done σ1.n q.ins::rs)) σ1.n q.ins|none=>.bad (30000+o.dst.getD 9999)) ρ Q J ->
    ∃j ρ' J' B F,Q .normal j ρ' J'/\tW C ops dI B j.n F=some j/\ey j.n ρ'/\c9 σ.n ρ ρ'/\σ.n<=j.n/\ji ρ' B/\∀d∈F,sK cs ρ' d:=by
   intro σ1 G M af k
   split at k
   ·rename_i q aB
    obtain⟨aq,hi,k⟩:=wa k
    have al:ey σ1.n ρ:=by rw[M];exact O
    obtain⟨an,ax⟩:=hi.ext al
    obtain⟨ay,az⟩:=hi.JA
    obtain⟨j,ρ',J',B,F,ag,ah,ai,U,ad,aj,ak⟩:=Gn r (σ:=sT σ1 o.dst q) (D:=G) (rs:=.done σ1.n q.ins::rs) ax (af.mono an) (λd hd=>by
     rcases fb.1 hd with rfl|hd
     ·exact⟨ρ,aq,al,hi,.refl _⟩
     have:=ab d hd
     cases d with
     |skip=>trivial
     |done n aC=>obtain⟨a,b,ar,au,av⟩:=this;exact⟨a,b,ar,au,av.trans an⟩) k
    have U:c9 (kC σ1.n q.ins) aq ρ':=U
    have ad:kC σ1.n q.ins<=j.n:=ad
    exact⟨j,ρ',J',B,F,ag,ah,ai,by rw[<-M];exact ay.trans U az,by omega,aj,ak⟩
   exact k.elim
  have skip:∀{σ1:Sk}{G:fC},σ1.n=σ.n->ji ρ G->Tr.wp cs (o5 C ops dI r {σ1 with t:=je σ1.t o.dst .gone} G (.skip::rs)) ρ Q J ->
    ∃j ρ' J' B F,Q .normal j ρ' J'/\tW C ops dI B j.n F=some j/\ey j.n ρ'/\c9 σ.n ρ ρ'/\σ.n<=j.n/\ji ρ' B/\∀d∈F,sK cs ρ' d:=by
   intro σ1 G M af k
   obtain⟨j,ρ',J',B,F,ag,ah,ai,U,ad,aj,ak⟩:=Gn r (σ:={σ1 with t:=je σ1.t o.dst .gone}) (D:=G) (rs:=.skip::rs) (by rw[<-M]at O;exact O) af (λd hd=>by
    rcases fb.1 hd with rfl|hd
    ·trivial
    exact ab d hd) k
   exact⟨j,ρ',J',B,F,ag,ah,ai,by rw[<-M];exact U,by rw[<-M];exact ad,aj,ak⟩
  simp only[o5]at k
  split at k
  ·exact ae rfl N k
  ·exact skip rfl N k
  ·rename_i x b aA
   obtain⟨c,aw,Y,Z⟩:=k
   have aa:ji ρ ((x,c)::D):=λp hp=>by
    rcases fb.1 hp with rfl|hp
    ·exact aw
    exact N p hp
   cases c with
   |true=>
    have Y:=Y rfl
    cases b with
    |true=>exact ae (σ1:=σ.decide x true) rfl aa Y
    |false=>exact skip (σ1:=σ.decide x true) rfl aa Y
   |false=>
    have Z:=Z rfl
    cases b with
    |true=>exact skip (σ1:=σ.decide x false) rfl aa Z
    |false=>exact ae (σ1:=σ.decide x false) rfl aa Z
  exact k.elim
def xo{kp:Nat->Option Nat}{D:fC}:∀{z:List (Nat×Oper×Dn)}{t:List (Nat×TX)}{l:List AX}{k:Nat},(∀x∈z,x.2.1.dst≠some k)->bd (nH C ops kp D z t l).1 k=bd t k
 | [],t,l,k,_=>rfl
 | (
    i,o,d)::r,t,l,k,h=>by
  have G:o.dst≠some k:=h (i,o,d) (by simp)
  have j:∀x∈r,x.2.1.dst≠some k:=λx M=>h x (by simp[M])
  have put:∀x:TX,bd (je t o.dst x) k=bd t k:=λx=>by
   cases B:o.dst with
   |none=>rfl
   |some e=>
    show(bif Nat.beq e k then x else bd t k)=_
    rw[kz (λF=>G (by rw[B,F]))];rfl
  cases d with
  |skip=>exact(xo j).trans (put _)
  |done m N=>
   simp only[nH]
   split
   ·cases isNone _ _ with
    |true=>exact(xo j).trans (put _)
    |false=>exact(xo j).trans (put _)
   exact xo j
def TS{o:Oper}{ρX:Operand->TX}{ρT:Operand->T}{lX:List AX}{l:List AO}{ρ ρ':aS}{k:Option Nat}{q:dB}(F:bU P V C)(N:il P C cs)(j:RL ρ lX l)(M:∀x∈o.op.operands,RX ρ (ρX x) (ρT x))(G:∀g ls,aG.eG g=some ls->ρT (.global g)=.bB ls.length [.agg (ls.map (.int .i64))] 0 0)(B:Ext ρ ρ')(h:qY C ops ρX lX n o k=some q)(hi:cu cs n ρ q.ins ρ'):cO P o ρT l l.length ρ' q:=by
 cases k with
 |none=>
  have h:qV C ops ρX lX n lX.length o=some q:=h
  rw[j.len]at h
  exact Dc F N j M G B h hi
 |some id=>
  simp only[qY]at h
  split at h
  ·rename_i ai ad
   split at h
   ·rename_i a ab aa
    injection h with h
    subst h
    obtain⟨u,ae,O⟩:=Dc F N j M G B ad hi
    rw[ab]at O
    obtain⟨U,af,_,ag⟩:=O
    obtain⟨ah,Y,Z⟩:=F2.left j aa
    cases Z
    exact⟨u,ae,l.set id U,F2.set (j.mono B) af id,λ_=>ag Y⟩
   cases h
  cases h
def KU{S:List Bool}{l:List AX}:∀{Ls:List (List Bool×List AX)},kH S Ls=some l->(S,l)∈Ls
 | [],h=>by cases h
 |p::r,h=>by
  have key:∀a b:List Bool,vw a b=true->a=b:=by
   intro a
   induction a with
   |nil=>intro b h;cases b with
    |nil=>rfl
    |cons _ _=>cases h
   |cons x a k=>intro b h;cases b with
    |nil=>cases x<;>cases h
    |cons y b=>cases x<;>cases y<;>first|cases h|exact dn _ (k b h)
  simp only[kH]at h
  cases j:vw p.1 S with
  |true=>
   rw[j]at h
   simp only[cond_true,c4]at h
   rw[<-key _ _ j,<-h]
   exact LL
  |false=>rw[j]at h;exact nb _ (KU h)
def Nv{i:Nat}{f g:Nat->Bool}:∀{H:List Nat},(∀h∈H,g h=(f h||Nat.beq h i))->sr i H (H.map f)=H.map g
 | [],_=>rfl
 |h::H,k=>by
  simp only[fa,sr]
  rw[k h (by simp),Nv λx j=>k x (by simp[j])]
def Hx{A:List Nat}{i:Nat}{f:Nat->Bool}:∀{H:List Nat},(∀h∈H,(wt A i h=true->f h=true)/\((Nat.beq h i||wt A h i)=true->f h=false))->qI A i H (H.map f)=true
 | [],_=>rfl
 |h::H,k=>by
  simp only[fa,qI,db]
  obtain⟨F,G⟩:=k h (by simp)
  refine⟨⟨?_,?_⟩,Hx λx B=>k x (by simp[B])⟩
  ·cases j:wt A i h with
   |false=>rfl
   |true=>rw[F j];rfl
  cases j:(Nat.beq h i||wt A h i)with
  |false=>rfl
  |true=>rw[G j];rfl
def MR{w0 w:World}{I0:ay}{n:Nat}{s:St}{a:Act}(h:Rel w0 I0 n s a w):∀k,Rel w0 I0 n ⟨s.t,s.l++List.replicate k .dead⟩ a w
 |0=>by simpa using h
 |k+1=>by
  obtain⟨O,I,m,G,M,N⟩:=MR h k
  obtain⟨B,F⟩:=G.push
  rw[hU,<-List.replicate_succ']at B F
  exact⟨O,I,m,B,M,λj=>(N j).mono F⟩
def JB{ρ:aS}:∀k,RL ρ (List.replicate k .dead) (List.replicate k .dead)
 |0=>.nil
 |k+1=>.cons .dead (JB k)
theorem YE{σ:Sk}{ρ:aS}{s:St}(j:bn ρ σ s):∃s',bn ρ (mF ops σ) s'/\(mF ops σ).n=σ.n/\(mF ops σ).t=σ.t/\∀{w0 I0 m a w},Rel w0 I0 m s a w->Rel w0 I0 m s' a w:=by
 unfold mF
 cases Nat.ble 2 (rM ops)with
 |false=>exact⟨s,j,rfl,rfl,λh=>h⟩
 |true=>exact⟨⟨s.t,s.l++List.replicate (rM ops) .dead⟩,⟨j.eT,j.t,F2.app j.l (JB _)⟩,rfl,rfl,λh=>MR h _⟩
end
end Go.Sy
namespace Go.Sy
open Go Go.ag
variable [aG][cQ][cK][dw][bq][pv][bX]
section
variable {P:Program}{V:Env}{C:Cx}{cs:List Callee}{n:Nat}{ops:List Oper}{w0:World}{I0:ay}{ρ:aS}{D:fC}{rs:List Dn}{t:List (Nat×TX)}{H:List Nat}{Ls:List (List Bool×List AX)}{A:List Nat}{t0:List (Nat×TX)}{kp:Nat->Option Nat}{l0:List AX}
def Good(ops:List Oper)(ρ:aS)(t0 t:List (Nat×TX))(H:List Nat)(Ls:List (List Bool×List AX))(B:Array Bool)(s:St):Prop:=
 ∃l,kH (H.map λh=>B.getD h false) Ls=some l/\RL ρ l s.l /\
  (∀k,(∀j o,ops[j]?=some o->o.dst=some k->B.getD j false=true)->RX ρ (bd t k) (ag.get s.t k)) /\
  ∀k,(∀j o,ops[j]?=some o->o.dst=some k->B.getD j false=false)->RX ρ (bd t0 k) (ag.get s.t k)
def U5(a b k:Nat):hasB (Nat.lor a b) k=(hasB a k||hasB b k):=by
 have h:∀m j:Nat,hasB m j=m.testBit j:=λm j=>by
  unfold hasB Nat.testBit
  show Nat.beq ((m >>> j) &&& 1) 1=_
  rw[Nat.and_comm]
  rcases T0 (m >>> j)with e|e<;>simp[Nat.one_and_eq_mod_two,e]<;>rfl
 rw[h,h,h]
 exact Nat.testBit_or a b k
theorem HE{A:List Nat}{j:Nat}:∀{ws:List Nat}{m:Nat},hasB (Ch A ws m) j=true->hasB m j=true\/∃k∈ws,j=k\/wt A k j=true
 | [],m,h=>.inl h
 |w::ws,m,h=>by
  rcases HE (ws:=ws) (m:=Nat.lor (jN m w) ((A[w]?).getD 0)) h with h| ⟨k,hk,h⟩
  ·rw[U5,tF,hR,hR,ea]at h
   rcases h with (h|h)|h
   ·exact .inl h
   ·exact .inr ⟨w,by simp,.inl h.symm⟩
   exact .inr ⟨w,by simp,.inr h⟩
  exact .inr ⟨k,by simp[hk],h⟩
def B9{G:Array Bool}(U:Ci ops A=true)(aa:nu ops=true)(Y:nV ops G):∀(i:Nat){o:Oper}{j:Nat},ops[i]?=some o->(∀k∈waits o,G.getD k false=true)->wt A i j=true->G.getD j false=true:=by
 intro i
 induction i using Nat.strongRecOn with
 |ind i ad=>
  intro o j F ab h
  have B:=dT.1 U i (hN.2 (c5.1 F).1)
  rw[F]at B
  have B:=er B
  unfold wt at h
  rw[B]at h
  rcases HE h with h| ⟨k,hk,h⟩
  ·rw[Kr]at h;cases h
  have M:=wk aa F k hk
  have N:=ab k hk
  rcases h with rfl|h
  ·exact N
  have Z:k<ops.length:=Nat.lt_trans M (c5.1 F).1
  have O:ops[k]?=some ops[k]:=c3 Z
  exact ad k M O (Y k _ O N) h
def OR{k:Nat}{p:Nat->Bool}(h:qB ops k p=true){j:Nat}{q:Oper}(F:ops[j]?=some q)(G:q.dst=some k):p j=true:=by
 have B:=dT.1 h j (hN.2 (c5.1 F).1)
 rw[F]at B
 simpa [OS,G,ia]using B
def KJ{i:Nat}{o:Oper}{k:Nat}:(qB ops k (λj=>wt A i j)=true->bd (mq ops A t0 t i o) k=bd t k)/\(qB ops k (λj=>wt A i j)=false->k∈fU ops o->bd (mq ops A t0 t i o) k=bd t0 k):=by
 unfold mq
 generalize fU ops o=L
 induction L with
 |nil=>exact⟨λ_=>rfl,λ_ h=>by cases h⟩
 |cons x r B=>
  simp only[List.filterMap_cons]
  cases F:qB ops x (λj=>wt A i j)with
  |true=>
   simp only[cond_true]
   refine⟨B.1,λh hk=>?_⟩
   rcases fb.1 hk with rfl|hk
   ·rw[F]at h;cases h
   exact B.2 h hk
  |false=>
   simp only[cond_false]
   have e:∀M:List (Nat×TX),bd (((x,bd t0 x)::M)++t) k=bif Nat.beq x k then bd t0 x else bd (M++t) k:=λ_=>rfl
   rw[e]
   refine⟨λh=>?_,λh hk=>?_⟩
   ·rw[kz (λN=>by rw[N,h]at F;cases F)];exact B.1 h
   by_cases G:x=k
   ·subst G;rw[ia];rfl
   rw[kz G]
   rcases fb.1 hk with rfl|hk
   ·exact absurd rfl G
   exact B.2 h hk
def Vq{i:Nat}(h:wb H i=false):∀k∈H,Nat.beq k i=false:=λk j=>by
 simp only[wb,k7]at h
 exact Bool.eq_false_iff.2 (h k j)
def ZE(aW:bU P V C)(a6:il P C cs)(bf:C.nt=n)(aX:ji ρ D)(bl:∀d∈rs,sK cs ρ d)(bj:∀h∈H,h<ops.length){M Y:Array Bool}{i:Nat}{o:Oper}{d:Dn}(ax:ops[i]?=some o)(ai:d∈rs)(ad:nV ops M)(ay:M.getD i false=false)(aT:∀j∈waits o,M.getD j false=true)(ah:∀k,Y.getD k false=if k=i then true else M.getD k false){s:St}(a7:Good ops ρ t0 t H Ls M s)(au:Ci ops A=true)(av:nu ops=true)(aj:dJ C.nt o.dst=true)(bh:MP ops A i o=true)(ae:∀S l,(S,l)∈Ls->qI A i H S=true->zM C ops kp (mq ops A t0 t i o) t D H Ls i o S l d=true):l9 P n ops o s (Good ops ρ t0 t H Ls Y):=by
 obtain⟨l,aL,ar,aM,aN⟩:=a7
 have a1:qI A i H (H.map λh=>M.getD h false)=true:=by
  refine Hx λh Z=>⟨λbn=>B9 au av ad i ax aT bn,λhx=>?_⟩
  cases aG:M.getD h false with
  |false=>rfl
  |true=>
   rw[hR]at hx
   rcases hx with hx|hx
   ·have:=er hx
    subst this;rw[ay]at aG;cases aG
   have bc:=bj h Z
   have B:ops[h]?=some ops[h]:=c3 bc
   have:=B9 au av ad h B (ad h _ B aG) hx
   rw[ay]at this;cases this
 have ae:=ae _ l (KU aL) a1
 have aY:sr i H (H.map λh=>M.getD h false)=H.map λh=>Y.getD h false:=Nv λh _=>by
  rw[ah]
  by_cases e:h=i
  ·subst e;rw[if_pos rfl,ia,Bool.or_true]
  rw[if_neg e,kz e,zc]
 have aS:∀k,k∈fU ops o->RX ρ (bd (mq ops A t0 t i o) k) (ag.get s.t k):=λk aa=>by
  have G:=dT.1 bh k aa
  cases az:qB ops k (λj=>wt A i j)with
  |true=>
   rw[KJ.1 az]
   exact aM k λj q B U=>B9 au av ad i ax aT (OR az B U)
  |false=>
   rw[KJ.2 az aa]
   rw[az,q9]at G
   refine aN k λj q B U=>?_
   have h2:=OR G B U
   rw[hR]at h2
   rcases h2 with h2|h2
   ·cases ba:M.getD j false with
    |false=>rfl
    |true=>
     have:=B9 au av ad j B (ad j q B ba) h2
     rw[ay]at this;cases this
   have:=er h2
   subst this;exact ay
 have aQ:∀j b af,o.guard=some (j,b)->(ops[j]?).bind (·.dst)=some af->RX ρ (bd (mq ops A t0 t i o) af) (ag.get s.t af):=λj b af G h2=>aS af (by
  unfold fU
  rw[G]
  simp only[h2]
  simp)
 have sw:∀{u:T},(∀e,o.dst=some e->RX ρ (bd t e) u)->∀k,(∀j q,ops[j]?=some q->q.dst=some k->Y.getD j false=true)->RX ρ (bd t k) (ag.get (bR s.t o.dst u) k):=by
  intro u hx k aa
  by_cases O:o.dst=some k
  ·rw[O]
   show RX ρ (bd t k) (if k=k then u else _)
   rw[if_pos rfl];exact hx k O
  have G:ag.get (bR s.t o.dst u) k=ag.get s.t k:=by
   cases ai:o.dst with
   |none=>rfl
   |some e=>show(if e=k then u else _)=_;rw[if_neg (λZ=>O (by rw[ai,Z]))]
  rw[G]
  exact aM k λj q B U=>by
   have:=aa j q B U
   rw[ah]at this
   by_cases al:j=i
   ·subst al
    rw[ax]at B;injection B with B;subst B
    exact absurd U O
   rw[if_neg al]at this;exact this
 have aD:∀{u:T},∀k,(∀j q,ops[j]?=some q->q.dst=some k->Y.getD j false=false)->RX ρ (bd t0 k) (ag.get (bR s.t o.dst u) k):=by
  intro u k aa
  have O:o.dst≠some k:=λO=>by
   have:=aa i o ax O
   rw[ah,if_pos rfl]at this;cases this
  have G:ag.get (bR s.t o.dst u) k=ag.get s.t k:=by
   cases ai:o.dst with
   |none=>rfl
   |some e=>show(if e=k then u else _)=_;rw[if_neg (λZ=>O (by rw[ai,Z]))]
  rw[G]
  exact aN k λj q B U=>by
   have:=aa j q B U
   rw[ah]at this
   by_cases al:j=i
   ·subst al;rw[if_pos rfl]at this;cases this
   rw[if_neg al]at this;exact this
 have aK:wb H i=false->kH (H.map λh=>Y.getD h false) Ls=some l:=λbg=>by
  rw[<-aL]
  refine dn (λS=>kH S Ls) (hE λh Z=>?_)
  rw[ah,if_neg λe=>?_]
  have:=Vq bg h Z
  rw[e,ia]at this;cases this
 rw[bf]at aj
 cases d with
 |skip=>
  simp only[zM,db,gL]at ae
  obtain⟨⟨aA,N⟩,ab⟩:=ae
  split at N
  ·rename_i aF
   obtain⟨pc,an,ao⟩:=Ko (σ:=⟨0,mq ops A t0 t i o,[]⟩) (s:=s) aQ aF
   refine N5 an ao aj ⟨l,aK aA,ar,sw λe aE=>?_,aD⟩
   rw[aE]at ab
   simp only at ab
   generalize bd t e=y at ab⊢
   cases y<;>first|exact .undef _|exact .gone|cases ab
  cases N
 |done bw bu=>
  simp only[zM,db]at ae
  obtain⟨aA,N⟩:=ae
  split at aA
  ·rename_i aF
   obtain⟨pc,an,ao⟩:=Kp (σ:=⟨0,mq ops A t0 t i o,[]⟩) (s:=s) aQ aF
   split at N
   ·rename_i q B
    simp only[db]at N
    obtain⟨⟨N,ab⟩,F⟩:=N
    have a8:=y6 N
    obtain⟨bx,bz,bp,bq,br⟩:=bl _ ai
    obtain⟨aU,hi,aO⟩:=bq.again bp br ρ λ_=>rfl
    have aV:Ext ρ aU:=λi v aJ=>(aO i).trans aJ
    have aq:Ext aU ρ:=λi v aJ=>(aO i).symm.trans aJ
    rw[<-a8]at hi
    have aZ:∀x∈o.op.operands,RX ρ (gF (mq ops A t0 t i o) x) (bN s.t x):=λx hx=>by
     cases x with
     |tmp k=>exact aS k (q0 _ (q3.2 ⟨.tmp k,by simpa using hx,rfl⟩))
     |const v=>exact qe (tX:=[]) (t:=[]) (λ_=>.undef _) (.const v)
     |global g=>exact .undef _
     |func f=>exact qe (tX:=[]) (t:=[]) (λ_=>.undef _) (.func f)
    obtain⟨u,bm,aw⟩:=TS aW a6 ar aZ N8 aV B hi
    have aI:∀e,o.dst=some e->RX ρ (bd t e) u:=λe aE=>by
     rw[aE]at ab
     rw[<-TX.beq_eq ab]
     exact Td aX (bm.mono aq)
    have aP:∀{e:xZ},(match kH (sr i H (H.map λh=>M.getD h false)) Ls with|some l'=>lr (uX e l) l'|none=>false)=true->∀l':List AO,cn P o (bN s.t) s.l u l'->RL ρ (uX e l) l'->l9 P n ops o s (Good ops ρ t0 t H Ls Y):=by
     intro e F l' G h2
     split at F
     ·rename_i bo aR
      have bb:=vq F
      rw[aY]at aR
      exact BL an ao G aj ⟨bo,aR,by rw[<-bb];exact h2,sw aI,aD⟩
     cases F
    split at aw
    ·rename_i ak
     rw[ak]at F
     simp only[isNone,cond_true,gL]at F
     exact BL an ao aw aj ⟨l,aK F,ar,sw aI,aD⟩
    ·rename_i bt ak
     obtain⟨bs,aB,aC,_⟩:=aw
     rw[ak]at F
     exact aP F _ (aC rfl) (F2.app ar (.cons (aB.mono aq) .nil))
    rename_i l1 ak
    obtain⟨l',aB,aC⟩:=aw
    rw[ak]at F
    cases aH:lr l1 l with
    |false=>
     simp only[isNone,aH,cond_false]at F
     exact aP F _ (aC rfl) (aB.mono aq)
    |true=>
     simp only[isNone,aH,cond_true,gL]at F
     have:=vq aH
     subst this
     exact BL an ao (aC rfl) aj ⟨l1,aK F,aB.mono aq,sw aI,aD⟩
   cases N
  cases aA
theorem Pd(aA:bU P V C)(aH:il P C cs)(aM:C.nt=n)(aB:ji ρ D)(aO:∀d∈rs,sK cs ρ d)(ak:s9 C ops A kp t0 t l0 D H Ls rs=true){Q:Exit->Act->World->Prop}(aD:∀s l a w,kH (H.map λ_=>true) Ls=some l->RL ρ l s.l->(∀k,RX ρ (bd t k) (ag.get s.t k))->Rel w0 I0 n s a w->Q .normal a w) :
  ∀(N:Nat)(B:Array Bool)(a:Act)(w:World),B.size=ops.length->lh ops.length B=N->nV ops B->(∃s,Rel w0 I0 n s a w/\Good ops ρ t0 t H Ls B s)->wpAnyIn dc 0 P .any ops.toArray Q N B a w:=by
 simp only[s9,db]at ak
 obtain⟨⟨⟨⟨ad,az⟩,_⟩,aC⟩,aF⟩:=ak
 have an:∀h∈H,h<ops.length:=λh ab=>by
  have:=dT.1 aC h ab
  simpa [Nat.blt_eq]using this
 have done:∀(B:Array Bool)(a:Act)(w:World),(∀i,i<ops.length->B.getD i false=true)->(∃s,Rel w0 I0 n s a w/\Good ops ρ t0 t H Ls B s)->Q .normal a w:=by
  rintro B a w U ⟨s,af,l,ah,aw,ax,_⟩
  rw[show(H.map λh=>B.getD h false)=H.map λ_=>true from hE λh ab=>U h (an h ab)]at ah
  exact aD s l a w ah aw (λk=>ax k λj o F _=>U j (c5.1 F).1) af
 intro N
 induction N with
 |zero=>
  intro B a w M ao aa Y
  have U:∀i,i<ops.length->B.getD i false=true:=by
   intro i hi
   have:=v8.1 ao
   have:=(iv.1 this) i (hN.2 hi)
   simpa using this
  refine⟨?_,done B a w U Y⟩
  refine s5.2 λi hi=>?_
  have G:=xy hi
  have:=((qu M G (c3 G)).1 hi).1
  rw[U i G]at this;cases this
 |succ N aR=>
  intro B a w M ao aa Y
  refine⟨λay=>?_,λi hi=>?_⟩
  ·
   refine done B a w (λi hi=>?_) Y
   induction i using Nat.strongRecOn with
   |ind i aS=>
    cases aG:B.getD i false with
    |true=>rfl
    |false=>
     have F:ops[i]?=some ops[i]:=c3 hi
     have:i∈Region.ready .any ops.toArray B:=(qu M hi F).2 ⟨aG,λj al=>aS j (wk ad F j al) (Nat.lt_trans (wk ad F j al) hi)⟩
     rw[ay]at this;cases this
  have G:=xy hi
  have F:ops[i]?=some ops[i]:=c3 G
  obtain⟨ai,Z⟩:=(qu M G F).1 hi
  have aj:∀j,(B.setIfInBounds i true).getD j false=if j=i then true else B.getD j false:=λj=>yY M G
  have aQ:lh ops.length (B.setIfInBounds i true)=N:=by have:=G9 M G ai;omega
  have O:=dT.1 aF i (hN.2 G)
  generalize ops[i]=o at F Z
  obtain⟨s,af,aK⟩:=Y
  rw[F]at O
  split at O
  ·rename_i o' d ae aI
   injection ae with ae
   subst ae
   simp only[db]at O
   obtain⟨⟨ar,au⟩,av⟩:=O
   have aP:=ZE aA aH aM aB aO an F (dk aI) aa ai Z aj aK az ad ar au (λS l aL aE=>by
    have:=dT.1 av (S,l) aL
    rw[aE]at this
    simpa using this)
   unfold wpOpIn
   have:ops.toArray[i]?=some o:=by simpa using F
   simp only[this]
   exact aP w0 I0 a w Q _ af λs' aq w' aJ aN=>aR _ aq w' (by simp[M]) aQ (aa.step F Z aj) ⟨s',aN,aJ⟩
  cases O
omit [cK] [dw] [bq] [bX]in
theorem CY(m:Nat)(σ:Sk):∀D:fC,(kr ⟨m,σ.t,σ.l⟩ D).t=(kr σ D).t
 | []=>rfl
 |p::r=>dn (oj p.1 p.2) (CY m σ r)
theorem TA(au:bU P V C)(aw:il P C cs)(aC:C.nt=n)(aB:P.follows .mixedOrders=true){σ:Sk}{ρ0:aS}{s:St}{Q:LQ}{J:LJ}{N:Exit->St->Prop}{id:Nat}(F:bn ρ0 σ s)(B:Tr.wp cs (yG C ops σ) ρ0 Q J)(U:∀bH ρ' J',Q .normal bH ρ' J'->c9 σ.n ρ0 ρ'->σ.n<=bH.n->∀s',bn ρ' bH s'->N .normal s'):aL P w0 I0 n (.region id ops.toArray true) s N:=by
 obtain⟨s0,aO,aP,_,aQ⟩:=YE (ops:=ops) F
 have U:∀bH ρ' J',Q .normal bH ρ' J'->c9 (mF ops σ).n ρ0 ρ'->(mF ops σ).n<=bH.n->∀s',bn ρ' bH s'->N .normal s':=by rw[aP];exact U
 have B:Tr.wp cs (o5 C ops (mF ops σ) ops (mF ops σ) [] []) ρ0 Q J:=B
 have F:=aO
 intro a w Z
 have Z:=aQ Z
 generalize mF ops σ=σ at F B U
 generalize s0=s at F Z
 obtain⟨M,ρ,J',D,rs,ao,O,ab,ag,aq,ah,ar⟩:=Gn (Q:=Q) ops F.eT (λp aE=>by cases aE) (λd ad=>by cases ad) B
 have aj:Ext ρ0 ρ:=ag.ext F.eT
 have al:bn ρ ⟨M.n,σ.t,σ.l⟩ s:=⟨ab,λk=>(F.t k).mono aj,F.l.mono aj⟩
 refine wpIn_region_any aB ?_
 obtain⟨t,H,Ls,l,G,az,O,ht⟩:=KI O
 have av:∀(k:Nat),(∀o∈ops,o.dst≠some k)->bd t k=bd (kr σ D).t k:=λk ae=>by rw[ht];exact xo λx af=>ae _ (List.of_mem_zip (List.of_mem_zip af).2).1
 have aH:kH (H.map λ_=>false) Ls=some σ.l:=by
  have G:=G
  simp only[s9,db]at G
  obtain⟨⟨⟨⟨_,_⟩,h⟩,_⟩,_⟩:=G
  split at h
  ·rename_i aJ aA
   rw[aA,vq h]
  cases h
 have ai:=I5 al ah
 have Y:∀i,(Array.replicate ops.length false).getD i false=false:=λi=>by
  rw[gg]
  cases af:(Array.replicate ops.length false)[i]? with
  |none=>rfl
  |some b=>have:=e6.1 af;simp at this;simp[<-this.2]
 have aF:Rel w0 I0 n s a {w with drawn:=w.drawn+1}:=by
  obtain⟨aI,I,m,B,ax,ht⟩:=Z
  exact⟨aI,I,m,(B.call (w':={w with drawn:=w.drawn+1}) ⟨rfl,rfl,rfl,eb _,λ_ _=>rfl,λ_=>ss _⟩ (fD.refl _ _) ⟨B.sat.cell,B.sat.mp,B.sat.df,B.sat.dz⟩).1,ax,ht⟩
 have:=Pd (w0:=w0) (I0:=I0) (Q:=λe an w'=>∃s',N e s'/\Rel w0 I0 n s' an w') au aw aC ah ar G (λs2 aJ aR aT aa aK aM aN=>by
  rw[az]at aa;injection aa with aa;subst aa
  have aG:bn ρ M s2:=by rw[O];exact⟨by rw[O]at ab;exact ab,aM,aK⟩
  exact⟨s2,U M ρ J' ao ag aq s2 aG,aN⟩) ops.length (Array.replicate ops.length false) a {w with drawn:=w.drawn+1} (by simp)
  (by unfold lh;rw[o0.2 (λi _=>by rw[Y];rfl)];simp)
  (λi o _ ak=>by rw[Y]at ak;cases ak)
  ⟨s,aF,σ.l,(by rw[show(H.map λh=>(Array.replicate ops.length false).getD h false)=H.map λ_=>false from hE λh _=>Y h];exact aH),al.l,λk ae=>by
   rw[av k λo aD ad=>by
    obtain⟨j,ay,rfl⟩:=gT.1 aD
    have:=ae j _ (c3 ay) ad
    rw[Y]at this;cases this]
   rw[<-CY M.n σ D]
   exact ai.t k,λk _=>by rw[<-CY M.n σ D];exact ai.t k⟩
 simpa using this
end
end Go.Sy
namespace Go.Sy
open Go Go.ag
variable [aG][cQ][cK][dw][bq][bX]
def wu:∀{ts:List T}{ds:List ag.D},ts.mapM fi=some ds->ts=ds.map .d
 | [],ds,h=>by simp at h;subst h;rfl
 |t::ts,ds,h=>by
  rw[k8]at h
  cases j:fi t with
  |none=>rw[j]at h;cases h
  |some d=>
   cases k:ts.mapM fi with
   |none=>rw[j,k]at h;cases h
   |some r=>
    rw[j,k]at h
    simp only[Option.bind_eq_bind,Option.bind_some,Option.pure_def,c4]at h
    subst h
    rw[wu k]
    cases t<;>simp[fi]at j
    subst j;rfl
section
variable {P:Program}{V:Env}{C:Cx}{ρ:aS}{σ bH:Sk}{s:St}
def Wo{t:Ty}(k:isVal t){ts:List T}{v:t.den}(h:gk (ct t) ts=.d (t.enc v))(N:ct t=false->ts.length=1):ts=(t.enc v).cells.map .d/\∀x∈(t.enc v).cells,x.one=true:=by
 cases j:ct t with
 |false=>
  obtain⟨F,G⟩:=lC j k.1 k.2 v
  rw[F]
  match ts,N j with
  | [u],_=>
   rw[j]at h
   simp only[gk,hQ,h8,List.headD_cons]at h
   subst h
   exact⟨rfl,λx B=>by simp at B;subst B;exact G⟩
 |true=>
  cases t with
  |st i=>
   have e:(Ty.st i).enc v=.agg (aG.cells i v):=rfl
   rw[e]at h⊢
   rw[j]at h
   simp only[gk,hK]at h
   split at h
   ·rename_i ds M
    injection h with h;injection h with h
    rw[wu M,h]
    exact⟨rfl,cK.zO i v⟩
   cases h
  |_=>cases j
def UH(j:bU P V C){ty:TypeId}{cs:List TX}{t:Ty}(h:DE C ty cs=some t):isVal t:=by
 unfold DE at h
 split at h
 ·rename_i k
  injection h with h;subst h
  obtain⟨i,_,_,_,B,_⟩:=j.info k
  exact B
 split at h
 ·injection h with h;subst h;exact cP rfl
 ·injection h with h;subst h;exact cP rfl
 cases h
def UI(
        ah:bU P V C)(h:bn ρ σ s){j:Nat}(B:DF C σ j=some bH):∃s',Sub s s'/\bn ρ bH s'/\bH.n=σ.n:=by
 unfold DF at B
 split at B
 ·rename_i id aq
  split at B
  ·rename_i ty cs ao
   split at B
   ·rename_i t av
    split at B
    ·rename_i u x F
     split at B
     ·rename_i aw
      subst aw
      generalize aD:vV σ.l id=ids at B
      cases M:(dV (.box u)&&DD ids id&&rl ids σ.l)with
      |false=>rw[M]at B;cases B
      |true=>
       rw[M]at B
       simp only[cond_true,c4]at B
       subst B
       rw[db,db]at M
       obtain⟨⟨O,G⟩,al⟩:=M
       unfold DD at G
       rw[db]at G
       have ad:=UH ah av
       have aa:ids.Nodup:=zE G.1
       have ar:id∉ids:=λN=>by
        have:(ids.any λi=>Nat.beq i id)=true:=h5.2 ⟨id,N,ia id⟩
        rw[this]at G;cases G.2
       obtain⟨aA,aj,ak⟩:=F2.left h.l ao
       cases ak with
       |var _ _ ts ab=>
        have N:=zw ad ab F
        have Y:=h.t j
        rw[aq]at Y
        generalize ai:gk (ct u) ts=az at N
        cases N with
        |d _ _ v aC af=>
         obtain⟨ax,ay⟩:=Wo ad ai (λau=>by
          unfold rJ at F
          rw[au]at F
          simp only[cond_false]at F
          split at F
          ·rw[<-ab.len];rfl
          cases F)
         generalize an:ag.get s.t j=aB at Y
         cases Y
         obtain⟨s1,Z,ae⟩:=Sk.MO h (ids:=ids) aa al
         refine⟨⟨(j,.d (.box (u.enc v)))::s1.t,s1.l⟩,?_,⟨h.eT,λk=>?_,ae.l⟩,rfl⟩
         ·exact ZP j id (u.enc v) ids an (by rw[aj,ax]) ay ar aa Z.1 Z.2.1 Z.2.2
         show RX ρ (bif Nat.beq j k then _ else bd (σ.re ids).t k) (if j=k then _ else ag.get s1.t k)
         by_cases U:j=k
         ·subst U
          rw[if_pos rfl,ia]
          exact .d (.box u) (.box x) v (cP O) (by simp only[X.den,af])
         have O:Nat.beq j k=false:=by
          cases e:Nat.beq j k with
          |false=>rfl
          |true=>exact absurd (er e) U
         rw[if_neg U,O]
         exact ae.t k
     cases B
    cases B
   cases B
  cases B
 cases B
theorem yC{id:Nat}:∀{ts:List Ty}{k:Nat}{σ:Sk}{s:St},bn ρ σ s->∃s',Sub s s'/\bn ρ (vF id ts k σ) s'/\(vF id ts k σ).n=σ.n
 | [],k,σ,s,h=>⟨s,Sub.refl s,h,rfl⟩
 |t::ts,k,σ,s,h=>by
  simp only[vF]
  split
  ·exact yC h
  split
  ·rename_i σ1 j
   obtain⟨s1,B,F,G⟩:=HH h j
   obtain⟨s2,M,N,O⟩:=yC (id:=id) (ts:=ts) (k:=k+1) F
   exact⟨s2,Sub.trans' B M,N,O.trans G⟩
  exact yC h
theorem S9{j:Nat}(h:bn ρ σ s):∃s',Sub s s'/\bn ρ (yD C σ j) s'/\(yD C σ j).n=σ.n:=by
 unfold yD
 have z:∃s',Sub s s'/\bn ρ σ s'/\σ.n=σ.n:=⟨s,Sub.refl s,h,rfl⟩
 split
 ·split
  ·split
   ·split
    ·exact yC h
    exact z
   exact z
  exact z
 exact z
theorem DC(k:bU P V C):∀{js:List Nat}{σ:Sk}{s:St},bn ρ σ s->∃s',Sub s s'/\bn ρ (lI C σ js) s'/\(lI C σ js).n=σ.n
 | [],σ,s,h=>⟨s,Sub.refl s,h,rfl⟩
 |j::r,σ,s,h=>by
  simp only[lI]
  split
  ·rename_i σ1 B
   obtain⟨s0,Z,aa,ab⟩:=S9 (C:=C) (j:=j) h
   obtain⟨s1,G,M,N⟩:=UI k aa B
   obtain⟨s2,O,U,Y⟩:=DC k (js:=r) M
   exact⟨s2,λw0 I0 n a w F=>O _ _ _ _ _ (G _ _ _ _ _ (Z _ _ _ _ _ F)),U,Y.trans (N.trans ab)⟩
  exact DC k (js:=r) h
end
end Go.Sy