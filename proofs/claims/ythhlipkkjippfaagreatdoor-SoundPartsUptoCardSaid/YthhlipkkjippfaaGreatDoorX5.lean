import Derived.Test.YthhlipkkjippfaaGreatDoorX4
set_option linter.all false
namespace Go.Sy
open Go Go.ag
variable [aD][cF][cz][c9][bd]
section
variable {P:Program}{V:Env}{C:Cx}{o:Oper}{ρX:Operand->TX}{ρT:Operand->T}{lX:List AX}{l:List AO}{n nid:Nat}{cs:List Callee}{ρ ρ':aN}{q:dA}
def Td{t:Ty}(h:isVal t)(v:t.den):(t.eL v).2=[t.enc v]:=by
 cases t<;>first|rfl|exact absurd rfl (h.1 _ _)|exact absurd rfl h.2
theorem yf:∀{ts:List Ty}{a:(aT ts).den},(∀t∈ts,isVal t)->((aT ts).eL a).2=dM ts a
 | [],a,_=>rfl
 | [t],a,h=>Td (h t (by simp)) a
 |t::u::ts,a,h=>by
  show(t.eL a.1).1::((aT (u::ts)).eL a.2).2=_
  rw[yf (ts:=u::ts) (λw j=>h w (q3 _ j))]
  rfl
def N9:∀{xs:List TX}{F:List T}{ps:List (Ty×X)},F2 (RX ρ) xs F->xs.mapM sG=some ps->∃a:(aT (ps.map (·.1))).den,jI ρ (ps.map (·.1)) (ps.map (·.2)) a/\F=(dM (ps.map (·.1)) a).map .d/\∀t∈ps.map (·.1),isVal t
 | [],F,ps,G,h=>by
  cases G
  simp at h;subst h
  exact⟨(),⟨rfl,λj t h=>by simp at h⟩,rfl,λt h=>by simp at h⟩
 |x::xs,F,ps,G,h=>by
  cases G with
  |cons Z aa=>
   simp only[mo,Option.bind_eq_bind,la,Option.pure_def,c5]at h
   obtain⟨p,B,M,ad,rfl⟩:=h
   have:=Iw B
   subst this
   obtain⟨a,ag,ah,ai⟩:=N9 aa ad
   obtain⟨ae,v,N,aj⟩:=jS Z
   have e:∀(ts:List Ty)(a:(aT ts).den)(ys:List X),jI ρ ts ys a->∃b:(aT (p.1::ts)).den,jI ρ (p.1::ts) (p.2::ys) b/\dM (p.1::ts) b=p.1.enc v::dM ts a:=by
    intro ts a ys B
    cases ts with
    |nil=>
     refine⟨v,⟨by simp[B.1],λj w k=>?_⟩,rfl⟩
     cases j with
     |zero=>simp at k;subst k;exact⟨p.2,rfl,by simpa [cI]using N⟩
     |succ j=>simp at k
    |cons u ts=>
     refine⟨(v,a),⟨by simp[B.1],λj w k=>?_⟩,rfl⟩
     cases j with
     |zero=>simp at k;subst k;exact⟨p.2,rfl,by simpa [cI]using N⟩
     |succ j=>
      obtain⟨y,af,ab⟩:=B.2 j w (by simpa using k)
      exact⟨y,by simpa using af,by simpa [cI]using ab⟩
   obtain⟨b,O,U⟩:=e _ a _ ag
   refine⟨b,O,?_,?_⟩
   ·have Y:dM (List.map (λx:Ty×X=>x.1) (p::M)) b=p.1.enc v::dM (M.map λx:Ty×X=>x.1) a:=U
    rw[Y,aj,ah];rfl
   intro t ht
   rcases fb.1 ht with rfl|ht
   ·exact ae
   exact ai t ht
def CR{xs:List Operand}(h:∀x∈xs,RX ρ (ρX x) (ρT x)):F2 (RX ρ) (xs.map ρX) (xs.map ρT):=by
 induction xs with
 |nil=>exact .nil
 |cons x xs k=>exact .cons (h x (by simp)) (k λy j=>h y (by simp[j]))
def VJ(M:bL P V C){g:FuncId}{first caps:Array Operand}(G:o.op = .makeFunc (.func g) first caps)(U:∀x∈o.op.operands,RX ρ (ρX x) (ρT x))(h:dD C ρX lX n nid o=some q)(hi:ch cs n ρ q.ins ρ'):cG P o ρT l nid ρ' q:=by
 have Y:∀x∈caps.toList,RX ρ (ρX x) (ρT x):=λx ab=>U x (by simp[G,Op.operands];right;simpa using ab)
 have j:=CR Y
 simp only[dD,G]at h
 cases B:first.isEmpty with
 |false=>simp[B]at h
 |true=>
  have N:evalOp V ρT l nid o = .ok (lJ g (caps.toList.map ρT)):=by simp only[evalOp,G,B,hQ]
  simp only[B,cond_true]at h
  split at h
  ·rename_i ps aa
   have:=gD h;subst this;cases hi
   obtain⟨a,O,ae,af⟩:=N9 j aa
   have e:lJ g (caps.toList.map ρT) = .d (Ty.enc (.aB g (aT (ps.map λx:Ty×X=>x.1))) a):=by
    have F:∀ds:List D,(ds.map T.d).mapM eQ=some ds:=by
     intro ds
     induction ds with
     |nil=>rfl
     |cons d ds ad=>simp[eQ,ad]
    rw[ae]
    unfold lJ
    rw[F]
    show T.d (.aB g _)=T.d (.aB g _)
    rw[yf af]
   refine .val M.ok N trivial rfl ?_
   show RX ρ _ (lJ g (caps.toList.map ρT))
   rw[e]
   refine .d (.aB g (aT (ps.map λx:Ty×X=>x.1))) _ a (cE rfl) ?_
   simp only[X.den,qa O.1 O.2]
  have:=gD h;subst this;cases hi
  refine .val M.ok N trivial rfl ?_
  show RX ρ _ (lJ g (caps.toList.map ρT))
  unfold lJ
  cases F:(caps.toList.map ρT).mapM eQ with
  |none=>exact .aB g _ _ j.len λi c t k ht=>j.get k ht
  |some ds=>
   have:=Ec F
   rw[this]at j
   exact .iT g _ ds (by simpa using j.len) λi c d k Z=>j.get k (by simp[Z])
theorem Su:∀{t:Ty}{x:X}{v:t.den}{r:List TX},x.den ρ=some ⟨t,v⟩->nG t x=some r->F2 (RX ρ) r ((t.eL v).2.map .d):=by
 intro t
 induction t with
 |aJ a b _ M=>
  intro x v r j h
  simp only[nG]at h
  cases k:dG a with
  |false=>simp[k]at h
  |true=>
   simp only[k,cond_true]at h
   split at h
   ·rename_i N G
    simp only[c5]at h;subst h
    have B:=JK (p:=v) j
    have F:=Ni (p:=v) j
    exact .cons (.d a _ v.1 (cE k) B) (M F G)
   cases h
 |unit=>intro x v r j h;simp only[nG,c5]at h;subst h;exact .nil
 |_=>intro x v r j h;simp only[nG,c5]at h;subst h;exact .cons (.d _ x v (cE rfl) j) .nil
def Cw{x:TX}{u:T}{g:FuncId}{r:List TX}(Z:RX ρ x u)(h:kI x=some (g,r)) :
  ∃k:List T,F2 (RX ρ) r k/\((u = .aB g k)\/(u = .d (.fn g)/\k=[])\/∃ds,u = .d (.aB g ds)/\k=ds.map .d):=by
 cases Z with
 |aB f cs ts F j=>
  simp only[kI,c5,e1]at h
  obtain⟨rfl,rfl⟩:=h
  exact⟨ts,F2.of F j,.inl rfl⟩
 |iT f cs ds F j=>
  simp only[kI,c5,e1]at h
  obtain⟨rfl,rfl⟩:=h
  exact⟨ds.map .d,F2.of (by simpa using F) (λi c t O ht=>by
   simp only[e0,e6]at ht
   obtain⟨d,U,rfl⟩:=ht
   exact j i c d O U),.inr (.inr ⟨ds,rfl,rfl⟩)⟩
 |d t x v F j=>
  cases t with
  |fn B=>
   simp only[kI,c5,e1]at h
   obtain⟨rfl,rfl⟩:=h
   exact⟨[],.nil,.inr (.inl ⟨rfl,rfl⟩)⟩
  |aB B t=>
   have key:∀y:X,y.den ρ=some ⟨t,v⟩->(nG t y).map (λr=>(B,r))=some (g,r)->∃k:List T,F2 (RX ρ) r k/\((T.d (Ty.enc (.aB B t) v) = .aB g k)\/(T.d (Ty.enc (.aB B t) v) = .d (.fn g)/\k=[])\/∃ds,T.d (Ty.enc (.aB B t) v) = .d (.aB g ds)/\k=ds.map .d):=by
    intro y G M
    simp only[e6,e1]at M
    obtain⟨aa,Y,rfl,rfl⟩:=M
    exact⟨_,Su (t:=t) (v:=v) G Y,.inr (.inr ⟨(t.eL v).2,rfl,rfl⟩)⟩
   by_cases N:∃f y,x = .aB f y
   ·obtain⟨f,y,rfl⟩:=N
    simp only[kI]at h
    refine key y ?_ h
    simp only[X.den]at j
    cases G:X.den ρ y with
    |none=>simp[G]at j
    |some w=>simp only[G,c5]at j;cases j;rfl
   have e:kI (.d (.aB B t) x)=(nG t (.u1 .GJ x)).map λr=>(B,r):=by
    cases x<;>first|rfl|exact absurd ⟨_,_,rfl⟩ N
   rw[e]at h
   exact key _ (by simp only[X.den,j];rfl) h
  |_=>simp[kI]at h
 |_=>simp[kI]at h
def GG(F:bL P V C):∀{ts:List TypeId}{xs:List TX}{j:List T},F2 (RX ρ) xs j->F2 (RX ρ) (oI C.E ts xs) (fq V.E ts j)
 | [],xs,j,h=>by cases h<;>exact by first|exact .nil| (rename_i k B;exact .cons k B)
 |t::ts,[],j,h=>by cases h;exact .nil
 |t::ts,x::xs,j,h=>by
  cases h with
  |cons k B=>exact .cons (Bv F k t) (GG F B)
def oF(c:Callee):ml:=⟨c.f,c.args,c.res⟩
def Jl(Z:RL ρ lX l){g:FuncId}{ts:List TX}{ab:List T}(aa:F2 (RX ρ) ts ab):∀{F:List ml}{k B:Nat}{xs:List X}{l':List AX}{s:ml},qI lX g ts F k=some (B,xs,l',s) ->
  ∃j,B=k+j/\F[j]?=some s/\s.f=g/\gH lX s.args ts=some (xs,l')
 | [],k,B,xs,l',s,h=>by simp[qI]at h
 |s0::F,k,B,xs,l',s,h=>by
  have M:qI lX g ts F (k+1)=some (B,xs,l',s)->∃j,B=k+j/\(s0::F)[j]?=some s/\s.f=g/\gH lX s.args ts=some (xs,l'):=λh=>by
   obtain⟨j,ad,N,O,U⟩:=Jl Z aa h
   exact⟨j+1,by omega,by simpa using N,O,U⟩
  simp only[qI]at h
  cases G:Nat.beq s0.f g with
  |false=>simp only[G,cond_false]at h;exact M h
  |true=>
   simp only[G,cond_true]at h
   split at h
   ·rename_i ys l1 Y
    simp only[c5,e1]at h
    obtain⟨rfl,rfl,rfl,rfl⟩:=h
    exact⟨0,rfl,rfl,et G,Y⟩
   exact M h
def Yn{v:X}{ts:List Ty}{a:(aT ts).den}(F:∀t∈ts,isVal t)(h:v.den ρ=some ⟨aT ts,a⟩):RX ρ (nk v ts) (.d ((aT ts).enc a)):=by
 match ts,a,F,h with
 | [],a,_,_=>exact .fE [] [] rfl λi c d B=>by simp at B
 | [t],a,F,h=>exact .d t v a (F t (by simp)) h
 |t::u::ts,a,F,h=>
  have e:(aT (t::u::ts)).enc a = .aJ (dM (t::u::ts) a):=by
   rw[<-yf F];rfl
  rw[e]
  have key:∀(m:Nat)(ws:List Ty)(b:(aT ws).den)(j:Nat),j+ws.length=(t::u::ts).length->(∀w∈ws,isVal w)->(∀k w,ws[k]?=some w->(ri (t::u::ts).length (j+k) v).den ρ=cI ws b k)->∀(i:Nat) c d,(nk.mz (t::u::ts).length v ws j)[i]?=some c->(dM ws b)[i]?=some d->RX ρ c (.d d):=by
   intro m ws
   induction ws with
   |nil=>intro b j _ _ _ i c d B;simp[nk.mz]at B
   |cons w ws N=>
    intro b j Z M U i c d B G
    have O:=U 0 w rfl
    cases i with
    |zero=>
     simp only[nk.mz,List.getElem?_cons_zero,c5]at B
     subst B
     cases ws with
     |nil=>
      simp[dM]at G;subst G
      exact .d w _ b (M w (by simp)) (by simpa [cI]using O)
     |cons Y ws=>
      simp[dM]at G;subst G
      exact .d w _ b.1 (M w (by simp)) (by simpa [cI]using O)
    |succ i=>
     cases ws with
     |nil=>simp[nk.mz]at B
     |cons Y ws=>
      simp only[nk.mz,List.getElem?_cons_succ]at B
      exact N b.2 (j+1) (by simp at Z⊢;omega) (λw aa=>M w (q3 _ aa)) (λk z ab=>by
       have:=U (k+1) z (by simpa using ab)
       rw[show j+1+k=j+(k+1) by omega]
       simpa [cI]using this) i c d B (by simpa [dM]using G)
  refine .fE _ _ ?_ (key 0 (t::u::ts) a 0 (by simp) F λk w M=>by
   rw[ia]
   exact y9 k h (da.1 M).1)
  have l1:∀(m:Nat)(ws:List Ty)(j:Nat),(nk.mz m v ws j).length=ws.length:=by
   intro m ws
   induction ws with
   |nil=>intro j;rfl
   |cons w ws N=>intro j;simp[nk.mz,N]
  have ad:∀(ws:List Ty)(b:(aT ws).den),(dM ws b).length=ws.length:=by
   intro ws
   induction ws with
   |nil=>intro b;rfl
   |cons w ws N=>
    intro b
    cases ws with
    |nil=>rfl
    |cons Y ws=>simp[dM,N]
  show(nk.mz _ v _ 0).length=_
  rw[l1,ad]
structure il(P:Program)(C:Cx)(cs:List Callee):Prop where
 sigs:∀(j:Nat)(s:ml),C.sigs[j]?=some s->∃c:Callee,cs[j]?=some c/\oF c=s/\gM P c
 turns:∀s∈C.turns,∃fn:(aT (.list s.t::s.args)).den->Option (List s.t.den),cs[s.k]?=some (iO.mk s.f s.t s.args fn).oX/\nB P s.f s.t s.args fn
theorem IQ{t:Ty}{ts:List Ty}{x:X}{xs:List X}{v:t.den}{a:(aT ts).den}(F:x.den ρ=some ⟨t,v⟩)(B:jI ρ ts xs a):∃b:(aT (t::ts)).den,jI ρ (t::ts) (x::xs) b/\dM (t::ts) b=t.enc v::dM ts a:=by
 cases ts with
 |nil=>
  have:xs=[]:=by simpa using B.1
  subst this
  refine⟨v,⟨rfl,λj u k=>?_⟩,rfl⟩
  cases j with
  |zero=>simp at k;subst k;exact⟨x,rfl,F⟩
  |succ j=>simp at k
 |cons u N=>
  refine⟨(v,a),⟨by simp[B.1],λj w k=>?_⟩,rfl⟩
  cases j with
  |zero=>simp at k;subst k;exact⟨x,rfl,F⟩
  |succ j=>
   obtain⟨y,G,M⟩:=B.2 j w (by simpa using k)
   exact⟨y,by simpa using G,M⟩
def Jm{g:FuncId}{t:Ty}{ts:List TX}:∀{j:List kF}{s:kF}{xs:List X}{l':List AX},ph lX g t ts j=some (s,xs,l')->s∈j/\s.t=t/\s.f=g/\gH lX s.args ts=some (xs,l')
 | [],s,xs,l',h=>by simp[ph]at h
 |s0::j,s,xs,l',h=>by
  have B:ph lX g t ts j=some (s,xs,l')->s∈s0::j/\s.t=t/\s.f=g/\gH lX s.args ts=some (xs,l'):=λh=>by
   obtain⟨F,G⟩:=Jm h
   exact⟨q3 _ F,G⟩
  simp only[ph]at h
  split at h
  ·rename_i ht
   cases k:Nat.beq s0.f g with
   |false=>simp only[k,cond_false]at h;exact B h
   |true=>
    simp only[k,cond_true]at h
    split at h
    ·rename_i ys l1 M
     simp only[c5,e1]at h
     obtain⟨rfl,rfl,rfl⟩:=h
     exact⟨List.mem_cons_self,ht,et k,M⟩
    exact B h
  exact B h
def Jk{g:FuncId}{ts:List TX}:∀{j:List kF}{s:kF}{xs:List X}{l':List AX},qH lX g ts j=some (s,xs,l')->s∈j/\s.f=g/\gH lX s.args ts=some (xs,l')
 | [],s,xs,l',h=>by simp[qH]at h
 |s0::j,s,xs,l',h=>by
  have B:qH lX g ts j=some (s,xs,l')->s∈s0::j/\s.f=g/\gH lX s.args ts=some (xs,l'):=λh=>by
   obtain⟨F,G⟩:=Jk h
   exact⟨q3 _ F,G⟩
  simp only[qH]at h
  cases k:Nat.beq s0.f g with
  |false=>simp only[k,cond_false]at h;exact B h
  |true=>
   simp only[k,cond_true]at h
   split at h
   ·rename_i ys l1 M
    simp only[c5,e1]at h
    obtain⟨rfl,rfl,rfl⟩:=h
    exact⟨List.mem_cons_self,et k,M⟩
   exact B h
def aam(
         aW:il P C cs)(aY:RL ρ lX l){g:FuncId}{a1:List TX}{as:List T}(aV:F2 (RX ρ) a1 as)(ah:dZ V.E ρT o=some (g,as))(h:GF C lX n g a1=some q)(hi:ch cs n ρ q.ins ρ')(ba:Ext ρ ρ'):cG P o ρT l nid ρ' q:=by
 have aX:=ba
 unfold GF at h
 split at h
 ·rename_i id rest
  obtain⟨Y,F,rfl,O,aG⟩:∃Y F,as=Y::F/\RX ρ (.row id) Y/\F2 (RX ρ) rest F:=by
   cases aV with
   |cons av aw=>exact⟨_,_,rfl,av,aw⟩
  have O:=w4 O
  subst O
  split at h
  ·rename_i e t x bp
   split at h
   ·rename_i s xs l' aF
    split at h
    ·rename_i ao t' bq bb
     split at h
     ·rename_i ad
      obtain⟨rfl,rfl⟩:=ad
      simp only[c5]at h
      subst h
      obtain⟨aq,a6,ar,au⟩:=Jm aF
      subst a6;subst ar
      obtain⟨a,G,aK,aL,ak⟩:=uB aY aG au
      obtain⟨bo,a7,a8⟩:=F2.left ak bb
      cases a8 with
      |row _ _ _ zs ag bm=>
      obtain⟨b,ab,an⟩:=IQ bm aK
      cases hi with
      |call _ _ _ _ _ _ D al y aP aQ aR aS=>
       cases aS
       obtain⟨fn,M,Z⟩:=aW.turns s aq
       rw[aP]at M
       injection M with M
       subst M
       have:=(qa ab.1 ab.2).symm.trans aQ
       injection this with this
       have ax:b=al:=by injection this
       subst ax
       refine⟨.d (.aJ []),.fE [] [] rfl (λi c d ay=>by simp at ay),G.set id (.row ao s.t.size (List.map s.t.enc y)),F2.set (RL.mono aX ak) (.row ao s.t (.var n) y ag (show lk _ n=_ from jE n ⟨.list s.t,y⟩ ρ)) id,λbd=>?_⟩
       refine⟨uR ah,λw0 I0 w I m aU aD aI=>?_⟩
       obtain⟨j,aE,ae,af⟩:=qA (P:=P) (w:=w) (ρ:=aU) Z.enters aI ah
       rw[aE]
       show Calls P s.f j w _
       obtain⟨aa,vs,U⟩:∃ag vs,j.toList=ag::vs:=by
        cases aB:j.toList with
        |nil=>
             have:j.toList.length=F.length+1:=by simpa using ae
             rw[aB]at this;simp at this
        |cons a b=>exact⟨a,b,rfl⟩
       have aH:vs.length=F.length:=by
        have:j.toList.length=F.length+1:=by simpa using ae
        rw[U]at this;simpa using this
       have N:∀(i:Nat),j[i]?=(aa::vs)[i]?:=λi=>by rw[<-U];simp
       obtain⟨J,aj,aT,aA,aC,_⟩:=nC F l I vs _ G aD aH (λi v x k B=>af (i+1) v x (by rw[N];simpa using k) (by simpa using B)) aL
       have ai:=Z.jv b y aR G id ao (List.map s.t.enc zs) (dM s.args a) (by rw[an,sH]) a7
       refine(ai w0 I0 w J m j aT (by rw[<-Array.length_toList,U];simpa using aA) λi v x k B=>?_).mono ?_
       ·rw[N]at k
        cases i with
        |zero=>
         simp at k B;subst k;subst B
         exact(af 0 aa (.row id) (by rw[N];rfl) rfl).mono aj
        |succ i=>
         simp only[List.getElem?_cons_succ]at k B
         rw[e0,e6]at B
         obtain⟨d,az,rfl⟩:=B
         exact .d _ _ (aC i v d k az)
       rintro e bn ⟨v,ad,J',m',aM,aN,aO⟩
       exact⟨v,ad,J',m',aj.trans aM,aN,aO⟩
     cases h
    cases h
   cases h
  cases h
 ·rename_i sz rest
  obtain⟨Y,F,rfl,O,aG⟩:∃Y F,as=Y::F/\RX ρ (.bu sz) Y/\F2 (RX ρ) rest F:=by
   cases aV with
   |cons av aw=>exact⟨_,_,rfl,av,aw⟩
  have O:=y3 O
  subst O
  split at h
  ·rename_i s xs l' aF
   simp only[c5]at h
   subst h
   obtain⟨aq,ar,au⟩:=Jk aF
   subst ar
   obtain⟨a,G,aK,aL,ak⟩:=uB aY aG au
   obtain⟨b,ab,an⟩:=IQ (t:=.list s.t) (x:=.nil s.t) (v:=([]:List s.t.den)) rfl aK
   cases hi with
   |call _ _ _ _ _ _ D al y aP aQ aR aS=>
    cases aS
    obtain⟨fn,M,Z⟩:=aW.turns s aq
    rw[aP]at M
    injection M with M
    subst M
    have:=(qa ab.1 ab.2).symm.trans aQ
    injection this with this
    have ax:b=al:=by injection this
    subst ax
    refine⟨.d (.aJ []),.fE [] [] rfl (λi c d ay=>by simp at ay),G++[.row 0 s.t.size (List.map s.t.enc y)],F2.app (RL.mono aX ak) (.cons (show bK ((n,⟨.list s.t,y⟩)::ρ) _ _ from .row 0 s.t (.var n) y Z.val (jE n ⟨.list s.t,y⟩ ρ)) .nil),λbd=>?_⟩
    refine⟨uR ah,λw0 I0 w I m aU aD aI=>?_⟩
    obtain⟨j,aE,ae,af⟩:=qA (P:=P) (w:=w) (ρ:=aU) Z.enters aI ah
    rw[aE]
    show Calls P s.f j w _
    obtain⟨aa,vs,U⟩:∃ag vs,j.toList=ag::vs:=by
     cases aB:j.toList with
     |nil=>
          have:j.toList.length=F.length+1:=by simpa using ae
          rw[aB]at this;simp at this
     |cons a b=>exact⟨a,b,rfl⟩
    have aH:vs.length=F.length:=by
     have:j.toList.length=F.length+1:=by simpa using ae
     rw[U]at this;simpa using this
    have N:∀(i:Nat),j[i]?=(aa::vs)[i]?:=λi=>by rw[<-U];simp
    obtain⟨J,aj,aT,aA,aC,_⟩:=nC F l I vs _ G aD aH (λi v x k B=>af (i+1) v x (by rw[N];simpa using k) (by simpa using B)) aL
    haveI:=bV
    obtain⟨bj,bl,aZ,bc⟩:=aT.MB 0 s.t.size
    have bh:aa = .slice none 0 0:=by
     have:=af 0 aa (.bu sz) (by rw[N];rfl) rfl
     cases this;rfl
    have bf:(G++[AO.row 0 s.t.size []])[G.length]?=some (.row 0 s.t.size []):=by simp
    have ai:=Z.jv b y aR (G++[.row 0 s.t.size []]) G.length 0 [] (dM s.args a) (by rw[an,sH];rfl) bf
    have bg:(G++[AO.row 0 s.t.size []]).set G.length (.row 0 s.t.size (List.map s.t.enc y))=G++[.row 0 s.t.size (List.map s.t.enc y)]:=by simp
    rw[bg]at ai
    refine(ai w0 I0 w J bj j bl (by rw[<-Array.length_toList,U];simpa using aA) λi v x k B=>?_).mono ?_
    ·rw[N]at k
     cases i with
     |zero=>
      simp at k B;subst k;subst B
      rw[bh]
      exact .row none 0 0 G.length (by simp) (λ_=>bc)
     |succ i=>
      simp only[List.getElem?_cons_succ]at k B
      rw[e0,e6]at B
      obtain⟨d,az,rfl⟩:=B
      exact .d _ _ ((aC i v d k az).mono aZ.cR)
    rintro e bn ⟨v,ad,J',m',aM,aN,aO⟩
    exact⟨v,ad,J',m',aj.trans (aZ.trans aM),aN,aO⟩
  cases h
 cases h
def RV(aq:bL P V C)(ah:il P C cs){c:Call}{f:Operand}(F:o.op = .call c)(B:c.callee = .value f)(ab:RL ρ lX l)(af:∀x∈o.op.operands,RX ρ (ρX x) (ρT x))(h:dD C ρX lX n nid o=some q)(hi:ch cs n ρ q.ins ρ')(ag:Ext ρ ρ'):cG P o ρT l nid ρ' q:=by
 have ay:=ag
 have az:=af f (by simp[F,Op.operands,Call.operands,B])
 have au:∀x∈c.args.toList,RX ρ (ρX x) (ρT x):=λx G=>af x (by simp[F,Op.operands,Call.operands,B];right;simpa using G)
 simp only[dD,F,B]at h
 split at h
 ·rename_i g ts aA
  obtain⟨ae,aM,aN⟩:=Cw az aA
  have M:F2 (RX ρ) (oI C.E c.argTypes.toList (c.args.toList.map ρX)++ts) (fq V.E c.argTypes.toList (c.args.toList.map ρT)++ae):=(GG aq (CR au)).app aM
  have N:dZ V.E ρT o=some (g,fq V.E c.argTypes.toList (c.args.toList.map ρT)++ae):=by
   rcases aN with e| ⟨e,rfl⟩| ⟨ds,e,rfl⟩
   ·simp only[dZ,F,B,e]
   ·simp only[dZ,F,B,e,nb]
   simp only[dZ,F,B,e]
  generalize fq V.E c.argTypes.toList (c.args.toList.map ρT)++ae=as at M N
  cases aa:Cg C lX n g (oI C.E c.argTypes.toList (c.args.toList.map ρX)++ts)with
  |none=>rw[aa]at h;exact aam ah ab M N h hi ag
  |some a7=>
  rw[aa]at h
  simp only[c5]at h
  subst h
  have h:=aa
  unfold Cg at h
  split at h
  ·rename_i k xs l' s aJ
   simp only[c5]at h;subst h
   obtain⟨j,a1,an,Y,ao⟩:=Jl ab M aJ
   obtain⟨a,ai,aj,aP,aQ⟩:=uB ab M ao
   cases hi with
   |call _ _ _ _ _ _ D al y aT aU aV aW=>
    cases aW
    have aB:k=j:=by omega
    subst aB
    obtain⟨aZ,O,aX,Z⟩:=ah.sigs _ _ an
    rw[aT]at O
    injection O with O
    subst O
    subst aX
    have:=(qa aj.1 aj.2).symm.trans aU
    injection this with this
    have ar:a=al:=by injection this
    subst ar
    have Y:D.f=g:=Y
    subst Y
    refine⟨_,Yn Z.res (jE n _ ρ),ai,RL.mono ay aQ,λa6=>?_⟩
    refine⟨uR N,λw0 I0 w I m aY aG G=>?_⟩
    obtain⟨U,aH,aD,aE⟩:=qA (P:=P) (w:=w) (ρ:=aY) Z.enters G N
    rw[aH]
    show Calls P D.f U w _
    obtain⟨J,aO,ak,aC,aF,_⟩:=nC as l I U.toList _ ai aG (by simpa using aD) (λi v x ad G=>aE i v x (by simpa using ad) G) aP
    refine(Z.jv a y aV w J U ak.sat (by rw[<-Array.length_toList];exact aC) (λi v d ad aw=>aF i v d (by simpa using ad) aw)).mono ?_
    rintro e a8 ⟨v,J',ax,av,aL,aK,aI⟩
    obtain⟨aR,aS⟩:=ak.call av aL aK
    exact⟨v,ax,J',m,aO.trans aS,aR,.d _ _ aI⟩
  cases h
 cases h
def cG.G0{F:Operand->T}(h:cG P o F l nid ρ' q)(U:∀I m v x,x∈o.op.operands->ar I m l v (ρT x)->ar I m l v (F x)):cG P o ρT l nid ρ' q:=by
 have key:∀{t:T}{l':List AO},bX P o F l t l'->bX P o ρT l t l':=λh=>⟨h.1,λw0 I0 w I m ρ O Y=>h.2 w0 I0 w I m ρ O λx G=>U I m _ x G (Y x G)⟩
 obtain⟨t,N,j⟩:=h
 refine⟨t,N,?_⟩
 split at j
 ·exact key j
 ·obtain⟨M,k,B,Z⟩:=j
  exact⟨M,k,λh=>key (B h),λh=>key (Z h)⟩
 obtain⟨l',k,B⟩:=j
 exact⟨l',k,λh=>key (B h)⟩
def Wa{x:Operand}(j:o.op = .nilCheck x)(B:RX ρ (ρX x) (ρT x))(h:(match ρX x with |.ptr id off=>eG (.ptr id off)|_=>none)=some q)(hi:ch cs n ρ q.ins ρ'):cG P o ρT l nid ρ' q:=by
 generalize ρX x=A at h B
 generalize N:ρT x=aa at B
 cases B with
 |ptr id off=>
  have:=gD h;subst this;cases hi
  refine⟨.ptr id off,.ptr _ _,⟨λc F=>(by rw[j]at F;cases F),λw0 I0 w I m r Y U=>?_⟩⟩
  have k:=U x (by simp[j,Op.operands])
  rw[N]at k
  generalize Z:r x=v at k
  cases k with
  |ptr _ b _ G M=>
   have O:(execOp r o).run P w = .ok (.value (.pointer (some ⟨b,off,none⟩))) w:=by
    unfold execOp
    simp only[j,Z]
    rfl
   rw[O]
   exact⟨I,m,.refl ..,Y,.ptr id b off G M⟩
 |_=>simp at h
def Tp(F:bL P V C)(Z:il P C cs)(N:RL ρ lX l)(B:∀x∈o.op.operands,RX ρ (ρX x) (ρT x))(Y:∀g ls,aD.eA g=some ls->ρT (.global g) = .br ls.length [.agg (ls.map (.int .i64))] 0 0)(U:Ext ρ ρ')(h:dD C ρX lX n nid o=some q)(hi:ch cs n ρ q.ins ρ'):cG P o ρT l nid ρ' q:=by
 have G:=h
 unfold dD at h
 split at h
 ·rename_i x j;exact KS F (.inl j) (B x (by simp[j,Op.operands])) h hi
 ·rename_i x j;exact KS F (.inr j) (B x (by simp[j,Op.operands])) h hi
 ·rename_i c a b j;exact Fz F j B G hi
 ·rename_i e x j;exact RK F j (B x (by simp[j,Op.operands])) G hi
 ·rename_i e j;exact OJ F j G hi
 ·rename_i t a j;exact Vv F j N (B a (by simp[j,Op.operands])) h hi U
 ·rename_i t a x j;exact(Gm (ρX:=λy=>r7 C.E t (ρX y)) (ρT:=λy=>typed V.E t (ρT y)) F j N (Bv F (B a (by simp[j,Op.operands])) t) (Bv F (B x (by simp[j,Op.operands])) t) h hi U).G0 λI m v y _ aa=>Bw aa
 ·rename_i x j;exact Wa j (B x (by simp[j,Op.operands])) h hi
 ·rename_i s x f j;exact TU F j (B x (by simp[j,Op.operands])) h hi
 ·rename_i s x f j;exact TW F j (B x (by simp[j,Op.operands])) h hi
 ·rename_i ab ty x y af j;exact RI F j (B x (by simp[j,Op.operands])) (B y (by simp[j,Op.operands])) G hi
 ·rename_i ab ty x j;exact aar F j (B x (by simp[j,Op.operands])) G hi
 ·rename_i t x i j
  split at h
  ·exact UK F j Y (B i (by simp[j,Op.operands])) h hi U
  exact UL F j N (B x (by simp[j,Op.operands])) (B i (by simp[j,Op.operands])) h hi U
 ·rename_i t x lo ad j;exact Y0 F j N B G hi
 ·rename_i t parts j;exact RP F j B G hi
 ·rename_i t len parts j;exact RN F j N B G hi
 ·rename_i x i j;exact TK F j (B x (by simp[j,Op.operands])) G hi
 ·rename_i c j
  split at h
  ·rename_i f M;exact RV F Z j M N B G hi U
  ·rename_i M
   split at h
   ·rename_i x t O ht
    exact Vs F j M O ht N (B x (by simp[j,Op.operands,Call.operands,M,<-ib,O])) h hi
   cases h
  ·rename_i M
   split at h
   ·rename_i s x t t' O ht
    split at h
    ·rename_i e;subst e
     exact OQ F j M O ht N (B s (by simp[j,Op.operands,Call.operands,M,<-ib,O])) (B x (by simp[j,Op.operands,Call.operands,M,<-ib,O])) h hi
    cases h
   cases h
  ·rename_i M;exact KJ F j B (.inl M) G hi
  ·rename_i M;exact KJ F j B (.inr M) G hi
  ·rename_i M
   split at h
   ·rename_i x k t t' O ht
    exact SZ F j M O ht N (B x (by simp[j,Op.operands,Call.operands,M,<-ib,O])) (B k (by simp[j,Op.operands,Call.operands,M,<-ib,O])) h hi
   cases h
  cases h
 ·rename_i t a b j;exact VK F j N (B a (by simp[j,Op.operands])) (B b (by simp[j,Op.operands])) h hi
 ·rename_i t j;exact Ea F j N G hi
 ·rename_i t m k x j;exact KI F (.inl j) N (B m (by simp[j,Op.operands])) (B k (by simp[j,Op.operands])) (B x (by simp[j,Op.operands])) h hi
 ·rename_i t m k x j;exact KI F (.inr j) N (B m (by simp[j,Op.operands])) (B k (by simp[j,Op.operands])) (B x (by simp[j,Op.operands])) h hi
 ·rename_i t x k ok j;exact Vy F j N (B x (by simp[j,Op.operands])) (B k (by simp[j,Op.operands])) G hi
 ·rename_i ae t x j;exact CA F j (B x (by simp[j,Op.operands])) G hi
 ·rename_i g first caps j;exact VJ F j B G hi
 cases h
end
end Go.Sy
namespace Go.ag
open Go Go.RowKit
variable [bd]
section
variable {P:Program}{V:Env}{w0 w:World}{I0 I:av}{m:Nat->Value}{l:List AO}
def aE.JY(F:aE w0 I0 w I m l){id e size:Nat}{j vs:List D}{O:Option Nat}(k:l[id]?=some (.bn e size j vs O)):Le I m l I m (l.set id (.map j vs))/\aE w0 I0 w I m (l.set id (.map j vs)):=by
 have B:Le I m l I m (l.set id (.map j vs)):=Le.setKind k rfl rfl (by simp)
 obtain⟨b,N,G,U,Y,Z,aa,ab,ad,M,_⟩:=F.obj id _ k
 exact⟨B,F.kv k (by simp) (b:=b) (by rw[G];rfl) M rfl rfl B rfl rfl rfl (eb _) (eb _) (λ_ _=>rfl) ⟨b,N,G,U,Y,Z,aa,ab,ad,M⟩⟩
def aE.Uo(G:aE w0 I0 w I m l){id e size:Nat}(Y:0<size)(k:l[id]?=some (.map [] [])):Le I m l I m (l.set id (.bn e size [] [] none))/\aE w0 I0 w I m (l.set id (.bn e size [] [] none)):=by
 have F:Le I m l I m (l.set id (.bn e size [] [] none)):=Le.setKind k rfl rfl (by simp)
 obtain⟨b,B,M,Z,aa,N,ab,ad,ae,O⟩:=G.obj id _ k
 have af:B.1.size=0:=by simpa using N
 exact⟨F,G.kv k (by simp) (b:=b) (by rw[M];rfl) O rfl rfl F rfl rfl rfl (eb _) (eb _) (λ_ _=>rfl) ⟨b,B,M,Z,aa,N,ab,ad,ae,O,Y,λ_=>0,
  λi en d _ U=>(by have:=(e7.1 U).1;omega),λi j _ hi=>(by omega),λq i _ hi=>(by omega)⟩⟩
def iM.rd{B:Nat}{v:Value}{e size:Nat}{els:List D}(h:iM B w I v e size els):Rd I v (.slice size els):=by
 obtain⟨xs,j,k,F,G⟩:=h
 exact uh j k F λb M=>(G b M).2.1
end
end Go.ag
namespace Go.ag
open Go Go.RowKit
variable [bd]
section
variable {P:Program}{V:Env}{w0 w:World}{I0 I:av}{m:Nat->Value}{l:List AO}
theorem iM.nil{B:Nat}{e size:Nat}:iM B w I (.slice none 0 0) e size []:=⟨[],⟨by simp,.inl ⟨rfl,rfl⟩⟩,by simp,by simp,by simp[own]⟩
def aE.JT(Z:aE w0 I0 w I m l){id e size i:Nat}{aa vs:List D}{els:List D}{v:Value}(aj:l[id]?=some (.bn e size aa vs none))(aU:∀q o,q≠id->l[q]?=some o->o.te=false)(ak:(∃b O,m id = .map (some b)/\dL w.heap[b]? O/\∃en,O.1[i]?=some en/\en.val=v/\vs[i]?=some (.slice size els))\/(aa.length<=i/\els=[]/\v = .slice none 0 0)) :
  Le I m l I (aK m l.length v) (l.set id (.bn e size aa vs (some i))++[.bg e size els])/\aE w0 I0 w I (aK m l.length v) (l.set id (.bn e size aa vs (some i))++[.bg e size els]):=by
 have aT:id<l.length:=(da.1 aj).1
 obtain⟨b,O,aH,a6,aI,a7,a8,ba,bb,bc,aJ,ao,au,aD,aF⟩:=Z.obj id _ aj
 have aS:iM w0.heap.size w I v e size els/\(∀G,own v=some G->i<O.1.size/\G=ao i):=by
  rcases ak with ⟨G,es',ab,aY,en,aG,aZ,a1⟩| ⟨ab,rfl,rfl⟩
  ·rw[aH]at ab;injection ab with ab;injection ab with ab;subst ab
   have:es'=O:=by
    have F:=aY.1;rw[aI.1]at F;injection F with F;injection F with F N
    exact Prod.ext F.symm N.symm
   subst this
   obtain⟨els',av,aL,al,an⟩:=au i en _ (by simp) aG a1
   injection av with _ av;subst av
   rw[aZ]at al an
   exact⟨an,λG M=>⟨(e7.1 aG).1,by rw[al]at M;injection M with M;exact M.symm⟩⟩
  exact⟨.nil,λG M=>by cases M⟩
 obtain⟨aR,ax⟩:=aS
 have aA:Le I m l I (aK m l.length v) (l.set id (.bn e size aa vs (some i))++[.bg e size els]):=by
  have F:Le I m l I m (l.set id (.bn e size aa vs (some i))):=Le.setKind aj rfl rfl (by simp)
  refine F.trans ⟨.refl I,by simp,λk B ak=>⟨?_,bO m v (by simp at B;omega)⟩,λk B ar=>⟨?_,bO m v (by simp at B;omega)⟩,λk bd s' els' B ay=>⟨els',?_⟩⟩
  ·unfold isVar at ak⊢;rw[e3 B];exact ak
  ·unfold isRow at ar⊢;rw[e3 B]at ar;exact ar
  rw[e3 B]at ay;exact ay
 have aO:∀j,j<O.1.size->∃u,I.cell (ao j) 0=some u:=λj Y=>by
  obtain⟨els',_,aL,al,an⟩:=au j O.1[j] vs[j] (by simp) (e8 Y) (c4 (by omega))
  exact an.mr aJ aL al
 have aB:∀j G,alive l j=true->own (m j)=some G->own v≠some G:=λj G Y M aX=>by
  obtain⟨hi,rfl⟩:=ax G aX
  obtain⟨o,az,aQ⟩:=bD.1 Y
  rcases (Z.obj j o az).GO aQ M with h|h
  ·exact aF j i (by unfold cy;rw[az];exact h) hi (by simp) M
  obtain⟨u,aW⟩:=aO i hi;rw[aW]at h;cases h
 refine⟨aA,Z.below,Z.sat,Z.ext,λk o B=>?_,λa c G af ah aw ad ae=>?_⟩
 ·rcases mv k l.length with hkl|hkl
  ·rw[e3 (by simpa using hkl)]at B
   rw[bO m v (by omega)]
   by_cases aq:k=id
   ·subst aq
    rw[e5,if_pos rfl,if_pos aT]at B
    injection B with B;subst B
    refine⟨b,O,aH,a6,aI,a7,a8,ba,bb,bc,aJ,ao,λj en d Y=>au j en d (by simp),λa c F N aN _ _=>aD a c F N aN (by simp) (by simp),λq j U Y aV M=>?_⟩
    rcases s9 U with ⟨ag,U⟩| ⟨ag,_⟩
    ·rw[bO m v (by simp at ag;omega)]at M
     rcases yG U with U| ⟨_,U⟩
     ·exact aF q j U Y (by simp) M
     cases U
    rw[ag,pb,dy]at M
    obtain⟨hi,aP⟩:=ax _ M
    exact aD i j (λe=>aV (by rw[e])) hi Y (by simp) (by simp) aP.symm
   rw[e5,if_neg (hW aq)]at B
   exact(Z.obj k o B).Kh aA (λ_ _=>rfl) (λ_ _=>⟨rfl,rfl⟩) (aU k o aq B)
  rw[hJ (by simpa using hkl)]at B
  have aM:k=l.length:=by
   have:=(da.1 B).1;simp at this;omega
  subst aM
  simp at B;subst B
  rw[dy]
  exact aR
 have ai:∀q,q≠l.length->alive (l.set id (.bn e size aa vs (some i))++[.bg e size els]) q=true->alive l q=true:=λq U ah=>by
  obtain⟨o,F,N⟩:=bD.1 ah
  have ag:q<l.length:=by have:=(da.1 F).1;simp at this;omega
  rw[e3 (by simpa using ag)]at F
  by_cases aC:q=id
  ·subst aC;exact bD.2 ⟨_,aj,by simp⟩
  rw[e5,if_neg (hW aC)]at F;exact bD.2 ⟨o,F,N⟩
 by_cases F:a=l.length
 ·subst F;rw[dy]at ad;rw[bO m v (hW af)]at ae
  exact aB c G (ai c (hW af) aw) ae ad
 by_cases N:c=l.length
 ·subst N;rw[dy]at ae;rw[bO m v af]at ad
  exact aB a G (ai a af ah) ad ae
 rw[bO m v F]at ad;rw[bO m v N]at ae
 exact Z.sep a c G af (ai a F ah) (ai c N aw) ad ae
end
end Go.ag
namespace Go.ag
open Go Go.RowKit
variable [bd]
section
variable {P:Program}{V:Env}{w0 w w':World}{I0 I:av}{m:Nat->Value}{l:List AO}
def aE.kill(h:aE w0 I0 w I m l){k:Nat}{a:AO}(U:l[k]?=some a)(ad:a.isVar=false):Le I m l I m (l.set k .dead)/\aE w0 I0 w I m (l.set k .dead):=by
 have ab:k<l.length:=(da.1 U).1
 have M:(l.set k AO.dead)[k]?=some .dead:=by rw[e5,if_pos rfl,if_pos ab]
 have G:∀q,q≠k->(l.set k AO.dead)[q]?=l[q]?:=λq F=>by rw[e5,if_neg (hW F)]
 have Y:Le I m l I m (l.set k .dead):=by
  refine⟨.refl I,by simp,λq F hh=>⟨?_,rfl⟩,λq F hh=>⟨?_,rfl⟩,λq e s els F hh=>⟨els,?_⟩⟩
  ·by_cases e:q=k
   ·subst e;unfold isVar at hh;rw[U]at hh;simp[ad]at hh
   unfold isVar at hh⊢;rw[G q e];exact hh
  ·by_cases e:q=k
   ·subst e;unfold isRow at hh;rw[M]at hh;simp[AO.isRow]at hh
   unfold isRow at hh⊢;rw[G q e]at hh;exact hh
  by_cases e:q=k
  ·subst e;rw[M]at hh;rcases hh with hh|hh<;>cases hh
  rw[G q e]at hh;exact hh
 refine⟨Y,h.below,h.sat,h.ext,λid o B=>?_,λi j b Z hi aa=>?_⟩
 ·by_cases e:id=k
  ·subst e;rw[M]at B;injection B with B;subst B;trivial
  rw[G id e]at B
  exact(h.obj id o B).cC Y (λ_ _=>rfl) (λ_ _=>⟨rfl,rfl⟩) (.set (λ_ _ _=>rfl) λh=>by cases h)
 have N:∀q,alive (l.set k .dead) q=true->alive l q=true:=λq F=>by
  obtain⟨o,B,O⟩:=bD.1 F
  by_cases e:q=k
  ·subst e;rw[M]at B;injection B with B;exact absurd B.symm O
  rw[G q e]at B;exact bD.2 ⟨o,B,O⟩
 exact h.sep i j b Z (N i hi) (N j aa)
def aE.JR(h:aE w0 I0 w I m l){id B e size i b:Nat}{aQ al vs af:List D}{els:List D}{Z es':ME}(ar:l[id]?=some (.bn e size aQ vs (some i)))(ad:l[B]?=some (.bg e size els))(aC:els≠[])(aq:m id = .map (some b))(aV:dL w.heap[b]? Z)(aZ:w'.os=w.os)(ba:w'.tape=w.tape)(a1:w'.output=w.output)(aU:w.drawn<=w'.drawn)(a7:w.heap.size<=w'.heap.size)(aN:∀k,k≠b->w'.heap[k]?=w.heap[k]?)(aW:dL w'.heap[b]? es')(n1:es'.1.size=al.length)(bj:es'.1.size=af.length)(bl:∀(j:Nat)(en:MapEntry)(d:D),es'.1[j]?=some en->al[j]?=some d->Rd I en.key d)(aw:∀(j:Nat)(en:MapEntry)(d:D),es'.1[j]?=some en->af[j]?=some d->(j=i/\en.val=m B/\d = .slice size els)\/(j≠i/\vs[j]?=some d/\∃G,Z.1[j]?=some G/\G.val=en.val)) :
  Le I m l I m ((l.set B .dead).set id (.bn e size al af none))/\aE w0 I0 w' I m ((l.set B .dead).set id (.bn e size al af none)):=by
 have aL:id≠B:=λe=>by subst e;rw[ar]at ad;cases ad
 obtain⟨bh,bq⟩:=h.kill ad rfl
 have aM:(l.set B .dead)[id]?=some (.bn e size aQ vs (some i)):=by rw[e5,if_neg (hW aL)];exact ar
 have aK:Le I m (l.set B .dead) I m ((l.set B .dead).set id (.bn e size al af none)):=Le.setKind aM rfl rfl (by simp)
 obtain⟨b0,ay,ah,bm,bo,bt,bu,bw,bp,aD,aS,ax,bd,bf,aP⟩:=h.obj id _ ar
 rw[aq]at ah;injection ah with ah;injection ah with ah;subst ah
 have:ay=Z:=by
  have F:=aV.1;rw[bo.1]at F;injection F with F;injection F with F aa
  exact Prod.ext F aa
 subst this
 have aA:iM w0.heap.size w I (m B) e size els:=h.obj B _ ad
 obtain⟨g,ak⟩:∃g,own (m B)=some g:=by
  obtain⟨xs,F,_⟩:=aA
  rcases F.2 with ⟨_,bc⟩| ⟨g,br,cur,aa,_⟩
  ·exact absurd (kb bc) aC
  exact⟨g,by rw[aa];rfl⟩
 have bs:g≠b:=λe=>by
  subst e
  exact h.sep B id g (hW aL) (bD.2 ⟨_,ad,by simp⟩) (bD.2 ⟨_,ar,by simp⟩) ak (by rw[aq];rfl)
 have a8:∀Y u,I.cell Y 0=some u->w'.heap[Y]?=w.heap[Y]?:=λY u av=>aN Y λe=>by subst e;rw[aD.1 0]at av;cases av
 have aJ:∀{v:Value}{Z:List D}{Y:Nat},Z≠[]->own v=some Y->iM w0.heap.size w I v e size Z->iM w0.heap.size w' I v e size Z:=λ{v Z Y} aX ab aI=>by
  obtain⟨u,av⟩:=aI.mr aS aX ab
  exact aI.cC (λ_ _ h=>h) λaT ao=>⟨a8 aT u (by rw[ab]at ao;injection ao with ao;subst ao;exact av),rfl,rfl⟩
 have aY:∀{j:Nat}{en G:MapEntry}{d:D},j≠i->vs[j]?=some d->ay.1[j]?=some G->G.val=en.val->∃els,d = .slice size els/\els≠[]/\own en.val=some (ax j)/\iM w0.heap.size w' I en.val e size els:=λ{j en G d} ae ai aj bb=>by
  obtain⟨els,an,O,M,ag⟩:=bd j G d (λe=>ae (kA e).symm) aj ai
  rw[bb]at M ag
  exact⟨els,an,O,M,aJ O M ag⟩
 refine⟨bh.trans aK,bq.kv aM (by simp) (b:=b) (by rw[aq];rfl) aD rfl rfl aK aZ ba a1 aU a7 aN ⟨b,es',aq,bm,aW,n1,bj,bl,λj en d aj ai=>?_,aD,aS,λj=>if j=i then g else ax j,λj en d _ aj ai=>?_,λa c az aG aH _ _=>?_,λq j N ae _ ab=>?_⟩⟩
 ·rcases aw j en d aj ai with ⟨rfl,O,rfl⟩| ⟨an,O,G,M,ag⟩
  ·rw[O];exact aA.rd
  rw[<-ag];exact bp j G d M O
 ·rcases aw j en d aj ai with ⟨rfl,O,rfl⟩| ⟨an,O,G,M,ag⟩
  ·dsimp only;rw[O,if_pos rfl];exact⟨els,rfl,aC,ak,aJ aC ak aA⟩
  dsimp only;rw[if_neg an];exact aY an O M ag
 ·have aF:∀j,j<es'.1.size->j≠i->j<ay.1.size:=λj ae U=>by
   rcases aw j es'.1[j] af[j] (e8 ae) (c4 (by omega))with ⟨e,_⟩| ⟨_,_,G,M,_⟩
   ·exact absurd e U
   exact(e7.1 M).1
  have aR:∀j,j<es'.1.size->j≠i->g≠ax j:=λj ae U e=>aP B j (by unfold cy;rw[ad];rfl) (aF j ae U) (λe=>U (kA e).symm) (by rw[ak,e])
  dsimp only
  by_cases F:a=i
  ·subst F;rw[if_pos rfl,if_neg (hW az)];exact aR c aH (hW az)
  rw[if_neg F]
  by_cases aa:c=i
  ·subst aa;rw[if_pos rfl];exact hW (aR a aG F)
  rw[if_neg aa];exact bf a c az (aF a aG F) (aF c aH aa) (λe=>F (kA e).symm) (λe=>aa (kA e).symm)
 rcases yG N with N| ⟨_,N⟩
 ·have aO:q≠B:=λe=>by
   subst e;unfold cy at N;rw[e5,if_pos rfl,if_pos (da.1 ad).1]at N;simp[AO.cy]at N
  have au:cy l q=true:=by unfold cy at N⊢;rw[e5,if_neg (hW aO)]at N;exact N
  have a6:alive l q=true:=by
   unfold cy at au
   cases aB:l[q]? with
   |none=>simp[aB]at au
   |some o=>exact bD.2 ⟨o,aB,λe=>by subst e;simp[aB,AO.cy]at au⟩
  dsimp only at ab
  by_cases U:j=i
  ·subst U;rw[if_pos rfl]at ab
   exact h.sep q B g aO a6 (bD.2 ⟨_,ad,by simp⟩) ab ak
  rw[if_neg U]at ab
  rcases aw j es'.1[j] af[j] (e8 ae) (c4 (by omega))with ⟨e,_⟩| ⟨_,_,G,M,_⟩
  ·exact absurd e U
  exact aP q j au (e7.1 M).1 (λe=>U (kA e).symm) ab
 cases N
end
end Go.ag
namespace Go.ag
open Go Go.RowKit
variable [bd]
section
variable {P:Program}{V:Env}{w0 w w':World}{I0 I:av}{m:Nat->Value}{l:List AO}
theorem Uq(aF:bZ P V.E)(ak:aE w0 I0 w I m l){t:TypeId}{x v:Value}{kk:IntKind}{n:Int}{aN:TI}{id O e size:Nat}{M vs els:List D}(aD:j8 V.E t=some (kk,aN))(aw:ar I m l x (.map id))(aH:v=m O)(Z:l[id]?=some (.bn e size M vs (some ((dU n M 0).getD M.length))))(aq:l[O]?=some (.bg e size els))(au:els≠[])(aG:mK kk M=true) :
  ∃w',(Instr.mapUpdate t x (.int kk n) v).run P w = .ok () w' /\
   let l':=(l.set O .dead).set id (match dU n M 0 with|some j=>.bn e size M (vs.set j (.slice size els)) none|none=>.bn e size (M++[.int kk n]) (vs++[.slice size els]) none)
   Le I m l I m l'/\aE w0 I0 w' I m l':=by
 subst aH
 obtain⟨aJ,aO,aB,an,aQ⟩:=vL aF aD
 obtain⟨b,⟨N,G⟩,ae,az,U,s1,s2,af,aM,aP,_⟩:=ak.obj id _ Z
 have aA:=U
 replace U:w.heap[b]?=some (.map N G)/\MapKept.Stamped N G:=U
 simp only at s1 s2 af aM
 have aI:x = .map (some b):=by
  cases aw with
  |map r _ aa ad=>
   have:=ad (by unfold isRow;rw[Z];rfl)
   rw[ae]at this;exact this.symm
 subst aI
 have ao:∀e:Bool,(Instr.checkKey e 10000 aJ (.int kk n)).run P w = .ok () w:=λe=>q1 (d:=.int kk) (n:=9999) an (by simp[MapKept.IsKey]) e
 rcases sL (kk:=kk) (n:=n) N.toList M 0 (by simpa using s1) (λj e d ae az=>af j e d (by simpa using ae) az) aG with ⟨aa,ad,aL⟩| ⟨j,aC,aa,ad,ax,aK,ay⟩
 ·have hi:(dU n M 0).getD M.length=M.length:=by rw[aa];rfl
  rw[hi]at Z
  simp only[aa]
  have ai:=o3 (w:=w) an ad
  have al:=nn (P:=P) (.map (N.push {key:=.int kk n,val:=m O,born:=G}) (G+1)) U.1
  obtain⟨ag,ah⟩:=p4 (o':=.map (N.push {key:=.int kk n,val:=m O,born:=G}) (G+1)) U.1
  refine⟨{w with heap:=w.heap.setIfInBounds b (.map (N.push {key:=.int kk n,val:=m O,born:=G}) (G+1))},?_,?_⟩
  ·unfold Instr.mapUpdate
   simp only[gj,hL aB,Result.andThen_ok,jb U.1,ao,ai,al]
  refine ak.JR Z aq au ae aA rfl rfl rfl (eb _) (by simp) (λk aj=>ah k aj) (es':=(N.push {key:=.int kk n,val:=m O,born:=G},G+1)) ⟨ag,I3 U.2 (by simpa using aL)⟩ (by simp[s1]) (by simp[s2]) (λi e d B F=>?_) λi en d B F=>?_
  ·rw[r0]at B
   split at B
   ·injection B with B;subst B
    rename_i hi;subst hi
    rw[s1,hJ (eb _)]at F;simp at F;subst F;exact .int _ _
   have hi:i<M.length:=by have:=(e7.1 B).1;omega
   rw[e3 hi]at F;exact af i e d B F
  rw[r0]at B
  split at B
  ·injection B with B;subst B
   rename_i hi;subst hi
   rw[s2,hJ (eb _)]at F;simp at F;subst F
   exact .inl ⟨s1,rfl,rfl⟩
  have hi:i<N.size:=(e7.1 B).1
  rw[e3 (by omega)]at F
  exact .inr ⟨by omega,F,en,B,rfl⟩
 have hi:(dU n M 0).getD M.length=j:=by rw[aa];simp
 rw[hi]at Z
 simp only[aa,ia]
 rw[ia]at ay
 have ai:=o3 (w:=w) an ay
 have ab:N[j]?=some aC:=by simpa using ad
 have al:=nn (P:=P) (.map (N.modify j λe=>{e with key:=.int kk n,val:=m O}) G) U.1
 obtain⟨ag,ah⟩:=p4 (o':=.map (N.modify j λe=>{e with key:=.int kk n,val:=m O}) G) U.1
 refine⟨{w with heap:=w.heap.setIfInBounds b (.map (N.modify j λe=>{e with key:=.int kk n,val:=m O}) G)},?_,?_⟩
 ·unfold Instr.mapUpdate
  simp only[gj,hL aB,Result.andThen_ok,jb U.1,ao,ai,ab,Option.map_some,Option.getD_some,ax,stays,al]
 refine ak.JR Z aq au ae aA rfl rfl rfl (eb _) (by simp) (λk aj=>ah k aj) (es':=(N.modify j λe=>{e with key:=.int kk n,val:=m O},G)) ⟨ag,zz U.2 j _ (λ_ _=>rfl) (λx aw Y=>by rw[ab]at Y;injection Y with Y;subst Y;exact ax.symm)⟩ (by simp[s1]) (by simp[s2]) (λi e d B F=>?_) λi en d B F=>?_
 ·rw[p1]at B
  split at B
  ·rename_i hi;subst hi
   rw[ab]at B;simp at B;subst B
   rw[aK]at F;injection F with F;subst F;exact .int _ _
  exact af i e d B F
 rw[p1]at B
 split at B
 ·rename_i hi;subst hi
  rw[ab]at B;simp at B;subst B
  have Y:j<vs.length:=by rw[<-s2];exact(e7.1 ab).1
  rw[e5,if_pos rfl,if_pos Y]at F
  injection F with F;exact .inl ⟨rfl,rfl,F.symm⟩
 rename_i av
 rw[e5,if_neg av]at F
 exact .inr ⟨λe=>av e.symm,F,en,B,rfl⟩
theorem aa5{E:bW}{t:TypeId}{s b e sz:Nat}{z:Value}(h:fG z.cells.toList [.slice sz []]=true)(j:jY z=false):z = .slice none 0 0:=by
 cases z with
 |agg cs=>simp[jY]at j
 |slice a n c=>
  simp only[Value.cells,fG,q0]at h
  unfold oM at h
  split at h<;>simp_all
 |_=>simp_all [Value.cells,fG,oM]
theorem Um(Z:bZ P V.E)(Y:aE w0 I0 w I m l){t:TypeId}{x:Value}{kk:IntKind}{n:Int}{id e ak size sz aj zs:Nat}{F vs:List D}(al:j8 V.E t=some (kk,⟨sz,aj,[.slice zs []],.slice ak⟩))(aw:ar I m l x (.map id))(O:l[id]?=some (.bn e size F vs none))(ab:∀q o,q≠id->l[q]?=some o->o.te=false)(aq:mK kk F=true){els:List D}(B:match dU n F 0 with|some j=>vs[j]?=some (.slice size els)|none=>els=[]) :
  ∃v,(Instr.lookup t x (.int kk n) false).run P w = .ok v w/\(∃A c k,v = .slice A c k) /\
   let l':=l.set id (.bn e size F vs (some ((dU n F 0).getD F.length)))++[.bg e size els]
   Le I m l I (aK m l.length v) l'/\aE w0 I0 w I (aK m l.length v) l':=by
 obtain⟨az,aI,aC,ai,aD⟩:=vL Z al
 obtain⟨b,N,U,ag,ah,s1,s2,aA,aB,aJ,_⟩:=Y.obj id _ O
 obtain⟨z,aF,aG,aH,aN⟩:=w5 Z aD w
 have ay:z = .slice none 0 0:=aa5 (E:=V.E) (t:=t) (s:=0) (b:=0) (e:=0) aG (by rw[aH];rfl)
 subst ay
 have ax:x = .map (some b):=by
  cases aw with
  |map r _ G M=>
   have:=M (by unfold isRow;rw[O];rfl)
   rw[U]at this;exact this.symm
 subst ax
 have an:∀e:Bool,(Instr.checkKey e 10000 az (.int kk n)).run P w = .ok () w:=λe=>q1 (d:=.int kk) (n:=9999) ai (by simp[MapKept.IsKey]) e
 have ae:∀r,Instr.findNow (.int kk) (.int kk n) N.1.toList 0=some r->(Instr.lookup t (.map (some b)) (.int kk n) false).run P w = .ok (match r with|some (_,v)=>v|none=>.slice none 0 0) w:=by
  intro r au
  have ao:=o3 (w:=w) ai au
  unfold Instr.lookup
  simp only[gj,hL aC,Result.andThen_ok,Sem.run_pure,jb ah.1,an,ao]
  cases r<;>simp[aF]
 rcases sL (kk:=kk) (n:=n) N.1.toList F 0 (by simpa using s1) (λj e d U ag=>aA j e d (by simpa using U) ag) aq with ⟨G,M,_⟩| ⟨j,en,G,M,aL,aM,af⟩
 ·rw[G]at B
  have B:els=[]:=B
  refine⟨_,ae _ M,⟨_,_,_,rfl⟩,?_⟩
  rw[G]
  exact Y.JT O ab (.inr ⟨eb _,B,rfl⟩)
 rw[G]at B
 have B:vs[j]?=some (.slice size els):=by simpa using B
 rw[ia]at af
 have aa:N.1[j]?=some en:=by simpa using M
 have ad:=aB j en _ aa B
 have av:∃A c k,en.val = .slice A c k:=by
  generalize en.val=u at ad
  cases ad<;>exact⟨_,_,_,rfl⟩
 refine⟨_,ae _ af,av,?_⟩
 rw[G]
 simp only[ia,Option.getD_some]
 exact Y.JT O ab (.inl ⟨b,N,U,ah,en,aa,rfl,B⟩)
end
end Go.ag
namespace Go.Sy
open Go Go.ag
variable [aD][cF][cz][c9][bd]
section
variable {P:Program}{V:Env}{C:Cx}{o:Oper}{ops:List Oper}{ρX:Operand->TX}{ρT:Operand->T}{lX:List AX}{l:List AO}{n nid:Nat}{cs:List Callee}{ρ ρ':aN}{q:dA}
def N1{e:TypeId}{kk:IntKind}{u:Ty}{a:AX}{M:AO}{x:X}(af:isVal u)(ad:0<u.size)(N:bK ρ a M)(h:Bp e kk u a=some x) :
  ∃m:List (Int×List u.den),x.den ρ=some ⟨.map (.int kk) (.list u),m⟩/\∀(w0:World)(I0:av)(w:World)(I:av)(mm:Nat->Value)(l:List AO)(id:Nat),l[id]?=some M->aE w0 I0 w I mm l ->
   Le I mm l I mm (l.set id (.bn e u.size (m.map λp=>D.int kk p.1) (m.map λp=>(Ty.list u).enc p.2) none))/\aE w0 I0 w I mm (l.set id (.bn e u.size (m.map λp=>D.int kk p.1) (m.map λp=>(Ty.list u).enc p.2) none)):=by
 unfold Bp at h
 split at h
 ·rename_i U ae O y
  split at h
  ·rename_i F
   obtain⟨rfl,rfl,rfl⟩:=F
   simp only[c5]at h;subst h
   cases N with
   |bn _ _ _ _ m Y Z j=>
    refine⟨m,j,λw0 I0 w I mm l id B G=>?_⟩
    have:l.set id (.bn U O.size (m.map λp=>D.int ae p.1) (m.map λp=>(Ty.list O).enc p.2) none)=l:=by
     refine ie λk=>?_
     rw[e5]
     split
     ·rename_i aa;subst aa;rw[if_pos (da.1 B).1,B]
     rfl
    rw[this]
    exact⟨.refl ..,G⟩
  cases h
 ·rename_i k v ag ah
  split at h
  ·rename_i F
   obtain⟨rfl,rfl,rfl,rfl⟩:=F
   simp only[c5]at h;subst h
   cases N with
   |map _ _ _ m Y Z j=>
    have ab:m=[]:=by
     simp only[X.den]at j
     injection j with j
     cases j;rfl
    subst ab
    exact⟨[],rfl,λw0 I0 w I mm l id B G=>G.Uo ad B⟩
  cases h
 cases h
def BM(a b:AO):Prop:=a=b\/∃e s j vs k,a = .bn e s j vs k/\b = .map j vs
def GM{w0 w:World}{I0 I:av}{m:Nat->Value}:∀{j k:List AO}(pre:List AO),F2 BM j k->aE w0 I0 w I m (pre++j)->Le I m (pre++j) I m (pre++k)/\aE w0 I0 w I m (pre++k)
 | [],[],pre,_,h=>⟨.refl ..,h⟩
 |a::r,b::M,pre,.cons h1 B,h=>by
  have e:∀(x:AO)(s:List AO),pre++x::s=(pre++[x])++s:=λx s=>by simp
  rcases h1 with rfl| ⟨el,s,ks,vs,op,rfl,rfl⟩
  ·rw[e a r]at h
   have:=GM (pre++[a]) B h
   rw[e a r,e a M];exact this
  have N:(pre++AO.bn el s ks vs op::r)[pre.length]?=some (.bn el s ks vs op):=by simp
  obtain⟨F,G⟩:=h.JY N
  have O:(pre++AO.bn el s ks vs op::r).set pre.length (.map ks vs)=(pre++[.map ks vs])++r:=by simp
  rw[O]at F G
  obtain⟨U,Y⟩:=GM (pre++[.map ks vs]) B G
  rw[e (.map ks vs) M]
  exact⟨F.trans U,Y⟩
def aaC{a:AX}{j:AO}(B:bK ρ a j):∃k,bK ρ (BA a) k/\BM j k:=by
 cases B with
 |bn e kk t x m G M F=>exact⟨_,.map (.int kk) (.list t) x m (cE rfl) (cE rfl) F,.inr ⟨_,_,_,_,_,rfl,rfl⟩⟩
 |_=>exact⟨_,by constructor<;>assumption,.inl rfl⟩
def US{a:AX}{j:AO}(k:bK ρ a j)(h:DB a=false):j.te=false:=by
 cases k<;>first|rfl|cases h|skip
 rename_i o B
 cases j<;>first|rfl|cases B
theorem Od{id:Nat}:∀{lX:List AX}{l:List AO}(i:Nat),RL ρ lX l->vT id lX i=true->∃l',RL ρ (qe id lX i) l'/\F2 BM l l'/\(∀k,i+k=id->(qe id lX i)[k]?=lX[k]?/\l'[k]?=l[k]?)/\∀k o,i+k≠id->l'[k]?=some o->o.te=false
 | [],[],i,_,_=>⟨[],.nil,.nil,λk _=>⟨rfl,rfl⟩,λk o _ h=>by simp at h⟩
 |a::r,b::s,i,.cons h1 Y,F=>by
  simp only[vT,dd,h6,hC]at F
  obtain⟨l',G,M,aa,N⟩:=Od (i+1) Y F.2
  cases hi:Nat.beq i id with
  |true=>
   have:=et hi
   subst this
   refine⟨b::l',by simp only[qe,hi,cond_true];exact .cons h1 G,.cons (.inl rfl) M,λk B=>?_,λk o B j=>?_⟩
   ·have:k=0:=by omega
    subst this
    exact⟨by simp[qe,hi],rfl⟩
   cases k with
   |zero=>omega
   |succ k=>exact N k o (by omega) (by simpa using j)
  |false=>
   have af:i≠id:=λe=>by subst e;rw[ik]at hi;cases hi
   obtain⟨U,O,ab⟩:=aaC h1
   have Z:DB (BA a)=false:=by rcases F.1 with h|h;exact absurd h (by rw[hi];simp);exact h
   refine⟨U::l',by simp only[qe,hi,cond_false];exact .cons O G,.cons ab M,λk B=>?_,λk o B j=>?_⟩
   ·cases k with
    |zero=>omega
    |succ k=>
     obtain⟨ad,ae⟩:=aa k (by omega)
     exact⟨by simpa [qe,hi]using ad,by simpa using ae⟩
   cases k with
   |zero=>simp at j;subst j;exact US O Z
   |succ k=>exact N k o (by omega) (by simpa using j)
def bX.pre{t:T}{l1 l':List AO}(M:∀(w0:World)(I0:av)(w:World)(I:av)(m:Nat->Value),aE w0 I0 w I m l->Le I m l I m l1/\aE w0 I0 w I m l1)(h:bX P o ρT l1 t l'):bX P o ρT l t l':=by
 refine⟨h.1,λw0 I0 w I m ρ N U=>?_⟩
 obtain⟨j,O⟩:=M w0 I0 w I m N
 exact(h.2 w0 I0 w I m ρ O λx G=>(U x G).mono j).mono λv w' ⟨J,m',k,B,F⟩=>⟨J,m',j.trans k,B,F⟩
def Uj{t e:TypeId}(h:yu C t=some e):∃sz k z M j N B z',C.E t=some ⟨sz,k,z,.map M j⟩/\C.E j=some ⟨N,B,z',.slice e⟩:=by
 unfold yu at h
 split at h
 ·rename_i F
  split at h
  ·rename_i G
   simp only[c5]at h;subst h
   exact⟨_,_,_,_,_,_,_,_,F,G⟩
  cases h
 cases h
def Un(B:bL P V C){t e:TypeId}{kk:IntKind}{u:Ty}(ht:C.ty t=some (.map (.int kk) (.list u)))(ah:yu C t=some e):∃sz U,j8 V.E t=some (kk,⟨sz,U,[.slice u.size []],.slice e⟩)/\isVal u/\0<u.size:=by
 obtain⟨i,j,an,ao,aq,k⟩:=B.map ht
 obtain⟨s1,s2,aC,ax,aD,ab,ad,O,Y,Z⟩:=Uj ah
 obtain⟨au,M,_,_,_,aa,_⟩:=B.info ht
 rw[B.E,Y]at M
 simp only[c5]at M;subst M
 simp only[nI,dd,ek]at aa
 obtain⟨sz,U,z',al,av,N,ay,az,aA,aj,ak,aB⟩:=B.list aa.1.1.1.1.2
 rw[B.E,Z]at N
 simp only[c5,TI.mk.injEq,TD.slice.injEq]at N
 obtain⟨rfl,rfl,rfl,rfl⟩:=N
 have F:j8 V.E t=some (kk,⟨ab,ad,O,.slice e⟩):=by
  unfold j8 at j⊢
  rw[B.E,Y]at j⊢
  simp only at j⊢
  rw[Z]at j⊢
  split at j
  ·rename_i aw ar ae G
   injection G with G
   subst G
   injection j with j
   injection j with af ag
   subst af;subst ag
   first|rfl|rw[ae]
  cases j
 rw[j]at F
 injection F with F
 injection F with _ F
 subst F
 refine⟨ab,ad,?_,aj,ak⟩
 rw[j]
 have ai:O=[.slice u.size []]:=by
  unfold oN at k
  simp only[jO,fK,fw]at k
  match O,k with
  | [d],k=>
   simp only[kC,q0]at k
   unfold uF at k
   split at k<;>simp_all
  | [],k=>simp[kC]at k
  |_::_::_,k=>simp[kC]at k
 rw[ai]
theorem Xt{e sz:Nat}{α:Type}{kk:IntKind}{m:Int}{w:α}(zs:List (Int×α))(f:α->D):(match dU m (zs.map λp=>D.int kk p.1) 0 with|some j=>AO.bn e sz (zs.map λp=>D.int kk p.1) ((zs.map λp=>f p.2).set j (f w)) none|none=>AO.bn e sz ((zs.map λp=>D.int kk p.1)++[.int kk m]) ((zs.map λp=>f p.2)++[f w]) none) =
  AO.bn e sz ((aH zs m w).map λp=>D.int kk p.1) ((aH zs m w).map λp=>f p.2) none:=by
 have h:=L0 (kk:=kk) (m:=m) (w:=w) zs f
 cases F:dU m (zs.map λp=>D.int kk p.1) 0 with
 |some j=>
  rw[F]at h
  simp only at h⊢
  injection h with k B
  rw[B,<-k]
 |none=>
  rw[F]at h
  simp only at h⊢
  injection h with k B
  rw[B,<-k]
def Ur(Y:bL P V C){t:TypeId}{x k:Operand}(B:o.op = .lookup t x k false)(ad:RL ρ lX l)(aj:RX ρ (ρX x) (ρT x))(aa:RX ρ (ρX k) (ρT k))(h:Dq C t lX nid (ρX x) (ρX k)=some q):q.ins=[]/\cG P o ρT l nid ρ q:=by
 unfold Dq at h
 split at h
 ·rename_i kk u id bb key aL av aw
  rw[av]at aj;rw[aw]at aa
  obtain⟨m,ag,aK⟩:=fM aa
  have ay:=vN aj
  split at h
  ·rename_i e a aD aF
   split at h
   ·rename_i y aU
    split at h
    ·rename_i aI;subst aI
     cases M:vT id lX 0 with
     |false=>simp[M]at h
     |true=>
      simp only[M,cond_true,c5]at h
      subst h
      obtain⟨sz,a6,aR,N,ai⟩:=Un Y (pz aL) aD
      obtain⟨ar,az,aA⟩:=F2.left ad aF
      obtain⟨mm,Z,aQ⟩:=N1 N ai aA aU
      obtain⟨l1,aX,aq,aY,a1⟩:=Od (id:=id) 0 ad M
      obtain⟨_,aZ⟩:=aY id (by omega)
      have ae:l1[id]?=some ar:=aZ.trans az
      have aG:id<l1.length:=(da.1 ae).1
      have aE:(X.u3 .jG y key (.nil u)).den ρ=some ⟨.list u,an mm m []⟩:=by
       have aB:c6 (.list u) ⟨.list u,([]:List u.den)⟩=some []:=fH (.list u) _
       simp only[X.den,Z,ag,nu,aB]
      refine⟨rfl,.row nid,.row _,_,F2.app (F2.set aX (.fc e kk u y key mm m N ai Z ag) id) (.cons (.bg e u _ (an mm m []) N aE) .nil),λaM=>?_⟩
      subst aM
      refine bX.pre (l1:=l1) (λw0 I0 w I O F=>by simpa using GM [] aq (by simpa using F)) ?_
      refine bX.pre (l1:=l1.set id (.bn e u.size (mm.map λp=>D.int kk p.1) (mm.map λp=>(Ty.list u).enc p.2) none)) (λw0 I0 w I O F=>aQ w0 I0 w I O l1 id ae F) ?_
      refine⟨by simp[B],λw0 I0 w I O U aN ah=>?_⟩
      have ak:=ah x (by simp[B,Op.operands])
      have al:=ah k (by simp[B,Op.operands])
      rw[ay]at ak;rw[aK]at al
      have aT:U k = .int kk m:=by
       have ao:=cm al
       generalize U k=bc at ao
       cases ao;rfl
      have aJ:l.length=l1.length:=aq.len
      obtain⟨v,aO,⟨A,c,au,aS⟩,af,F⟩:=Um (P:=P) Y.ok.E aN (n:=m) (e:=e) (size:=u.size) (els:=(an mm m []).map u.enc) aR ak (by rw[e5,if_pos rfl,if_pos aG]) (λj aW aH B=>by
       rw[e5,if_neg (hW aH)]at B
       exact a1 j aW (by omega) B) (tn mm) (by
       cases ab:dU m (mm.map λp=>D.int kk p.1) 0 with
       |some j=>
        obtain⟨aV,a7,a8,ax,ba,G,_⟩:=vC ab
        have:j=aV:=by omega
        subst this
        simp only
        rw[e0,ax]
        simp only[Option.map_some,G,sH]
       |none=>
        obtain⟨G,_⟩:=vB ab
        simp only
        rw[G];rfl)
      have aC:(execOp U o).run P w = .ok (.value v) w:=by unfold execOp;simp[B,aT,aO]
      rw[aC]
      simp only[bY]
      have aP:∀b:AO,(l1.set id (.bn e u.size (mm.map λp=>D.int kk p.1) (mm.map λp=>(Ty.list u).enc p.2) none)).set id b=l1.set id b:=λb=>by rw[List.set_set]
      simp only[aP,pb]at af F
      refine⟨I,_,af,F,?_⟩
      rw[aJ]
      subst aS
      exact .row A c au l1.length (by simp) λ_=>by rw[dy]
    cases h
   cases h
  cases h
 cases h
def Wf{y:X}{u:Ty}{xs:List u.den}(h:y6 y=true)(j:y.den ρ=some ⟨.list u,xs⟩):xs≠[]:=by
 unfold y6 at h
 split at h
 ·rename_i a b c
  intro e;subst e
  simp only[X.den]at j
  cases k:a.den ρ with
  |none=>simp[k]at j
  |some ad=>
   cases F:b.den ρ with
   |none=>simp[k,F]at j
   |some ae=>
    cases G:c.den ρ with
    |none=>simp[k,F,G]at j
    |some af=>
     simp only[k,F,G]at j
     obtain⟨B,ah⟩:=af
     cases B with
     |list B=>
      cases M:c6 B ae with
      |none=>simp[cD,M]at j
      |some z=>
       simp only[cD,M]at j
       obtain⟨N,ag⟩:=ad
       cases N with
       |list N=>
        simp only at j
        split at j
        ·rename_i ys ab
         have O:=oY ab
         cases O
         injection j with j
         have U:B=u:=by injection j with aa _;injection aa
         subst U
         have Y:List.append ag (List.cons z ah)=[]:=by injection j with _ ai
         have key:∀(α:Type)(a b:List α)(z:α),List.append a (List.cons z b)≠[]:=λα a b z h=>by
          have Z:a++z::b=[]:=h
          simp at Z
         exact key _ _ _ _ Y
        cases j
       |_=>simp at j
     |_=>simp[cD]at j
 cases h
def Us(aa:bL P V C){t:TypeId}{G k x:Operand}(F:o.op = .mapUpdate t G k x)(U:RL ρ lX l)(ae:RX ρ (ρX G) (ρT G))(ad:RX ρ (ρX k) (ρT k))(ai:RX ρ (ρX x) (ρT x))(h:Dr C t lX (ρX G) (ρX k) (ρX x)=some q):q.ins=[]/\cG P o ρT l nid ρ q:=by
 unfold Dr at h
 split at h
 ·rename_i id bb key j ao aq ar
  rw[ao]at ae;rw[aq]at ad;rw[ar]at ai
  obtain⟨m,af,aK⟩:=fM ad
  have aw:=vN ae
  have av:=w4 ai
  split at h
  ·rename_i e kk u mx aW a7 bd y aG aD
   split at h
   ·rename_i aF
    obtain⟨rfl,rfl,rfl,aL⟩:=aF
    cases B:(X.beq key aW&&y6 y)with
    |false=>simp[B]at h
    |true=>
     simp only[B,cond_true,c5]at h
     subst h
     simp only[dd]at B
     have:=X.beq_eq B.1
     subst this
     obtain⟨aZ,ax,ay⟩:=F2.left U aG
     obtain⟨a1,ab,az⟩:=F2.left U aD
     cases ay with
     |fc _ _ _ _ _ mm n0 aR aQ aB O=>
      rw[af]at O
      injection O with O
      cases O
      cases az with
      |bg _ _ _ xs _ aj=>
       have aM:=Wf B.2 aj
       obtain⟨i,au,_⟩:=aa.map (pz aL)
       have aA:c6 (.list u) ⟨.list u,xs⟩=some xs:=fH (.list u) _
       have aN:(X.u3 .og mx key y).den ρ=some ⟨.map (.int kk) (.list u),aH mm m xs⟩:=by
        simp only[X.den,aB,af,aj,nu,aA]
       refine⟨rfl,.undef,.undef _,_,F2.set (F2.set U .dead j) (.bn e kk u _ (aH mm m xs) aR aQ aN) id,λa8=>?_⟩
       refine⟨by simp[F],λw0 I0 w I M N aO Y=>?_⟩
       have ak:=Y G (by simp[F,Op.operands])
       have al:=Y k (by simp[F,Op.operands])
       have Z:=Y x (by simp[F,Op.operands])
       rw[aw]at ak;rw[aK]at al;rw[av]at Z
       have aS:N k = .int kk m:=by
        have an:=cm al
        generalize N k=aY at an
        cases an;rfl
       have aT:N x=M j:=by
        generalize N x=aY at Z
        cases Z with
        |row A c a6 _ bc aX=>exact(aX (by unfold ag.isRow;rw[ab];rfl)).symm
       obtain⟨w',aP,aI,aU⟩:=Uq (P:=P) (V:=V) aa.ok.E aO (n:=m) au ak aT ax ab (by simpa using aM) (tn mm)
       have aC:(execOp N o).run P w = .ok .skip w':=by unfold execOp;simp[F,aS,aP]
       have ah:=Xt (e:=e) (sz:=u.size) (kk:=kk) (m:=m) (w:=xs) mm (λx=>(Ty.list u).enc x)
       have ba:∀a b:AO,a=b->(l.set j .dead).set id a=(l.set j .dead).set id b:=λa b h=>by rw[h]
       have aJ:Le I M l I M ((l.set j .dead).set id (.bn e u.size ((aH mm m xs).map λp=>D.int kk p.1) ((aH mm m xs).map λp=>(Ty.list u).enc p.2) none)):=by rw[<-ah];exact aI
       have aV:aE w0 I0 w' I M ((l.set j .dead).set id (.bn e u.size ((aH mm m xs).map λp=>D.int kk p.1) ((aH mm m xs).map λp=>(Ty.list u).enc p.2) none)):=by rw[<-ah];exact aU
       rw[aC]
       simp only[bY]
       exact⟨I,M,aJ,aV,.undef _⟩
   cases h
  cases h
 cases h
def aaL(h:cn P V):cn P {V with sub:=true}:=⟨h.E,h.C,h.eq,h.F,h.prog⟩
def Zx(B:bL P V C){t:TypeId}{x lo:Operand}(an:o.op = .slice t x (some lo) none none)(O:RL ρ lX l)(Z:RX ρ (ρX x) (ρT x))(Y:RX ρ (ρX lo) (ρT lo))(h:Gt C t lX (ρX x) (ρX lo)=some q)(hi:ch cs n ρ q.ins ρ'):cG P o ρT l nid ρ' q:=by
 unfold Gt at h
 split at h
 ·rename_i s1 s2 aw e u id av nx af ao ab ad
  rw[ab]at Z;rw[ad]at Y
  obtain⟨m,F,aa⟩:=fM Y
  have ag:=w4 Z
  split at h
  ·rename_i az aG xs ak
   split at h
   ·rename_i aq;subst aq
    simp only[c5]at h;subst h
    obtain⟨j,au⟩:=iV hi
    cases au
    obtain⟨ax,ah,ai⟩:=F2.left O ak
    cases ai with
    |row _ _ _ zs aD ar=>
     obtain⟨sz,ay,z',aA,i,k,G,ae,aB,aC,aE,aF⟩:=B.list ao
     have M:V.E t=some ⟨s1,s2,aw,.slice e⟩:=by rw[B.E];exact af
     rw[M]at k
     simp only[c5,TI.mk.injEq,TD.slice.injEq]at k
     obtain⟨rfl,rfl,rfl,rfl⟩:=k
     have U:(gd xs).den ρ=some ⟨.int .i64,(zs.length:Int)⟩:=by simp only[gd,X.den,ar,fY]
     have N:0<=m/\m<=zs.length:=by
      simp only[X.den,iX,F,U,cD]at j
      have j:(leI 0 m&&leI m (zs.length:Int))=true:=fu j
      simpa using j
     have aj:evalOp {V with sub:=true} ρT l nid o=⟨.sub id m.toNat zs.length,.aK l,0<=m/\m<=zs.length⟩:=by
      simp only[evalOp,an,M,ag,Option.map_some,Option.map_none,hQ,kr,ah,aa,cY,hM]
      rw[if_pos ⟨by simp[bw,G,ae],by rw[G];rfl⟩]
     exact⟨_,.sub id nx (gd xs) av .i64 m zs.length N.1 F U,l,O,λal=>bX.aK (aaL B.ok) aj N rfl al⟩
   cases h
  cases h
 cases h
def Sq(F:bL P V C){c:Call}{t:TypeId}{x:Operand}(aB:o.op = .call c)(U:c.callee = .builtin .clear)(aq:c.args.toList=[x])(aw:c.argTypes.toList=[t])(ae:RL ρ lX l)(Y:RX ρ (ρX x) (ρT x))(h:Ct C t lX (ρX x)=some q)(hi:ch cs n ρ q.ins ρ'):cG P o ρT l nid ρ' q:=by
 have B:evalOp V ρT l nid o=kH V.E t l (ρT x):=by simp only[evalOp,aB,U,aq,aw]
 unfold Ct at h
 split at h
 ·rename_i s1 s2 aI e u id lo ax ao aE aj
  rw[aj]at Y
  split at h
  ·rename_i ai k xs z ay aG
   split at h
   ·rename_i aF;subst aF
    cases O:X.beq ax (gd xs)with
    |false=>simp[O]at h
    |true=>
     simp only[O,cond_true,c5]at h;subst h
     have:=X.beq_eq O
     subst this
     cases hi
     generalize aR:ρT x=a1 at B Y
     cases Y with
     |sub _ _ _ aX aY m aS aZ ah M=>
      obtain⟨aM,ar,av⟩:=F2.left ae ay
      cases av with
      |row _ _ _ zs aP ag=>
       obtain⟨sz,aN,z',aO,i,N,aa,ak,al,ab,aQ,an⟩:=F.list aE
       have ad:V.E t=some ⟨s1,s2,aI,.slice e⟩:=by rw[F.E];exact ao
       rw[ad]at N
       simp only[c5,TI.mk.injEq,TD.slice.injEq]at N
       obtain⟨rfl,rfl,rfl,rfl⟩:=N
       obtain⟨aW,G,aT,aU,aV,_,aH⟩:=F.info an
       rw[aa]at G
       injection G with G;subst G
       obtain⟨Z,aJ,aL⟩:=BG (ρ:=ρ) ab aH al aG
       have af:(gd xs).den ρ=some ⟨.int .i64,(zs.length:Int)⟩:=by simp only[gd,X.den,ag,fY]
       rw[af]at M
       injection M with M
       cases M
       have aC:(X.u2 .rep (.u2 (.sub .i64) (gd xs) lo) z).den ρ=some ⟨.list k,List.replicate (zs.length-m.toNat) Z⟩:=by
        have:((zs.length:Int)-m).toNat=zs.length-m.toNat:=by omega
        rw[<-this]
        simp only[X.den,af,ah,aJ,cD]
        rfl
       have aD:(X.u2 .take xs lo).den ρ=some ⟨.list k,zs.take m.toNat⟩:=by simp only[X.den,ag,ah,cD]
       have au:=BQ aD aC
       simp only[kH,ad,aa,ar]at B
       rw[if_pos ⟨ak.symm,by simp,by omega⟩,aL]at B
       have az:List.take m.toNat (zs.map k.enc)++List.replicate ((zs.length:Int).toNat-m.toNat) (k.enc Z)=(zs.take m.toNat++List.replicate (zs.length-m.toNat) Z).map k.enc:=by simp[v7,List.map_take]
       rw[az]at B
       exact⟨_,.fE [] [] rfl (λj c d U=>by simp at U),_,F2.set ae (.row ai k _ _ ab au) id,λaA=>bX.aK F.ok B trivial rfl aA⟩
   cases h
  cases h
 cases h
theorem I6(G:bL P V C)(ab:il P C cs)(N:RL ρ lX l)(F:∀x∈o.op.operands,RX ρ (ρX x) (ρT x))(Z:∀g ls,aD.eA g=some ls->ρT (.global g) = .br ls.length [.agg (ls.map (.int .i64))] 0 0)(aa:Ext ρ ρ')(h:pd C ops ρX lX n nid o=some q)(hi:ch cs n ρ q.ins ρ'):cG P o ρT l nid ρ' q:=by
 unfold pd at h
 split at h
 ·rename_i O j
  injection h with h;subst h
  have key:(O.ins=[]/\cG P o ρT l nid ρ O)\/cG P o ρT l nid ρ' O:=by
   unfold JV at j
   split at j
   ·rename_i t x k B
    split at j
    ·cases M:Jo ops _ with
     |false=>rw[M]at j;cases j
     |true=>
      rw[M]at j
      exact .inl (Ur G B N (F x (by simp[B,Op.operands])) (F k (by simp[B,Op.operands])) j)
    cases j
   ·rename_i t ad k x B
    exact .inl (Us G B N (F ad (by simp[B,Op.operands])) (F k (by simp[B,Op.operands])) (F x (by simp[B,Op.operands])) j)
   ·rename_i t x lo B
    split at j
    ·cases M:Io ops _ with
     |false=>rw[M]at j;cases j
     |true=>
      rw[M]at j
      exact .inr (Zx G B N (F x (by simp[B,Op.operands])) (F lo (by simp[B,Op.operands])) j hi)
    cases j
   ·rename_i c B
    split at j
    ·rename_i x t Y U ht
     exact .inr (Sq G B Y U ht N (F x (by simp[B,Op.operands,Call.operands,Y,<-ib,U])) j hi)
    cases j
   cases j
  rcases key with ⟨k1,k2⟩|k2
  ·rw[k1]at hi
   cases hi
   exact k2
  exact k2
 exact Tp G ab N F Z aa h hi
end
end Go.Sy
namespace Go.Sy
open Go Go.ag
variable [aD][cF][cz][c9][bd][bP]
section
variable {s:St}
def Sub.SL(j:Nat){d:D}{l':List AO}(h:dc s.l (get s.t j)=some (d,l')):Sub s ⟨(j,.d d)::s.t,l'⟩:=by
 intro w0 I0 n a w O
 obtain⟨G,I,m,N,M,B⟩:=O
 obtain⟨J,F,Y,U,_⟩:=rZ N (B j) h
 refine⟨G,J,m,Y,M.mono F.cR,λk=>?_⟩
 show ar J m l' _ (if j=k then .d d else ag.get s.t k)
 split
 ·rename_i e;subst e;exact .d _ _ U
 exact(B k).mono F
def N0{l:List AO}{t:T}{d:D}{l':List AO}{id:Nat}{ty:TypeId}{cs:List T}(j:l[id]?=some (.var ty cs))(h:dc l t=some (d,l')):l'[id]?=some (.var ty cs):=by
 have:=Bo h id (by unfold ag.isVar;rw[j];rfl)
 rw[this];exact j
def Sub.SN(id k:Nat){ty:TypeId}{cs:List T}{t:T}{d:D}{l':List AO}(ab:s.l[id]?=some (.var ty cs))(M:cs[k]?=some t)(h:dc s.l t=some (d,l')):Sub s ⟨s.t,l'.set id (.var ty (cs.set k (.d d)))⟩:=by
 intro w0 I0 n a w ao
 obtain⟨aj,I,m,Z,ak,al⟩:=ao
 obtain⟨b,vs,Y,av,af,ag,ah,aw⟩:=Z.obj id _ ab
 have O:k<vs.size:=by rw[ag];exact(da.1 M).1
 obtain⟨J,aa,ai,aq,_⟩:=rZ Z (ah k _ _ (e8 O) M).1 h
 have U:=N0 ab h
 have N:Le J m l' J m (l'.set id (.var ty (cs.set k (.d d)))):=Le.setKind U rfl rfl (λe size els h=>by rcases h with h|h<;>cases h)
 obtain⟨b,ax,B,ar,G,au,ad,ae⟩:=ai.obj id _ U
 rw[Y]at B;injection B with B;injection B with B;injection B with B;subst B
 rw[af]at G;injection G with G;injection G with G _ _;subst G
 refine⟨aj,J,m,ai.kv U (by simp) (b:=_) (by rw[Y];rfl) ae rfl rfl N rfl rfl rfl (eb _) (eb _) (λ_ _=>rfl) ⟨_,vs,Y,ar,af,by simpa using ag,λi x t F ht=>?_,ae⟩,ak.mono aa.cR,λj=>((al j).mono aa).mono N⟩
 rw[e5]at ht
 split at ht
 ·rename_i an
  subst an
  split at ht
  ·injection ht with ht;subst ht
   rw[e8 O]at F
   injection F with F;subst F
   exact⟨.d _ _ aq,(ah k _ _ (e8 O) M).2⟩
  cases ht
 exact⟨(ad i x t F ht).1.mono N,(ad i x t F ht).2⟩
def Sub.Ud{id e size:Nat}{els:List D}(j:s.l[id]?=some (.row e size els)):Sub s ⟨s.t,s.l.set id (.bg e size els)⟩:=by
 intro w0 I0 n a w U
 obtain⟨M,I,m,B,N,O⟩:=U
 obtain⟨xs,Z,ab,ad,ae⟩:=B.obj id _ j
 obtain⟨_,A,aa,c,G⟩:=tE Z
 have ht:ar I m s.l (m id) (.row id):=by
  rw[G];exact .row A aa c id (da.1 j).1 (λ_=>G)
 obtain⟨J,F,Y,_,_⟩:=rZ B ht (x:=.slice size els) (l':=s.l.set id (.bg e size els)) (by simp only[dc,cH,j])
 exact⟨M,J,m,Y,N.mono F.cR,λk=>(O k).mono F⟩
end
section
variable {P:Program}{V:Env}{C:Cx}{ρ ρ':aN}{σ bC:Sk}{s:St}
def M6:∀(t:List (Nat×TX))(j:Nat)(x:TX)(k:Nat),aV (ma j x t) k=aV t k\/(k=j/\aV (ma j x t) k=x)
 | [],j,x,k=>Or.inl rfl
 | (i,u)::r,j,x,k=>by
  simp only[ma]
  cases F:Nat.beq i j with
  |true=>
   have:=et F
   subst this
   simp only[cond_true,aV]
   cases B:Nat.beq i k with
   |true=>exact .inr ⟨(et B).symm,by simp⟩
   |false=>exact .inl (by simp)
  |false=>
   simp only[cond_false,aV]
   cases B:Nat.beq i k with
   |true=>exact .inl (by simp)
   |false=>simpa using M6 r j x k
def bf.slot{j:Nat}{x:TX}{u:T}{lX:List AX}{l':List AO}(h:∀k,RX ρ (aV σ.t k) (get s.t k))(G:RX ρ x u)(N:dY σ.n ρ)(O:RL ρ lX l'):bf ρ ⟨σ.n,ma j x σ.t,lX⟩ ⟨(j,u)::s.t,l'⟩:=by
 refine⟨N,λk=>?_,O⟩
 show RX ρ (aV (ma j x σ.t) k) (if j=k then u else get s.t k)
 rcases M6 σ.t j x k with e| ⟨rfl,e⟩
 ·by_cases F:j=k
  ·subst F
   rw[if_pos rfl]
   rcases M σ.t j x with e2|e2
   ·rw[e2];exact G
   rw[e2];exact .undef _
  rw[if_neg F,e];exact h k
 rw[if_pos rfl,e];exact G
where M:∀(t:List (Nat×TX))(j:Nat)(x:TX),aV (ma j x t) j=x\/aV (ma j x t) j = .undef
 | [],j,x=>.inr rfl
 | (i,u)::r,j,x=>by
  simp only[ma]
  cases B:Nat.beq i j with
  |true=>simp only[cond_true,aV,B];exact .inl trivial
  |false=>simp only[cond_false,aV,B];exact M r j x
def Hp(
          h:bf ρ σ s){p:Pl}{c:Co}(B:oS σ p c=some bC):∃s',Sub s s'/\bf ρ bC s'/\bC.n=σ.n:=by
 cases c with
 |sq e t=>
  simp only[oS]at B
  cases G:dG t with
  |false=>simp[G]at B
  |true=>
   simp only[G,qn,cond_false]at B
   split at B
   ·rename_i z M
    simp only[c5]at B;subst B
    have au:σ.l.length=s.l.length:=h.l.len
    cases p with
    |obj id=>cases M
    |slot j=>
     have az:get s.t j = .bu z:=by
      have:=h.t j
      simp only[mu]at M
      rw[M]at this
      exact y3 this
     refine⟨_,Sub.sq j e t.size az,?_,rfl⟩
     show bf ρ ⟨σ.n,ma j (.row σ.l.length) σ.t,_⟩ _
     rw[au]
     exact bf.slot h.t (.row _) h.eE (F2.app h.l (.cons (.row e t _ ([]:List t.den) (cE G) rfl) .nil))
    |cell id k=>
     simp only[mu]at M
     cases F:σ.l[id]? with
     |none=>simp[F]at M
     |some av=>
      obtain⟨ab,O,U⟩:=F2.left h.l F
      cases U with
      |var ty xs ts ae=>
       simp only[F]at M
       have aA:xs[k]?=some (.bu z):=by
        cases Y:xs[k]? with
        |none=>rw[Y]at M;simp at M
        |some y=>rw[Y]at M;simp at M;rw[M]
       obtain⟨u,an,al⟩:=ae.left aA
       have:=y3 al
       subst this
       refine⟨_,Sub.Hg id k e t.size O an,?_,?_⟩
       ·have ay:(σ.l++[AX.row false e t (.nil t)])[id]?=some (.var ty xs):=by
         rw[e3 (da.1 F).1];exact F
        simp only[uq,ay]
        refine⟨h.eE,h.t,?_⟩
        rw[au]
        exact F2.set (F2.app h.l (.cons (.row e t _ ([]:List t.den) (cE G) rfl) .nil)) (.var ty _ _ (ae.set (.row _) k)) id
       simp only[uq];split<;>rfl
      |_=>simp[F]at M
   cases B
 |data t=>
  simp only[oS]at B
  cases G:dG t with
  |false=>simp[G]at B
  |true=>
   simp only[G,qn,cond_false]at B
   split at B
   ·rename_i x l' N
    simp only[c5]at B;subst B
    cases p with
    |obj id=>simp[mu,lu,gn]at N
    |slot j=>
     simp only[mu]at N
     obtain⟨v,aF,aq,af,ag⟩:=Bn h.l (h.t j) N
     exact⟨_,Sub.SL j af,bf.slot h.t (.d t x v (cE G) aq) h.eE ag,rfl⟩
    |cell id k=>
     simp only[mu]at N
     cases F:σ.l[id]? with
     |none=>simp only[F]at N;simp[lu,gn]at N
     |some av=>
      obtain⟨ab,O,U⟩:=F2.left h.l F
      cases U with
      |var ty xs ts ae=>
       simp only[F]at N
       cases Y:xs[k]? with
       |none=>rw[Y]at N;simp[lu,gn]at N
       |some y=>
        rw[Y]at N
        obtain⟨u,an,al⟩:=ae.left Y
        obtain⟨v,aF,aq,af,ag⟩:=Bn h.l al N
        refine⟨_,Sub.SN id k O an af,?_,?_⟩
        ·have aB:=N0 O af
         obtain⟨aG,ax,aw⟩:=F2.right ag aB
         simp only[uq]
         cases aw with
         |var _ aH _ aE=>
          simp only[ax]
          exact⟨h.eE,h.t,F2.set ag (.var ty _ _ (aE.set (.d t x v (cE G) aq) k)) id⟩
         |ey _ Y=>cases Y
        simp only[uq];split<;>rfl
      |_=>simp only[F]at N;simp[lu,gn]at N
   cases B
 |yr=>
  simp only[oS]at B
  split at B
  ·rename_i id M
   split at B
   ·rename_i e t x F
    simp only[c5]at B;subst B
    obtain⟨ab,O,U⟩:=F2.left h.l F
    cases U with
    |row _ _ _ zs ar aa=>exact⟨_,Sub.Ud O,⟨h.eE,h.t,F2.set h.l (.bg e t x zs ar aa) id⟩,rfl⟩
   cases B
  cases B
 |grow e kk t=>
  simp only[oS]at B
  split at B
  ·rename_i id M
   split at B
   ·rename_i a F
    split at B
    ·rename_i x aa
     cases G:(dG t&&Nat.ble 1 t.size)with
     |false=>simp[G]at B
     |true=>
      simp only[G,cond_true,c5]at B;subst B
      simp only[dd]at G
      obtain⟨ab,O,U⟩:=F2.left h.l F
      obtain⟨m,aC,aD⟩:=N1 (cE G.1) (hG G.2) U aa
      exact⟨⟨s.t,s.l.set id (.bn e t.size (m.map λp=>D.int kk p.1) (m.map λp=>(Ty.list t).enc p.2) none)⟩,λw0 I0 n a w ak=>by
       obtain⟨ah,I,m',ai,ad,aj⟩:=ak
       obtain⟨Z,ao⟩:=aD w0 I0 w I m' s.l id O ai
       exact⟨ah,I,m',ao,ad.mono Z.cR,λk=>(aj k).mono Z⟩,⟨h.eE,h.t,F2.set h.l (.bn e kk t x m (cE G.1) (hG G.2) aC) id⟩,rfl⟩
    cases B
   cases B
  cases B
 |Bz=>
  simp only[oS]at B
  split at B
  ·rename_i id M
   split at B
   ·rename_i e kk t x F
    simp only[c5]at B;subst B
    obtain⟨ab,O,U⟩:=F2.left h.l F
    cases U with
    |bn _ _ _ _ m ar ad aa=>
     exact⟨⟨s.t,s.l.set id (.map (m.map λp:Int×List t.den=>D.int kk p.1) (m.map λp:Int×List t.den=>(Ty.list t).enc p.2))⟩,λw0 I0 n a w ak=>by
      obtain⟨ah,I,m',ai,ad,aj⟩:=ak
      obtain⟨Z,ao⟩:=ai.JY O
      exact⟨ah,I,m',ao,ad.mono Z.cR,λk=>(aj k).mono Z⟩,⟨h.eE,h.t,F2.set h.l (.map (.int kk) (.list t) x m (cE rfl) (cE rfl) aa) id⟩,rfl⟩
   cases B
  cases B
def Sub.trans'{a b c:St}(h:Sub a b)(k:Sub b c):Sub a c:=λw0 I0 n x w j=>k w0 I0 n x w (h w0 I0 n x w j)
def VT:∀(f:Nat){A B F j:Sk}{ps:jP}{s:St},bf ρ B s->meet f A B=some (F,j,ps)->∃s',Sub s s'/\bf ρ j s'/\j.n=B.n:=by
 intro f
 induction f with
 |zero=>intro A B F j ps s _ h;simp[meet]at h
 |succ f M=>
  intro A B F j ps s G h
  simp only[meet]at h
  split at h
  ·simp only[c5,e1]at h
   obtain⟨_,rfl,_⟩:=h
   exact⟨s,Sub.refl s,G,rfl⟩
  rename_i ag ah af N _
  split at h
  ·rename_i ad ae _ k
   cases N with
   |none=>
    simp only[yd,c5]at k
    subst k
    exact M G h
   |some c=>
    simp only[yd]at k
    obtain⟨s1,O,U,Y⟩:=Hp G k
    obtain⟨s2,Z,aa,ab⟩:=M U h
    exact⟨s2,Sub.trans' O Z,aa,ab.trans Y⟩
  cases h
end
end Go.Sy
namespace Go.Sy
open Go Go.ag
variable [aD][cF][cz][c9][bd][bP]
section
variable {P:Program}{V:Env}{C:Cx}{ρ ρ':aN}{σ bC:Sk}{s:St}
def mI(id:Nat):∀(ids:List Nat)(k:Nat),sW id ids k=ag.idx id ids k
 | [],k=>rfl
 |x::xs,k=>by
  simp only[sW,ag.idx]
  by_cases h:x=id
  ·subst h;simp
  have:Nat.beq x id=false:=by
   cases e:Nat.beq x id with
   |false=>rfl
   |true=>exact absurd (et e) h
  rw[this,if_neg h];exact mI id xs (k+1)
def Mo{ids:List Nat}{c:TX}{t:T}(h:RX ρ c t)(B:qJ c=true):RX ρ (AY ids c) (t.rO ids):=by
 cases h with
 |d t x v j k=>exact .d t x v j k
 |ptr id off=>
  simp only[AY,T.rO,fo,mI]
  cases ag.idx id ids 0<;>constructor
 |aW id=>
  simp only[AY,T.rO,fo,mI]
  cases ag.idx id ids 0<;>constructor
 |_=>simp[qJ]at B
def oB{ids:List Nat}{c:TX}{t:T}(h:RX ρ c t):RX ρ (oA ids c) (t.cK ids):=by
 cases h with
 |d t x v B F=>exact .d t x v B F
 |undef t=>exact .undef _
 |gone=>exact .undef _
 |bu s=>exact .bu s
 |dV=>exact .dV
 |ptr id off=>simp only[oA,T.cK,fo,mI];cases ag.idx id ids 0<;>constructor
 |br t e b off size els k v B F G M N O=>exact .br t e b off size els k v B F G M N O
 |row id=>simp only[oA,T.cK,fo,mI];cases ag.idx id ids 0<;>constructor
 |bj id k off kk n B=>
  simp only[oA,T.cK,fo,mI]
  cases ag.idx id ids 0 with
  |some j=>exact .bj _ k off kk n B
  |none=>exact .undef _
 |map id=>simp only[oA,T.cK,fo,mI];cases ag.idx id ids 0<;>constructor
 |aW id=>simp only[oA,T.cK,fo,mI];cases ag.idx id ids 0<;>constructor
 |cw id n=>simp only[oA,T.cK,fo,mI];cases ag.idx id ids 0<;>constructor
 |bB id t x xs B=>
  simp only[oA,T.cK,mI]
  cases ag.idx id ids 0 with
  |some j=>exact .bB _ t x xs B
  |none=>exact rP B
 |sub=>exact .undef _
 |agg cs ts B F=>exact .undef _
 |iQ cs ds B F=>exact .undef _
 |aJ cs ts B F=>exact .undef _
 |fE cs ds B F=>exact .undef _
 |aB f cs ts B F=>exact .undef _
 |iT f cs ds B F=>exact .undef _
def AZ{ids:List Nat}{c:TX}{t:T}(h:RX ρ c t):RX ρ (c.re ids) (t.bM ids):=by
 cases h with
 |d t x v B F=>exact .d t x v B F
 |undef t=>exact .undef _
 |gone=>exact .undef _
 |bu s=>exact .bu s
 |dV=>exact .dV
 |ptr id off=>exact oB (.ptr id off)
 |br t e b off size els k v B F M O Z aa=>exact .br t e b off size els k v B F M O Z aa
 |row id=>exact oB (.row id)
 |bj id k off kk n B=>exact oB (.bj id k off kk n B)
 |map id=>exact oB (.map id)
 |aW id=>exact oB (.aW id)
 |cw id n=>exact oB (.cw id n)
 |bB id t x xs B=>exact oB (.bB id t x xs B)
 |sub=>exact .undef _
 |agg cs ts B F=>
  refine .agg _ _ (by simpa using B) λi c t j ht=>?_
  simp only[e0,e6]at j ht
  obtain⟨G,j,rfl⟩:=j
  obtain⟨t',ht,rfl⟩:=ht
  exact oB (F i G t' j ht)
 |iQ cs ds B F=>
  refine .iQ _ _ (by simpa using B) λi c d j U=>?_
  simp only[e0,e6]at j
  obtain⟨G,j,rfl⟩:=j
  exact oB (ids:=ids) (F i G d j U)
 |aJ cs ts B F=>
  simp only[TX.re]
  cases N:cs.all yF with
  |false=>exact .undef _
  |true=>
   have:ts.all T.data=true:=by
    rw[dT]at N⊢
    intro t ht
    obtain⟨i,hi,rfl⟩:=hA.1 ht
    have j:cs[i]?=some (cs[i]'(by omega)):=c4 (by omega)
    have M:=F i _ _ j (c4 hi)
    have O:=N _ (hT (by omega:i<cs.length))
    generalize cs[i]'(by omega)=c at M O
    generalize ts[i]=t at M
    cases M<;>first|rfl| (simp[yF]at O;done)
   simp only[cond_true,T.bM,this,hQ]
   exact .aJ cs ts B F
 |fE cs ds B F=>
  simp only[TX.re]
  cases N:cs.all yF with
  |false=>exact .undef _
  |true=>exact .fE cs ds B F
 |aB f cs ts B F=>
  simp only[TX.re]
  cases N:cs.all qJ with
  |false=>exact .undef _
  |true=>
   have Y:∀(i:Nat) c,cs[i]?=some c->qJ c=true:=λi c j=>by
    rw[dT]at N;exact N c (dn j)
   have:ts.all T.flat=true:=by
    rw[dT]
    intro t ht
    obtain⟨i,hi,rfl⟩:=hA.1 ht
    have j:cs[i]?=some (cs[i]'(by omega)):=c4 (by omega)
    have M:=F i _ _ j (c4 hi)
    have O:=Y i _ j
    generalize cs[i]'(by omega)=c at M O
    generalize ts[i]=t at M
    cases M<;>first|rfl| (simp[qJ]at O;done)
   have e:(T.aB f ts).bM ids = .aB f (ts.map (T.rO ids)):=by
    simp only[T.bM,T.cK,this,hQ]
   rw[e]
   refine .aB f _ _ (by simpa using B) λi c t j ht=>?_
   simp only[e0,e6]at j ht
   obtain⟨G,j,rfl⟩:=j
   obtain⟨t',ht,rfl⟩:=ht
   exact Mo (F i G t' j ht) (Y i G j)
 |iT f cs ds B F=>
  simp only[TX.re]
  cases N:cs.all qJ with
  |false=>exact .undef _
  |true=>
   refine .iT f _ _ (by simpa using B) λi c d j U=>?_
   simp only[e0,e6]at j
   obtain⟨G,j,rfl⟩:=j
   rw[dT]at N
   exact Mo (ids:=ids) (F i G d j U) (N G (dn j))
def y4:∀{ids:List Nat},lT ids=true->ids.Nodup
 | [],_=>List.nodup_nil
 |x::xs,h=>by
  simp only[lT,dd,hC]at h
  refine iu.2 ⟨λj=>?_,y4 h.2⟩
  have:(xs.any λy=>Nat.beq x y)=true:=hU.2 ⟨x,j,ik x⟩
  rw[this]at h;simp at h
def OW{ids:List Nat}{a:AX}{o:AO}(h:bK ρ a o):bK ρ (a.re ids) (o.bM ids):=by
 cases h with
 |dead=>exact .dead
 |var ty cs ts B=>
  refine .var ty _ _ (F2.of (by simp[B.len]) λi c t M ht=>?_)
  simp only[e0,e6]at M ht
  obtain⟨U,M,rfl⟩:=M
  obtain⟨t',ht,rfl⟩:=ht
  exact AZ (B.get M ht)
 |row e t x xs F B=>exact .row e t x xs F B
 |bg e t x xs F B=>exact .bg e t x xs F B
 |map k v x m F G B=>exact .map k v x m F G B
 |dE k v x m F G B=>exact .dE k v x m F G B
 |bn e kk t x m F G B=>exact .bn e kk t x m F G B
 |fc e kk t x k m n F G B O=>exact .fc e kk t x k m n F G B O
 |dj j b rs vals ft B G=>exact .dj j b rs vals ft B G
 |lp j b rs st k ps aU N tm B G=>exact .lp j b rs st k ps aU N tm B G
 |ey o h=>exact(by cases o<;>first|exact .ey _ h|cases h)
def yw(f:TX->TX)(j:f .undef = .undef):∀(t:List (Nat×TX))(k:Nat),aV (t.map λp=>(p.1,f p.2)) k=f (aV t k)
 | [],k=>j.symm
 | (i,u)::r,k=>by
  simp only[fv,aV]
  cases Nat.beq i k with
  |true=>rfl
  |false=>exact yw f j r k
def Sk.Mp{ids:List Nat}(h:bf ρ σ s)(aj:ids.Nodup)(Y:qL ids σ.l=true):∃s':St,(uH ids s.l/\cL ids s.l=s'.l/\jV ids s.t s'.t)/\bf ρ (σ.re ids) s':=by
 have ae:uH ids s.l:=by
  intro id af o b t ab Z
  unfold qL at Y
  rw[dT]at Y
  have:=Y id af
  obtain⟨a,M,U⟩:=F2.right h.l ab
  rw[M]at this
  have fin:∀rs,(Nat.ble b ids.length&&rs.all λr=>Nat.blt r b&&(match ids[r]? with|some i=>Nat.beq i r|none=>false))=true->mj t rs->b<=ids.length/\∀k,∀r∈ej (ag.get t k),r<b/\ids[r]?=some r:=by
   intro rs B F
   rw[dd,dT]at B
   refine⟨hG B.1,λk r ah=>?_⟩
   have N:=B.2 r (F k r ah)
   rw[dd]at N
   refine⟨hG N.1,?_⟩
   have O:=N.2
   split at O
   ·rename_i i hi
    have:=et O
    subst this;exact hi
   cases O
  cases U with
  |dj j ad rs vals ft B F=>cases Z;exact fin rs this F
  |lp j ad rs st k ps aU ai tm B F=>cases Z;exact fin rs this F
  |ey o h=>cases this
  |_=>cases Z
 refine⟨⟨σ.t.map λp=>(p.1,(ag.get s.t p.1).bM ids),cL ids s.l⟩,⟨ae,rfl,?_⟩,h.eE,λk=>?_,?_⟩
 ·have:∀(r:List (Nat×TX)),jV ids s.t (r.map λp=>(p.1,(ag.get s.t p.1).bM ids)):=by
   intro r
   induction r with
   |nil=>trivial
   |cons p r G=>exact⟨rfl,G⟩
  exact this _
 ·show RX ρ (aV (σ.t.map λp=>(p.1,p.2.re ids)) k) _
  rw[yw (TX.re ids) rfl]
  have key:∀(r:List (Nat×TX)),(ag.get (r.map λp=>(p.1,(ag.get s.t p.1).bM ids)) k=(ag.get s.t k).bM ids)\/aV r k = .undef:=by
   intro r
   induction r with
   |nil=>exact .inr rfl
   |cons p r G=>
    obtain⟨i,u⟩:=p
    simp only[fv,ag.get,aV]
    by_cases aa:i=k
    ·subst aa;rw[if_pos rfl];exact .inl rfl
    have:Nat.beq i k=false:=by
     cases e:Nat.beq i k with
     |false=>rfl
     |true=>exact absurd (et e) aa
    rw[if_neg aa,this];exact G
  rcases key σ.t with e|e
  ·rw[e];exact Go.Sy.AZ (h.t k)
  rw[e];exact .undef _
 show F2 (bK ρ) (ids.map λid=>((σ.l[id]?).getD .dead).re ids) (ids.map λid=>((s.l[id]?).getD .dead).bM ids)
 have:∀is:List Nat,F2 (bK ρ) (is.map λid=>((σ.l[id]?).getD .dead).re ids) (is.map λid=>((s.l[id]?).getD .dead).bM ids):=by
  intro is
  induction is with
  |nil=>exact .nil
  |cons id is G=>
   refine .cons (OW ?_) G
   cases M:σ.l[id]? with
   |none=>rw[F2.none h.l M];exact .dead
   |some a=>
    obtain⟨o,ab,U⟩:=F2.left h.l M
    rw[ab];exact U
 exact this ids
def Sk.AZ{ids:List Nat}(h:bf ρ σ s)(j:lT ids=true)(M:qL ids σ.l=true):∃s',Sub s s'/\bf ρ (σ.re ids) s':=by
 obtain⟨s',⟨k,B,F⟩,G⟩:=Sk.Mp h (y4 j) M
 exact⟨s',Zw ids (y4 j) k B F,G⟩
end
end Go.Sy
namespace Go.Sy
open Go Go.ag
variable [aD][Λ:cF][cz][c9][bd][R0:bP]
section
variable {P:Program}{V:Env}{C:Cx}{ρ ρ':aN}{σ bC:Sk}{s:St}
def lb{i j:Nat}(h:i≠j):Nat.beq i j=false:=by
 cases e:Nat.beq i j with
 |false=>rfl
 |true=>exact absurd (et e) h
def sV(m k j:Nat):hasB (jn m k) j=(hasB m j||decide (k=j)):=by
 have h:∀m j:Nat,hasB m j=m.testBit j:=λm j=>by
  unfold hasB Nat.testBit
  have:∀x:Nat,Nat.beq (Nat.land x 1) 1=(1 &&& x != 0):=λx=>by
   show Nat.beq (x &&& 1) 1=_
   rw[Nat.and_comm 1 x,Nat.and_one_is_mod]
   have:=Nat.mod_two_eq_zero_or_one x
   rcases this with h|h<;>rw[h]<;>rfl
  exact this _
 rw[h,h]
 show(m ||| (1 <<< k)).testBit j=_
 rw[Nat.testBit_or]
 congr 1
 rw[Nat.testBit_shiftLeft]
 by_cases e:k=j
 ·subst e;simp
 simp[e]
 intro F
 have:j-k≠0:=by omega
 obtain⟨q,B⟩:∃q,j-k=q+1:=⟨j-k-1,by omega⟩
 rw[B,Nat.testBit_succ]
 simp
def gB(k:Nat):List (Nat×TX)->Bool
 | []=>false
 | (i,_)::r=>Nat.beq i k||gB k r
def Dj{k:Nat}:∀{t:List (Nat×TX)},gB k t=false->aV t k = .undef
 | [],_=>rfl
 | (i,u)::r,h=>by
  simp only[gB,nh]at h
  simp only[aV,h.1,cond_false]
  exact Dj h.2
def yD(j:Nat)(x:TX):∀(t:List (Nat×TX))(k:Nat),k≠j->aV (nS j x t) k=aV t k/\gB k (nS j x t)=gB k t
 | [],k,h=>by
  have:=lb (λe:j=k=>h e.symm)
  simp[nS,aV,gB,this]
 | (i,u)::r,k,h=>by
  have B:=lb (λe:j=k=>h e.symm)
  simp only[nS]
  cases M:Nat.ble j i with
  |true=>
   cases N:Nat.beq j i with
   |true=>simp
   |false=>simp[aV,gB,B]
  |false=>
   simp only[cond_false,aV,gB]
   obtain⟨F,G⟩:=yD j x r k h
   rw[F,G];exact⟨rfl,rfl⟩
def Kb(j:Nat)(x:TX):∀(t:List (Nat×TX)),gB j t=false->aV (nS j x t) j=x
 | [],_=>by simp[nS,aV]
 | (i,u)::r,h=>by
  simp only[gB,nh]at h
  simp only[nS]
  cases k:Nat.ble j i with
  |true=>
   have:Nat.beq j i=false:=lb (λe=>by subst e;simp at h)
   simp[this,aV]
  |false=>simp only[cond_false,aV,h.1];exact Kb j x r h.2
def A6(F:Nat):∀(t:List (Nat×TX))(seen k:Nat),(hasB seen k=true->gB k (jg F t seen)=false)/\(hasB seen k=false->aV (jg F t seen) k = .undef\/aV (jg F t seen) k=aV t k)
 | [],seen,k=>⟨λ_=>rfl,λ_=>.inl rfl⟩
 | (
    i,u)::r,seen,k=>by
  simp only[jg]
  have M:=A6 F r (jn seen i) k
  have U:=A6 F r seen k
  have ab:=A6 F r (jn seen i) i
  cases G:(hasB F i && !hasB seen i)with
  |false=>
   simp only[cond_false]
   refine⟨U.1,λh=>?_⟩
   by_cases B:i=k
   ·subst B
    have aa:hasB F i=false:=by simpa [h]using G
    left
    have:∀(t:List (Nat×TX))(seen:Nat),gB i (jg F t seen)=false:=by
     intro t
     induction t with
     |nil=>intro _;rfl
     |cons p t N=>
      obtain⟨j,w⟩:=p
      intro seen
      simp only[jg]
      cases Y:(hasB F j && !hasB seen j)with
      |false=>exact N seen
      |true=>
       have Z:i≠j:=by rintro rfl;simp[aa]at Y
       simp only[cond_true]
       cases vw w with
       |true=>exact N _
       |false=>simp only[cond_false];rw[(yD j w _ i Z).2];exact N _
    exact Dj (this r seen)
   rcases U.2 h with e|e
   ·exact .inl e
   right;rw[e];simp only[aV,lb B,cond_false]
  |true=>
   simp only[cond_true]
   simp only[dd,hC]at G
   have O:gB i (jg F r (jn seen i))=false:=ab.1 (by rw[sV];simp)
   cases ad:vw u with
   |true=>
    simp only[cond_true]
    refine⟨λh=>M.1 (by rw[sV,h];rfl),λh=>?_⟩
    by_cases B:i=k
    ·subst B;exact .inl (Dj O)
    rcases M.2 (by rw[sV,h];simp[B])with e|e
    ·exact .inl e
    right;rw[e];simp only[aV,lb B,cond_false]
   |false=>
    simp only[cond_false]
    refine⟨λh=>?_,λh=>?_⟩
    ·have B:k≠i:=by rintro rfl;rw[h]at G;simp at G
     rw[(yD i u _ k B).2]
     exact M.1 (by rw[sV,h];rfl)
    by_cases B:i=k
    ·subst B
     right
     rw[Kb i u _ O]
     simp[aV]
    rw[(yD i u _ k (λe=>B e.symm)).1]
    rcases M.2 (by rw[sV,h];simp[B])with e|e
    ·exact .inl e
    right;rw[e];simp only[aV,lb B,cond_false]
def JZ(k:Nat):hasB 0 k=false:=by
 unfold hasB
 have:Nat.shiftRight 0 k=0:=Nat.zero_shiftRight k
 rw[this];rfl
theorem uj(j:Nat)(h:bf ρ σ s):bf ρ (σ.cu j) s:=by
 refine⟨h.eE,λk=>?_,h.l⟩
 show RX ρ (aV (jg j σ.t 0) k) _
 rcases (A6 j σ.t 0 k).2 (JZ k)with e|e
 ·rw[e];exact .undef _
 rw[e];exact h.t k
mutual
theorem TX.beq_eq:∀{x y:TX},TX.beq x y=true->x=y
 |.undef,y,h=>by cases y<;>simp[TX.beq]at h<;>rfl
 |.gone,y,h=>by cases y<;>simp[TX.beq]at h<;>rfl
 |.d t x,y,h=>by
  cases y<;>simp[TX.beq]at h
  obtain⟨rfl,j⟩:=h
  rw[X.beq_eq j]
 |.bu s,y,h=>by cases y<;>simp[TX.beq]at h;rw[h]
 |.dV,y,h=>by cases y<;>simp[TX.beq]at h<;>rfl
 |.ptr i o,y,h=>by cases y<;>simp[TX.beq]at h;rw[h.1,h.2]
 |.br t e o,y,h=>by
  cases y<;>simp[TX.beq]at h
  obtain⟨⟨rfl,j⟩,B⟩:=h
  rw[X.beq_eq j,B]
 |.row i,y,h=>by cases y<;>simp[TX.beq]at h;rw[h]
 |.bj i k o,y,h=>by
  cases y<;>simp[TX.beq]at h
  obtain⟨⟨rfl,j⟩,B⟩:=h
  rw[X.beq_eq j,B]
 |.map i,y,h=>by cases y<;>simp[TX.beq]at h;rw[h]
 |.aW i,y,h=>by cases y<;>simp[TX.beq]at h;rw[h]
 |.cw i n,y,h=>by cases y<;>simp[TX.beq]at h;rw[h.1,h.2]
 |.bB i t x,y,h=>by
  cases y<;>simp[TX.beq]at h
  obtain⟨⟨rfl,rfl⟩,B⟩:=h
  rw[X.beq_eq B]
 |.agg a,y,h=>by
  cases y<;>simp[TX.beq]at h
  rw[TX.uN h]
 |.aJ a,y,h=>by
  cases y<;>simp[TX.beq]at h
  rw[TX.uN h]
 |.aB f a,y,h=>by
  cases y<;>simp[TX.beq]at h
  rw[h.1,TX.uN h.2]
theorem TX.uN:∀{x y:List TX},TX.oW x y=true->x=y
 | [],y,h=>by cases y<;>simp[TX.oW]at h<;>rfl
 |a::r,y,h=>by
  cases y<;>simp[TX.oW]at h
  rw[TX.beq_eq h.1,TX.uN h.2]
end
def NV:∀{x y:List (Nat×TX)},rY x y=true->x=y
 | [],[],_=>rfl
 | (i,a)::r,(j,b)::s,h=>by
  simp only[rY,dd]at h
  rw[et h.1.1,TX.beq_eq h.1.2,NV h.2]
 | [],_::_,h=>by simp[rY]at h
 |_::_,[],h=>by simp[rY]at h
def AX.beq_eq{x y:AX}(h:AX.beq x y=true):x=y:=by
 cases x<;>cases y<;>simp[AX.beq]at h
 ·rfl
 ·rw[h.1,TX.uN h.2]
 ·obtain⟨⟨⟨j,k⟩,B⟩,F⟩:=h;rw[j,k,B,X.beq_eq F]
 ·obtain⟨⟨⟨j,k⟩,B⟩,F⟩:=h;rw[j,k,B,X.beq_eq F]
 ·obtain⟨⟨⟨j,k⟩,B⟩,F⟩:=h;rw[j,k,B,X.beq_eq F]
 ·obtain⟨⟨⟨⟨j,k⟩,B⟩,F⟩,G⟩:=h;rw[j,k,B,X.beq_eq F,X.beq_eq G]
 ·obtain⟨⟨j,k⟩,B⟩:=h;rw[j,k,B]
 ·obtain⟨⟨⟨j,k⟩,B⟩,F⟩:=h;rw[j,k,B,F]
 rfl
def xJ:∀{x y:List AX},lF x y=true->x=y
 | [],[],_=>rfl
 |a::r,b::s,h=>by
  simp only[lF,dd]at h
  rw[AX.beq_eq h.1,xJ h.2]
 | [],_::_,h=>by simp[lF]at h
 |_::_,[],h=>by simp[lF]at h
structure uG(n h:Nat)(ρ:aN)(g:Nat->X)(ρ':aN)(g':Nat->X):Prop where
 lk:∀i v,i<n->lk ρ i=some v->lk ρ' i=some v
 g:∀p v,p<h->(g p).den ρ=some v->(g' p).den ρ'=some v
def H9{i n:Nat}(h:Nat.blt i n=true):i<n:=hG h
theorem X.fj{n h:Nat}{g U:Nat->X}(aa:uG n h ρ g ρ' U):∀{x:X},x.cA n h=true->∀{v:Sy.V},(x.fill g).den ρ=some v->(x.fill U).den ρ'=some v:=by
 intro x
 induction x with
 |var i=>intro B v k;exact aa.lk i v (H9 B) k
 |hole p=>intro B v k;exact aa.g p v (H9 B) k
 |pair a b ad ae=>
  intro B v k
  simp only[X.cA,dd]at B
  simp only[X.fill,X.den]at k⊢
  cases Y:(a.fill g).den ρ<;>cases Z:(b.fill g).den ρ<;>simp[Y,Z]at k
  rw[ad B.1 Y,ae B.2 Z];simp[k]
 |aB f x M|box x M|proj i j x M|mk i x M|u1 o x M=>
  intro B v k
  simp only[X.cA]at B
  simp only[X.fill,X.den]at k⊢
  cases F:(x.fill g).den ρ<;>simp[F]at k
  rw[M B F];simpa using k
 |u2 o x y N O=>
  intro B v k
  simp only[X.cA,dd]at B
  simp only[X.fill,X.den]at k⊢
  cases F:(x.fill g).den ρ<;>cases G:(y.fill g).den ρ<;>simp[F,G]at k
  rw[N B.1 F,O B.2 G];simpa using k
 |u3 o x y z N O af=>
  intro B v k
  simp only[X.cA,dd]at B
  simp only[X.fill,X.den]at k⊢
  cases F:(x.fill g).den ρ<;>cases G:(y.fill g).den ρ<;>cases ab:(z.fill g).den ρ<;>simp[F,G,ab]at k
  rw[N B.1.1 F,O B.1.2 G,af B.2 ab];simpa using k
 |_=>intro B v k;exact k
mutual
theorem TX.fj {n h:Nat} {g aa:Nat->X} (Y:uG n h ρ g ρ' aa):∀{c:TX},c.cA n h=true->∀{t:T},RX ρ (c.fill g) t->RX ρ' (c.fill aa) t
 |.undef,_,t,_=>.undef t
 |.gone,_,t,j=>by simp only[TX.fill]at j⊢;cases j;exact .gone
 |.d t x,B,u,j=>by
  simp only[TX.fill]at j⊢
  obtain⟨ah,v,F,rfl⟩:=jS j
  exact .d t _ v ah (X.fj Y B F)
 |.bu s,_,t,j=>by simp only[TX.fill]at j⊢;cases j;exact .bu _
 |.dV,_,t,j=>by simp only[TX.fill]at j⊢;cases j;exact .dV
 |.ptr i o,_,t,j=>by simp only[TX.fill]at j⊢;cases j;exact .ptr _ _
 |.br t e o,B,u,j=>by
  simp only[TX.fill]at j⊢
  cases j with
  |br _ _ b off size els k v F O ad ae af ag=>exact .br t _ b _ size els k v F (X.fj Y B O) ad ae af ag
 |.row i,_,t,j=>by simp only[TX.fill]at j⊢;cases j;exact .row _
 |.bj i k o,B,t,j=>by
  simp only[TX.fill]at j⊢
  cases j with
  |bj _ _ _ kk m F=>exact .bj _ _ _ kk m (X.fj Y B F)
 |.map i,_,t,j=>by simp only[TX.fill]at j⊢;cases j;exact .map _
 |.aW i,_,t,j=>by simp only[TX.fill]at j⊢;cases j;exact .aW _
 |.cw i n,_,t,j=>by simp only[TX.fill]at j⊢;cases j;exact .cw _ _
 |.bB i t x,B,u,j=>by
  simp only[TX.fill]at j⊢
  cases j with
  |bB _ _ _ xs F=>exact .bB _ _ _ xs (X.fj Y B F)
 |.agg cs,B,t,j=>by
  simp only[TX.fill,TX.cA]at j B⊢
  obtain⟨M,Z⟩:=TX.vh Y (cs:=cs) B
  cases j with
  |agg _ ts F O=>exact .agg _ ts (by rw[M.2,<-M.1];exact F) λi c t G ht=>Z i c t G λN U=>O i N t U ht
  |iQ _ ds F O=>exact .iQ _ ds (by rw[M.2,<-M.1];exact F) λi c d G ab=>Z i c (.d d) G λN U=>O i N d U ab
 |.aJ cs,B,t,j=>by
  simp only[TX.fill,TX.cA]at j B⊢
  obtain⟨M,Z⟩:=TX.vh Y (cs:=cs) B
  cases j with
  |aJ _ ts F O=>exact .aJ _ ts (by rw[M.2,<-M.1];exact F) λi c t G ht=>Z i c t G λN U=>O i N t U ht
  |fE _ ds F O=>exact .fE _ ds (by rw[M.2,<-M.1];exact F) λi c d G ab=>Z i c (.d d) G λN U=>O i N d U ab
 |.aB f cs,B,t,j=>by
  simp only[TX.fill,TX.cA]at j B⊢
  obtain⟨M,Z⟩:=TX.vh Y (cs:=cs) B
  cases j with
  |aB _ _ ts F O=>exact .aB f _ ts (by rw[M.2,<-M.1];exact F) λi c t G ht=>Z i c t G λN U=>O i N t U ht
  |iT _ _ ds F O=>exact .iT f _ ds (by rw[M.2,<-M.1];exact F) λi c d G ab=>Z i c (.d d) G λN U=>O i N d U ab
theorem TX.vh {n h:Nat} {g aa:Nat->X} (Y:uG n h ρ g ρ' aa):∀{cs:List TX},TX.rk n h cs=true->((TX.jx g cs).length=cs.length/\(TX.jx aa cs).length=cs.length)/\∀(i:Nat) c t,(TX.jx aa cs)[i]?=some c->(∀N,(TX.jx g cs)[i]?=some N->RX ρ N t)->RX ρ' c t
 | [],_=>⟨⟨rfl,rfl⟩,λi c t G=>by simp[TX.jx]at G⟩
 |c0::cs,B=>by
  simp only[TX.rk,dd]at B
  obtain⟨M,Z⟩:=TX.vh Y (cs:=cs) B.2
  refine⟨⟨by simp[TX.jx,M.1],by simp[TX.jx,M.2]⟩,λi c t G j=>?_⟩
  cases i with
  |zero=>
   simp only[TX.jx,List.getElem?_cons_zero,c5]at G j
   subst G
   exact TX.fj Y B.1 (j _ rfl)
  |succ i=>
   simp only[TX.jx,List.getElem?_cons_succ]at G j
   exact Z i c t G j
end
end
end Go.Sy
namespace Go.Sy
open Go Go.ag
variable [aD][cF][cz][c9][bd][bP]
section
variable {P:Program}{V:Env}{C:Cx}{ρ ρ':aN}{σ bC:Sk}{s:St}
theorem AX.fj{n h:Nat}{g U:Nat->X}(O:uG n h ρ g ρ' U){a:AX}(G:a.cA n h=true){o:AO}(F:bK ρ (a.fill g) o):bK ρ' (a.fill U) o:=by
 cases a with
 |dead=>simp only[AX.fill]at F⊢;cases F;exact .dead
 |var ty cs=>
  simp only[AX.fill,AX.cA]at F G⊢
  obtain⟨Y,af⟩:=TX.vh O (cs:=cs) G
  cases F with
  |var _ _ ts B=>exact .var ty _ ts (F2.of (by rw[Y.2,<-Y.1];exact B.len) λi c t ad ht=>af i c t ad λag ae=>B.get ae ht)
 |row aa e t x=>
  simp only[AX.fill,AX.cA]at F G⊢
  cases F with
  |row _ _ _ xs M B=>exact .row e t _ xs M (X.fj O G B)
  |bg _ _ _ xs M B=>exact .bg e t _ xs M (X.fj O G B)
 |map aa k v x=>
  simp only[AX.fill,AX.cA]at F G⊢
  cases F with
  |map _ _ _ m M N B=>exact .map k v _ m M N (X.fj O G B)
  |dE _ _ _ m M N B=>exact .dE k v _ m M N (X.fj O G B)
 |bn e kk t x=>
  simp only[AX.fill,AX.cA]at F G⊢
  cases F with
  |bn _ _ _ _ m M N B=>exact .bn e kk t _ m M N (X.fj O G B)
 |fc e kk t x k=>
  simp only[AX.fill,AX.cA,dd]at F G⊢
  cases F with
  |fc _ _ _ _ _ m n M N B ab=>exact .fc e kk t _ _ m n M N (X.fj O G.1 B) (X.fj O G.2 ab)
 |dj j b rs=>simp only[AX.fill]at F⊢;cases F with|dj _ _ _ vals ft B N=>exact .dj j b rs vals ft B N
 |lp j b rs st=>simp only[AX.fill]at F⊢;cases F with|lp _ _ _ _ k ps aU Z tm B N=>exact .lp j b rs st k ps aU Z tm B N
 |ey=>simp only[AX.fill]at F⊢;cases F with|ey o h=>exact .ey o h
theorem Sk.fj{n h n1 Z:Nat}{g G:Nat->X}(U:uG n h ρ g ρ' G){j:Sk}(M:j.cA n h=true)(ab:dY Z ρ')(Y:bf ρ (j.fill g n1) s):bf ρ' (j.fill G Z) s:=by
 simp only[Sk.cA,dd,dT]at M
 refine⟨ab,λk=>?_,?_⟩
 ·have B:=Y.t k
  show RX ρ' (aV (j.t.map λp=>(p.1,p.2.fill G)) k) _
  have B:RX ρ (aV (j.t.map λp=>(p.1,p.2.fill g)) k) (ag.get s.t k):=B
  rw[yw (TX.fill g) rfl]at B
  rw[yw (TX.fill G) rfl]
  by_cases F:aV j.t k = .undef
  ·rw[F];exact .undef _
  have:∀t:List (Nat×TX),aV t k ≠ .undef->∃p∈t,aV t k=p.2:=by
   intro t
   induction t with
   |nil=>intro h;exact absurd rfl h
   |cons p r ai=>
    intro F
    simp only[aV]at F⊢
    cases e:Nat.beq p.1 k with
    |true=>exact⟨p,by simp,rfl⟩
    |false=>
     rw[e]at F
     obtain⟨q,af,ah⟩:=ai F
     exact⟨q,by simp[af],ah⟩
  obtain⟨p,ae,e⟩:=this j.t F
  rw[e]at B⊢
  exact TX.fj U (M.1 p ae) B
 have B:F2 (bK ρ) (j.l.map (AX.fill g)) s.l:=Y.l
 show F2 (bK ρ') (j.l.map (AX.fill G)) s.l
 refine F2.of (by have:=B.len;simpa using this) λi a o N ad=>?_
 simp only[e0,e6]at N
 obtain⟨aa,O,rfl⟩:=N
 exact AX.fj U (M.2 aa (dn O)) (B.get (i:=i) (by simp[O]) ad)
theorem N7:∀{ts:List Ty}{xs:List X}{y:(aT ts).den},xs.length=ts.length->(fp xs).den ρ=some ⟨aT ts,y⟩->∀(j:Nat) x,xs[j]?=some x->x.den ρ=cI ts y j
 | [],xs,y,B,h,j,x,k=>by
  have:xs=[]:=by simpa using B
  subst this;simp at k
 | [t],xs,y,B,h,j,x,k=>by
  match xs,B with
  | [z],_=>
   cases j with
   |zero=>simp at k;subst k;exact h
   |succ j=>simp at k
 |t::u::ts,xs,y,B,h,j,x,k=>by
  match xs,B with
  |z::w::r,B=>
   rw[N6]at h
   simp only[X.den]at h
   cases F:z.den ρ with
   |none=>simp[F]at h
   |some p=>
    cases G:(fp (w::r)).den ρ with
    |none=>simp[F,G]at h
    |some q=>
     simp only[F,G,c5]at h
     obtain⟨N,O⟩:=p;obtain⟨U,M⟩:=q
     have h:(⟨.aJ N U,(O,M)⟩:Sy.V)=⟨.aJ t (aT (u::ts)),y⟩:=h
     cases h
     cases j with
     |zero=>simp at k;subst k;rw[F];rfl
     |succ j=>
      have:=N7 (ts:=u::ts) (xs:=w::r) (y:=M) (by simpa using B) G j x (by simpa using k)
      rw[this];rfl
theorem instS_ok{j:Sk}{k n0:Nat}{ts:List Ty}{ρ0:aN}{xs:List X}{y:(aT ts).den}(h:bf ρ σ s)(hi:instS j k σ=some xs)(U:ts.length=k)(an:(fp xs).den ρ=some ⟨aT ts,y⟩)(ah:j.cA n0 k=true)(ag:∀i v,i<n0->lk ρ i=some v->lk ρ0 i=some v)(ai:dY n0 ρ0):∃s',Sub s s'/\bf ((n0,⟨aT ts,y⟩)::ρ0) (j.fill (sK n0 k) (n0+1)) s':=by
 unfold instS at hi
 split at hi
 ·rename_i A B ps ak
  simp only at hi
  generalize ax:Jg j (B.re (ps.map (·.2)))=vs at hi
  cases F:(rY (j.fill (qT vs) σ.n).t (B.re (ps.map (·.2))).t&&lF (j.fill (qT vs) σ.n).l (B.re (ps.map (·.2))).l&&lT (ps.map (·.2))&&qL (ps.map (·.2)) B.l)with
  |false=>simp[F]at hi
  |true=>
   simp only[F,cond_true,c5]at hi
   simp only[dd]at F
   obtain⟨⟨⟨aa,ab⟩,ad⟩,ae⟩:=F
   obtain⟨s1,ar,au,av⟩:=VT _ (uj (Eg j.t 0) h) ak
   obtain⟨s2,aw,Z⟩:=Sk.AZ au ad ae
   have N:(B.re (ps.map (·.2))).n=σ.n:=av
   have e:j.fill (qT vs) σ.n=B.re (ps.map (·.2)):=by
    have G:=NV aa;have M:=xJ ab
    show(⟨_,_,_⟩:Sk)=_
    cases af:B.re (ps.map (·.2))with
    |mk a b c=>
     rw[af]at G M N
     simp only[Sk.fill]at G M⊢
     simp only at N
     rw[G,M,N]
   rw[<-e]at Z
   refine⟨s2,Sub.trans' ar aw,Sk.fj (n1:=σ.n) ⟨λi v aj O=>?_,λp v al O=>?_⟩ ah (ai.push (r4 n0) _) Z⟩
   ·have:=ag i v aj O
    simp only[lk,lb (by omega:n0≠i),cond_false]
    exact this
   have ao:xs.length=ts.length:=by rw[<-hi,U];simp
   have aq:xs[p]?=some (qT vs p):=by rw[<-hi];simp[al]
   have Y:=N7 ao an p _ aq
   rw[O]at Y
   show(ri k p (.var n0)).den _=_
   rw[<-U,y9 p (a:=y) (show(X.var n0).den _=some ⟨aT ts,y⟩from jE n0 _ ρ0) (by omega),<-Y]
 cases hi
end
def qO{α:Type}(step:(α->Prop)->α->Prop):Nat->α->Prop
 |0,_=>False
 |n+1,z=>step (qO step n) z
abbrev LJ:=Nat->Sy.V->Prop
abbrev LQ:=Ex->Sk->aN->LJ->Prop
def gz(p:Sy.V->Prop)(J:LJ):LJ
 |0=>p
 |k+1=>J k
def Tr.wp(cs:List Callee):Tr->aN->LQ->LJ->Prop
 |.leaf e σ,ρ,Q,J=>Q e σ ρ J
 |.out k x,ρ,_,J=>∃v,x.den ρ=some v/\J k v
 |.bJ x t,ρ,Q,J=>x.den ρ=some ⟨.bool,true⟩/\Tr.wp cs t ρ Q J
 |.get v xs k t,ρ,Q,J=>∃(u:Ty)(l:List u.den)(kk:IntKind)(i:Int)(e:u.den),xs.den ρ=some ⟨.list u,l⟩/\k.den ρ=some ⟨.int kk,i⟩/\au l i=some e/\Tr.wp cs t ((v,⟨u,e⟩)::ρ) Q J
 |.call v c x t,ρ,Q,J=>∃(C:Callee)(a:(aT C.args).den)(y:(aT C.res).den),cs[c]?=some C/\x.den ρ=some ⟨aT C.args,a⟩/\C.fn a=some y/\Tr.wp cs t ((v,⟨aT C.res,y⟩)::ρ) Q J
 |.fx c a b,ρ,Q,J=>∃b0:Bool,c.den ρ=some ⟨.bool,b0⟩/\(b0=true->Tr.wp cs a ρ Q J)/\(b0=false->Tr.wp cs b ρ Q J)
 |.gg c a b,ρ,Q,J=>∃(u:Ty)(xs:List u.den),c.den ρ=some ⟨.list u,xs⟩/\(xs=[]->Tr.wp cs a ρ Q J)/\Tr.wp cs b ρ Q J
 |.join ty v a b,ρ,Q,J=>Tr.wp cs a ρ Q (gz (λz=>∃y:ty.den,z=⟨ty,y⟩/\Tr.wp cs b ((v,⟨ty,y⟩)::ρ) Q J) J)
 |.loop ty v init body,ρ,Q,J=>∃j:ty.den,init.den ρ=some ⟨ty,j⟩/\∃n,qO (λagain z=>Tr.wp cs body ((v,⟨ty,z⟩)::ρ) Q (gz (λz'=>∃y:ty.den,z'=⟨ty,y⟩/\again y) J)) n j
 |.bad _,_,_,_=>False
theorem tf{α:Type}{s1 s2:(α->Prop)->α->Prop}(h:∀p q z,(∀y,p y->q y)->s1 p z->s2 q z):∀{n:Nat}{z:α},qO s1 n z->qO s2 n z
 |0,_,j=>j
 |n+1,z,j=>h _ _ z (λy k=>tf h k) j
theorem mC{p q:Sy.V->Prop}{J J':LJ}(h:∀v,p v->q v)(B:∀k v,J k v->J' k v):∀k v,gz p J k v->gz q J' k v
 |0,v,j=>h v j
 |k+1,v,j=>B k v j
theorem Tr.wp_mono{cs:List Callee}:∀{t:Tr}{ρ:aN}{Q Q':LQ}{J J':LJ},(∀k v,J k v->J' k v)->(∀e σ ρ' Z aa,(∀k v,Z k v->aa k v)->Q e σ ρ' Z->Q' e σ ρ' aa)->Tr.wp cs t ρ Q J->Tr.wp cs t ρ Q' J':=by
 intro t
 induction t with
 |leaf e σ=>intro ρ Q Q' J J' j B h;exact B e σ ρ J J' j h
 |out k x=>intro ρ Q Q' J J' j B ⟨v,F,G⟩;exact⟨v,F,j k v G⟩
 |bJ x t N=>intro ρ Q Q' J J' j B ⟨F,G⟩;exact⟨F,N j B G⟩
 |get v xs k t N=>intro ρ Q Q' J J' j B ⟨u,l,kk,i,e,F,G,M,O⟩;exact⟨u,l,kk,i,e,F,G,M,N j B O⟩
 |call v c x t N=>intro ρ Q Q' J J' j B ⟨C,a,y,F,G,M,O⟩;exact⟨C,a,y,F,G,M,N j B O⟩
 |fx c a b U Y=>intro ρ Q Q' J J' j B ⟨b0,F,G,M⟩;exact⟨b0,F,λh=>U j B (G h),λh=>Y j B (M h)⟩
 |gg c a b U Y=>intro ρ Q Q' J J' j B ⟨u,xs,F,G,M⟩;exact⟨u,xs,F,λh=>U j B (G h),Y j B M⟩
 |join ty v a b U Y=>
  intro ρ Q Q' J J' j B h
  exact U (mC (λz ⟨y,F,G⟩=>⟨y,F,Y j B G⟩) j) B h
 |loop ty v i b N=>
  intro ρ Q Q' J J' j B ⟨ae,F,n,G⟩
  exact⟨ae,F,n,tf (s1:=λagain z=>Tr.wp cs b ((v,⟨ty,z⟩)::ρ) Q (gz (λz'=>∃y:ty.den,z'=⟨ty,y⟩/\again y) J)) (λp q z ab ad=>N (mC (λz' ⟨y,M,O⟩=>⟨y,M,ab y O⟩) j) B ad) G⟩
 |bad w=>intro ρ Q Q' J J' _ _ h;exact h
def eD(Q:LQ):Prop:=∀e σ ρ j B,(∀k v,j k v->B k v)->Q e σ ρ j->Q e σ ρ B
theorem jr{cs:List Callee}{f:Ex->Sk->Tr}{Q:LQ}(Y:eD Q):∀{t:Tr}{ρ:aN}{J:LJ},Tr.wp cs (eo f t) ρ Q J->Tr.wp cs t ρ (λe σ ρ' J'=>Tr.wp cs (f e σ) ρ' Q J') J:=by
 intro t
 induction t with
 |leaf e σ=>intro ρ J h;exact h
 |out k x=>intro ρ J h;exact h
 |bJ x t G=>intro ρ J ⟨j,B⟩;exact⟨j,G B⟩
 |get v xs k t G=>intro ρ J ⟨u,l,kk,i,e,j,B,F,M⟩;exact⟨u,l,kk,i,e,j,B,F,G M⟩
 |call v c x t G=>intro ρ J ⟨C,a,y,j,B,F,M⟩;exact⟨C,a,y,j,B,F,G M⟩
 |fx c a b N O=>intro ρ J ⟨b0,j,B,F⟩;exact⟨b0,j,λh=>N (B h),λh=>O (F h)⟩
 |gg c a b N O=>intro ρ J ⟨u,xs,j,B,F⟩;exact⟨u,xs,j,λh=>N (B h),O F⟩
 |join ty v a b N O=>
  intro ρ J h
  have:=N (J:=gz (λz=>∃y:ty.den,z=⟨ty,y⟩/\Tr.wp cs (eo f b) ((v,⟨ty,y⟩)::ρ) Q J) J) h
  show Tr.wp cs a ρ _ (gz _ J)
  refine Tr.wp_mono (mC ?_ (λ_ _ h=>h)) ?_ this
  ·rintro z ⟨y,j,B⟩;exact⟨y,j,O B⟩
  intro e σ ρ' Z aa U h;exact Tr.wp_mono U Y h
 |loop ty v i b G=>
  intro ρ J ⟨ae,j,n,B⟩
  refine⟨ae,j,n,tf ?_ B⟩
  intro p q z ab ad
  refine Tr.wp_mono (mC ?_ (λ_ _ h=>h)) ?_ (G ad)
  ·rintro z' ⟨y,F,M⟩;exact⟨y,F,ab y M⟩
  intro e σ ρ' Z aa U h;exact Tr.wp_mono U Y h
 |bad w=>intro ρ J h;exact h
theorem Mw{cs:List Callee}{e:Ex}{ab:Sk}{ad:Nat}{Q:LQ}{p:Sy.V->Prop}(ah:eD Q):∀{t:Tr}{k:Nat}{ρ:aN}{J:LJ},(∀v,J k v->p v)->Tr.wp cs (resolve e ab ad k t) ρ Q J ->
  Tr.wp cs t ρ (λM σ ρ' J'=>if e=M then ∃xs v,instS ab ad σ=some xs/\(fp xs).den ρ'=some v/\p v else Q M σ ρ' J') J:=by
 intro t
 have ae:eD (λM σ ρ' J'=>if e=M then ∃xs v,instS ab ad σ=some xs/\(fp xs).den ρ'=some v/\p v else Q M σ ρ' J'):=by
  intro M σ ρ' af ag ai h
  by_cases U:e=M
  ·rw[if_pos U]at h⊢;exact h
  rw[if_neg U]at h⊢;exact ah M σ ρ' af ag ai h
 induction t with
 |leaf M σ=>
  intro k ρ J B h
  simp only[resolve]at h
  show if e=M then _ else _
  split at h
  ·rename_i U
   rw[if_pos U]
   split at h
   ·rename_i xs ak
    obtain⟨v,F,G⟩:=h
    exact⟨xs,v,ak,F,B v G⟩
   exact h.elim
  rename_i U
  rw[if_neg U];exact h
 |out k x=>intro _ ρ J B h;exact h
 |bJ x t O=>intro k ρ J B ⟨F,G⟩;exact⟨F,O B G⟩
 |get v xs i t O=>intro k ρ J B ⟨u,l,kk,j,e,F,G,N,Y⟩;exact⟨u,l,kk,j,e,F,G,N,O B Y⟩
 |call v c x t O=>intro k ρ J B ⟨C,a,y,F,G,N,Y⟩;exact⟨C,a,y,F,G,N,O B Y⟩
 |fx c a b Z aa=>intro k ρ J B ⟨b0,F,G,N⟩;exact⟨b0,F,λh=>Z B (G h),λh=>aa B (N h)⟩
 |gg c a b Z aa=>intro k ρ J B ⟨u,xs,F,G,N⟩;exact⟨u,xs,F,λh=>Z B (G h),aa B N⟩
 |join ty v a b Z aa=>
  intro k ρ J B h
  have:=Z (k:=k+1) (J:=gz (λz=>∃y:ty.den,z=⟨ty,y⟩/\Tr.wp cs (resolve e ab ad k b) ((v,⟨ty,y⟩)::ρ) Q J) J) B h
  show Tr.wp cs a ρ _ (gz _ J)
  refine Tr.wp_mono (mC ?_ (λ_ _ h=>h)) ae this
  rintro z ⟨y,F,G⟩;exact⟨y,F,aa B G⟩
 |loop ty v i b O=>
  intro k ρ J B ⟨an,F,n,G⟩
  refine⟨an,F,n,tf ?_ G⟩
  intro ao q z aj al
  refine Tr.wp_mono (mC ?_ (λ_ _ h=>h)) ae (O (k:=k+1) (J:=gz _ J) B al)
  rintro z' ⟨y,N,Y⟩;exact⟨y,N,aj y Y⟩
 |bad w=>intro k ρ J B h;exact h
def We{cs:List Callee}{e:Ex}:∀{t:Tr}{ρ:aN}{Q:LQ}{J:LJ},leaves e t=[]->eD Q->Tr.wp cs t ρ Q J->Tr.wp cs t ρ (λN σ ρ' J'=>N≠e/\Q N σ ρ' J') J:=by
 intro t
 induction t with
 |leaf N σ=>
  intro ρ Q J B F h
  refine⟨λag=>?_,h⟩
  simp[leaves,ag]at B
 |out k x=>intro ρ Q J B F h;exact h
 |bJ x t U=>intro ρ Q J B F ⟨G,M⟩;exact⟨G,U B F M⟩
 |get v xs i t U=>intro ρ Q J B F ⟨u,l,kk,j,e,G,M,O,Y⟩;exact⟨u,l,kk,j,e,G,M,O,U B F Y⟩
 |call v c x t U=>intro ρ Q J B F ⟨C,a,y,G,M,O,Y⟩;exact⟨C,a,y,G,M,O,U B F Y⟩
 |fx c a b Z aa=>
  intro ρ Q J B F ⟨b0,G,M,O⟩
  simp only[leaves,A1]at B
  exact⟨b0,G,λh=>Z B.1 F (M h),λh=>aa B.2 F (O h)⟩
 |gg c a b Z aa=>
  intro ρ Q J B F ⟨u,xs,G,M,O⟩
  simp only[leaves,A1]at B
  exact⟨u,xs,G,λh=>Z B.1 F (M h),aa B.2 F O⟩
 |join ty v a b Z aa=>
  intro ρ Q J B F h
  simp only[leaves,A1]at B
  have ab:eD (λN σ ρ' J'=>N≠e/\Q N σ ρ' J'):=λN σ ρ' ae af ad h=>⟨h.1,F _ _ _ _ _ ad h.2⟩
  have:=Z B.1 F h
  show Tr.wp cs a ρ _ (gz _ J)
  refine Tr.wp_mono (mC ?_ (λ_ _ h=>h)) ab this
  rintro z ⟨y,G,M⟩;exact⟨y,G,aa B.2 F M⟩
 |loop ty v i b U=>
  intro ρ Q J B F ⟨aj,G,n,M⟩
  have ab:eD (λN σ ρ' J'=>N≠e/\Q N σ ρ' J'):=λN σ ρ' ae af ad h=>⟨h.1,F _ _ _ _ _ ad h.2⟩
  refine⟨aj,G,n,tf ?_ M⟩
  intro p q z ah ai
  refine Tr.wp_mono (mC ?_ (λ_ _ h=>h)) ab (U B F ai)
  rintro z' ⟨y,O,Y⟩;exact⟨y,O,ah y Y⟩
 |bad w=>intro ρ Q J B F h;exact h
end Go.Sy
namespace Go.Sy
open Go Go.ag
class oR[aD][bd]:Prop where
 eA:∀g ls,aD.eA g=some ls->bd.iz g=some (.agg (ls.map (.int .i64)))
variable [aD][cF][cz][c9][bd][oR][bP]
def NM{s:Tm}:∀g ls,aD.eA g=some ls->bE s (.global g) = .br ls.length [.agg (ls.map (.int .i64))] 0 0:=λg ls h=>by
 simp only[bE,oR.eA g ls h,D.cells,hM]
def cU(n:Nat)(ρ ρ':aN):Prop:=∀i,i<n->lk ρ' i=lk ρ i
theorem cU.refl(n:Nat)(ρ:aN):cU n ρ ρ:=λ_ _=>rfl
theorem cU.trans{n m:Nat}{a b c:aN}(h:cU n a b)(k:cU m b c)(j:n<=m):cU n a c:=λi hi=>(k i (by omega)).trans (h i hi)
def cU.push{n m:Nat}(j:n<=m)(ρ:aN)(v:Sy.V):cU n ρ ((m,v)::ρ):=λi hi=>by
 simp only[lk,lb (by omega:m≠i),cond_false]
def cU.ext{n:Nat}{ρ ρ':aN}(h:cU n ρ ρ')(k:dY n ρ):Ext ρ ρ':=λi v j=>by rw[h i (DZ k j)];exact j
def ch.Jf{cs:List Callee}{n:Nat}{ρ ρ':aN}{is:List Ins}(h:ch cs n ρ is ρ'):cU n ρ ρ'/\n<=jX n is:=by
 induction h with
 |nil n ρ=>exact⟨.refl n ρ,eb _⟩
 |bJ n ρ x r ρ' _ _ j=>exact j
 |get n ρ xs k r ρ' t l kk i e _ _ _ _ j=>
  obtain⟨B,F⟩:=j
  exact⟨(cU.push (eb n) ρ _).trans B (by omega),by simp only[jX];omega⟩
 |call n ρ c x r ρ' C a y _ _ _ _ j=>
  obtain⟨B,F⟩:=j
  exact⟨(cU.push (eb n) ρ _).trans B (by omega),by simp only[jX];omega⟩
def vr{cs:List Callee}{t:Tr}{Q:LQ}{J:LJ}:∀{is:List Ins}{n:Nat}{ρ:aN},Tr.wp cs (pq t n is) ρ Q J->∃ρ',ch cs n ρ is ρ'/\Tr.wp cs t ρ' Q J
 | [],n,ρ,h=>⟨ρ,.nil n ρ,h⟩
 |.bJ x::r,n,ρ,⟨h1,j⟩=>by
  obtain⟨ρ',B,F⟩:=vr j
  exact⟨ρ',.bJ n ρ x r ρ' h1 B,F⟩
 |.get xs k::r,n,ρ,⟨u,l,kk,i,e,h1,j,G,M⟩=>by
  obtain⟨ρ',B,F⟩:=vr M
  exact⟨ρ',.get n ρ xs k r ρ' u l kk i e h1 j G B,F⟩
 |.call c x::r,n,ρ,⟨C,a,y,h1,j,G,M⟩=>by
  obtain⟨ρ',B,F⟩:=vr M
  exact⟨ρ',.call n ρ c x r ρ' C a y h1 j G B,F⟩
section
variable {P:Program}{V:Env}{C:Cx}{cs:List Callee}{n:Nat}{ops:List Oper}
def lD(P:Program)(n:Nat)(ops:List Oper)(o:Oper)(s:St)(K:St->Prop):Prop:=
 ∀(w0:World)(I0:av)(a:Act)(w:World)(Q:Exit->Act->World->Prop)(j:Act->World->Prop),Rel w0 I0 n s a w->(∀s' k w',K s'->Rel w0 I0 n s' k w'->j k w') ->
  if Region.wanted o (yielded ops.toArray a.tmps)=true then o.wpIn cO 0 P a w j Q else(∀f,o.about P w a.eval=some f->cO.fn f)/\j (a.put o.dst undef) w
def nz(P:Program)(n:Nat)(ops:List Oper):List Oper->St->(St->Prop)->Prop
 | [],s,K=>K s
 |o::r,s,K=>lD P n ops o s λs'=>nz P n ops r s' K
theorem nz.wp{w0:World}{I0:av}{Q:Exit->Act->World->Prop}{K:St->Prop}(k:∀s a w,K s->Rel w0 I0 n s a w->Q .normal a w):∀(r:List Oper)(s:St)(a:Act)(w:World),Rel w0 I0 n s a w->nz P n ops r s K->wpListIn cO 0 P ops.toArray Q r a w
 | [],s,a,w,j,h=>k s a w h j
 |o::r,s,a,w,j,h=>by
  unfold wpListIn
  exact h w0 I0 a w Q _ j λs' B w' F G=>nz.wp k r s' B w' G F
def Bg{o:Oper}{s:St}{K:St->Prop}{pc:PC}{t:T}{l':List AO}(Y:dg ops s.t o.guard=some pc)(Z:holds pc)(B:bX P o (bE s.t) s.l t l')(O:du n o.dst=true)(M:K ⟨bH s.t o.dst t,l'⟩):lD P n ops o s K:=by
 intro w0 I0 a w Q ae aa N
 obtain⟨F,I,m,G,U,ht⟩:=aa
 rw[if_pos ((oK ht Y).2 Z)]
 refine bY.wpIn B.1 ((B.2 w0 I0 w I m a.eval G (λx af=>lK G.sat.c7 ht x)).mono λv w' ⟨J,m',j,ad,ab⟩=>?_)
 exact N _ _ _ M ⟨by cases o.dst<;>simp[Act.put,F],J,m',ad,U.put j.cR,lh F O (λk=>(ht k).mono j) ab⟩
def NJ{o:Oper}{s:St}{K:St->Prop}{pc:PC}(M:dg ops s.t o.guard=some pc)(O:¬holds pc)(F:du n o.dst=true)(k:K ⟨bH s.t o.dst ag.gone,s.l⟩):lD P n ops o s K:=by
 intro w0 I0 a w Q Z U B
 obtain⟨j,I,m,Y,G,ht⟩:=U
 rw[if_neg (λN=>O ((oK ht M).1 N))]
 exact⟨λf _=>lC f,B _ _ _ k ⟨by cases o.dst<;>simp[Act.put,j],I,m,Y,G.put (.refl I),lh j F ht JS⟩⟩
theorem pG{ρ:aN}{tX:List (Nat×TX)}{t:Tm}(h:∀k,RX ρ (aV tX k) (ag.get t k))(x:Operand):RX ρ (gE tX x) (bE t x):=by
 cases x with
 |tmp k=>exact h k
 |func f=>exact .d (.fn f) _ () (cE rfl) rfl
 |global g=>exact .undef _
 |const v=>
  show RX ρ (Cz v) (qB v)
  unfold Cz
  split
  ·exact .d .bool _ _ (cE rfl) rfl
  ·exact .d (.int _) _ _ (cE rfl) rfl
  ·rename_i s
   exact .d .str _ s (cE rfl) (by
    cases s with|mk d=>cases d with|mk l=>rfl)
  ·exact .bu 0
  ·exact .dV
  exact .undef _
theorem JX{ρ:aN}{σ:Sk}{s:St}{g:Option (Nat×Bool)}(h:∀j b d,g=some (j,b)->(ops[j]?).bind (·.dst)=some d->RX ρ (aV σ.t d) (ag.get s.t d))(k:mH ops σ g = .yes):∃pc,dg ops s.t g=some pc/\holds pc:=by
 unfold mH at k
 split at k
 ·exact⟨[],rfl,trivial⟩
 rename_i j b
 split at k
 ·rename_i d G
  have M:=h _ _ _ rfl G
  split at k
  ·rename_i c U
   rw[U]at M
   obtain⟨B,N,O⟩:=ir M
   have:B=c:=(fu (N.symm.trans (rfl:(X.bool c).den ρ=some ⟨.bool,c⟩)))
   subst this
   cases F:(B == b)with
   |true=>exact⟨[(j,B,b)],by simp only[dg,G,O],by simpa using F,trivial⟩
   |false=>simp[F]at k
  ·cases k
  ·cases k
  cases k
 cases k
theorem JW{ρ:aN}{σ:Sk}{s:St}{g:Option (Nat×Bool)}(h:∀j b d,g=some (j,b)->(ops[j]?).bind (·.dst)=some d->RX ρ (aV σ.t d) (ag.get s.t d))(k:mH ops σ g = .no):∃pc,dg ops s.t g=some pc/\¬holds pc:=by
 unfold mH at k
 split at k
 ·cases k
 rename_i j b
 split at k
 ·rename_i d N
  have B:=h _ _ _ rfl N
  split at k
  ·rename_i c M
   rw[M]at B
   obtain⟨F,Y,G⟩:=ir B
   have:F=c:=(fu (Y.symm.trans (rfl:(X.bool c).den ρ=some ⟨.bool,c⟩)))
   subst this
   cases U:(F == b)with
   |true=>simp[U]at k
   |false=>exact⟨[(j,F,b)],by simp only[dg,N,G],λO=>by have:=O.1;simp[this]at U⟩
  ·cases k
  ·rename_i M
   rw[M]at B
   have G:=Dp B
   exact⟨[(0,true,false)],by simp only[dg,N,G,ag.gone],λO=>by cases O.1⟩
  cases k
 cases k
def Uw{ρ:aN}{σ:Sk}{s:St}(h:bf ρ σ s){g:Option (Nat×Bool)}{x:X}{b:Bool}(k:mH ops σ g = .ask x b){c:Bool}(ad:x.den ρ=some ⟨.bool,c⟩):∃pc,dg ops s.t g=some pc/\(holds pc↔c=b):=by
 unfold mH at k
 split at k
 ·cases k
 rename_i j G
 split at k
 ·rename_i d ab
  have N:=h.t d
  split at k
  ·rename_i B M
   cases aa:(B == G)<;>simp[aa]at k
  ·rename_i ae _ M
   injection k with O U
   subst O;subst U
   rw[M]at N
   obtain⟨B,Y,Z⟩:=ir N
   have:c=B:=fu (ad.symm.trans Y)
   subst this
   exact⟨[(j,c,G)],by simp only[dg,ab,Z],⟨λF=>F.1,λF=>⟨F,trivial⟩⟩⟩
  ·cases k
  cases k
 cases k
def ID{ρ:aN}{σ:Sk}{s:St}(h:bf ρ σ s){x:X}{c:Bool}(Z:x.den ρ=some ⟨.bool,c⟩):bf ρ (σ.decide x c) s:=by
 refine⟨h.eE,λk=>?_,h.l⟩
 show RX ρ (aV (nH x c σ.t) k) _
 have F:=h.t k
 generalize ag.get s.t k=u at F
 have key:∀t:List (Nat×TX),RX ρ (aV t k) u->RX ρ (aV (nH x c t) k) u:=by
  intro t
  induction t with
  |nil=>intro h;exact h
  |cons p r M=>
   intro h
   obtain⟨j,y⟩:=p
   by_cases G:∃z,y = .d .bool z
   ·obtain⟨z,rfl⟩:=G
    simp only[nH,aV]at h⊢
    cases B:Nat.beq j k with
    |false=>rw[B]at h;exact M h
    |true=>
     rw[B]at h
     simp only[cond_true]at h⊢
     cases Y:X.beq x z with
     |false=>exact h
     |true=>
      have:=X.beq_eq Y
      subst this
      obtain⟨N,O,U⟩:=ir h
      have:c=N:=fu (Z.symm.trans O)
      subst this
      rw[U]
      exact eY rfl
   have:nH x c ((j,y)::r)=(j,y)::nH x c r:=by
    cases y with
    |d t z=>cases t<;>first|rfl|exact absurd ⟨_,rfl⟩ G
    |_=>rfl
   rw[this]
   simp only[aV]at h⊢
   cases B:Nat.beq j k with
   |false=>rw[B]at h;exact M h
   |true=>rw[B]at h;exact h
 exact key σ.t F
def FD{ρ:aN}{tX:List (Nat×TX)}{t:Tm}(h:∀k,RX ρ (aV tX k) (ag.get t k)){j:Option Nat}{x:TX}{u:T}(F:RX ρ x u):∀k,RX ρ (aV (gZ tX j x) k) (ag.get (bH t j u) k):=by
 intro k
 cases j with
 |none=>exact h k
 |some d=>
  show RX ρ (bif Nat.beq d k then x else aV tX k) (if d=k then u else ag.get t k)
  by_cases B:d=k
  ·subst B;rw[if_pos rfl,ik];exact F
  rw[if_neg B,lb B];exact h k
def Hb(P:Program)(cs:List Callee)(n:Nat)(ops:List Oper)(H:xv)(σ:Sk)(ρ:aN):Prop:=
 ∀(o:Oper)(m:Nat)(F:(TX->Sk->Tr)->Tr)(s:St)(Q:LQ)(J:LJ)(K:TX->Sk->Tr)(k:St->Prop)(pc:PC),H o m σ=some F->bf ρ σ s->eD Q->du n o.dst=true->dg ops s.t o.guard=some pc->holds pc->Tr.wp cs (F K) ρ Q J ->
  (∀x j ρ' J' u s',Tr.wp cs (K x j) ρ' Q J'->cU σ.n ρ ρ'->σ.n<=j.n->bf ρ' j s'->RX ρ' x u->k ⟨bH s'.t o.dst u,s'.l⟩)->lD P n ops o s k
theorem A7(an:bL P V C)(aq:il P C cs)(ag:C.nt=n){H:xv}{ai:Nat}{K:St->Prop}{Q:LQ}(ab:eD Q){n0:Nat}{ρ0:aN}(ao:∀σ ρ,cU n0 ρ0 ρ->n0<=σ.n->Hb P cs n ops H σ ρ):∀(r:List Oper){σ:Sk}{ρ:aN}{s:St}{J:LJ},cU n0 ρ0 ρ->n0<=σ.n->bf ρ σ s->Tr.wp cs (l7 C H ai ops r σ) ρ Q J ->
  (∀bC ρ' J',Q .normal bC ρ' J'->cU σ.n ρ ρ'->σ.n<=bC.n->∀s',bf ρ' bC s'->K s')->nz P n ops r s K
 | [],σ,ρ,s,J,_,_,h,j,ad=>ad σ ρ J j (.refl _ _) (eb _) s h
 |o::r,σ,ρ,s,J,av,aR,h,j,ad=>by
  have aw:∀{σ1:Sk}{pc:PC},σ1.n=σ.n->bf ρ σ1 s->dg ops s.t o.guard=some pc->holds pc->Tr.wp cs (bif !du C.nt o.dst then .bad 15 else match pd C ops (gE σ1.t) σ1.l σ1.n σ1.l.length o with|some q=>pq (l7 C H ai ops r (sr σ1 o.dst q)) σ1.n q.ins|none=>match H o (Kw ai ops r) σ1 with|some F=>F λx N=>l7 C H ai ops r ⟨N.n,gZ N.t o.dst x,N.l⟩|none=>.bad (30000+o.dst.getD 9999)) ρ Q J->nz P n ops (o::r) s K:=by
   intro σ1 pc ah B M au j
   cases G:du C.nt o.dst with
   |false=>rw[G]at j;exact j.elim
   |true=>
    rw[G]at j
    simp only[qn,cond_false]at j
    rw[ag]at G
    split at j
    ·rename_i q aJ
     obtain⟨ρ',hi,j⟩:=vr j
     obtain⟨Z,aH⟩:=hi.ext B.eE
     obtain⟨aD,aA⟩:=hi.Jf
     have aE:σ1.l.length=s.l.length:=B.l.len
     obtain⟨t,ht,ar⟩:=I6 (ρT:=bE s.t) an aq B.l (λx _=>pG B.t x) NM Z aJ hi
     have fin:∀(l':List AO),bX P o (bE s.t) s.l t l'->RL ρ' (match q.bq with |.none=>σ1.l |.new a=>σ1.l++[a] |.aK l'=>l') l'->nz P n ops (o::r) s K:=by
      intro l' aI az
      refine Bg M au aI G ?_
      refine A7 an aq ag ab ao r (σ:=sr σ1 o.dst q) (av.trans aD (by omega)) (show n0<=jX σ1.n q.ins by omega) ⟨aH,FD (λk=>(B.t k).mono Z) ht,az⟩ j ?_
      intro bC aj J' ax O af s' aa
      have af:jX σ1.n q.ins<=bC.n:=af
      have O:cU (jX σ1.n q.ins) ρ' aj:=O
      exact ad bC aj J' ax (by rw[<-ah];exact aD.trans O aA) (by omega) s' aa
     split at ar
     ·rename_i ae;rw[ae]at fin;exact fin _ ar (B.l.mono Z)
     ·rename_i a ae
      obtain⟨aQ,aB,aC,_⟩:=ar
      rw[ae]at fin
      exact fin _ (aC aE) (F2.app (B.l.mono Z) (.cons aB .nil))
     rename_i l1 ae
     obtain⟨l',aB,aC⟩:=ar
     rw[ae]at fin
     exact fin l' (aC aE) aB
    split at j
    ·rename_i F aG
     refine ao σ1 ρ av (by omega) o _ F s Q J _ _ pc aG B ab G M au j ?_
     intro x N ρ' J' u s' aO Z aA aa aM
     refine A7 an aq ag ab ao r (σ:=⟨N.n,gZ N.t o.dst x,N.l⟩) (av.trans Z (by omega)) (show n0<=N.n by omega) ⟨aa.eE,FD aa.t aM,aa.l⟩ aO ?_
     intro bC aj aF ax O af aP aL
     have af:N.n<=bC.n:=af
     have O:cU N.n ρ' aj:=O
     exact ad bC aj aF ax (by rw[<-ah];exact Z.trans O aA) (by omega) aP aL
    exact j.elim
  have skip:∀{σ1:Sk}{pc:PC},σ1.n=σ.n->bf ρ σ1 s->dg ops s.t o.guard=some pc->¬holds pc->Tr.wp cs (bif !du C.nt o.dst then .bad 16 else l7 C H ai ops r {σ1 with t:=gZ σ1.t o.dst .gone}) ρ Q J->nz P n ops (o::r) s K:=by
   intro σ1 pc ah B M au j
   cases G:du C.nt o.dst with
   |false=>rw[G]at j;exact j.elim
   |true=>
    rw[G]at j
    simp only[qn,cond_false]at j
    rw[ag]at G
    refine NJ M au G ?_
    refine A7 an aq ag ab ao r (σ:={σ1 with t:=gZ σ1.t o.dst .gone}) av (show n0<=σ1.n by omega) ⟨B.eE,FD B.t .gone,B.l⟩ j ?_
    intro bC ρ' J' ab O az s' aa
    exact ad bC ρ' J' ab (by rw[<-ah];exact O) (by rw[<-ah];exact az) s' aa
  simp only[l7]at j
  split at j
  ·rename_i M
   obtain⟨pc,U,Y⟩:=JX (λ_ _ d _ _=>h.t d) M
   exact aw rfl h U Y j
  ·rename_i M
   obtain⟨pc,U,Y⟩:=JW (λ_ _ d _ _=>h.t d) M
   exact skip rfl h U Y j
  ·rename_i x b M
   obtain⟨c,B,ak,al⟩:=j
   obtain⟨pc,U,Y⟩:=Uw h M B
   have G:=ID h B
   cases c with
   |true=>
    have ak:=ak rfl
    cases b with
    |true=>exact aw (σ1:=σ.decide x true) rfl G U (Y.2 rfl) ak
    |false=>exact skip (σ1:=σ.decide x true) rfl G U (λay=>by cases Y.1 ay) ak
   |false=>
    have al:=al rfl
    cases b with
    |true=>exact skip (σ1:=σ.decide x false) rfl G U (λay=>by cases Y.1 ay) al
    |false=>exact aw (σ1:=σ.decide x false) rfl G U (Y.2 rfl) al
  exact j.elim
end
end Go.Sy
namespace Go.ag
open Go Go.RowKit
variable [bd][bP]
section
variable {P:Program}{V:Env}{w0 w:World}{I0 I:av}{m:Nat->Value}{l:List AO}{n:Nat}{Q:Exit->St->Prop}{s:St}
def ql(P:Program)(g:FuncId)(ts:List T)(l:List AO)(ft:Tm)(K:T->List AO->Prop):Prop:=
 Enters P g/\∀(w0:World)(I0:av)(w:World)(I:av)(m:Nat->Value)(j:Array Value)(vals:Nat->Value),aE w0 I0 w I m l->j.size=ts.length->(∀(i:Nat) v x,j[i]?=some v->ts[i]?=some x->ar I m l v x)->(∀k,ar I m l (vals k) (ag.get ft k)) ->
  Calls P g j w λe w'=>∃v,e = .returned v/\∃t l' J m',K t l'/\aE w0 I0 w' J m' l'/\ar J m' l' v t/\(∀b,I.df b->J.df b)/\∀k,ar J m' l' (vals k) (ag.get ft k)
theorem ql.of{f:FuncId}{fn:Func}{c:Code}{ts:List T}{l:List AO}{ft:Tm}{K:T->List AO->Prop}(av:cn P V)(aB:Enters P f)(aD:P.funcs[f]?=some fn)(ay:fn.body=some c)(a8:ts.length<=fn.ntmps)(h:∀(R:bP),R.r=none->∀w0 I0 vals(Q:Exit->St->Prop),(∀e s2,(e = .ret\/e = .normal)->sj V s2 fn.results.toList l.length vals ft K->Q e s2)->aG P w0 I0 fn.ntmps c ⟨iJ 0 ts,l++[.frame l.length vals ft]⟩ Q):ql P f ts l ft K:=by
 refine⟨aB,λw0 I0 w I m O vals aa aR ax aI=>?_⟩
 let R:bP:=⟨none,I.df⟩
 refine Ci (R:=λe w'=>∃v,e = .returned v/\∃t l' J m',K t l'/\aE w0 I0 w' J m' l'/\ar J m' l' v t/\(∀b,I.df b->J.df b)/\∀k,ar J m' l' (vals k) (get ft k)) rfl aD ay ?_
 have an:aE w0 I0 w I (aK m l.length (.bool false)) (l++[.frame l.length vals ft])/\Le I m l I (aK m l.length (.bool false)) (l++[.frame l.length vals ft]):=by
  have Z:∀k,k<l.length->(l++[AO.frame l.length vals ft])[k]?=l[k]?:=λk U=>e3 U
  have aQ:(l++[AO.frame l.length vals ft])[l.length]?=some (.frame l.length vals ft):=by simp
  have ah:Le I m l I (aK m l.length (.bool false)) (l++[.frame l.length vals ft]):=by
   refine⟨.refl I,by simp,λid N G=>⟨?_,bO m _ (by omega)⟩,λid N Y=>⟨?_,bO m _ (by omega)⟩,λid au s' els' N ag=>⟨els',?_⟩⟩
   ·unfold isVar at G⊢;rw[Z id N];exact G
   ·unfold isRow at Y⊢;rw[Z id N]at Y;exact Y
   rw[Z id N]at ag;exact ag
  have aq:∀k,k≠l.length->alive (l++[AO.frame l.length vals ft]) k=true->alive l k=true:=by
   intro k U aw
   obtain⟨o,F,M⟩:=bD.1 aw
   have aO:k<l.length:=by have:=(da.1 F).1;simp at this;omega
   rw[Z k aO]at F
   exact bD.2 ⟨o,F,M⟩
  refine⟨⟨aa.below,aa.sat,aa.ext,λid o F=>?_,λi j b aL hi aM ae af=>?_⟩,ah⟩
  ·by_cases N:id<l.length
   ·rw[Z id N]at F;rw[bO m _ (by omega)]
    by_cases M:o = .dead
    ·subst M;trivial
    exact(aa.obj id o F).cC ah (λ_ _=>rfl) (λ_ _=>⟨rfl,rfl⟩) (.push (λ_ _ _=>rfl) rfl)
   have:id=l.length:=by
    have:=(da.1 F).1;simp at this;omega
   subst this
   rw[aQ]at F;injection F with F;subst F
   rw[dy]
   refine⟨rfl,by simp,λk=>?_⟩
   have e:(l++[AO.frame l.length vals ft]).take l.length=l:=by simp
   rw[e]
   refine(aI k).mono ⟨.refl I,eb _,λid N G=>⟨G,bO m _ (by omega)⟩,λid N Y=>⟨Y,bO m _ (by omega)⟩,λid au s' els' N ag=>⟨els',ag⟩⟩
  by_cases aj:i=l.length
  ·subst aj;rw[dy]at ae;cases ae
  by_cases ak:j=l.length
  ·subst ak;rw[dy]at af;cases af
  rw[bO m _ aj]at ae;rw[bO m _ ak]at af
  exact aa.sep i j b aL (aq i aj hi) (aq j ak aM) ae af
 obtain⟨an,ah⟩:=an
 have aU:Rel w0 I0 fn.ntmps ⟨iJ 0 ts,l++[.frame l.length vals ft]⟩ {tmps:=O++Array.replicate (fn.ntmps-O.size) undef,defers:=[]} w:=by
  refine⟨by simp;omega,I,_,an,dR.nil λ_ h=>h,λk=>?_⟩
  rw[Gi]
  simp only[j5,hQ,Nat.sub_zero]
  cases M:ts[k]? with
  |none=>exact .undef _
  |some d=>
   have U:k<O.size:=by rw[aR];exact(da.1 M).1
   have G:O[k]?=some O[k]:=e8 U
   have:(O++Array.replicate (fn.ntmps-O.size) undef).getD k undef=O[k]:=by
    rw[hf,j0 U,G];rfl
   rw[this]
   exact(ax k _ d G M).mono ah
 refine o2 (λe a bb ⟨s2,⟨al,ad,aV,aS,aH,U⟩,Y⟩=>?_) (h R rfl w0 I0 vals (λe s2=>(e = .ret\/e = .normal)/\sj V s2 fn.results.toList l.length vals ft K) (λe s2 al aY=>⟨al,aY⟩) _ _ aU)
 obtain⟨_,a7,m',aX,az,aW⟩:=aV _ _ _ _ _ Y
 obtain⟨w',J,ao,aN,aA,aC⟩:=CI (P:=P) (fn:=fn) (a:=a) al aX az
 refine aC _ ?_
 have ht:∀k,ar J m' ad.l (a.tmps.getD k undef) (get ad.t k):=λk=>aA _ _ (aW k)
 obtain⟨ab,aZ,a1,ai⟩:=A5 (P:=P) av.E ao ht fn.results.toList aS
 have aT:(results fn a.tmps).run P w' = .ok (if h:ab.length=1 then ab[0]else .tuple ab.toArray) w':=by
  rw[FO]
  simp only[gj,vy,Sem.run_map,aZ,Result.andThen_ok,Sem.run_pure]
  simp
 have aF:=ao.obj _ _ aH
 refine⟨_,aT,_,rfl,_,_,J,m',U,ao,?_,aN,λk=>(aF.2.2 k).mono (Le.uD J m' ad.l l.length)⟩
 have B:ab.length=(fn.results.toList.map λv=>(eX V ad v).1).length:=by simp[a1]
 generalize (fn.results.toList.map λv=>(eX V ad v).1)=a6 at B ai
 match a6,B with
 | [t],B=>
  have aP:ab.length=1:=B
  rw[dif_pos aP]
  exact ai 0 _ t (c4 (by omega)) rfl
 | [],B=>
  rw[dif_neg (by simp at B;simp[B])]
  exact .aJ _ _ (by simpa using B) (λi v d G M=>ai i v d (by simpa using G) M)
 |t1::t2::ba,B=>
  rw[dif_neg (by rw[B];simp)]
  exact .aJ _ _ (by simpa using B) (λi v d G M=>ai i v d (by simpa using G) M)
theorem X7(aR:bP.r=none){g:Operand}{ps:Array Tmp}{assign body:Code}{gf:FuncId}{caps:List T}(aA:sD (bE s.t g)=some (gf,caps))(h:∀B,ag.get s.t B = .undef->ql P gf (.aW s.l.length::caps) (s.l++[.loop s.l.length n ps assign body s.t .ready none]) ((B,.aW s.l.length)::s.t) λ_ l'=>BN P w0 I0 n Q s s.l.length l') :
  aG P w0 I0 n (.rangeFunc g ps assign body) s Q:=λa w U=>by
 obtain⟨ai,I,m,N,aD,ht⟩:=U
 obtain⟨vs,aJ,aX,aC⟩:=Ip (lK N.sat.c7 ht g) aA
 obtain⟨B,Z⟩:=Di s.t
 obtain⟨aF,aB⟩:=h B Z
 refine wpIn_rangeFunc ?_
 intro fn bb
 have aS:cO.round=none:=aR
 rw[aS]
 obtain⟨J,aj,M,ay,ax⟩:=N.Hl
 obtain⟨j,Y⟩:∃j:Loop,j={state:=.ready,pending:=none,fn,tmps:=a.tmps,params:=ps,assign,body,defers:=w.heap.size}:=⟨_,rfl⟩
 have aO:((w.alloc (.deferred (some []))).alloc (.loop j)).heap[w.heap.size+1]?=some (.loop j):=by
  have:=J2 (w.alloc (.deferred (some []))) (.loop j);rwa [World.size_alloc]at this
 have aP:=aj.sat.dJ (b:=w.heap.size+1) (by simp)
 have aQ:dH w0.heap.size ((w.alloc (.deferred (some []))).alloc (.loop j)) J (aK m s.l.length (.func (.yield (w.heap.size+1)) #[] #[])) (s.l++[.loop s.l.length n ps assign body s.t .ready none]) (.func (.yield (w.heap.size+1)) #[] #[]) (.loop s.l.length n ps assign body s.t .ready none):=by
  refine⟨w.heap.size+1,j,rfl,?_,aO,?_,by simp,λk=>?_,aP⟩
  ·have:=N.below.size;omega
  ·rw[Y];exact⟨rfl,rfl,rfl,rfl,rfl,ai⟩
  have e:(s.l++[AO.loop s.l.length n ps assign body s.t .ready none]).take s.l.length=s.l:=by simp
  rw[e,Y]
  exact((ht k).mono M).mono ⟨.refl J,eb _,λid ab G=>⟨G,bO m _ (by omega)⟩,λid ab U=>⟨U,bO m _ (by omega)⟩,λid ba s' els' ab aL=>⟨els',aL⟩⟩
 have aI:World.grownBy (w.alloc (.deferred (some []))) ((w.alloc (.deferred (some []))).alloc (.loop j)) none:=q7 _ _ _
 obtain⟨ad,aZ⟩:=aj.wN (b0:=w.heap.size+1) rfl (by simp) aI (eb _) (by simp) aQ
 have al:ar J (aK m s.l.length (.func (.yield (w.heap.size+1)) #[] #[])) (s.l++[.loop s.l.length n ps assign body s.t .ready none]) (.func (.yield (w.heap.size+1)) #[] #[]) (.aW s.l.length):=
  .aW _ _ (by simp[isVar,AO.isVar]) (dy m _ _)
 refine⟨w.heap.size+1,[mark w.heap.size],(w.alloc (.deferred (some []))).alloc (.loop j),{target:=.fn (.func gf) vs,args:= #[.func (.yield (w.heap.size+1)) #[] #[]]},(w.alloc (.deferred (some []))).alloc (.loop j),gf,
  #[.func (.yield (w.heap.size+1)) #[] #[]]++vs,(w.alloc (.deferred (some []))).alloc (.loop j),?_,?_,λao _=>lC ao,?_,λh=>by simp[cO,Fence.wide]at h,?_⟩
 ·rw[Y];exact run_enterLoop_outer _ _ _ _ _
 ·simp only[resolve,aJ]
  simp[go_sem]
 ·simp[invoke,aF _ _]
 refine Ch ?_ _
 have au:∀(i:Nat) v x,(#[Value.func (.yield (w.heap.size+1)) #[] #[]]++vs)[i]?=some v->(T.aW s.l.length::caps)[i]?=some x->ar J (aK m s.l.length (.func (.yield (w.heap.size+1)) #[] #[])) (s.l++[.loop s.l.length n ps assign body s.t .ready none]) v x:=λi v x G O=>by
  rcases i with _|i
  ·rw[j0 (by simp)]at G
   simp at G O;subst G;subst O;exact al
  have aV:vs[i]?=some v:=by
   rw[q5 (by simp)]at G
   simpa using G
  simp at O
  exact((aC i v x aV O).mono M).mono ad
 have av:∀k,ar J (aK m s.l.length (.func (.yield (w.heap.size+1)) #[] #[])) (s.l++[.loop s.l.length n ps assign body s.t .ready none]) (if k=B then .func (.yield (w.heap.size+1)) #[] #[]else a.tmps.getD k undef) (get ((B,.aW s.l.length)::s.t) k):=λk=>by
  simp only[get]
  by_cases F:B=k
  ·subst F;simp only[hQ];exact al
  rw[if_neg F,if_neg (hW F)]
  exact((ht k).mono M).mono ad
 have aw:=aB w0 I0 _ J _ (#[Value.func (.yield (w.heap.size+1)) #[] #[]]++vs) (λk=>if k=B then .func (.yield (w.heap.size+1)) #[] #[]else a.tmps.getD k undef) aZ (by simp[aX];omega) au av
 refine aw.mono ?_
 rintro e w' ⟨v,rfl,t,l',J',m',F,aY,G,aE,ah⟩
 obtain⟨base,k,a1,aU,gw,tm,st,cJ,aM,aT,aa⟩:=F
 have ak:=ah B
 simp only[get,hQ]at ak
 have aN:m' s.l.length = .func (.yield (w.heap.size+1)) #[] #[]:=by
  cases ak with
  |aW _ _ _ aq=>exact aq
 obtain⟨r,a6,an,bc,bd,a7,a8⟩:=aY.qb (st':=.exhausted) (pend':=cJ) aM aN
 have aH:=run_endLoop (P:=P) a6 (by rw[an.1];exact aT)
 have ae:r.pending=cJ:=an.2.1
 refine⟨cJ,_,by rw[<-ae];exact aH,?_⟩
 have af:Rel w0 I0 n ⟨s.t,l'.set s.l.length (.loop base k a1 aU gw tm .exhausted cJ)⟩ {a with defers:=[mark w.heap.size]++a.defers} (w'.putObj (w.heap.size+1) (.loop {r with state:=.exhausted})):=by
  refine⟨ai,J',m',?_,?_,λk=>?_⟩
  ·have:({r with state:=.exhausted}:Loop)={r with state:=.exhausted,pending:=cJ}:=by rw[<-ae]
   rw[this];exact a8
  ·refine dR.oe (I:=J) (dR.cons (aD.oe (J:=I) λ_ h=>h) (λb az=>M.cR.df b az) (by exact N.below.size) ax ay) aE
  have:=ah k
  simp only[get]at this
  by_cases F:B=k
  ·subst F
   rw[Z];exact .undef _
  rw[if_neg F,if_neg (hW F)]at this
  exact this.mono a7
 cases cJ with
 |none=>exact⟨_,aa,af⟩
 |some c=>exact aa _ _ af
end
end Go.ag
namespace Go.Sy
open Go Go.ag Go.RowKit
variable [bd][bP]
section
variable [aD][cz][c9]
variable {P:Program}{V:Env}{n:Nat}{ops:List Oper}
theorem Zk{o:Oper}{s:St}{K:St->Prop}{pc:PC}{g:FuncId}{ts:List T}{ft:Tm}(aa:dg ops s.t o.guard=some pc)(ad:holds pc)(O:du n o.dst=true)(j:dZ V.E (bE s.t) o=some (g,ts))(Z:∀k,ag.get ft k = .undef\/ag.get ft k=ag.get s.t k)(h:ql P g ts s.l ft λu l'=>K ⟨bH ft o.dst u,l'⟩):lD P n ops o s K:=by
 intro w0 I0 a w Q an ae M
 obtain⟨B,I,m,F,U,ht⟩:=ae
 rw[if_pos ((oK ht aa).2 ad)]
 refine bY.wpIn (uR j) ?_
 obtain⟨G,af,ab,N⟩:=qA (P:=P) (w:=w) (ρ:=a.eval) h.1 (λx _=>lK F.sat.c7 ht x) j
 rw[af]
 simp only[bY]
 refine(h.2 w0 I0 w I m G (λk=>a.tmps.getD k undef) F ab N λk=>?_).mono ?_
 ·rcases Z k with e|e
  ·rw[e];exact .undef _
  rw[e];exact ht k
 rintro e w' ⟨v,Y,t,l',J,m',ah,ai,aj,al,ak⟩
 exact⟨v,Y,M _ _ _ ah ⟨by cases o.dst<;>simp[Act.put,B],J,m',ai,U.wP al,lh B O ak aj⟩⟩
theorem Zm{o:Oper}{s:St}{K:St->Prop}{pc:PC}{id base k:Nat}{ts:List T}{ps:Array Tmp}{aU O:Code}{tm ft:Tm}(bg:dg ops s.t o.guard=some pc)(ah:holds pc)(aY:du n o.dst=true)(aF:jk V.E (bE s.t) o=some (id,ts))(bf:∀k,ag.get ft k = .undef\/ag.get ft k=ag.get s.t k)(aw:s.l[id]?=some (.loop base k ps aU O tm .ready none))(bo:ps.size=ts.length)(bn:ps.toList.all (λp=>decide (p<k))=true)(
   h:∀(R:bP)(w0:World)(I0:av)(B:Nat)(vals:Nat->Value)(Q:Exit->St->Prop),ag.get ft B = .undef->(∀e G s2,nT e=some G->si s2 s.l.length vals ((B,.aW id)::ft) id base k ps aU O tm G (λl'=>K ⟨bH ft o.dst (.d (.bool G.isNone)),l'⟩)->Q e s2) ->
   @aG _ R P w0 I0 k aU ⟨ko ps.toList ts tm,s.l++[.frame s.l.length vals ((B,.aW id)::ft)]⟩ (tD λs1=>∃s2,Sub s1 s2/\s2.l[s.l.length]?=some (.frame s.l.length vals ((B,.aW id)::ft))/\s2.l[id]?=some (.loop base k ps aU O tm .ready none)/\@aG _ R P w0 I0 k O ⟨s2.t,s2.l.set id (.loop base k ps aU O tm .busy none)⟩ Q)):lD P n ops o s K:=by
 intro w0 I0 a w Q aL bs aP
 obtain⟨aC,I,m,aj,aZ,ht⟩:=bs
 rw[if_pos ((oK ht bg).2 ah)]
 obtain⟨b,ad,f,bU,bV,bT,az,bt,ay,aR⟩:=Ov (P:=P) (w:=w) (ρ:=a.eval) (λx _=>lK aj.sat.c7 ht x) aF
 obtain⟨Y,aS,br,bS,bC,_,_⟩:=aj.qb (st':=.ready) (pend':=none) aw az
 obtain⟨bX,bW,aA,has,aT,aD⟩:=br
 obtain⟨B,ao⟩:=Di ft
 generalize ai:(λj=>if j=B then Value.func (.yield b) #[] #[]else a.tmps.getD j undef)=vals
 have bh:ag.isVar s.l id=true:=by unfold ag.isVar;rw[aw];rfl
 have bu:∀j,ar I m s.l (vals j) (ag.get ((B,.aW id)::ft) j):=λj=>by
  rw[<-ai]
  simp only[ag.get]
  by_cases U:B=j
  ·subst U;simp only[hQ]
   exact .aW id b bh az
  rw[if_neg U,if_neg (hW U)]
  rcases bf j with e|e
  ·rw[e];exact .undef _
  rw[e];exact ht j
 have au:∀{aa:av}{Z:Nat->Value}{an:World}{l1:List AO},aE w0 I0 an aa Z l1->l1[s.l.length]?=some (.frame s.l.length vals ((B,.aW id)::ft))->Z id = .func (.yield b) #[] #[]:=λ{aa Z an l1} ae ba=>by
  have M:=(ae.obj _ _ ba).2.2 B
  rw[<-ai]at M
  simp only[hQ,ag.get]at M
  cases M with
  |aW _ _ _ af=>exact af
 unfold Oper.wpIn
 refine⟨λ_ _=>lC _,?_⟩
 rw[Oper.semAt_eq _ _ _ (Ou aF),bt,run_yield aS (by rw[aA,ay,bo]),Oper.uponIn_round]
 refine⟨λh=>by simp[cO,Fence.wide]at h,?_⟩
 obtain⟨bG,ax⟩:=aj.frame (vals:=vals) (ft:=(B,.aW id)::ft) bu
 have aB:=FU (m:=aK m s.l.length (.bool false)) (l:=s.l++[.frame s.l.length vals ((B,.aW id)::ft)]) (I:=I) ps.toList ad.toList ts Y.tmps tm (by simpa using ay) (λi v x bD bI=>(aR i v x (by simpa using bD) bI).mono ax) (λp ah=>by rw[aD];simpa using dT.1 bn p ah) (λq=>((bC q).mono (Le.uD I m s.l base)).mono ax)
 have bc:(Y.params.zip ad).foldl (λtmps(x:Tmp×Value)=>tmps.setIfInBounds x.1 x.2) Y.tmps=(ps.toList.zip ad.toList).foldl (λt(p:Tmp×Value)=>t.setIfInBounds p.1 p.2) Y.tmps:=by
  rw[<-abc,Array.toList_zip,aA]
 have bw:@Rel _ ⟨some b,I.df⟩ w0 I0 k ⟨ko ps.toList ts tm,s.l++[.frame s.l.length vals ((B,.aW id)::ft)]⟩ {tmps:=(Y.params.zip ad).foldl (λtmps(x:Tmp×Value)=>tmps.setIfInBounds x.1 x.2) Y.tmps,defers:=[]} w:=by
  rw[bc]
  exact @Rel.mk _ ⟨some b,I.df⟩ _ _ _ _ _ _ (aB.1.trans aD) ⟨I,_,bG,@dR.nil _ ⟨some b,I.df⟩ _ _ λ_ h=>h,aB.2⟩
 have bF:=h ⟨some b,I.df⟩ w0 I0 B vals (λe s2=>∃G,nT e=some G/\@si _ ⟨some b,I.df⟩ s2 s.l.length vals ((B,.aW id)::ft) id base k ps aU O tm G (λl'=>K ⟨bH ft o.dst (.d (.bool G.isNone)),l'⟩)) ao (λe G s2 M af=>⟨G,M,af⟩) _ _ bw
 refine roundIn_of_wpIn (F:=cO) (lC _) ?_
 rw[has,aT]
 refine o2 (λe aM an N=>?_) bF
 obtain⟨s1,N,bp⟩:=N
 cases e<;>simp only[tD]at N
 obtain⟨s2,bx,bd,bl,aV⟩:=N
 obtain⟨bA,aa,Z,ae,a1,bB⟩:=bx _ _ _ _ _ bp
 obtain⟨aI,bJ,aH,bZ,b0,bK,bL⟩:=ae.qb (st':=.busy) (pend':=none) bl (au ae bd)
 have aX:=run_beginRound (P:=P) bJ aH.1
 refine⟨_,aX,?_⟩
 have aN:({aI with state:=.busy}:Loop)={aI with state:=.busy,pending:=none}:=by rw[<-aH.2.1]
 rw[aN]
 refine o2 (λe bR bQ N=>?_) (aV aM _ (@Rel.mk _ ⟨some b,I.df⟩ _ _ _ _ _ _ bA ⟨aa,Z,bL,a1,λq=>(bB q).mono bK⟩))
 obtain⟨s',⟨G,U,aJ,bz,aq,bm,aQ⟩,bq⟩:=N
 obtain⟨_,ab,al,ak,a6,bY⟩:=bz _ _ _ _ _ bq
 obtain⟨b4,bM,b1,b2,b3,bN,bO⟩:=ak.qb (st':=if G.isNone then .ready else .done) (pend':=G) bm (au ak aq)
 have a7:=run_endRound (P:=P) G bM
 have bj:∀b,I.df b->ab.df b:=by
  obtain⟨_,_,_,_,aO⟩:=a6
  exact aO
 have bb:=(ak.obj _ _ aq).2.2
 have a8:∀q,ar ab al (aJ.l.set id (.loop base k ps aU O tm (if G.isNone then .ready else .done) G)) (a.tmps.getD q undef) (ag.get ft q):=λq=>by
  have M:=bb q
  rw[<-ai]at M
  simp only[ag.get]at M
  by_cases N:B=q
  ·subst N;rw[ao];exact .undef _
  rw[if_neg N,if_neg (hW N)]at M
  exact(M.mono (Le.uD ab al aJ.l s.l.length)).mono bN
 have fin:∃v w',(Instr.endRound b G).run P bQ = .ok v w'/\aL (a.put o.dst v) w':=by
  refine⟨_,_,a7,aP _ _ _ aQ ⟨by cases o.dst<;>simp[Act.put,aC],ab,al,bO,aZ.wP bj,?_⟩⟩
  exact lh aC aY a8 (.d _ _ (.bool _))
 cases e<;>simp only[nT,c5]at U<;>first| (subst U;exact fin)|cases U
end
end Go.Sy
namespace Go.Sy
open Go Go.ag
variable [aD]
inductive Dn where
 |skip
 |done (n:Nat) (ins:List Ins)
abbrev fh:=List (X×Bool)
def yc(D:fh)(x:X):Option Bool:=match D with
 | []=>none
 |p::r=>bif X.beq p.1 x then some p.2 else yc r x
def qC(D:fh):TX->TX
 |.d .bool x=>(match yc D x with
  |some c=>.d .bool (.bool c)
  |none=>.d .bool x)
 |t=>t
def gx(σ:Sk):fh->Sk
 | []=>σ
 |p::r=>Sk.decide p.1 p.2 (gx σ r)
def nR:List Ins->List Ins->Bool
 | [],[]=>true
 |.bJ x::r,.bJ y::s=>X.beq x y&&nR r s
 |.get x k::r,.get y j::s=>X.beq x y&&X.beq k j&&nR r s
 |.call c x::r,.call d y::s=>Nat.beq c d&&X.beq x y&&nR r s
 |_,_=>false
def rW(e:xu)(l:List AX):List AX:=match e with
 |.none=>l
 |.new a=>l++[a]
 |.aK l'=>l'
def isNone(l:List AX):xu->Bool
 |.none=>true
 |.aK l'=>lF l' l
 |.new _=>false
def gF(C:Cx)(ops:List Oper)(D:fh):List (Nat×Oper×Dn)->List (Nat×TX)->List AX->List (Nat×TX)×List Nat×List (List AX)
 | [],t,_=>(t,[],[])
 | (_,o,.skip)::r,t,l=>gF C ops D r (gZ t o.dst .gone) l
 | (i,o,.done n _)::r,t,l=>match pd C ops (gE t) l n l.length o with
  |some q=>bif isNone l q.bq then gF C ops D r (gZ t o.dst (qC D q.t)) l else
   ((gF C ops D r (gZ t o.dst (qC D q.t)) (rW q.bq l)).1,i::(gF C ops D r (gZ t o.dst (qC D q.t)) (rW q.bq l)).2.1,rW q.bq l::(gF C ops D r (gZ t o.dst (qC D q.t)) (rW q.bq l)).2.2)
  |none=>gF C ops D r t l
def BO(A:List Nat)(ws:List Nat)(m:Nat):Nat:=ws.foldl (λm k=>Nat.lor (jn m k) ((A[k]?).getD 0)) m
def xD:List Oper->List Nat->List Nat
 | [],A=>A
 |o::r,A=>xD r (A++[BO A (waits o) 0])
def BP(ops:List Oper)(A:List Nat):Bool:=(List.range ops.length).all λi=>match ops[i]? with
 |some o=>Nat.beq ((A[i]?).getD 0) (BO A (waits o) 0)
 |none=>true
def wt(A:List Nat)(i j:Nat):Bool:=hasB ((A[i]?).getD 0) j
def Oq(q:Oper)(k:Nat):Bool:=match q.dst with
 |some d=>Nat.beq d k
 |none=>false
def qf(ops:List Oper)(k:Nat)(p:Nat->Bool):Bool:=(List.range ops.length).all λj=>match ops[j]? with
 |some q=>!Oq q k||p j
 |none=>true
def mM(ops:List Oper)(A:List Nat)(t0 t:List (Nat×TX))(i:Nat)(o:Oper):List (Nat×TX):=((fC ops o).filterMap λk=>bif qf ops k (λj=>wt A i j)then none else some (k,aV t0 k))++t
def Mq(ops:List Oper)(A:List Nat)(i:Nat)(o:Oper):Bool:=(fC ops o).all λk=>qf ops k (λj=>wt A i j)||qf ops k (λj=>wt A j i||Nat.beq i j)
def xC(A:List Nat)(H:List Nat)(i m:Nat):Bool:=(List.range H.length).all λk=>match H[k]? with
 |some h=>(!wt A i h||Nat.blt k m)&&(!(Nat.beq h i||wt A h i)||Nat.ble m k)
 |none=>true
def vu(H:List Nat)(i:Nat):Bool:=H.any λh=>Nat.beq h i
def ze(C:Cx)(ops:List Oper)(j t:List (Nat×TX))(D:fh)(H:List Nat)(Ls:List (List AX))(i:Nat)(o:Oper)(m:Nat):Dn->Bool
 |.skip=>!vu H i&&(match mH ops ⟨0,j,[]⟩ o.guard with |.no=>true|_=>false)&&(match o.dst with|some d=>vw (aV t d)|none=>true)
 |.done n k=>(match mH ops ⟨0,j,[]⟩ o.guard with |.yes=>true|_=>false)&&(match Ls[m]? with
  |some l=>(match pd C ops (gE j) l n l.length o with
   |some q=>nR q.ins k&&(match o.dst with|some d=>TX.beq (qC D q.t) (aV t d)|none=>true)&&(bif isNone l q.bq then !vu H i else(match H[m]? with|some h=>Nat.beq h i|none=>false)&&(match Ls[m+1]? with|some l'=>lF (rW q.bq l) l'|none=>false))
   |none=>false)
  |none=>false)
def uQ(C:Cx)(ops:List Oper)(A:List Nat)(t0 t:List (Nat×TX))(D:fh)(H:List Nat)(Ls:List (List AX))(rs:List Dn):Bool:=
 mP ops&&BP ops A&&lT H&&(H.all λh=>Nat.blt h ops.length)&&(List.range ops.length).all λi=>match ops[i]?,rs[i]? with
  |some o,some d=>du C.nt o.dst&&Mq ops A i o&&(List.range (H.length+1)).all λm=>!xC A H i m||ze C ops (mM ops A t0 t i o) t D H Ls i o m d
  |_,_=>false
def tp(C:Cx)(ops:List Oper)(dt:Sk)(D:fh)(n:Nat)(rs:List Dn):Option Sk:=
 let p:=gF C ops D ((List.range ops.length).zip (ops.zip rs)) (gx dt D).t dt.l
 bif uQ C ops (xD ops []) (gx dt D).t p.1 D p.2.1 (dt.l::p.2.2) rs then(match (dt.l::p.2.2)[p.2.1.length]? with
  |some l=>some ⟨n,p.1,l⟩
  |none=>none)else none
def l6(C:Cx)(ops:List Oper)(dt:Sk):List Oper->Sk->fh->List Dn->Tr
 | [],σ,D,rs=>(match tp C ops dt D σ.n rs.reverse with
  |some k=>.leaf .normal k
  |none=>.bad (1800+ops.length))
 |o::r,σ,D,rs=>
  let j:=λ(σ:Sk)(D:fh)=>match pd C ops (gE σ.t) σ.l σ.n σ.l.length o with
   |some q=>pq (l6 C ops dt r (sr σ o.dst q) D (.done σ.n q.ins::rs)) σ.n q.ins
   |none=>.bad (30000+o.dst.getD 9999)
  let skip:=λ(σ:Sk)(D:fh)=>l6 C ops dt r {σ with t:=gZ σ.t o.dst .gone} D (.skip::rs)
  match mH ops σ o.guard with
  |.yes=>j σ D
  |.no=>skip σ D
  |.ask x b=>.fx x (bif b then j (σ.decide x true) ((x,true)::D)else skip (σ.decide x true) ((x,true)::D)) (bif b then skip (σ.decide x false) ((x,false)::D)else j (σ.decide x false) ((x,false)::D))
  |.bad=>.bad 4
def vm(l:List AX)(id:Nat):List Nat:=l.zipIdx.map λp=>bif Nat.beq p.2 id||(match p.1 with |.ey=>true|_=>false)then yn+p.2 else p.2
def Dd(ids:List Nat)(id:Nat):Bool:=lT ids && !(ids.any λi=>Nat.beq i id)
def De(C:Cx)(ty:TypeId)(cs:List TX):Option Ty:=match C.ty ty with
 |some t=>some t
 |none=>(match cs with
  | [.d (.aB f t) _]=>some (.aB f t)
  | [.d (.fn f) _]=>some (.fn f)
  |_=>none)
def Df(C:Cx)(σ:Sk)(j:Nat):Option Sk:=match aV σ.t j with
 |.ptr id 0=>(match σ.l[id]? with
  |some (.var ty cs)=>(match De C ty cs with
   |some t=>(match qZ t cs with
    |some (.d u x)=>if u=t then(bif dG (.box t)&&Dd (vm σ.l id) id&&qL (vm σ.l id) σ.l then some ⟨σ.n,(j,.d (.box t) (.box x))::(σ.re (vm σ.l id)).t,(σ.re (vm σ.l id)).l⟩else none)else none
    |_=>none)
   |none=>none)
  |_=>none)
 |_=>none
def uS(id:Nat):List Ty->Nat->Sk->Sk
 | [],_,σ=>σ
 |t::ts,k,σ=>uS id ts (k+1) (match mu σ (.cell id k)with
  |.d _ _=>σ
  |_=>(match oS σ (.cell id k) (.data t)with|some bC=>bC|none=>σ))
def yb(C:Cx)(σ:Sk)(j:Nat):Sk:=match aV σ.t j with
 |.ptr id 0=>(match σ.l[id]? with
  |some (.var ty _)=>(match C.ty ty with
   |some t=>(match fw fK t .unit with
    |some ps=>uS id (ps.map (·.1)) 0 σ
    |none=>σ)
   |none=>σ)
  |_=>σ)
 |_=>σ
def jy(C:Cx):Sk->List Nat->Sk
 |σ,[]=>σ
 |σ,j::r=>match Df C (yb C σ j) j with
  |some bC=>jy C bC r
  |none=>jy C σ r
def lI(C:Cx):List Oper->List Nat
 | []=>[]
 |o::r=>(match o.op with
  |.makeFunc (.func f) _ cs=>bif C.Dg.any (Nat.beq f)then cs.toList.filterMap (λx=>match x with |.tmp t=>some t|_=>none)else []
  |_=>[])++lI C r
def jR(f:Func):Code:=match f.body with|some c=>c|none=>.skip
def ln(rs:List ResultVar):Nat:=rs.foldl (λm r=>match r with |.tmp t=>jn m t |.cell a _=>jn m a) 0
def Mv(C:Cx)(ty:TypeId)(l:List AX)(a:TX):Option TX:=match C.ty ty,a with
 |some t,.ptr id off=>match l[id]? with
  |some (.var _ cs)=>bif Nat.ble (off+t.size) cs.length then qZ t ((cs.drop off).take t.size)else none
  |_=>none
 |_,_=>none
def oC(C:Cx)(σ:Sk):List ResultVar->Option (List TX)
 | []=>some []
 |.tmp t::r=>(oC C σ r).map (aV σ.t t :: ·)
 |.cell a ty::r=>match Mv C ty σ.l (aV σ.t a)with
  |some x=>(oC C σ r).map (x :: ·)
  |none=>none
def WE(T:Tr):Tr:=eo (λe j=>match e with |.normal=>.leaf .normal j|_=>.bad 21) T
def eW(T:Tr):Tr:=eo (λe j=>.leaf (.eW e) j) T
def Oe(T:Tr):Tr:=eo (λe j=>match e with |.eW e=>.leaf e j|_=>.bad 27) T
def isDone(σ:Sk):Bool:=σ.l.any λa=>match a with |.lp _ _ _ (.done _)=>true|_=>false
def Bb(p:Sk->Bool)(j n0:Nat)(T:Tr)(f:Sk->Tr):Tr:=
 bif (leaves .normal T).any p then
  Oe (uo j n0 (eo (λe σ=>match e with |.normal=>(bif p σ then eW (f σ)else .leaf .normal σ)|e=>.leaf (.eW e) σ) T) λk=>eW (f k))
 else uo j n0 T f
def Y3(j:Nat)(ls:List Sk)(σ:Sk):Bool:=isDone σ||ls.any λk=>k.t.any λq=>hasB j q.1&&(match q.2 with |.ptr .. =>true|_=>false)&&(match aV σ.t q.1 with |.undef=>true|_=>false)
def w7(j n0:Nat)(T:Tr)(f:Sk->Tr):Tr:=Bb (Y3 j (leaves .normal T)) j n0 T f
def FK:List ResultVar->List Nat
 | []=>[]
 |.tmp t::r=>t::FK r
 |_::r=>FK r
def Y2(rs:List Nat)(ls:List Sk)(σ:Sk):Bool:=isDone σ||rs.any λj=>(match aV σ.t j with |.undef=>true|_=>false)&&ls.any λk=>match aV k.t j with |.ptr .. =>true|_=>false
def M3(rs:List Nat)(j n0:Nat)(T:Tr)(f:Sk->Tr):Tr:=Bb (Y2 rs (leaves .normal T)) j n0 T f
mutual
def TX.clean:TX->Bool
 |.undef=>false
 |.sub _ _ _=>false
 |.gone=>false
 |.agg cs=>TX.qz cs
 |.aJ cs=>TX.qz cs
 |.aB _ cs=>TX.qz cs
 |_=>true
def TX.qz:List TX->Bool
 | []=>true
 |t::ts=>t.clean&&TX.qz ts
end
mutual
def TX.refs:TX->List Nat
 |.ptr id _=>[id]
 |.row id=>[id]
 |.bj id _ _=>[id]
 |.map id=>[id]
 |.aW id=>[id]
 |.cw id _=>[id]
 |.bB id _ _=>[id]
 |.agg cs=>TX.rN cs
 |.aJ cs=>TX.rN cs
 |.aB _ cs=>TX.rN cs
 |_=>[]
def TX.rN:List TX->List Nat
 | []=>[]
 |t::ts=>t.refs++TX.rN ts
end
def nU(j:Nat)(t:List (Nat×TX)):List (Nat×TX):=(jg j t 0).map λp=>(p.1,bif p.2.clean then p.2 else .undef)
def fD:List (Nat×TX)->List Nat
 | []=>[]
 |p::r=>p.2.refs++fD r
inductive eN where
 |mk (id j k:Nat) (ps:List Nat) (aU body:Code) (t:List (Nat×TX)) (outer:List eN)
def eN.id:eN->Nat
 |.mk id _ _ _ _ _ _ _=>id
def vj(id:Nat):List eN->Option eN
 | []=>none
 |x::r=>bif Nat.beq x.id id then some x else vj id r
def findF(g:Nat):List (Nat×Func)->Option Func
 | []=>none
 |p::r=>bif Nat.beq p.1 g then some p.2 else findF g r
def oH:Nat->List TX->List (Nat×TX)
 |_,[]=>[]
 |k,t::ts=>(k,t)::oH (k+1) ts
def Br:List TX->TX
 | [x]=>x
 |xs=>.aJ xs
def gG(d:Nat):AX->AX
 |.dj j b r=>bif Nat.ble d j then .ey else .dj j b r
 |.lp j b r s=>bif Nat.ble d j then .ey else .lp j b r s
 |a=>a
def jZ(j b:Nat)(l:List AX):Bool:=match l[b]? with
 |some (.dj B k _)=>Nat.beq j B&&Nat.beq b k
 |_=>false
abbrev Runner:=Cx->List eN->Lv->Code->Sk->Tr
def Cf(run:Runner)(C:Cx)(L:List eN)(fn:Func)(ts:List TX)(σ:Sk)(t0:List (Nat×TX))(K:TX->Sk->Tr):Tr:=
 bif !Nat.ble ts.length fn.ntmps then .bad 24 else
 M3 (FK fn.results.toList) (ln fn.results.toList) σ.n
  (
   eo (λe j=>match e with |.normal=>.leaf .normal (j.cu (ln fn.results.toList)) |.ret=>.leaf .normal (j.cu (ln fn.results.toList))|_=>.bad 21)
   (run {C with nt:=fn.ntmps,dep:=C.dep+1,kn:=false} L ⟨ln fn.results.toList,[],ln fn.results.toList⟩ (jR fn) ⟨σ.n,oH 0 ts,σ.l++[.dj C.dep σ.l.length (fD t0)]⟩))
  λj=>match oC C j fn.results.toList with
   |some xs=>bif jZ C.dep σ.l.length j.l then K (Br xs) ⟨j.n,t0,j.l.map (gG C.dep)⟩else .bad 23
   |none=>.bad 22
def w3:List Nat->List TX->List (Nat×TX)->List (Nat×TX)
 |p::ps,x::xs,t=>w3 ps xs ((p,x)::t)
 |_,_,t=>t
def kK(C:Cx)(id j b:Nat)(rs:List Nat)(n1:Nat)(t0:List (Nat×TX))(K:TX->Sk->Tr)(e:Ex)(k:Sk):Tr:=match k.l[id]? with
 |some (.lp F B G .busy)=>bif Nat.beq F j&&Nat.beq B b&&decide (G=rs)&&jZ C.dep n1 k.l then
   eW (K (.d .bool (.bool (decide (e = .normal)))) ⟨k.n,t0,(k.l.set id (.lp j b rs (if e = .normal then .ready else .done e))).map (gG C.dep)⟩)else .bad 28
 |_=>.bad 28
def G6(run:Runner)(C:Cx)(L:List eN)(id:Nat)(ts:List TX)(σ:Sk)(t0:List (Nat×TX))(K:TX->Sk->Tr):Tr:=match vj id L,σ.l[id]? with
 |some (
     .mk _ j k ps aU body t outer),some (.lp G b rs .ready)=>
  bif Nat.beq G j&&Nat.beq ps.length ts.length&&ps.all (λp=>Nat.blt p k)then
   Oe (
       w7 0 σ.n
    (
     eo (λe B=>match e with |.normal=>.leaf .normal B |.ret=>kK C id j b rs σ.l.length t0 K .ret B |.exit i=>kK C id j b rs σ.l.length t0 K (.exit i) B|_=>.bad 26)
     (
      w7 (fO body ⟨0,[],0⟩) σ.n
      (WE (run {C with nt:=k,dep:=C.dep+1,kn:=true} outer ⟨fO body ⟨0,[],0⟩,[],0⟩ aU ⟨σ.n,w3 ps ts t,σ.l++[.dj C.dep σ.l.length (id::fD t0)]⟩))
      λB=>match B.l[id]? with
       |some (.lp M F N .ready)=>bif Nat.beq M j&&Nat.beq F b&&decide (N=rs)&&jZ C.dep σ.l.length B.l then run {C with nt:=k,dep:=C.dep+1,kn:=true} outer ⟨0,[],0⟩ body ⟨B.n,B.t,B.l.set id (.lp j b rs .busy)⟩else .bad 25
       |_=>.bad 25))
    λB=>kK C id j b rs σ.l.length t0 K .normal B)
  else .bad 29
 |_,_=>.bad 29
def vp(
     run:Runner)(C:Cx)(L:List eN):xv:=λo m σ=>match o.op with
 |.binOp j t x y _=>(match j,C.E t,gE σ.t x,y with
  |.eql,some ⟨_,_,_,.slice _⟩,.d (.list _) xs,.const (.slice none 0 0)=>some λK=>.gg xs (K (.d .bool (.bool true)) σ) (K (.d .bool (.bool false)) σ)
  |_,_,_,_=>none)
 |.call c=>(match c.callee with
  |.value f=>(match gE σ.t f with
   |.aW id=>some λK=>G6 run C L id (oI C.E c.argTypes.toList (c.args.toList.map (gE σ.t))) σ (nU m σ.t) K
   |t=>(match kI t with
    |some (g,ts)=>(match findF g C.mG with
     |some fn=>some λK=>Cf run C L fn (oI C.E c.argTypes.toList (c.args.toList.map (gE σ.t))++ts) σ (nU m σ.t) K
     |none=>none)
    |none=>none))
  |_=>none)
 |_=>none
def wS(run:Runner)(C:Cx)(L:List eN)(B:Nat)(fn:Func)(caps:List TX)(ps:List Nat)(aU F:Code)(σ:Sk)(t0:List (Nat×TX)):Tr:=
 bif !Nat.ble (caps.length+1) fn.ntmps || !fn.results.toList.isEmpty || !Nat.ble σ.l.length σ.l.length then .bad 32 else
 eo (λe k=>match e with
  |.normal=>fin k
  |.ret=>fin k
  |_=>.bad 31) (run {C with nt:=fn.ntmps,dep:=C.dep+2,kn:=false} (.mk σ.l.length C.dep C.nt ps aU F t0 L::L) ⟨0,[],0⟩ (jR fn)
   ⟨σ.n,oH 0 (.aW σ.l.length::caps),σ.l++[.lp C.dep σ.l.length (fD t0) .ready,.dj (C.dep+1) (σ.l.length+1) (σ.l.length::fD t0)]⟩)
where fin (k:Sk):Tr:=bif jZ (C.dep+1) (σ.l.length+1) k.l then(match k.l[σ.l.length]? with
 |some (.lp j _ _ .ready)=>bif Nat.beq j C.dep then .leaf .normal (Sk.cu B ⟨k.n,t0,k.l.map (gG C.dep)⟩)else .bad 31
 |some (.lp j _ _ (.done .ret))=>bif Nat.beq j C.dep then .leaf .ret (Sk.cu B ⟨k.n,t0,k.l.map (gG C.dep)⟩)else .bad 31
 |some (.lp j _ _ (.done (.exit i)))=>bif Nat.beq j C.dep then .leaf (.exit i) (Sk.cu B ⟨k.n,t0,k.l.map (gG C.dep)⟩)else .bad 31
 |_=>.bad 31)else .bad 31
def exec:Nat->Cx->List eN->Lv->Code->Sk->Tr
 |0,_,_,_,_,_=>.bad 8
 |f+1,C,L,live,c,σ=>match c with
  |.skip=>.leaf .normal σ
  |.region _ ops d=>eo (λe j=>.leaf e (j.cu live.out)) (bif d then l6 C ops.toList (jy C σ (lI C ops.toList)) ops.toList (jy C σ (lI C ops.toList)) [] []else l7 C (vp (exec f) C L) live.out ops.toList ops.toList (jy C σ (lI C ops.toList)))
  |.seq a b=>w7 (fO b live) σ.n (exec f C L {live with out:=fO b live} a σ) (exec f C L live b)
  |.cond c a b=>match gE σ.t c with
   |.d .bool (.bool true)=>exec f C L live a σ
   |.d .bool (.bool false)=>exec f C L live b σ
   |.d .bool x=>.fx x (exec f C L live a σ) (exec f C L live b σ)
   |_=>.bad 9
  |.block id b=>eo (λe j=>match e with |.exit i=>(bif Nat.beq i id then .leaf .normal j else .leaf e j)|e=>.leaf e j) (exec f C L {live with ex:=(id,live.out)::live.ex} b σ)
  |.loop b=>vI (fO (.loop b) live) σ.n (exec f C L {live with out:=fO (.loop b) live} b) 6 σ (σ.cu (fO (.loop b) live))
  |.exit id=>.leaf (.exit id) σ
  |.ret=>.leaf .ret σ
  |.rangeFunc g ps a b=>bif C.kn then .bad 30 else match kI (gE (nU (fO (.rangeFunc g ps a b) live) σ.t) g)with
   |some (gf,caps)=>(match findF gf C.mG with
    |some fn=>wS (exec f) C L live.out fn caps ps.toList a b σ (nU (fO (.rangeFunc g ps a b) live) σ.t)
    |none=>.bad 33)
   |none=>.bad 34
  |_=>.bad 10
def uw:Nat->List Ty->List (Nat×TX)
 |_,[]=>[]
 |k,t::ts=>(k,.d t (.var k))::uw (k+1) ts
def iU(g:Sk->Option (X)):Nat->Tr->Tr
 |k,.leaf e σ=>match e with
  |.exit _=>.bad 11
  |.eW _=>.bad 11
  |_=>match g σ with
   |some x=>.out k x
   |none=>.bad 12
 |_,.out k x=>.out k x
 |k,.bJ x t=>.bJ x (iU g k t)
 |k,.get v xs i t=>.get v xs i (iU g k t)
 |k,.call v c x t=>.call v c x (iU g k t)
 |k,.fx c a b=>.fx c (iU g k a) (iU g k b)
 |k,.gg c a b=>.gg c (iU g k a) (iU g k b)
 |k,.join ty v a b=>.join ty v (iU g (k+1) a) (iU g k b)
 |k,.loop ty v i b=>.loop ty v i (iU g (k+1) b)
 |_,.bad w=>.bad w
def FP(C:Cx)(rs:List ResultVar)(j:List Ty)(σ:Sk):Option X:=match oC C σ rs with
 |some ts=>match gH σ.l j ts with
  |some (xs,_)=>some (fp xs)
  |none=>none
 |none=>none
def uy(C:Cx)(rs:List ResultVar)(c:Code)(j k:List Ty):Tr:=
 iU (FP C rs k) 0 (exec 400 C [] ⟨ln rs,[],ln rs⟩ c ⟨j.length,uw 0 j,[]⟩)
end Go.Sy
namespace Go.Sy
open Go Go.ag
variable [aD][cF][cz][c9][bd][oR][bP]
def yC:∀{a b:List Ins},nR a b=true->a=b
 | [],[],_=>rfl
 |.bJ x::r,.bJ y::s,h=>by
  simp only[nR,dd]at h
  rw[X.beq_eq h.1,yC h.2]
 |.get x k::r,.get y j::s,h=>by
  simp only[nR,dd]at h
  rw[X.beq_eq h.1.1,X.beq_eq h.1.2,yC h.2]
 |.call c x::r,.call d y::s,h=>by
  simp only[nR,dd]at h
  rw[et h.1.1,X.beq_eq h.1.2,yC h.2]
 | [],_::_,h=>by cases h
 |_::_,[],h=>by simp[nR]at h
 |.bJ _::_,.get _ _::_,h=>by cases h
 |.bJ _::_,.call _ _::_,h=>by cases h
 |.get _ _::_,.bJ _::_,h=>by cases h
 |.get _ _::_,.call _ _::_,h=>by cases h
 |.call _ _::_,.bJ _::_,h=>by cases h
 |.call _ _::_,.get _ _::_,h=>by cases h
def ch.again{cs:List Callee}{n:Nat}{M af ρ:aN}{is:List Ins}(h:ch cs n M is af):dY n M->Ext af ρ->∀ρ0,(∀i,lk ρ0 i=lk ρ i)->∃B,ch cs n ρ0 is B/\∀i,lk B i=lk ρ i:=by
 induction h with
 |nil n M=>intro _ _ ρ0 F;exact⟨ρ0,.nil n ρ0,F⟩
 |bJ n M x r af al Z ab=>
  intro N G ρ0 F
  obtain⟨B,ad,ae⟩:=ab N G ρ0 F
  have an:=X.eF (λi v aa=>(F i).trans (G i v ((Z.ext N).1 i v aa)):Ext M ρ0) al
  exact⟨B,.bJ n ρ0 x r B an ad,ae⟩
 |get n M xs k r af t l kk i e ah ai aj Z ab=>
  intro N G ρ0 F
  have U:=N.push (r4 n) ⟨t,e⟩
  have O:=(Z.ext U).1
  have ag:Ext M ρ0:=λi v aa=>(F i).trans (G i v (O i v (Ext.push N _ i v aa)))
  have ak:lk ρ n=some ⟨t,e⟩:=G n _ (O n _ (jE n _ _))
  obtain⟨B,ad,ae⟩:=ab U G ((n,⟨t,e⟩)::ρ0) (λj=>by
   by_cases Y:n=j
   ·subst Y;rw[jE,ak]
   simp only[lk,lb Y,cond_false];exact F j)
  exact⟨B,.get n ρ0 xs k r B t l kk i e (X.eF ag ah) (X.eF ag ai) aj ad,ae⟩
 |call n M c x r af C a y ah ai aj Z ab=>
  intro N G ρ0 F
  have U:=N.push (r4 n) ⟨aT C.res,y⟩
  have O:=(Z.ext U).1
  have ag:Ext M ρ0:=λi v aa=>(F i).trans (G i v (O i v (Ext.push N _ i v aa)))
  have ak:lk ρ n=some ⟨aT C.res,y⟩:=G n _ (O n _ (jE n _ _))
  obtain⟨B,ad,ae⟩:=ab U G ((n,⟨aT C.res,y⟩)::ρ0) (λj=>by
   by_cases Y:n=j
   ·subst Y;rw[jE,ak]
   simp only[lk,lb Y,cond_false];exact F j)
  exact⟨B,.call n ρ0 c x r B C a y ah (X.eF ag ai) aj ad,ae⟩
def iL(ρ:aN)(D:fh):Prop:=∀p∈D,p.1.den ρ=some ⟨.bool,p.2⟩
theorem iL.mono{ρ ρ':aN}{D:fh}(h:iL ρ D)(j:Ext ρ ρ'):iL ρ' D:=λp k=>X.eF j (h p k)
def IE{ρ:aN}:∀{D:fh},iL ρ D->∀{x c},yc D x=some c->x.den ρ=some ⟨.bool,c⟩
 | [],_,x,c,h=>by cases h
 |p::r,k,x,c,h=>by
  simp only[yc]at h
  cases j:X.beq p.1 x with
  |true=>
   rw[j]at h
   injection h with h
   rw[<-X.beq_eq j,<-h];exact k p (by simp)
  |false=>rw[j]at h;exact IE (λq B=>k q (by simp[B])) h
def SO{ρ:aN}{D:fh}(B:iL ρ D){x:TX}{t:T}(h:RX ρ x t):RX ρ (qC D x) t:=by
 unfold qC
 split
 ·split
  ·rename_i c F
   obtain⟨b,j,k⟩:=ir h
   have:b=c:=fu (j.symm.trans (IE B F))
   subst this
   rw[k];exact eY rfl
  exact h
 exact h
def Iy{ρ:aN}{σ:Sk}{s:St}(h:bf ρ σ s):∀{D:fh},iL ρ D->bf ρ (gx σ D) s
 | [],_=>h
 |p::r,j=>ID (Iy h λq k=>j q (by simp[k])) (j p (by simp))
def se(cs:List Callee)(ρ:aN):Dn->Prop
 |.skip=>True
 |.done n B=>∃j k,dY n j/\ch cs n j B k/\Ext k ρ
section
variable {P:Program}{V:Env}{C:Cx}{cs:List Callee}{n:Nat}{ops:List Oper}{dt:Sk}
def Km{D:fh}{m:Nat}{rs:List Dn}{k:Sk}(h:tp C ops dt D m rs=some k):uQ C ops (xD ops []) (gx dt D).t (gF C ops D ((List.range ops.length).zip (ops.zip rs)) (gx dt D).t dt.l).1 D (gF C ops D ((List.range ops.length).zip (ops.zip rs)) (gx dt D).t dt.l).2.1 (dt.l::(gF C ops D ((List.range ops.length).zip (ops.zip rs)) (gx dt D).t dt.l).2.2) rs=true /\
  ∃l,(dt.l::(gF C ops D ((List.range ops.length).zip (ops.zip rs)) (gx dt D).t dt.l).2.2)[(gF C ops D ((List.range ops.length).zip (ops.zip rs)) (gx dt D).t dt.l).2.1.length]?=some l/\k=⟨m,(gF C ops D ((List.range ops.length).zip (ops.zip rs)) (gx dt D).t dt.l).1,l⟩:=by
 unfold tp at h
 simp only at h
 generalize gF C ops D ((List.range ops.length).zip (ops.zip rs)) (gx dt D).t dt.l=p at h⊢
 cases j:uQ C ops (xD ops []) (gx dt D).t p.1 D p.2.1 (dt.l::p.2.2) rs with
 |false=>rw[j]at h;cases h
 |true=>
  rw[j]at h
  simp only[cond_true]at h
  split at h
  ·rename_i l B
   injection h with h
   exact⟨rfl,l,B,h.symm⟩
  cases h
theorem FV{Q:LQ}:∀(r:List Oper){σ:Sk}{ρ:aN}{J:LJ}{D:fh}{rs:List Dn},dY σ.n ρ->iL ρ D->(∀d∈rs,se cs ρ d)->Tr.wp cs (l6 C ops dt r σ D rs) ρ Q J ->
  ∃j ρ' J' B F,Q .normal j ρ' J'/\tp C ops dt B j.n F=some j/\dY j.n ρ'/\cU σ.n ρ ρ'/\σ.n<=j.n/\iL ρ' B/\∀d∈F,se cs ρ' d
 | [],σ,ρ,J,D,rs,O,N,ab,k=>by
  simp only[l6]at k
  split at k
  ·rename_i j ao
   have M:j.n=σ.n:=by
    obtain⟨_,l,_,rfl⟩:=Km ao
    rfl
   exact⟨j,ρ,J,D,rs.reverse,k,by rw[M];exact ao,by rw[M];exact O,.refl _ _,by omega,N,λd hd=>ab d (by simpa using hd)⟩
  exact k.elim
 |o::r,σ,ρ,J,D,rs,O,N,ab,k=>by
  have ae:∀{σ1:Sk}{G:fh},σ1.n=σ.n->iL ρ G->Tr.wp cs (match pd C ops (gE σ1.t) σ1.l σ1.n σ1.l.length o with|some q=>pq (l6 C ops dt r (sr σ1 o.dst q) G (.done σ1.n q.ins::rs)) σ1.n q.ins|none=>.bad (30000+o.dst.getD 9999)) ρ Q J ->
    ∃j ρ' J' B F,Q .normal j ρ' J'/\tp C ops dt B j.n F=some j/\dY j.n ρ'/\cU σ.n ρ ρ'/\σ.n<=j.n/\iL ρ' B/\∀d∈F,se cs ρ' d:=by
   intro σ1 G M af k
   split at k
   ·rename_i q aB
    obtain⟨aq,hi,k⟩:=vr k
    have al:dY σ1.n ρ:=by rw[M];exact O
    obtain⟨an,ax⟩:=hi.ext al
    obtain⟨ay,az⟩:=hi.Jf
    obtain⟨j,ρ',J',B,F,ag,ah,ai,U,ad,aj,ak⟩:=FV r (σ:=sr σ1 o.dst q) (D:=G) (rs:=.done σ1.n q.ins::rs) ax (af.mono an) (λd hd=>by
     rcases fb.1 hd with rfl|hd
     ·exact⟨ρ,aq,al,hi,.refl _⟩
     have:=ab d hd
     cases d with
     |skip=>trivial
     |done n aC=>obtain⟨a,b,ar,au,av⟩:=this;exact⟨a,b,ar,au,av.trans an⟩) k
    have U:cU (jX σ1.n q.ins) aq ρ':=U
    have ad:jX σ1.n q.ins<=j.n:=ad
    exact⟨j,ρ',J',B,F,ag,ah,ai,by rw[<-M];exact ay.trans U az,by omega,aj,ak⟩
   exact k.elim
  have skip:∀{σ1:Sk}{G:fh},σ1.n=σ.n->iL ρ G->Tr.wp cs (l6 C ops dt r {σ1 with t:=gZ σ1.t o.dst .gone} G (.skip::rs)) ρ Q J ->
    ∃j ρ' J' B F,Q .normal j ρ' J'/\tp C ops dt B j.n F=some j/\dY j.n ρ'/\cU σ.n ρ ρ'/\σ.n<=j.n/\iL ρ' B/\∀d∈F,se cs ρ' d:=by
   intro σ1 G M af k
   obtain⟨j,ρ',J',B,F,ag,ah,ai,U,ad,aj,ak⟩:=FV r (σ:={σ1 with t:=gZ σ1.t o.dst .gone}) (D:=G) (rs:=.skip::rs) (by rw[<-M]at O;exact O) af (λd hd=>by
    rcases fb.1 hd with rfl|hd
    ·trivial
    exact ab d hd) k
   exact⟨j,ρ',J',B,F,ag,ah,ai,by rw[<-M];exact U,by rw[<-M];exact ad,aj,ak⟩
  simp only[l6]at k
  split at k
  ·exact ae rfl N k
  ·exact skip rfl N k
  ·rename_i x b aA
   obtain⟨c,aw,Y,Z⟩:=k
   have aa:iL ρ ((x,c)::D):=λp hp=>by
    rcases fb.1 hp with rfl|hp
    ·exact aw
    exact N p hp
   cases c with
   |true=>
    have Y:=Y rfl
    cases b with
    |true=>exact ae (σ1:=σ.decide x true) rfl aa Y
    |false=>exact skip (σ1:=σ.decide x true) rfl aa Y
   |false=>
    have Z:=Z rfl
    cases b with
    |true=>exact skip (σ1:=σ.decide x false) rfl aa Z
    |false=>exact ae (σ1:=σ.decide x false) rfl aa Z
  exact k.elim
def wM{D:fh}:∀{z:List (Nat×Oper×Dn)}{t:List (Nat×TX)}{l:List AX}{k:Nat},(∀x∈z,x.2.1.dst≠some k)->aV (gF C ops D z t l).1 k=aV t k
 | [],t,l,k,_=>rfl
 | (
    i,o,d)::r,t,l,k,h=>by
  have G:o.dst≠some k:=h (i,o,d) (by simp)
  have j:∀x∈r,x.2.1.dst≠some k:=λx M=>h x (by simp[M])
  have put:∀x:TX,aV (gZ t o.dst x) k=aV t k:=λx=>by
   cases B:o.dst with
   |none=>rfl
   |some e=>
    show(bif Nat.beq e k then x else aV t k)=_
    rw[lb (λF=>G (by rw[B,F]))];rfl
  cases d with
  |skip=>exact(wM j).trans (put _)
  |done m N=>
   simp only[gF]
   split
   ·cases isNone _ _ with
    |true=>exact(wM j).trans (put _)
    |false=>exact(wM j).trans (put _)
   exact wM j
end
end Go.Sy
namespace Go.Sy
open Go Go.ag
variable [aD][cF][cz][c9][bd][oR][bP]
section
variable {P:Program}{V:Env}{C:Cx}{cs:List Callee}{n:Nat}{ops:List Oper}{w0:World}{I0:av}{ρ:aN}{D:fh}{rs:List Dn}{t:List (Nat×TX)}{H:List Nat}{Ls:List (List AX)}{A:List Nat}{t0:List (Nat×TX)}
def Good(ops:List Oper)(ρ:aN)(t0 t:List (Nat×TX))(H:List Nat)(Ls:List (List AX))(B:Array Bool)(s:St):Prop:=
 ∃m l,Ls[m]?=some l/\RL ρ l s.l/\m<=H.length/\(∀k h,H[k]?=some h->(B.getD h false=true↔k<m)) /\
  (∀k,(∀j o,ops[j]?=some o->o.dst=some k->B.getD j false=true)->RX ρ (aV t k) (ag.get s.t k)) /\
  ∀k,(∀j o,ops[j]?=some o->o.dst=some k->B.getD j false=false)->RX ρ (aV t0 k) (ag.get s.t k)
def Ux(a b k:Nat):hasB (Nat.lor a b) k=(hasB a k||hasB b k):=by
 have h:∀m j:Nat,hasB m j=m.testBit j:=λm j=>by
  unfold hasB Nat.testBit
  show Nat.beq ((m >>> j) &&& 1) 1=_
  rw[Nat.and_comm]
  rcases Nat.mod_two_eq_zero_or_one (m >>> j)with e|e<;>simp[Nat.one_and_eq_mod_two,e]<;>rfl
 rw[h,h,h]
 exact Nat.testBit_or a b k
theorem Hm{A:List Nat}{j:Nat}:∀{ws:List Nat}{m:Nat},hasB (BO A ws m) j=true->hasB m j=true\/∃k∈ws,j=k\/wt A k j=true
 | [],m,h=>.inl h
 |w::ws,m,h=>by
  rcases Hm (ws:=ws) (m:=Nat.lor (jn m w) ((A[w]?).getD 0)) h with h| ⟨k,hk,h⟩
  ·rw[Ux,sV,h6,h6,ek]at h
   rcases h with (h|h)|h
   ·exact .inl h
   ·exact .inr ⟨w,by simp,.inl h.symm⟩
   exact .inr ⟨w,by simp,.inr h⟩
  exact .inr ⟨k,by simp[hk],h⟩
def BF{G:Array Bool}(U:BP ops A=true)(aa:mP ops=true)(Y:ny ops G):∀(i:Nat){o:Oper}{j:Nat},ops[i]?=some o->(∀k∈waits o,G.getD k false=true)->wt A i j=true->G.getD j false=true:=by
 intro i
 induction i using Nat.strongRecOn with
 |ind i ad=>
  intro o j F ab h
  have B:=dT.1 U i (hR.2 (da.1 F).1)
  rw[F]at B
  have B:=et B
  unfold wt at h
  rw[B]at h
  rcases Hm h with h| ⟨k,hk,h⟩
  ·rw[JZ]at h;cases h
  have M:=vG aa F k hk
  have N:=ab k hk
  rcases h with rfl|h
  ·exact N
  have Z:k<ops.length:=Nat.lt_trans M (da.1 F).1
  have O:ops[k]?=some ops[k]:=c4 Z
  exact ad k M O (Y k _ O N) h
def Oo{k:Nat}{p:Nat->Bool}(h:qf ops k p=true){j:Nat}{q:Oper}(F:ops[j]?=some q)(G:q.dst=some k):p j=true:=by
 have B:=dT.1 h j (hR.2 (da.1 F).1)
 rw[F]at B
 simpa [Oq,G,ik]using B
def Ko{i:Nat}{o:Oper}{k:Nat}:(qf ops k (λj=>wt A i j)=true->aV (mM ops A t0 t i o) k=aV t k)/\(qf ops k (λj=>wt A i j)=false->k∈fC ops o->aV (mM ops A t0 t i o) k=aV t0 k):=by
 unfold mM
 generalize fC ops o=L
 induction L with
 |nil=>exact⟨λ_=>rfl,λ_ h=>by cases h⟩
 |cons x r B=>
  simp only[List.filterMap_cons]
  cases F:qf ops x (λj=>wt A i j)with
  |true=>
   simp only[cond_true]
   refine⟨B.1,λh hk=>?_⟩
   rcases fb.1 hk with rfl|hk
   ·rw[F]at h;cases h
   exact B.2 h hk
  |false=>
   simp only[cond_false]
   have e:∀M:List (Nat×TX),aV (((x,aV t0 x)::M)++t) k=bif Nat.beq x k then aV t0 x else aV (M++t) k:=λ_=>rfl
   rw[e]
   refine⟨λh=>?_,λh hk=>?_⟩
   ·rw[lb (λN=>by rw[N,h]at F;cases F)];exact B.1 h
   by_cases G:x=k
   ·subst G;rw[ik];rfl
   rw[lb G]
   rcases fb.1 hk with rfl|hk
   ·exact absurd rfl G
   exact B.2 h hk
def K7:∀{H:List Nat}{i j x:Nat},lT H=true->H[i]?=some x->H[j]?=some x->i=j
 | [],i,j,x,_,hi,_=>by simp at hi
 |y::ys,i,j,x,h,hi,k=>by
  simp only[lT,dd,hC,mb]at h
  obtain⟨B,F⟩:=h
  cases i with
  |zero=>
   cases j with
   |zero=>rfl
   |succ j=>
    simp at hi k
    subst hi
    exact absurd (ik _) (B _ (dn k))
  |succ i=>
   cases j with
   |zero=>
    simp at hi k
    subst k
    exact absurd (ik _) (B _ (dn hi))
   |succ j=>
    simp at hi k
    exact ea (· + 1) (K7 F hi k)
def DC{i:Nat}(h:vu H i=false){k:Nat}:H[k]?≠some i:=λj=>by
 simp only[vu,mb]at h
 exact h i (dn j) (ik i)
def Zj(ba:bL P V C)(bg:il P C cs)(bq:C.nt=n)(bb:iL ρ D)(bu:∀d∈rs,se cs ρ d)(bc:lT H=true)(bt:∀h∈H,h<ops.length){ae Z:Array Bool}{i:Nat}{o:Oper}{d:Dn}(aA:ops[i]?=some o)(ak:d∈rs)(ab:ny ops ae)(aB:ae.getD i false=false)(a1:∀j∈waits o,ae.getD j false=true)(aj:∀k,Z.getD k false=if k=i then true else ae.getD k false){s:St}(bh:Good ops ρ t0 t H Ls ae s)(ax:BP ops A=true)(ay:mP ops=true)(al:du C.nt o.dst=true)(bs:Mq ops A i o=true)(ad:∀m,m<=H.length->xC A H i m=true->ze C ops (mM ops A t0 t i o) t D H Ls i o m d=true):lD P n ops o s (Good ops ρ t0 t H Ls Z):=by
 obtain⟨m,l,av,ah,aw,aH,aS,aT⟩:=bh
 have bf:xC A H i m=true:=by
  unfold xC
  refine dT.2 λk M=>?_
  split
  ·rename_i h G
   have aW:=aH k h G
   rw[dd]
   constructor
   ·cases bx:wt A i h with
    |false=>rfl
    |true=>
     have:=aW.1 (BF ax ay ab i aA a1 bx)
     simpa [Nat.blt_eq]using this
   cases hx:(Nat.beq h i||wt A h i)with
   |false=>rfl
   |true=>
    have bG:¬k<m:=λbl=>by
     have aM:=aW.2 bl
     rw[h6]at hx
     rcases hx with hx|hx
     ·have:=et hx
      subst this;rw[aB]at aM;cases aM
     cases B:ops[h]? with
     |none=>
      have N:(A[h]?).getD 0=0\/True:=.inr trivial
      have:=bt h (dn G)
      rw[List.getElem?_eq_none_iff]at B
      omega
     |some q=>
      have:=BF ax ay ab h B (ab h q B aM) hx
      rw[aB]at this;cases this
    have:Nat.ble m k=true:=Nat.ble_eq▸(by omega:m<=k)
    simpa using this
  rfl
 have ad:=ad m aw bf
 have aZ:∀k,k∈fC ops o->RX ρ (aV (mM ops A t0 t i o) k) (ag.get s.t k):=λk M=>by
  have N:=dT.1 bs k M
  cases aC:qf ops k (λj=>wt A i j)with
  |true=>
   rw[Ko.1 aC]
   exact aS k λj q B Y=>BF ax ay ab i aA a1 (Oo aC B Y)
  |false=>
   rw[Ko.2 aC M]
   rw[aC,q9]at N
   refine aT k λj q B Y=>?_
   have h2:=Oo N B Y
   rw[h6]at h2
   rcases h2 with h2|h2
   ·cases bm:ae.getD j false with
    |false=>rfl
    |true=>
     have:=BF ax ay ab j B (ab j q B bm) h2
     rw[aB]at this;cases this
   have:=et h2
   subst this;exact aB
 have aY:∀j b af,o.guard=some (j,b)->(ops[j]?).bind (·.dst)=some af->RX ρ (aV (mM ops A t0 t i o) af) (ag.get s.t af):=λj b af N h2=>aZ af (by
  unfold fC
  rw[N]
  simp only[h2]
  simp)
 have rT:∀{u:T},(∀e,o.dst=some e->RX ρ (aV t e) u)->∀k,(∀j q,ops[j]?=some q->q.dst=some k->Z.getD j false=true)->RX ρ (aV t k) (ag.get (bH s.t o.dst u) k):=by
  intro u hx k M
  by_cases U:o.dst=some k
  ·rw[U]
   show RX ρ (aV t k) (if k=k then u else _)
   rw[if_pos rfl];exact hx k U
  have N:ag.get (bH s.t o.dst u) k=ag.get s.t k:=by
   cases ak:o.dst with
   |none=>rfl
   |some e=>show(if e=k then u else _)=_;rw[if_neg (λG=>U (by rw[ak,G]))]
  rw[N]
  exact aS k λj q B Y=>by
   have:=M j q B Y
   rw[aj]at this
   by_cases ao:j=i
   ·subst ao
    rw[aA]at B;injection B with B;subst B
    exact absurd Y U
   rw[if_neg ao]at this;exact this
 have aG:∀{u:T},∀k,(∀j q,ops[j]?=some q->q.dst=some k->Z.getD j false=false)->RX ρ (aV t0 k) (ag.get (bH s.t o.dst u) k):=by
  intro u k M
  have U:o.dst≠some k:=λU=>by
   have:=M i o aA U
   rw[aj,if_pos rfl]at this;cases this
  have N:ag.get (bH s.t o.dst u) k=ag.get s.t k:=by
   cases ak:o.dst with
   |none=>rfl
   |some e=>show(if e=k then u else _)=_;rw[if_neg (λG=>U (by rw[ak,G]))]
  rw[N]
  exact aT k λj q B Y=>by
   have:=M j q B Y
   rw[aj]at this
   by_cases ao:j=i
   ·subst ao;rw[if_pos rfl]at this;cases this
   rw[if_neg ao]at this;exact this
 have aR:(∀k,H[k]?≠some i)->∀k h,H[k]?=some h->(Z.getD h false=true↔k<m):=λbr k h G=>by
  rw[aj,if_neg (λe=>br k (by rw[G,e]))]
  exact aH k h G
 rw[bq]at al
 cases d with
 |skip=>
  simp only[ze,dd,hC]at ad
  obtain⟨⟨aD,O⟩,aa⟩:=ad
  split at O
  ·rename_i aJ
   obtain⟨pc,aq,ar⟩:=JW (σ:=⟨0,mM ops A t0 t i o,[]⟩) (s:=s) aY aJ
   refine NJ aq ar al ⟨m,l,av,ah,aw,aR λk=>DC aD,rT λe aI=>?_,aG⟩
   rw[aI]at aa
   simp only at aa
   generalize aV t e=y at aa⊢
   cases y<;>first|exact .undef _|exact .gone|cases aa
  cases O
 |done bJ bI=>
  simp only[ze,dd]at ad
  obtain⟨aD,O⟩:=ad
  split at aD
  ·rename_i aJ
   obtain⟨pc,aq,ar⟩:=JX (σ:=⟨0,mM ops A t0 t i o,[]⟩) (s:=s) aY aJ
   rw[av]at O
   simp only at O
   split at O
   ·rename_i q B
    simp only[dd]at O
    obtain⟨⟨O,aa⟩,F⟩:=O
    have bj:=yC O
    obtain⟨bK,bM,bA,bB,bC⟩:=bu _ ak
    obtain⟨a6,hi,aU⟩:=bB.again bA bC ρ λ_=>rfl
    have a8:Ext ρ a6:=λi v aP=>(aU i).trans aP
    have au:Ext a6 ρ:=λi v aP=>(aU i).symm.trans aP
    rw[<-bj]at hi
    have bd:∀x∈o.op.operands,RX ρ (gE (mM ops A t0 t i o) x) (bE s.t x):=λx hx=>by
     cases x with
     |tmp k=>exact aZ k (q2 _ (ra.2 ⟨.tmp k,by simpa using hx,rfl⟩))
     |const v=>exact pG (tX:=[]) (t:=[]) (λ_=>.undef _) (.const v)
     |global g=>exact .undef _
     |func f=>exact pG (tX:=[]) (t:=[]) (λ_=>.undef _) (.func f)
    obtain⟨u,bw,az⟩:=I6 ba bg ah bd NM a8 B hi
    have aL:l.length=s.l.length:=ah.len
    have aO:∀e,o.dst=some e->RX ρ (aV t e) u:=λe aI=>by
     rw[aI]at aa
     rw[<-TX.beq_eq aa]
     exact SO bb (bw.mono au)
    have aX:∀{e:xu},(bif false then !vu H i else(match H[m]? with|some h=>Nat.beq h i|none=>false)&&(match Ls[m+1]? with|some l'=>lF (rW e l) l'|none=>false))=true->∀l':List AO,bX P o (bE s.t) s.l u l'->RL ρ (rW e l) l'->lD P n ops o s (Good ops ρ t0 t H Ls Z):=by
     intro e F l' N h2
     simp only[cond_false,dd]at F
     obtain⟨F,aQ⟩:=F
     split at F
     ·rename_i h G
      have:=et F
      subst this
      split at aQ
      ·rename_i bz bn
       have bo:=xJ aQ
       have bp:m<H.length:=(da.1 G).1
       have a7:∀k ai,H[k]?=some ai->(Z.getD ai false=true↔k<m+1):=λk ai aK=>by
        rw[aj]
        by_cases M:ai=h
        ·subst M
         rw[if_pos rfl]
         have:=K7 bc aK G
         subst this;simp
        rw[if_neg M,aH k ai aK]
        have:k≠m:=λe=>M (by subst e;rw[aK]at G;injection G)
        omega
       exact Bg aq ar N al ⟨m+1,bz,bn,by rw[<-bo];exact h2,bp,a7,rT aO,aG⟩
      cases aQ
     cases F
    split at az
    ·rename_i an
     rw[an]at F
     simp only[isNone,cond_true,hC]at F
     exact Bg aq ar az al ⟨m,l,av,ah,aw,aR λk=>DC F,rT aO,aG⟩
    ·rename_i bF an
     obtain⟨bD,aE,aF,_⟩:=az
     rw[an]at F
     exact aX F _ (aF aL) (F2.app ah (.cons (aE.mono au) .nil))
    rename_i l1 an
    obtain⟨l',aE,aF⟩:=az
    rw[an]at F
    cases aN:lF l1 l with
    |false=>
     simp only[isNone,aN]at F
     exact aX F _ (aF aL) (aE.mono au)
    |true=>
     simp only[isNone,aN,cond_true,hC]at F
     have:=xJ aN
     subst this
     exact Bg aq ar (aF aL) al ⟨m,l1,av,aE.mono au,aw,aR λk=>DC F,rT aO,aG⟩
   cases O
  cases aD
theorem ON(aD:bL P V C)(aK:il P C cs)(aO:C.nt=n)(aE:iL ρ D)(aR:∀d∈rs,se cs ρ d)(ak:uQ C ops A t0 t D H Ls rs=true){Q:Exit->Act->World->Prop}(aG:∀s l a w,Ls[H.length]?=some l->RL ρ l s.l->(∀k,RX ρ (aV t k) (ag.get s.t k))->Rel w0 I0 n s a w->Q .normal a w) :
  ∀(N:Nat)(B:Array Bool)(a:Act)(w:World),B.size=ops.length->kx ops.length B=N->ny ops B->(∃s,Rel w0 I0 n s a w/\Good ops ρ t0 t H Ls B s)->wpAnyIn cO 0 P .any ops.toArray Q N B a w:=by
 simp only[uQ,dd]at ak
 obtain⟨⟨⟨⟨ad,aC⟩,aF⟩,ai⟩,aI⟩:=ak
 have aQ:∀h∈H,h<ops.length:=λh ab=>by
  have:=dT.1 ai h ab
  simpa [Nat.blt_eq]using this
 have done:∀(B:Array Bool)(a:Act)(w:World),(∀i,i<ops.length->B.getD i false=true)->(∃s,Rel w0 I0 n s a w/\Good ops ρ t0 t H Ls B s)->Q .normal a w:=by
  rintro B a w Y ⟨s,af,m,l,aw,ax,aX,ay,az,_⟩
  have an:m=H.length:=by
   rcases mv m H.length with h|h
   ·have ab:H[m]?=some H[m]:=c4 h
    have O:=dT.1 ai H[m] (hT h)
    have aB:H[m]<ops.length:=by simpa [Nat.blt_eq]using O
    have:=(ay m _ ab).1 (Y _ aB)
    omega
   omega
  subst an
  exact aG s l a w aw ax (λk=>az k λj o F _=>Y j (da.1 F).1) af
 intro N
 induction N with
 |zero=>
  intro B a w M ao aa Z
  have Y:∀i,i<ops.length->B.getD i false=true:=by
   intro i hi
   have:=x3.1 ao
   have:=(k3.1 this) i (hR.2 hi)
   simpa using this
  refine⟨?_,done B a w Y Z⟩
  refine ti.2 λi hi=>?_
  have G:=wX hi
  have:=((pV M G (c4 G)).1 hi).1
  rw[Y i G]at this;cases this
 |succ N aU=>
  intro B a w M ao aa Z
  refine⟨λaA=>?_,λi hi=>?_⟩
  ·
   refine done B a w (λi hi=>?_) Z
   induction i using Nat.strongRecOn with
   |ind i aW=>
    cases aJ:B.getD i false with
    |true=>rfl
    |false=>
     have F:ops[i]?=some ops[i]:=c4 hi
     have:i∈Region.ready .any ops.toArray B:=(pV M hi F).2 ⟨aJ,λj al=>aW j (vG ad F j al) (Nat.lt_trans (vG ad F j al) hi)⟩
     rw[aA]at this;cases this
  have G:=wX hi
  have F:ops[i]?=some ops[i]:=c4 G
  obtain⟨ah,O⟩:=(pV M G F).1 hi
  have aj:∀j,(B.setIfInBounds i true).getD j false=if j=i then true else B.getD j false:=λj=>yv M G
  have aT:kx ops.length (B.setIfInBounds i true)=N:=by have:=GP M G ah;omega
  have U:=dT.1 aI i (hR.2 G)
  generalize ops[i]=o at F O
  obtain⟨s,af,aN⟩:=Z
  rw[F]at U
  split at U
  ·rename_i o' d ae aL
   injection ae with ae
   subst ae
   simp only[dd]at U
   obtain⟨⟨ar,au⟩,av⟩:=U
   have aS:=Zj aD aK aO aE aR aF aQ F (dn aL) aa ah O aj aN aC ad ar au (λm an aH=>by
    have:=dT.1 av m (hR.2 (by omega))
    rw[aH]at this
    simpa using this)
   unfold wpOpIn
   have:ops.toArray[i]?=some o:=by simpa using F
   simp only[this]
   exact aS w0 I0 a w Q _ af λs' aq w' aM aP=>aU _ aq w' (by simp[M]) aT (aa.step F O aj) ⟨s',aP,aM⟩
  cases U
omit [cz] [c9] [bd] [bP]in
theorem CB(m:Nat)(σ:Sk):∀D:fh,(gx ⟨m,σ.t,σ.l⟩ D).t=(gx σ D).t
 | []=>rfl
 |p::r=>ea (nH p.1 p.2) (CB m σ r)
theorem S6(au:bL P V C)(aw:il P C cs)(aA:C.nt=n)(az:P.follows .mixedOrders=true){σ:Sk}{ρ0:aN}{s:St}{Q:LQ}{J:LJ}{U:Exit->St->Prop}{id:Nat}(N:bf ρ0 σ s)(B:Tr.wp cs (l6 C ops σ ops σ [] []) ρ0 Q J)(av:∀bC ρ' J',Q .normal bC ρ' J'->cU σ.n ρ0 ρ'->σ.n<=bC.n->∀s',bf ρ' bC s'->U .normal s'):aG P w0 I0 n (.region id ops.toArray true) s U:=by
 obtain⟨G,ρ,J',D,rs,ao,F,Y,ad,aq,ae,ar⟩:=FV (Q:=Q) ops N.eE (λp aC=>by cases aC) (λd Z=>by cases Z) B
 have ai:Ext ρ0 ρ:=ad.ext N.eE
 have al:bf ρ ⟨G.n,σ.t,σ.l⟩ s:=⟨Y,λk=>(N.t k).mono ai,N.l.mono ai⟩
 intro a w aD
 refine wpIn_region_any az ?_
 obtain⟨ag,l,ak,F⟩:=Km F
 have af:∀(k:Nat),(∀o∈ops,o.dst≠some k)->aV (gF C ops D ((List.range ops.length).zip (ops.zip rs)) (gx σ D).t σ.l).1 k=aV (gx σ D).t k:=λk aa=>wM λx ab=>aa _ (List.of_mem_zip (List.of_mem_zip ab).2).1
 generalize gF C ops D ((List.range ops.length).zip (ops.zip rs)) (gx σ D).t σ.l=p at F af ag ak
 have ah:=Iy al ae
 have M:∀i,(Array.replicate ops.length false).getD i false=false:=λi=>by
  rw[hf]
  cases ab:(Array.replicate ops.length false)[i]? with
  |none=>rfl
  |some b=>have:=e7.1 ab;simp at this;simp[<-this.2]
 have aE:Rel w0 I0 n s a {w with drawn:=w.drawn+1}:=by
  obtain⟨aH,I,m,B,ax,ht⟩:=aD
  exact⟨aH,I,m,(B.call (w':={w with drawn:=w.drawn+1}) ⟨rfl,rfl,rfl,eb _,λ_ _=>rfl,λ_=>s6 _⟩ (fi.refl _ _) ⟨B.sat.cell,B.sat.mp,B.sat.df,B.sat.c7⟩).1,ax,ht⟩
 have:=ON (w0:=w0) (I0:=I0) (Q:=λe an w'=>∃s',U e s'/\Rel w0 I0 n s' an w') au aw aA ae ar ag (λs2 aM aL aO O aI aJ aK=>by
  rw[ak]at O;injection O with O;subst O
  have aF:bf ρ G s2:=by rw[F];exact⟨by rw[F]at Y;exact Y,aJ,aI⟩
  exact⟨s2,av G ρ J' ao ad aq s2 aF,aK⟩) ops.length (Array.replicate ops.length false) a {w with drawn:=w.drawn+1} (by simp)
  (by unfold kx;rw[q8.2 (λi _=>by rw[M];rfl)];simp)
  (λi o _ aj=>by rw[M]at aj;cases aj)
  ⟨s,aE,0,σ.l,rfl,al.l,j5 _,λk h _=>by rw[M];simp,λk aa=>by
   rw[af k λo aB Z=>by
    obtain⟨j,ay,rfl⟩:=hA.1 aB
    have:=aa j _ (c4 ay) Z
    rw[M]at this;cases this]
   rw[<-CB G.n σ D]
   exact ah.t k,λk _=>by rw[<-CB G.n σ D];exact ah.t k⟩
 simpa using this
end
end Go.Sy
namespace Go.Sy
open Go Go.ag
variable [aD][cF][cz][c9][bd][bP]
def vK:∀{ts:List T}{ds:List ag.D},ts.mapM eQ=some ds->ts=ds.map .d
 | [],ds,h=>by simp at h;subst h;rfl
 |t::ts,ds,h=>by
  rw[mo]at h
  cases j:eQ t with
  |none=>rw[j]at h;cases h
  |some d=>
   cases k:ts.mapM eQ with
   |none=>rw[j,k]at h;cases h
   |some r=>
    rw[j,k]at h
    simp only[Option.bind_eq_bind,Option.bind_some,Option.pure_def,c5]at h
    subst h
    rw[vK k]
    cases t<;>simp[eQ]at j
    subst j;rfl
section
variable {P:Program}{V:Env}{C:Cx}{ρ:aN}{σ bC:Sk}{s:St}
def VY{t:Ty}(k:isVal t){ts:List T}{v:t.den}(h:fP (cd t) ts = .d (t.enc v))(N:cd t=false->ts.length=1):ts=(t.enc v).cells.map .d/\∀x∈(t.enc v).cells,x.one=true:=by
 cases j:cd t with
 |false=>
  obtain⟨F,G⟩:=kJ j k.1 k.2 v
  rw[F]
  match ts,N j with
  | [u],_=>
   rw[j]at h
   simp only[fP,hX,ih,List.headD_cons]at h
   subst h
   exact⟨rfl,λx B=>by simp at B;subst B;exact G⟩
 |true=>
  cases t with
  |st i=>
   have e:(Ty.st i).enc v = .agg (aD.cells i v):=rfl
   rw[e]at h⊢
   rw[j]at h
   simp only[fP,hQ]at h
   split at h
   ·rename_i ds M
    injection h with h;injection h with h
    rw[vK M,h]
    exact⟨rfl,cz.zg i v⟩
   cases h
  |_=>cases j
def Ue(j:bL P V C){ty:TypeId}{cs:List TX}{t:Ty}(h:De C ty cs=some t):isVal t:=by
 unfold De at h
 split at h
 ·rename_i k
  injection h with h;subst h
  obtain⟨i,_,_,_,B,_⟩:=j.info k
  exact B
 split at h
 ·injection h with h;subst h;exact cE rfl
 ·injection h with h;subst h;exact cE rfl
 cases h
def Uf(
        ah:bL P V C)(h:bf ρ σ s){j:Nat}(B:Df C σ j=some bC):∃s',Sub s s'/\bf ρ bC s'/\bC.n=σ.n:=by
 unfold Df at B
 split at B
 ·rename_i id aq
  split at B
  ·rename_i ty cs ao
   split at B
   ·rename_i t av
    split at B
    ·rename_i u x F
     split at B
     ·rename_i aw
      subst aw
      generalize aD:vm σ.l id=ids at B
      cases M:(dG (.box u)&&Dd ids id&&qL ids σ.l)with
      |false=>rw[M]at B;cases B
      |true=>
       rw[M]at B
       simp only[cond_true,c5]at B
       subst B
       rw[dd,dd]at M
       obtain⟨⟨O,G⟩,al⟩:=M
       unfold Dd at G
       rw[dd]at G
       have ad:=Ue ah av
       have aa:ids.Nodup:=y4 G.1
       have ar:id∉ids:=λN=>by
        have:(ids.any λi=>Nat.beq i id)=true:=hU.2 ⟨id,N,ik id⟩
        rw[this]at G;cases G.2
       obtain⟨aA,aj,ak⟩:=F2.left h.l ao
       cases ak with
       |var _ _ ts ab=>
        have N:=yX ad ab F
        have Y:=h.t j
        rw[aq]at Y
        generalize ai:fP (cd u) ts=az at N
        cases N with
        |d _ _ v aC af=>
         obtain⟨ax,ay⟩:=VY ad ai (λau=>by
          unfold qZ at F
          rw[au]at F
          simp only[cond_false]at F
          split at F
          ·rw[<-ab.len];rfl
          cases F)
         generalize an:ag.get s.t j=aB at Y
         cases Y
         obtain⟨s1,Z,ae⟩:=Sk.Mp h (ids:=ids) aa al
         refine⟨⟨(j,.d (.box (u.enc v)))::s1.t,s1.l⟩,?_,⟨h.eE,λk=>?_,ae.l⟩,rfl⟩
         ·exact Zu j id (u.enc v) ids an (by rw[aj,ax]) ay ar aa Z.1 Z.2.1 Z.2.2
         show RX ρ (bif Nat.beq j k then _ else aV (σ.re ids).t k) (if j=k then _ else ag.get s1.t k)
         by_cases U:j=k
         ·subst U
          rw[if_pos rfl,ik]
          exact .d (.box u) (.box x) v (cE O) (by simp only[X.den,af])
         have O:Nat.beq j k=false:=by
          cases e:Nat.beq j k with
          |false=>rfl
          |true=>exact absurd (et e) U
         rw[if_neg U,O]
         exact ae.t k
     cases B
    cases B
   cases B
  cases B
 cases B
theorem ya{id:Nat}:∀{ts:List Ty}{k:Nat}{σ:Sk}{s:St},bf ρ σ s->∃s',Sub s s'/\bf ρ (uS id ts k σ) s'/\(uS id ts k σ).n=σ.n
 | [],k,σ,s,h=>⟨s,Sub.refl s,h,rfl⟩
 |t::ts,k,σ,s,h=>by
  simp only[uS]
  split
  ·exact ya h
  split
  ·rename_i σ1 j
   obtain⟨s1,B,F,G⟩:=Hp h j
   obtain⟨s2,M,N,O⟩:=ya (id:=id) (ts:=ts) (k:=k+1) F
   exact⟨s2,Sub.trans' B M,N,O.trans G⟩
  exact ya h
theorem SK{j:Nat}(h:bf ρ σ s):∃s',Sub s s'/\bf ρ (yb C σ j) s'/\(yb C σ j).n=σ.n:=by
 unfold yb
 have z:∃s',Sub s s'/\bf ρ σ s'/\σ.n=σ.n:=⟨s,Sub.refl s,h,rfl⟩
 split
 ·split
  ·split
   ·split
    ·exact ya h
    exact z
   exact z
  exact z
 exact z
theorem Dc(k:bL P V C):∀{js:List Nat}{σ:Sk}{s:St},bf ρ σ s->∃s',Sub s s'/\bf ρ (jy C σ js) s'/\(jy C σ js).n=σ.n
 | [],σ,s,h=>⟨s,Sub.refl s,h,rfl⟩
 |j::r,σ,s,h=>by
  simp only[jy]
  split
  ·rename_i σ1 B
   obtain⟨s0,Z,aa,ab⟩:=SK (C:=C) (j:=j) h
   obtain⟨s1,G,M,N⟩:=Uf k aa B
   obtain⟨s2,O,U,Y⟩:=Dc k (js:=r) M
   exact⟨s2,λw0 I0 n a w F=>O _ _ _ _ _ (G _ _ _ _ _ (Z _ _ _ _ _ F)),U,Y.trans (N.trans ab)⟩
  exact Dc k (js:=r) h
end
end Go.Sy
