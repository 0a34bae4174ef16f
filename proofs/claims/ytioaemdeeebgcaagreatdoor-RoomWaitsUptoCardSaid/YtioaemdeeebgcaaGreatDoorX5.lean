import Derived.Test.YtioaemdeeebgcaaGreatDoorX4
import Derived.RangeFuncNested
import Derived.LoopNIn
set_option linter.all false
namespace Go.Sy
open Go Go.af
variable [au][bK][bB][bV][aL][bu]
section
variable {s:St}
theorem Sub.LH(j:Nat){d:D}{l':List AO}(h:cC s.l (get s.t j)=some (d,l')):Sub s ⟨(j,.d d)::s.t,l'⟩:=by
 intro w0 I0 n a w U
 obtain⟨G,I,m,O,M,B⟩:=U
 obtain⟨J,F,Z,Y,_⟩:=mB O (B j) h
 refine⟨G,J,m,Z,M.mono F.cB,λk=>?_⟩
 show ah J m l' _ (if j=k then .d d else af.get s.t k)
 split
 ·rename_i e;subst e;exact .d _ _ Y
 exact(B k).mono F
theorem I2{l:List AO}{t:T}{d:D}{l':List AO}{id:Nat}{ty:TypeId}{cs:List T}(j:l[id]?=some (.var ty cs))(h:cC l t=some (d,l')):l'[id]?=some (.var ty cs):=by
 have:=T5 h id (by unfold af.isVar;rw[j];rfl)
 rw[this];exact j
theorem Sub.LK(id k:Nat){ty:TypeId}{cs:List T}{t:T}{d:D}{l':List AO}(ae:s.l[id]?=some (.var ty cs))(O:cs[k]?=some t)(h:cC s.l t=some (d,l')):Sub s ⟨s.t,l'.set id (.var ty (cs.set k (.d d)))⟩:=by
 intro w0 I0 n a w ar
 obtain⟨al,I,m,ab,an,ao⟩:=ar
 obtain⟨b,vs,aa,ax,ah,ai,aj,ay⟩:=ab.obj id _ ae
 have Y:k<vs.size:=by rw[ai];exact(List.getElem?_eq_some_iff.1 O).1
 obtain⟨J,ad,ak,au,_⟩:=mB ab (aj k _ _ (Array.getElem?_eq_getElem Y) O).1 h
 have Z:=I2 ae h
 have U:Le J m l' J m (l'.set id (.var ty (cs.set k (.d d)))):=Le.setKind Z rfl rfl (λe size els h=>by rcases h with h|h<;>cases h)
 obtain⟨b,az,F,av,M,aw,af,ag⟩:=ak.obj id _ Z
 rw[aa]at F;injection F with F;injection F with F;injection F with F;subst F
 rw[ah]at M;injection M with M;injection M with M _ _;subst M
 refine⟨al,J,m,ak.je Z (by simp) (b:=_) (by rw[aa];rfl) ag rfl rfl U rfl rfl rfl (Nat.le_refl _) (Nat.le_refl _) (λ_ _=>rfl) ⟨_,vs,aa,av,ah,by simpa using ai,λi x t G B=>?_,ag⟩,an.mono ad.cB,λj=>((ao j).mono ad).mono U⟩
 rw[List.getElem?_set]at B
 split at B
 ·rename_i aq
  subst aq
  split at B
  ·injection B with B;subst B
   rw[Array.getElem?_eq_getElem Y]at G
   injection G with G;subst G
   exact⟨.d _ _ au,(aj k _ _ (Array.getElem?_eq_getElem Y) O).2⟩
  cases B
 exact⟨(af i x t G B).1.mono U,(af i x t G B).2⟩
theorem Sub.Mp{id e size:Nat}{els:List D}(j:s.l[id]?=some (.row e size els)):Sub s ⟨s.t,s.l.set id (.aM e size els)⟩:=by
 intro w0 I0 n a w Y
 obtain⟨M,I,m,B,O,U⟩:=Y
 obtain⟨xs,k1,k2,ad,ae⟩:=B.obj id _ j
 obtain⟨_,A,ab,c,G⟩:=o9 k1
 have Z:ah I m s.l (m id) (.row id):=by
  rw[G];exact .row A ab c id (List.getElem?_eq_some_iff.1 j).1 (λ_=>G)
 obtain⟨J,F,aa,_,_⟩:=mB B Z (x:=.slice size els) (l':=s.l.set id (.aM e size els)) (by simp only[cC,bY,j])
 exact⟨M,J,m,aa,O.mono F.cB,λk=>(U k).mono F⟩
end
section
variable {P:Program}{V:Env}{C:Cx}{ρ ae:az}{σ aR:Sk}{s:St}
theorem It:∀(t:List (Nat×TX))(j:Nat)(x:TX)(k:Nat),aD (jH j x t) k=aD t k∨(k=j∧aD (jH j x t) k=x)
 | [],j,x,k=>Or.inl rfl
 | (i,u)::r,j,x,k=>by
  simp only[jH]
  cases F:Nat.beq i j with
  |true=>
   have:=Nat.eq_of_beq_eq_true F
   subst this
   simp only[cond_true,aD]
   cases B:Nat.beq i k with
   |true=>exact .inr ⟨(Nat.eq_of_beq_eq_true B).symm,by simp⟩
   |false=>exact .inl (by simp)
  |false=>
   simp only[cond_false,aD]
   cases B:Nat.beq i k with
   |true=>exact .inl (by simp)
   |false=>simpa using It r j x k
theorem aH.slot{j:Nat}{x:TX}{u:T}{lX:List AX}{l':List AO}(h:∀k,RX ρ (aD σ.t k) (get s.t k))(G:RX ρ x u)(O:c7 σ.n ρ)(U:RL ρ lX l'):aH ρ ⟨σ.n,jH j x σ.t,lX⟩ ⟨(j,u)::s.t,l'⟩:=by
 refine⟨O,λk=>?_,U⟩
 show RX ρ (aD (jH j x σ.t) k) (if j=k then u else get s.t k)
 rcases It σ.t j x k with e| ⟨rfl,e⟩
 ·by_cases F:j=k
  ·subst F
   rw[if_pos rfl]
   rcases M σ.t j x with e2|e2
   ·rw[e2];exact G
   rw[e2];exact .undef _
  rw[if_neg F,e];exact h k
 rw[if_pos rfl,e];exact G
where M:∀(t:List (Nat×TX))(j:Nat)(x:TX),aD (jH j x t) j=x∨aD (jH j x t) j=.undef
 | [],j,x=>.inr rfl
 | (i,u)::r,j,x=>by
  simp only[jH]
  cases B:Nat.beq i j with
  |true=>simp only[cond_true,aD,B];exact .inl trivial
  |false=>simp only[cond_false,aD,B];exact M r j x
theorem AJ(
          h:aH ρ σ s){p:Pl}{c:Co}(B:lJ σ p c=some aR):∃s',Sub s s'∧aH ρ aR s'∧aR.n=σ.n:=by
 cases c with
 |oq e t=>
  simp only[lJ]at B
  cases G:cF t with
  |false=>simp[G]at B
  |true=>
   simp only[G,Bool.not_true,cond_false]at B
   split at B
   ·rename_i z M
    simp only[Option.some.injEq]at B;subst B
    have au:σ.l.length=s.l.length:=h.l.len
    cases p with
    |obj id=>cases M
    |slot j=>
     have az:get s.t j=.aX z:=by
      have:=h.t j
      simp only[jS]at M
      rw[M]at this
      exact ua this
     refine⟨_,Sub.oq j e t.size az,?_,rfl⟩
     show aH ρ ⟨σ.n,jH j (.row σ.l.length) σ.t,_⟩ _
     rw[au]
     exact aH.slot h.t (.row _) h.di (F2.app h.l (.cons (.row e t _ ([]:List t.den) (bx G) rfl) .nil))
    |cell id k=>
     simp only[jS]at M
     cases F:σ.l[id]? with
     |none=>simp[F]at M
     |some av=>
      obtain⟨ad,U,Y⟩:=F2.left h.l F
      cases Y with
      |var ty xs ts af=>
       simp only[F]at M
       have ak:xs[k]?=some (.aX z):=by
        cases Z:xs[k]? with
        |none=>rw[Z]at M;simp at M
        |some y=>rw[Z]at M;simp at M;rw[M]
       obtain⟨u,ao,an⟩:=af.left ak
       have:=ua an
       subst this
       refine⟨_,Sub.JI id k e t.size U ao,?_,?_⟩
       ·have ay:(σ.l++[AX.row false e t (.nil t)])[id]?=some (.var ty xs):=by
         rw[List.getElem?_append_left (List.getElem?_eq_some_iff.1 F).1];exact F
        simp only[pC,ay]
        refine⟨h.di,h.t,?_⟩
        rw[au]
        exact F2.set (F2.app h.l (.cons (.row e t _ ([]:List t.den) (bx G) rfl) .nil)) (.var ty _ _ (af.set (.row _) k)) id
       simp only[pC];split<;>rfl
      |_=>simp[F]at M
   cases B
 |data t=>
  simp only[lJ]at B
  cases G:cF t with
  |false=>simp[G]at B
  |true=>
   simp only[G,Bool.not_true,cond_false]at B
   split at B
   ·rename_i x l' O
    simp only[Option.some.injEq]at B;subst B
    cases p with
    |obj id=>simp[jS,iB,fo]at O
    |slot j=>
     simp only[jS]at O
     obtain⟨v,aF,k1,k2,ag⟩:=rO h.l (h.t j) O
     exact⟨_,Sub.LH j k2,aH.slot h.t (.d t x v (bx G) k1) h.di ag,rfl⟩
    |cell id k=>
     simp only[jS]at O
     cases F:σ.l[id]? with
     |none=>simp only[F]at O;simp[iB,fo]at O
     |some av=>
      obtain⟨ad,U,Y⟩:=F2.left h.l F
      cases Y with
      |var ty xs ts af=>
       simp only[F]at O
       cases Z:xs[k]? with
       |none=>rw[Z]at O;simp[iB,fo]at O
       |some y=>
        rw[Z]at O
        obtain⟨u,ao,an⟩:=af.left Z
        obtain⟨v,aF,k1,k2,ag⟩:=rO h.l an O
        refine⟨_,Sub.LK id k U ao k2,?_,?_⟩
        ·have aB:=I2 U k2
         obtain⟨aG,ax,aw⟩:=F2.right ag aB
         simp only[pC]
         cases aw with
         |var _ aI _ aE=>
          simp only[ax]
          exact⟨h.di,h.t,F2.set ag (.var ty _ _ (aE.set (.d t x v (bx G) k1) k)) id⟩
         |cO _ Z=>cases Z
        simp only[pC];split<;>rfl
      |_=>simp only[F]at O;simp[iB,fo]at O
   cases B
 |tj=>
  simp only[lJ]at B
  split at B
  ·rename_i id M
   split at B
   ·rename_i e t x F
    simp only[Option.some.injEq]at B;subst B
    obtain⟨ad,U,Y⟩:=F2.left h.l F
    cases Y with
    |row _ _ _ zs ar ab=>exact⟨_,Sub.Mp U,⟨h.di,h.t,F2.set h.l (.aM e t x zs ar ab) id⟩,rfl⟩
   cases B
  cases B
 |grow e kk t=>
  simp only[lJ]at B
  split at B
  ·rename_i id M
   split at B
   ·rename_i a F
    split at B
    ·rename_i x ab
     cases G:(cF t&&Nat.ble 1 t.size)with
     |false=>simp[G]at B
     |true=>
      simp only[G,cond_true,Option.some.injEq]at B;subst B
      simp only[Bool.and_eq_true]at G
      obtain⟨ad,U,Y⟩:=F2.left h.l F
      obtain⟨aA,m,aC,aD⟩:=I4 (bx G.1) (Nat.le_of_ble_eq_true G.2) Y ab
      exact⟨⟨s.t,s.l.set id (.aU e t.size (m.map λp=>kk.enc p.1) (m.map λp=>(Ty.list t).enc p.2) none)⟩,λw0 I0 n a w al=>by
       obtain⟨ah,I,m',ai,ae,aj⟩:=al
       obtain⟨aa,aq⟩:=aD w0 I0 w I m' s.l id U ai
       exact⟨ah,I,m',aq,ae.mono aa.cB,λk=>(aj k).mono aa⟩,⟨h.di,h.t,F2.set h.l (.aU e kk t x m aA (bx G.1) (Nat.le_of_ble_eq_true G.2) aC) id⟩,rfl⟩
    cases B
   cases B
  cases B
 |vL=>
  simp only[lJ]at B
  split at B
  ·rename_i id M
   split at B
   ·rename_i e kk t x F
    simp only[Option.some.injEq]at B;subst B
    obtain⟨ad,U,Y⟩:=F2.left h.l F
    cases Y with
    |aU _ _ _ _ m ak ar ae ab=>
     exact⟨⟨s.t,s.l.set id (.map (m.map λp:kk.den×List t.den=>kk.enc p.1) (m.map λp:kk.den×List t.den=>(Ty.list t).enc p.2))⟩,λw0 I0 n a w al=>by
      obtain⟨ah,I,m',ai,ae,aj⟩:=al
      obtain⟨aa,aq⟩:=ai.Cv U
      exact⟨ah,I,m',aq,ae.mono aa.cB,λk=>(aj k).mono aa⟩,⟨h.di,h.t,F2.set h.l (.map kk (.list t) x m ak (bx rfl) ab) id⟩,rfl⟩
   cases B
  cases B
theorem Sub.trans'{a b c:St}(h:Sub a b)(k:Sub b c):Sub a c:=λw0 I0 n x w j=>k w0 I0 n x w (h w0 I0 n x w j)
theorem N3:∀(f:Nat){A j F k:Sk}{ps:gR}{s:St},aH ρ j s→meet f A j=some (F,k,ps)→∃s',Sub s s'∧aH ρ k s'∧k.n=j.n:=by
 intro f
 induction f with
 |zero=>intro A j F k ps s _ h;simp[meet]at h
 |succ f M=>
  intro A j F k ps s G h
  simp only[meet]at h
  split at h
  ·simp only[Option.some.injEq,Prod.mk.injEq]at h
   obtain⟨_,rfl,_⟩:=h
   exact⟨s,Sub.refl s,G,rfl⟩
  rename_i ag ah af O _
  split at h
  ·rename_i ad ae _ B
   cases O with
   |none=>
    simp only[sT,Option.some.injEq]at B
    subst B
    exact M G h
   |some c=>
    simp only[sT]at B
    obtain⟨s1,k1,k2,U⟩:=AJ G B
    obtain⟨ab,Y,Z,aa⟩:=M k2 h
    exact⟨ab,Sub.trans' k1 Y,Z,aa.trans U⟩
  cases h
end
end Go.Sy
namespace Go.Sy
open Go Go.af
variable [au][bK][bB][bV][aL][bu]
section
variable {P:Program}{V:Env}{C:Cx}{ρ ae:az}{σ aR:Sk}{s:St}
theorem ke(id:Nat):∀(ids:List Nat)(k:Nat),oO id ids k=af.idx id ids k
 | [],k=>rfl
 |x::xs,k=>by
  simp only[oO,af.idx]
  by_cases h:x=id
  ·subst h;simp
  have:Nat.beq x id=false:=by
   cases e:Nat.beq x id with
   |false=>rfl
   |true=>exact absurd (Nat.eq_of_beq_eq_true e) h
  rw[this,if_neg h];exact ke id xs (k+1)
theorem HO{ids:List Nat}{c:TX}{t:T}(h:RX ρ c t)(B:mZ c=true):RX ρ (vg ids c) (t.nR ids):=by
 cases h with
 |d t x v j k=>exact .d t x v j k
 |ptr id off=>
  simp only[vg,T.nR,eB,ke]
  cases af.idx id ids 0<;>constructor
 |aK id=>
  simp only[vg,T.nR,eB,ke]
  cases af.idx id ids 0<;>constructor
 |_=>simp[mZ]at B
theorem lx{ids:List Nat}{c:TX}{t:T}(h:RX ρ c t):RX ρ (lv ids c) (t.cR ids):=by
 cases h with
 |d t x v B F=>exact .d t x v B F
 |undef t=>exact .undef _
 |gone=>exact .undef _
 |aX s=>exact .aX s
 |cV=>exact .cV
 |ptr id off=>simp only[lv,T.cR,eB,ke];cases af.idx id ids 0<;>constructor
 |aS t e b off size els k v B F G M O U=>exact .aS t e b off size els k v B F G M O U
 |row id=>simp only[lv,T.cR,eB,ke];cases af.idx id ids 0<;>constructor
 |aO id k off kk n B=>
  simp only[lv,T.cR,eB,ke]
  cases af.idx id ids 0 with
  |some j=>exact .aO _ k off kk n B
  |none=>exact .undef _
 |map id=>simp only[lv,T.cR,eB,ke];cases af.idx id ids 0<;>constructor
 |aK id=>simp only[lv,T.cR,eB,ke];cases af.idx id ids 0<;>constructor
 |bj id n=>simp only[lv,T.cR,eB,ke];cases af.idx id ids 0<;>constructor
 |aQ id t x xs B=>
  simp only[lv,T.cR,ke]
  cases af.idx id ids 0 with
  |some j=>exact .aQ _ t x xs B
  |none=>exact ml B
 |sub=>exact .undef _
 |agg cs ts B F=>exact .undef _
 |fA cs ds B F=>exact .undef _
 |aw cs ts B F=>exact .undef _
 |eY cs ds B F=>exact .undef _
 |ar f cs ts B F=>exact .undef _
 |e8 f cs ds B F=>exact .undef _
theorem ru{ids:List Nat}{c:TX}{t:T}(h:RX ρ c t):RX ρ (c.re ids) (t.cQ ids):=by
 cases h with
 |d t x v B F=>exact .d t x v B F
 |undef t=>exact .undef _
 |gone=>exact .undef _
 |aX s=>exact .aX s
 |cV=>exact .cV
 |ptr id off=>exact lx (.ptr id off)
 |aS t e b off size els k v B F O Y ab ad=>exact .aS t e b off size els k v B F O Y ab ad
 |row id=>exact lx (.row id)
 |aO id k off kk n B=>exact lx (.aO id k off kk n B)
 |map id=>exact lx (.map id)
 |aK id=>exact lx (.aK id)
 |bj id n=>exact lx (.bj id n)
 |aQ id t x xs B=>exact lx (.aQ id t x xs B)
 |sub=>exact .undef _
 |agg cs ts B F=>
  refine .agg _ _ (by simpa using B) λi c t j G=>?_
  simp only[List.getElem?_map,Option.map_eq_some_iff]at j G
  obtain⟨M,j,rfl⟩:=j
  obtain⟨t',G,rfl⟩:=G
  exact lx (F i M t' j G)
 |fA cs ds B F=>
  refine .fA _ _ (by simpa using B) λi c d j Z=>?_
  simp only[List.getElem?_map,Option.map_eq_some_iff]at j
  obtain⟨M,j,rfl⟩:=j
  exact lx (ids:=ids) (F i M d j Z)
 |aw cs ts B F=>
  simp only[TX.re]
  cases U:cs.all tB with
  |false=>exact .undef _
  |true=>
   have:ts.all T.data=true:=by
    rw[List.all_eq_true]at U⊢
    intro t G
    obtain⟨i,hi,rfl⟩:=List.mem_iff_getElem.1 G
    have j:cs[i]?=some (cs[i]'(by omega)):=List.getElem?_eq_getElem (by omega)
    have O:=F i _ _ j (List.getElem?_eq_getElem hi)
    have Y:=U _ (List.getElem_mem (by omega:i<cs.length))
    generalize cs[i]'(by omega)=c at O Y
    generalize ts[i]=t at O
    cases O<;>first|rfl| (simp[tB]at Y;done)
   simp only[cond_true,T.cQ,this,if_true]
   exact .aw cs ts B F
 |eY cs ds B F=>
  simp only[TX.re]
  cases U:cs.all tB with
  |false=>exact .undef _
  |true=>exact .eY cs ds B F
 |ar f cs ts B F=>
  simp only[TX.re]
  cases U:cs.all mZ with
  |false=>exact .undef _
  |true=>
   have aa:∀(i:Nat) c,cs[i]?=some c→mZ c=true:=λi c j=>by
    rw[List.all_eq_true]at U;exact U c (List.mem_of_getElem? j)
   have:ts.all T.flat=true:=by
    rw[List.all_eq_true]
    intro t G
    obtain⟨i,hi,rfl⟩:=List.mem_iff_getElem.1 G
    have j:cs[i]?=some (cs[i]'(by omega)):=List.getElem?_eq_getElem (by omega)
    have O:=F i _ _ j (List.getElem?_eq_getElem hi)
    have Y:=aa i _ j
    generalize cs[i]'(by omega)=c at O Y
    generalize ts[i]=t at O
    cases O<;>first|rfl| (simp[mZ]at Y;done)
   have e:(T.ar f ts).cQ ids=.ar f (ts.map (T.nR ids)):=by
    simp only[T.cQ,T.cR,this,if_true]
   rw[e]
   refine .ar f _ _ (by simpa using B) λi c t j G=>?_
   simp only[List.getElem?_map,Option.map_eq_some_iff]at j G
   obtain⟨M,j,rfl⟩:=j
   obtain⟨t',G,rfl⟩:=G
   exact HO (F i M t' j G) (aa i M j)
 |e8 f cs ds B F=>
  simp only[TX.re]
  cases U:cs.all mZ with
  |false=>exact .undef _
  |true=>
   refine .e8 f _ _ (by simpa using B) λi c d j Z=>?_
   simp only[List.getElem?_map,Option.map_eq_some_iff]at j
   obtain⟨M,j,rfl⟩:=j
   rw[List.all_eq_true]at U
   exact HO (ids:=ids) (F i M d j Z) (U M (List.mem_of_getElem? j))
theorem qF:∀{ids:List Nat},nF ids=true→ids.Nodup
 | [],_=>List.nodup_nil
 |x::xs,h=>by
  simp only[nF,Bool.and_eq_true,Bool.not_eq_true']at h
  refine List.nodup_cons.2 ⟨λj=>?_,qF h.2⟩
  have:(xs.any λy=>Nat.beq x y)=true:=List.any_eq_true.2 ⟨x,j,Nat.beq_refl x⟩
  rw[this]at h;simp at h
theorem JW{ids:List Nat}{a:AX}{o:AO}(h:bd ρ a o):bd ρ (a.re ids) (o.cQ ids):=by
 cases h with
 |dead=>exact .dead
 |var ty cs ts B=>
  refine .var ty _ _ (F2.of (by simp[B.len]) λi c t M O=>?_)
  simp only[List.getElem?_map,Option.map_eq_some_iff]at M O
  obtain⟨Y,M,rfl⟩:=M
  obtain⟨t',O,rfl⟩:=O
  exact ru (B.get M O)
 |row e t x xs F B=>exact .row e t x xs F B
 |aM e t x xs F B=>exact .aM e t x xs F B
 |map k v x m F G B=>exact .map k v x m F G B
 |cU k v x m F G B=>exact .cU k v x m F G B
 |aU e kk t x m U F G B=>exact .aU e kk t x m U F G B
 |eg e kk t x k m n U F G B Z=>exact .eg e kk t x k m n U F G B Z
 |bD kk ks ts aa B=>
  refine .bD kk ks _ _ (F2.of (by simp[B.len]) λi c t M O=>?_)
  simp only[List.getElem?_map,Option.map_eq_some_iff]at M O
  obtain⟨Y,M,rfl⟩:=M
  obtain⟨t',O,rfl⟩:=O
  exact ru (B.get M O)
 |hZ kk=>exact .hZ kk
 |cr j b rs vals ft B G=>exact .cr j b rs vals ft B G
 |lp j b rs st k ps aP body tm B G=>exact .lp j b rs st k ps aP body tm B G
 |cO o h=>exact(by cases o<;>first|exact .cO _ h|cases h)
theorem tq(f:TX→TX)(j:f .undef=.undef):∀(t:List (Nat×TX))(k:Nat),aD (t.map λp=>(p.1,f p.2)) k=f (aD t k)
 | [],k=>j.symm
 | (i,u)::r,k=>by
  simp only[List.map_cons,aD]
  cases Nat.beq i k with
  |true=>rfl
  |false=>exact tq f j r k
theorem Sk.zw{ids:List Nat}(h:aH ρ σ s)(al:ids.Nodup)(Z:kY ids σ.l=true):∃s':St,(oh ids s.l∧dx ids s.l=s'.l∧na ids s.t s'.t)∧aH ρ (σ.re ids) s':=by
 have ah:oh ids s.l:=by
  intro id ai o b t ad aa
  unfold kY at Z
  rw[List.all_eq_true]at Z
  have:=Z id ai
  obtain⟨a,M,Y⟩:=F2.right h.l ad
  rw[M]at this
  have ae:∀rs,(Nat.ble b ids.length&&rs.all λr=>Nat.blt r b&&(match ids[r]? with|some i=>Nat.beq i r|none=>false))=true→gS t rs→b≤ids.length∧∀k,∀r∈bU (af.get t k),r<b∧ids[r]?=some r:=by
   intro rs B F
   rw[Bool.and_eq_true,List.all_eq_true]at B
   refine⟨Nat.le_of_ble_eq_true B.1,λk r aj=>?_⟩
   have O:=B.2 r (F k r aj)
   rw[Bool.and_eq_true]at O
   refine⟨Nat.le_of_ble_eq_true O.1,?_⟩
   have U:=O.2
   split at U
   ·rename_i i hi
    have:=Nat.eq_of_beq_eq_true U
    subst this;exact hi
   cases U
  cases Y with
  |cr j ag rs vals ft B F=>cases aa;exact ae rs this F
  |lp j ag rs st k ps aP body tm B F=>cases aa;exact ae rs this F
  |cO o h=>cases this
  |_=>cases aa
 refine⟨⟨σ.t.map λp=>(p.1,(af.get s.t p.1).cQ ids),dx ids s.l⟩,⟨ah,rfl,?_⟩,h.di,λk=>?_,?_⟩
 ·have:∀(r:List (Nat×TX)),na ids s.t (r.map λp=>(p.1,(af.get s.t p.1).cQ ids)):=by
   intro r
   induction r with
   |nil=>trivial
   |cons p r G=>exact⟨rfl,G⟩
  exact this _
 ·show RX ρ (aD (σ.t.map λp=>(p.1,p.2.re ids)) k) _
  rw[tq (TX.re ids) rfl]
  have ak:∀(r:List (Nat×TX)),(af.get (r.map λp=>(p.1,(af.get s.t p.1).cQ ids)) k=(af.get s.t k).cQ ids)∨aD r k=.undef:=by
   intro r
   induction r with
   |nil=>exact .inr rfl
   |cons p r G=>
    obtain⟨i,u⟩:=p
    simp only[List.map_cons,af.get,aD]
    by_cases ab:i=k
    ·subst ab;rw[if_pos rfl];exact .inl rfl
    have:Nat.beq i k=false:=by
     cases e:Nat.beq i k with
     |false=>rfl
     |true=>exact absurd (Nat.eq_of_beq_eq_true e) ab
    rw[if_neg ab,this];exact G
  rcases ak σ.t with e|e
  ·rw[e];exact Go.Sy.ru (h.t k)
  rw[e];exact .undef _
 show F2 (bd ρ) (ids.map λid=>((σ.l[id]?).getD .dead).re ids) (ids.map λid=>((s.l[id]?).getD .dead).cQ ids)
 have:∀is:List Nat,F2 (bd ρ) (is.map λid=>((σ.l[id]?).getD .dead).re ids) (is.map λid=>((s.l[id]?).getD .dead).cQ ids):=by
  intro is
  induction is with
  |nil=>exact .nil
  |cons id is G=>
   refine .cons (JW ?_) G
   cases M:σ.l[id]? with
   |none=>rw[F2.none h.l M];exact .dead
   |some a=>
    obtain⟨o,ad,Y⟩:=F2.left h.l M
    rw[ad];exact Y
 exact this ids
theorem Sk.ru{ids:List Nat}(h:aH ρ σ s)(j:nF ids=true)(M:kY ids σ.l=true):∃s',Sub s s'∧aH ρ (σ.re ids) s':=by
 obtain⟨s',⟨k,B,F⟩,G⟩:=Sk.zw h (qF j) M
 exact⟨s',TF ids (qF j) k B F,G⟩
end
end Go.Sy
namespace Go.Sy
open Go Go.af
variable [au][Λ:bK][bB][bV][aL][R0:bu]
section
variable {P:Program}{V:Env}{C:Cx}{ρ ae:az}{σ aR:Sk}{s:St}
theorem beq_false{i j:Nat}(h:i≠j):Nat.beq i j=false:=by
 cases e:Nat.beq i j with
 |false=>rfl
 |true=>exact absurd (Nat.eq_of_beq_eq_true e) h
theorem oL(m k j:Nat):hasB (gw m k) j=(hasB m j||decide (k=j)):=by
 have h:∀m j:Nat,hasB m j=m.testBit j:=λm j=>by
  unfold hasB Nat.testBit
  have:∀x:Nat,Nat.beq (Nat.land x 1) 1=(1 &&& x != 0):=λx=>by
   show Nat.beq (x &&& 1) 1=_
   rw[Nat.and_comm 1 x,Nat.and_one_is_mod]
   have:=Nat.mod_two_eq_zero_or_one x
   rcases this with h|h<;>rw[h]<;>rfl
  exact this _
 rw[h,h]
 show(m ||| (1 <<< k)).testBit j=_
 rw[Nat.testBit_or]
 congr 1
 rw[Nat.testBit_shiftLeft]
 by_cases e:k=j
 ·subst e;simp
 simp[e]
 intro F
 have:j-k≠0:=by omega
 obtain⟨q,B⟩:∃q,j-k=q+1:=⟨j-k-1,by omega⟩
 rw[B,Nat.testBit_succ]
 simp
def fq(k:Nat):List (Nat×TX)→Bool
 | []=>false
 | (i,_)::r=>Nat.beq i k||fq k r
theorem xm{k:Nat}:∀{t:List (Nat×TX)},fq k t=false→aD t k=.undef
 | [],_=>rfl
 | (i,u)::r,h=>by
  simp only[fq,Bool.or_eq_false_iff]at h
  simp only[aD,h.1,cond_false]
  exact xm h.2
theorem tA(j:Nat)(x:TX):∀(t:List (Nat×TX))(k:Nat),k≠j→aD (kZ j x t) k=aD t k∧fq k (kZ j x t)=fq k t
 | [],k,h=>by
  have:=beq_false (λe:j=k=>h e.symm)
  simp[kZ,aD,fq,this]
 | (i,u)::r,k,h=>by
  have B:=beq_false (λe:j=k=>h e.symm)
  simp only[kZ]
  cases F:Nat.ble j i with
  |true=>
   cases G:Nat.beq j i with
   |true=>simp
   |false=>simp[aD,fq,B]
  |false=>
   simp only[cond_false,aD,fq]
   obtain⟨k1,k2⟩:=tA j x r k h
   rw[k1,k2];exact⟨rfl,rfl⟩
theorem CE(j:Nat)(x:TX):∀(t:List (Nat×TX)),fq j t=false→aD (kZ j x t) j=x
 | [],_=>by simp[kZ,aD]
 | (i,u)::r,h=>by
  simp only[fq,Bool.or_eq_false_iff]at h
  simp only[kZ]
  cases k:Nat.ble j i with
  |true=>
   have:Nat.beq j i=false:=beq_false (λe=>by subst e;simp at h)
   simp[this,aD]
  |false=>simp only[cond_false,aD,h.1];exact CE j x r h.2
theorem vj(F:Nat):∀(t:List (Nat×TX))(seen k:Nat),(hasB seen k=true→fq k (gk F t seen)=false)∧(hasB seen k=false→aD (gk F t seen) k=.undef∨aD (gk F t seen) k=aD t k)
 | [],seen,k=>⟨λ_=>rfl,λ_=>.inl rfl⟩
 | (
    i,u)::r,seen,k=>by
  simp only[gk]
  have M:=vj F r (gw seen i) k
  have Y:=vj F r seen k
  have ad:=vj F r (gw seen i) i
  cases G:(hasB F i && !hasB seen i)with
  |false=>
   simp only[cond_false]
   refine⟨Y.1,λh=>?_⟩
   by_cases B:i=k
   ·subst B
    have ab:hasB F i=false:=by simpa [h]using G
    left
    have:∀(t:List (Nat×TX))(seen:Nat),fq i (gk F t seen)=false:=by
     intro t
     induction t with
     |nil=>intro _;rfl
     |cons p t O=>
      obtain⟨j,w⟩:=p
      intro seen
      simp only[gk]
      cases Z:(hasB F j && !hasB seen j)with
      |false=>exact O seen
      |true=>
       have aa:i≠j:=by rintro rfl;simp[ab]at Z
       simp only[cond_true]
       cases oT w with
       |true=>exact O _
       |false=>simp only[cond_false];rw[(tA j w _ i aa).2];exact O _
    exact xm (this r seen)
   rcases Y.2 h with e|e
   ·exact .inl e
   right;rw[e];simp only[aD,beq_false B,cond_false]
  |true=>
   simp only[cond_true]
   simp only[Bool.and_eq_true,Bool.not_eq_true']at G
   have U:fq i (gk F r (gw seen i))=false:=ad.1 (by rw[oL];simp)
   cases ae:oT u with
   |true=>
    simp only[cond_true]
    refine⟨λh=>M.1 (by rw[oL,h];rfl),λh=>?_⟩
    by_cases B:i=k
    ·subst B;exact .inl (xm U)
    rcases M.2 (by rw[oL,h];simp[B])with e|e
    ·exact .inl e
    right;rw[e];simp only[aD,beq_false B,cond_false]
   |false=>
    simp only[cond_false]
    refine⟨λh=>?_,λh=>?_⟩
    ·have B:k≠i:=by rintro rfl;rw[h]at G;simp at G
     rw[(tA i u _ k B).2]
     exact M.1 (by rw[oL,h];rfl)
    by_cases B:i=k
    ·subst B
     right
     rw[CE i u _ U]
     simp[aD]
    rw[(tA i u _ k (λe=>B e.symm)).1]
    rcases M.2 (by rw[oL,h];simp[B])with e|e
    ·exact .inl e
    right;rw[e];simp only[aD,beq_false B,cond_false]
theorem Cw(k:Nat):hasB 0 k=false:=by
 unfold hasB
 have:Nat.shiftRight 0 k=0:=Nat.zero_shiftRight k
 rw[this];rfl
theorem nS(j:Nat)(h:aH ρ σ s):aH ρ (σ.ej j) s:=by
 refine⟨h.di,λk=>?_,h.l⟩
 show RX ρ (aD (gk j σ.t 0) k) _
 rcases (vj j σ.t 0 k).2 (Cw k)with e|e
 ·rw[e];exact .undef _
 rw[e];exact h.t k
mutual
theorem TX.beq_eq:∀{x y:TX},TX.beq x y=true→x=y
 |.undef,y,h=>by cases y<;>simp[TX.beq]at h<;>rfl
 |.gone,y,h=>by cases y<;>simp[TX.beq]at h<;>rfl
 |.d t x,y,h=>by
  cases y<;>simp[TX.beq]at h
  obtain⟨rfl,j⟩:=h
  rw[X.beq_eq j]
 |.aX s,y,h=>by cases y<;>simp[TX.beq]at h;rw[h]
 |.cV,y,h=>by cases y<;>simp[TX.beq]at h<;>rfl
 |.ptr i o,y,h=>by cases y<;>simp[TX.beq]at h;rw[h.1,h.2]
 |.aS t e o,y,h=>by
  cases y<;>simp[TX.beq]at h
  obtain⟨⟨rfl,j⟩,B⟩:=h
  rw[X.beq_eq j,B]
 |.row i,y,h=>by cases y<;>simp[TX.beq]at h;rw[h]
 |.aO i k o,y,h=>by
  cases y<;>simp[TX.beq]at h
  obtain⟨⟨rfl,j⟩,B⟩:=h
  rw[X.beq_eq j,B]
 |.map i,y,h=>by cases y<;>simp[TX.beq]at h;rw[h]
 |.aK i,y,h=>by cases y<;>simp[TX.beq]at h;rw[h]
 |.bj i n,y,h=>by cases y<;>simp[TX.beq]at h;rw[h.1,h.2]
 |.aQ i t x,y,h=>by
  cases y<;>simp[TX.beq]at h
  obtain⟨⟨rfl,rfl⟩,B⟩:=h
  rw[X.beq_eq B]
 |.agg a,y,h=>by
  cases y<;>simp[TX.beq]at h
  rw[TX.ow h]
 |.aw a,y,h=>by
  cases y<;>simp[TX.beq]at h
  rw[TX.ow h]
 |.ar f a,y,h=>by
  cases y<;>simp[TX.beq]at h
  rw[h.1,TX.ow h.2]
theorem TX.ow:∀{x y:List TX},TX.kR x y=true→x=y
 | [],y,h=>by cases y<;>simp[TX.kR]at h<;>rfl
 |a::r,y,h=>by
  cases y<;>simp[TX.kR]at h
  rw[TX.beq_eq h.1,TX.ow h.2]
end
theorem IW:∀{x y:List (Nat×TX)},nU x y=true→x=y
 | [],[],_=>rfl
 | (i,a)::r,(j,b)::s,h=>by
  simp only[nU,Bool.and_eq_true]at h
  rw[Nat.eq_of_beq_eq_true h.1.1,TX.beq_eq h.1.2,IW h.2]
 | [],_::_,h=>by simp[nU]at h
 |_::_,[],h=>by simp[nU]at h
theorem AX.beq_eq{x y:AX}(h:AX.beq x y=true):x=y:=by
 cases x<;>cases y<;>simp[AX.beq]at h
 ·rfl
 ·rw[h.1,TX.ow h.2]
 ·obtain⟨⟨⟨j,k⟩,B⟩,F⟩:=h;rw[j,k,B,X.beq_eq F]
 ·obtain⟨⟨⟨j,k⟩,B⟩,F⟩:=h;rw[j,k,B,X.beq_eq F]
 ·obtain⟨⟨⟨j,k⟩,B⟩,F⟩:=h;rw[j,k,B,X.beq_eq F]
 ·obtain⟨⟨⟨⟨j,k⟩,B⟩,F⟩,G⟩:=h;rw[j,k,B,X.beq_eq F,X.beq_eq G]
 ·obtain⟨⟨j,k⟩,B⟩:=h;rw[j,k,TX.ow B]
 ·obtain⟨⟨j,k⟩,B⟩:=h;rw[j,k,B]
 ·obtain⟨⟨⟨j,k⟩,B⟩,F⟩:=h;rw[j,k,B,F]
 rfl
theorem mN:∀{x y:List AX},iI x y=true→x=y
 | [],[],_=>rfl
 |a::r,b::s,h=>by
  simp only[iI,Bool.and_eq_true]at h
  rw[AX.beq_eq h.1,mN h.2]
 | [],_::_,h=>by simp[iI]at h
 |_::_,[],h=>by simp[iI]at h
structure og(n h:Nat)(ρ:az)(g:Nat→X)(ae:az)(g':Nat→X):Prop where
 lk:∀i v,i<n→lk ρ i=some v→lk ae i=some v
 g:∀p v,p<h→(g p).den ρ=some v→(g' p).den ae=some v
theorem A6{i n:Nat}(h:Nat.blt i n=true):i<n:=Nat.le_of_ble_eq_true h
theorem X.dU{n h:Nat}{g Y:Nat→X}(ab:og n h ρ g ae Y):∀{x:X},x.bz n h=true→∀{v:Sy.V},(x.fill g).den ρ=some v→(x.fill Y).den ae=some v:=by
 intro x
 induction x with
 |var i=>intro B v k;exact ab.lk i v (A6 B) k
 |hole p=>intro B v k;exact ab.g p v (A6 B) k
 |pair a b af ag=>
  intro B v k
  simp only[X.bz,Bool.and_eq_true]at B
  simp only[X.fill,X.den]at k⊢
  cases Z:(a.fill g).den ρ<;>cases aa:(b.fill g).den ρ<;>simp[Z,aa]at k
  rw[af B.1 Z,ag B.2 aa];simp[k]
 |ar f x M|box x M|proj i j x M|mk i x M|u1 o x M=>
  intro B v k
  simp only[X.bz]at B
  simp only[X.fill,X.den]at k⊢
  cases F:(x.fill g).den ρ<;>simp[F]at k
  rw[M B F];simpa using k
 |u2 o x y O U=>
  intro B v k
  simp only[X.bz,Bool.and_eq_true]at B
  simp only[X.fill,X.den]at k⊢
  cases F:(x.fill g).den ρ<;>cases G:(y.fill g).den ρ<;>simp[F,G]at k
  rw[O B.1 F,U B.2 G];simpa using k
 |u3 o x y z O U ah=>
  intro B v k
  simp only[X.bz,Bool.and_eq_true]at B
  simp only[X.fill,X.den]at k⊢
  cases F:(x.fill g).den ρ<;>cases G:(y.fill g).den ρ<;>cases ad:(z.fill g).den ρ<;>simp[F,G,ad]at k
  rw[O B.1.1 F,U B.1.2 G,ah B.2 ad];simpa using k
 |_=>intro B v k;exact k
mutual
theorem TX.dU {n h:Nat} {g Z:Nat→X} (Y:og n h ρ g ae Z):∀{c:TX},c.bz n h=true→∀{t:T},RX ρ (c.fill g) t→RX ae (c.fill Z) t
 |.undef,_,t,_=>.undef t
 |.gone,_,t,j=>by simp only[TX.fill]at j⊢;cases j;exact .gone
 |.d t x,B,u,j=>by
  simp only[TX.fill]at j⊢
  obtain⟨ai,v,F,rfl⟩:=dN j
  exact .d t _ v ai (X.dU Y B F)
 |.aX s,_,t,j=>by simp only[TX.fill]at j⊢;cases j;exact .aX _
 |.cV,_,t,j=>by simp only[TX.fill]at j⊢;cases j;exact .cV
 |.ptr i o,_,t,j=>by simp only[TX.fill]at j⊢;cases j;exact .ptr _ _
 |.aS t e o,B,u,j=>by
  simp only[TX.fill]at j⊢
  cases j with
  |aS _ _ b off size els k v F O ad af ag ah=>exact .aS t _ b _ size els k v F (X.dU Y B O) ad af ag ah
 |.row i,_,t,j=>by simp only[TX.fill]at j⊢;cases j;exact .row _
 |.aO i k o,B,t,j=>by
  simp only[TX.fill]at j⊢
  cases j with
  |aO _ _ _ kk m F=>exact .aO _ _ _ kk m (X.dU Y B F)
 |.map i,_,t,j=>by simp only[TX.fill]at j⊢;cases j;exact .map _
 |.aK i,_,t,j=>by simp only[TX.fill]at j⊢;cases j;exact .aK _
 |.bj i n,_,t,j=>by simp only[TX.fill]at j⊢;cases j;exact .bj _ _
 |.aQ i t x,B,u,j=>by
  simp only[TX.fill]at j⊢
  cases j with
  |aQ _ _ _ xs F=>exact .aQ _ _ _ xs (X.dU Y B F)
 |.agg cs,B,t,j=>by
  simp only[TX.fill,TX.bz]at j B⊢
  obtain⟨k1,k2⟩:=TX.oF Y (cs:=cs) B
  cases j with
  |agg _ ts F O=>exact .agg _ ts (by rw[k1.2,←k1.1];exact F) λi c t G ab=>k2 i c t G λM U=>O i M t U ab
  |fA _ ds F O=>exact .fA _ ds (by rw[k1.2,←k1.1];exact F) λi c d G aa=>k2 i c (.d d) G λM U=>O i M d U aa
 |.aw cs,B,t,j=>by
  simp only[TX.fill,TX.bz]at j B⊢
  obtain⟨k1,k2⟩:=TX.oF Y (cs:=cs) B
  cases j with
  |aw _ ts F O=>exact .aw _ ts (by rw[k1.2,←k1.1];exact F) λi c t G ab=>k2 i c t G λM U=>O i M t U ab
  |eY _ ds F O=>exact .eY _ ds (by rw[k1.2,←k1.1];exact F) λi c d G aa=>k2 i c (.d d) G λM U=>O i M d U aa
 |.ar f cs,B,t,j=>by
  simp only[TX.fill,TX.bz]at j B⊢
  obtain⟨k1,k2⟩:=TX.oF Y (cs:=cs) B
  cases j with
  |ar _ _ ts F O=>exact .ar f _ ts (by rw[k1.2,←k1.1];exact F) λi c t G ab=>k2 i c t G λM U=>O i M t U ab
  |e8 _ _ ds F O=>exact .e8 f _ ds (by rw[k1.2,←k1.1];exact F) λi c d G aa=>k2 i c (.d d) G λM U=>O i M d U aa
theorem TX.oF {n h:Nat} {g Z:Nat→X} (Y:og n h ρ g ae Z):∀{cs:List TX},TX.l9 n h cs=true→((TX.fc g cs).length=cs.length∧(TX.fc Z cs).length=cs.length)∧∀(i:Nat) c t,(TX.fc Z cs)[i]?=some c→(∀M,(TX.fc g cs)[i]?=some M→RX ρ M t)→RX ae c t
 | [],_=>⟨⟨rfl,rfl⟩,λi c t G=>by simp[TX.fc]at G⟩
 |c0::cs,B=>by
  simp only[TX.l9,Bool.and_eq_true]at B
  obtain⟨k1,k2⟩:=TX.oF Y (cs:=cs) B.2
  refine⟨⟨by simp[TX.fc,k1.1],by simp[TX.fc,k1.2]⟩,λi c t G j=>?_⟩
  cases i with
  |zero=>
   simp only[TX.fc,List.getElem?_cons_zero,Option.some.injEq]at G j
   subst G
   exact TX.dU Y B.1 (j _ rfl)
  |succ i=>
   simp only[TX.fc,List.getElem?_cons_succ]at G j
   exact k2 i c t G j
end
end
end Go.Sy
namespace Go.Sy
open Go Go.af
variable [au][bK][bB][bV][aL][bu]
section
variable {P:Program}{V:Env}{C:Cx}{ρ ae:az}{σ aR:Sk}{s:St}
theorem AX.dU{n h:Nat}{g Y:Nat→X}(U:og n h ρ g ae Y){a:AX}(G:a.bz n h=true){o:AO}(F:bd ρ (a.fill g) o):bd ae (a.fill Y) o:=by
 cases a with
 |dead=>simp only[AX.fill]at F⊢;cases F;exact .dead
 |var ty cs=>
  simp only[AX.fill,AX.bz]at F G⊢
  obtain⟨k1,k2⟩:=TX.oF U (cs:=cs) G
  cases F with
  |var _ _ ts B=>exact .var ty _ ts (F2.of (by rw[k1.2,←k1.1];exact B.len) λi c t Z ad=>k2 i c t Z λag aa=>B.get aa ad)
 |row ah e t x=>
  simp only[AX.fill,AX.bz]at F G⊢
  cases F with
  |row _ _ _ xs M B=>exact .row e t _ xs M (X.dU U G B)
  |aM _ _ _ xs M B=>exact .aM e t _ xs M (X.dU U G B)
 |map ah k v x=>
  simp only[AX.fill,AX.bz]at F G⊢
  cases F with
  |map _ _ _ m M O B=>exact .map k v _ m M O (X.dU U G B)
  |cU _ _ _ m M O B=>exact .cU k v _ m M O (X.dU U G B)
 |aU e kk t x=>
  simp only[AX.fill,AX.bz]at F G⊢
  cases F with
  |aU _ _ _ _ m ab M O B=>exact .aU e kk t _ m ab M O (X.dU U G B)
 |eg e kk t x k=>
  simp only[AX.fill,AX.bz,Bool.and_eq_true]at F G⊢
  cases F with
  |eg _ _ _ _ _ m n ab M O B ai=>exact .eg e kk t _ _ m n ab M O (X.dU U G.1 B) (X.dU U G.2 ai)
 |bD kk ks ts=>
  simp only[AX.fill,AX.bz]at F G⊢
  obtain⟨k1,k2⟩:=TX.oF U (cs:=ts) G
  generalize af:TX.fc g ts=ak at F
  cases F with
  |bD _ _ _ aj B=>subst af;exact .bD kk ks _ aj (F2.of (by rw[k1.2,←k1.1];exact B.len) λi c t Z ad=>k2 i c t Z λag aa=>B.get aa ad)
  |hZ _=>
   have M:(TX.fc Y ts)=[]:=List.eq_nil_of_length_eq_zero (by rw[k1.2,←k1.1,af];rfl)
   rw[M];exact .hZ kk
 |cr j b rs=>simp only[AX.fill]at F⊢;cases F with|cr _ _ _ vals ft B O=>exact .cr j b rs vals ft B O
 |lp j b rs st=>simp only[AX.fill]at F⊢;cases F with|lp _ _ _ _ k ps aP body tm B O=>exact .lp j b rs st k ps aP body tm B O
 |cO=>simp only[AX.fill]at F⊢;cases F with|cO o h=>exact .cO o h
theorem Sk.dU{n h n1 aa:Nat}{g F:Nat→X}(Y:og n h ρ g ae F){M:Sk}(G:M.bz n h=true)(ad:c7 aa ae)(Z:aH ρ (M.fill g n1) s):aH ae (M.fill F aa) s:=by
 simp only[Sk.bz,Bool.and_eq_true,List.all_eq_true]at G
 refine⟨ad,λk=>?_,?_⟩
 ·have j:=Z.t k
  show RX ae (aD (M.t.map λp=>(p.1,p.2.fill F)) k) _
  have j:RX ρ (aD (M.t.map λp=>(p.1,p.2.fill g)) k) (af.get s.t k):=j
  rw[tq (TX.fill g) rfl]at j
  rw[tq (TX.fill F) rfl]
  by_cases B:aD M.t k=.undef
  ·rw[B];exact .undef _
  have:∀t:List (Nat×TX),aD t k ≠ .undef→∃p∈t,aD t k=p.2:=by
   intro t
   induction t with
   |nil=>intro h;exact absurd rfl h
   |cons p r ak=>
    intro B
    simp only[aD]at B⊢
    cases e:Nat.beq p.1 k with
    |true=>exact⟨p,by simp,rfl⟩
    |false=>
     rw[e]at B
     obtain⟨q,ai,aj⟩:=ak B
     exact⟨q,by simp[ai],aj⟩
  obtain⟨p,ah,e⟩:=this M.t B
  rw[e]at j⊢
  exact TX.dU Y (G.1 p ah) j
 have j:F2 (bd ρ) (M.l.map (AX.fill g)) s.l:=Z.l
 show F2 (bd ae) (M.l.map (AX.fill F)) s.l
 refine F2.of (by have:=j.len;simpa using this) λi a o O ag=>?_
 simp only[List.getElem?_map,Option.map_eq_some_iff]at O
 obtain⟨ab,U,rfl⟩:=O
 exact AX.dU Y (G.2 ab (List.mem_of_getElem? U)) (j.get (i:=i) (by simp[U]) ag)
theorem Jc:∀{ts:List Ty}{xs:List X}{y:(ay ts).den},xs.length=ts.length→(dJ xs).den ρ=some ⟨ay ts,y⟩→∀(j:Nat) x,xs[j]?=some x→x.den ρ=bX ts y j
 | [],xs,y,B,h,j,x,k=>by
  have:xs=[]:=by simpa using B
  subst this;simp at k
 | [t],xs,y,B,h,j,x,k=>by
  match xs,B with
  | [z],_=>
   cases j with
   |zero=>simp at k;subst k;exact h
   |succ j=>simp at k
 |t::u::ts,xs,y,B,h,j,x,k=>by
  match xs,B with
  |z::w::r,B=>
   rw[Jb]at h
   simp only[X.den]at h
   cases F:z.den ρ with
   |none=>simp[F]at h
   |some p=>
    cases G:(dJ (w::r)).den ρ with
    |none=>simp[F,G]at h
    |some q=>
     simp only[F,G,Option.some.injEq]at h
     obtain⟨O,U⟩:=p;obtain⟨Y,M⟩:=q
     have h:(⟨.aw O Y,(U,M)⟩:Sy.V)=⟨.aw t (ay (u::ts)),y⟩:=h
     cases h
     cases j with
     |zero=>simp at k;subst k;rw[F];rfl
     |succ j=>
      have:=Jc (ts:=u::ts) (xs:=w::r) (y:=M) (by simpa using B) G j x (by simpa using k)
      rw[this];rfl
theorem instS_ok{M:Sk}{nh n0:Nat}{ts:List Ty}{ρ0:az}{xs:List X}{y:(ay ts).den}(h:aH ρ σ s)(hi:instS M nh σ=some xs)(U:ts.length=nh)(aj:(dJ xs).den ρ=some ⟨ay ts,y⟩)(ae:M.bz n0 nh=true)(hE:∀i v,i<n0→lk ρ i=some v→lk ρ0 i=some v)(af:c7 n0 ρ0):∃s',Sub s s'∧aH ((n0,⟨ay ts,y⟩)::ρ0) (M.fill (j6 n0 nh) (n0+1)) s':=by
 unfold instS at hi
 split at hi
 ·rename_i A j ps ah
  simp only at hi
  generalize ar:BX M (j.re (ps.map (·.2)))=vs at hi
  cases k:(nU (M.fill (nq vs) σ.n).t (j.re (ps.map (·.2))).t&&iI (M.fill (nq vs) σ.n).l (j.re (ps.map (·.2))).l&&nF (ps.map (·.2))&&kY (ps.map (·.2)) j.l)with
  |false=>simp[k]at hi
  |true=>
   simp only[k,cond_true,Option.some.injEq]at hi
   simp only[Bool.and_eq_true]at k
   obtain⟨⟨⟨c1,c2⟩,aa⟩,ab⟩:=k
   obtain⟨s1,k1,k2,an⟩:=N3 _ (nS (xX M.t 0) h) ah
   obtain⟨aq,ao,Z⟩:=Sk.ru k2 aa ab
   have G:(j.re (ps.map (·.2))).n=σ.n:=an
   have e:M.fill (nq vs) σ.n=j.re (ps.map (·.2)):=by
    have B:=IW c1;have F:=mN c2
    show(⟨_,_,_⟩:Sk)=_
    cases ad:j.re (ps.map (·.2))with
    |mk a b c=>
     rw[ad]at B F G
     simp only[Sk.fill]at B F⊢
     simp only at G
     rw[B,F,G]
   rw[←e]at Z
   refine⟨aq,Sub.trans' k1 ao,Sk.dU (n1:=σ.n) ⟨λi v ag O=>?_,λp v ai O=>?_⟩ ae (af.push (Nat.lt_succ_self n0) _) Z⟩
   ·have:=hE i v ag O
    simp only[lk,beq_false (by omega:n0≠i),cond_false]
    exact this
   have ak:xs.length=ts.length:=by rw[←hi,U];simp
   have al:xs[p]?=some (nq vs p):=by rw[←hi];simp[ai]
   have Y:=Jc ak aj p _ al
   rw[O]at Y
   show(ln nh p (.var n0)).den _=_
   rw[←U,qH p (a:=y) (show(X.var n0).den _=some ⟨ay ts,y⟩from fg n0 _ ρ0) (by omega),←Y]
 cases hi
end
theorem ni{α:Type}{s1 k:(α→Prop)→α→Prop}(h:∀p q z,(∀y,p y→q y)→s1 p z→k q z):∀{n:Nat}{z:α},k9 s1 n z→k9 k n z
 |0,_,j=>j
 |n+1,z,j=>h _ _ z (λy B=>ni h B) j
theorem iL{p q:Sy.V→Prop}{J J':LJ}(h:∀v,p v→q v)(B:∀k v,J k v→J' k v):∀k v,ee p J k v→ee q J' k v
 |0,v,j=>h v j
 |k+1,v,j=>B k v j
theorem Tr.wp_mono{cs:List Callee}:∀{t:Tr}{ρ:az}{Q Q':LQ}{J J':LJ},(∀k v,J k v→J' k v)→(∀e σ ae aa ab,(∀k v,aa k v→ab k v)→Q e σ ae aa→Q' e σ ae ab)→Tr.wp cs t ρ Q J→Tr.wp cs t ρ Q' J':=by
 intro t
 induction t with
 |leaf e σ=>intro ρ Q Q' J J' j B h;exact B e σ ρ J J' j h
 |out k x=>intro ρ Q Q' J J' j B ⟨v,F,G⟩;exact⟨v,F,j k v G⟩
 |aW x t O=>intro ρ Q Q' J J' j B ⟨F,G⟩;exact⟨F,O j B G⟩
 |get v xs k t O=>intro ρ Q Q' J J' j B ⟨u,l,kk,i,e,F,G,M,U⟩;exact⟨u,l,kk,i,e,F,G,M,O j B U⟩
 |call v c x t O=>intro ρ Q Q' J J' j B ⟨C,a,y,F,G,M,U⟩;exact⟨C,a,y,F,G,M,O j B U⟩
 |cK c a b Y Z=>intro ρ Q Q' J J' j B ⟨b0,F,G,M⟩;exact⟨b0,F,λh=>Y j B (G h),λh=>Z j B (M h)⟩
 |dw c a b Y Z=>intro ρ Q Q' J J' j B ⟨u,xs,F,G,M⟩;exact⟨u,xs,F,λh=>Y j B (G h),Z j B M⟩
 |join ty v a b Y Z=>
  intro ρ Q Q' J J' j B h
  exact Y (iL (λz ⟨y,F,G⟩=>⟨y,F,Z j B G⟩) j) B h
 |loop ty v i b O=>
  intro ρ Q Q' J J' j B ⟨ah,F,n,G⟩
  exact⟨ah,F,n,ni (s1:=λagain z=>Tr.wp cs b ((v,⟨ty,z⟩)::ρ) Q (ee (λad=>∃y:ty.den,ad=⟨ty,y⟩∧again y) J)) (λp q z af ag=>O (iL (λad ⟨y,M,U⟩=>⟨y,M,af y U⟩) j) B ag) G⟩
 |bad w=>intro ρ Q Q' J J' _ _ h;exact h
def dr(Q:LQ):Prop:=∀e σ ρ j B,(∀k v,j k v→B k v)→Q e σ ρ j→Q e σ ρ B
theorem fN{cs:List Callee}{f:Ex→Sk→Tr}{Q:LQ}(Z:dr Q):∀{t:Tr}{ρ:az}{J:LJ},Tr.wp cs (cZ f t) ρ Q J→Tr.wp cs t ρ (λe σ ae J'=>Tr.wp cs (f e σ) ae Q J') J:=by
 intro t
 induction t with
 |leaf e σ=>intro ρ J h;exact h
 |out k x=>intro ρ J h;exact h
 |aW x t G=>intro ρ J ⟨j,B⟩;exact⟨j,G B⟩
 |get v xs k t G=>intro ρ J ⟨u,l,kk,i,e,j,B,F,M⟩;exact⟨u,l,kk,i,e,j,B,F,G M⟩
 |call v c x t G=>intro ρ J ⟨C,a,y,j,B,F,M⟩;exact⟨C,a,y,j,B,F,G M⟩
 |cK c a b O U=>intro ρ J ⟨b0,j,B,F⟩;exact⟨b0,j,λh=>O (B h),λh=>U (F h)⟩
 |dw c a b O U=>intro ρ J ⟨u,xs,j,B,F⟩;exact⟨u,xs,j,λh=>O (B h),U F⟩
 |join ty v a b O U=>
  intro ρ J h
  have:=O (J:=ee (λz=>∃y:ty.den,z=⟨ty,y⟩∧Tr.wp cs (cZ f b) ((v,⟨ty,y⟩)::ρ) Q J) J) h
  show Tr.wp cs a ρ _ (ee _ J)
  refine Tr.wp_mono (iL ?_ (λ_ _ h=>h)) ?_ this
  ·rintro z ⟨y,j,B⟩;exact⟨y,j,U B⟩
  intro e σ ae aa ab Y h;exact Tr.wp_mono Y Z h
 |loop ty v i b G=>
  intro ρ J ⟨ag,j,n,B⟩
  refine⟨ag,j,n,ni ?_ B⟩
  intro p q z ad af
  refine Tr.wp_mono (iL ?_ (λ_ _ h=>h)) ?_ (G af)
  ·rintro ah ⟨y,F,M⟩;exact⟨y,F,ad y M⟩
  intro e σ ae aa ab Y h;exact Tr.wp_mono Y Z h
 |bad w=>intro ρ J h;exact h
theorem zD{cs:List Callee}{e:Ex}{M:Sk}{nh:Nat}{Q:LQ}{p:Sy.V→Prop}(ai:dr Q):∀{t:Tr}{k:Nat}{ρ:az}{J:LJ},(∀v,J k v→p v)→Tr.wp cs (resolve e M nh k t) ρ Q J →
  Tr.wp cs t ρ (λO σ ae J'=>if e=O then ∃xs v,instS M nh σ=some xs∧(dJ xs).den ae=some v∧p v else Q O σ ae J') J:=by
 intro t
 have af:dr (λO σ ae J'=>if e=O then ∃xs v,instS M nh σ=some xs∧(dJ xs).den ae=some v∧p v else Q O σ ae J'):=by
  intro O σ ae ag ah aj h
  by_cases Z:e=O
  ·rw[if_pos Z]at h⊢;exact h
  rw[if_neg Z]at h⊢;exact ai O σ ae ag ah aj h
 induction t with
 |leaf O σ=>
  intro k ρ J B h
  simp only[resolve]at h
  show if e=O then _ else _
  split at h
  ·rename_i Z
   rw[if_pos Z]
   split at h
   ·rename_i xs al
    obtain⟨v,F,G⟩:=h
    exact⟨xs,v,al,F,B v G⟩
   exact h.elim
  rename_i Z
  rw[if_neg Z];exact h
 |out k x=>intro _ ρ J B h;exact h
 |aW x t Y=>intro k ρ J B ⟨F,G⟩;exact⟨F,Y B G⟩
 |get v xs i t Y=>intro k ρ J B ⟨u,l,kk,j,e,F,G,U,aa⟩;exact⟨u,l,kk,j,e,F,G,U,Y B aa⟩
 |call v c x t Y=>intro k ρ J B ⟨C,a,y,F,G,U,aa⟩;exact⟨C,a,y,F,G,U,Y B aa⟩
 |cK c a b ab ad=>intro k ρ J B ⟨b0,F,G,U⟩;exact⟨b0,F,λh=>ab B (G h),λh=>ad B (U h)⟩
 |dw c a b ab ad=>intro k ρ J B ⟨u,xs,F,G,U⟩;exact⟨u,xs,F,λh=>ab B (G h),ad B U⟩
 |join ty v a b ab ad=>
  intro k ρ J B h
  have:=ab (k:=k+1) (J:=ee (λz=>∃y:ty.den,z=⟨ty,y⟩∧Tr.wp cs (resolve e M nh k b) ((v,⟨ty,y⟩)::ρ) Q J) J) B h
  show Tr.wp cs a ρ _ (ee _ J)
  refine Tr.wp_mono (iL ?_ (λ_ _ h=>h)) af this
  rintro z ⟨y,F,G⟩;exact⟨y,F,ad B G⟩
 |loop ty v i b Y=>
  intro k ρ J B ⟨ao,F,n,G⟩
  refine⟨ao,F,n,ni ?_ G⟩
  intro aq q z ak an
  refine Tr.wp_mono (iL ?_ (λ_ _ h=>h)) af (Y (k:=k+1) (J:=ee _ J) B an)
  rintro ar ⟨y,U,aa⟩;exact⟨y,U,ak y aa⟩
 |bad w=>intro k ρ J B h;exact h
theorem Ow{cs:List Callee}{e:Ex}:∀{t:Tr}{ρ:az}{Q:LQ}{J:LJ},leaves e t=[]→dr Q→Tr.wp cs t ρ Q J→Tr.wp cs t ρ (λO σ ae J'=>O≠e∧Q O σ ae J') J:=by
 intro t
 induction t with
 |leaf O σ=>
  intro ρ Q J B F h
  refine⟨λai=>?_,h⟩
  simp[leaves,ai]at B
 |out k x=>intro ρ Q J B F h;exact h
 |aW x t Y=>intro ρ Q J B F ⟨G,M⟩;exact⟨G,Y B F M⟩
 |get v xs i t Y=>intro ρ Q J B F ⟨u,l,kk,j,e,G,M,U,Z⟩;exact⟨u,l,kk,j,e,G,M,U,Y B F Z⟩
 |call v c x t Y=>intro ρ Q J B F ⟨C,a,y,G,M,U,Z⟩;exact⟨C,a,y,G,M,U,Y B F Z⟩
 |cK c a b aa ab=>
  intro ρ Q J B F ⟨b0,G,M,U⟩
  simp only[leaves,List.append_eq_nil_iff]at B
  exact⟨b0,G,λh=>aa B.1 F (M h),λh=>ab B.2 F (U h)⟩
 |dw c a b aa ab=>
  intro ρ Q J B F ⟨u,xs,G,M,U⟩
  simp only[leaves,List.append_eq_nil_iff]at B
  exact⟨u,xs,G,λh=>aa B.1 F (M h),ab B.2 F U⟩
 |join ty v a b aa ab=>
  intro ρ Q J B F h
  simp only[leaves,List.append_eq_nil_iff]at B
  have ad:dr (λO σ ae J'=>O≠e∧Q O σ ae J'):=λO σ ae ag ah af h=>⟨h.1,F _ _ _ _ _ af h.2⟩
  have:=aa B.1 F h
  show Tr.wp cs a ρ _ (ee _ J)
  refine Tr.wp_mono (iL ?_ (λ_ _ h=>h)) ad this
  rintro z ⟨y,G,M⟩;exact⟨y,G,ab B.2 F M⟩
 |loop ty v i b Y=>
  intro ρ Q J B F ⟨al,G,n,M⟩
  have ad:dr (λO σ ae J'=>O≠e∧Q O σ ae J'):=λO σ ae ag ah af h=>⟨h.1,F _ _ _ _ _ af h.2⟩
  refine⟨al,G,n,ni ?_ M⟩
  intro p q z aj ak
  refine Tr.wp_mono (iL ?_ (λ_ _ h=>h)) ad (Y B F ak)
  rintro an ⟨y,U,Z⟩;exact⟨y,U,aj y Z⟩
 |bad w=>intro ρ Q J B F h;exact h
end Go.Sy
namespace Go.Sy
open Go Go.af
class kO[au][aL]:Prop where
 dP:∀g ls,au.dP g=some ls→aL.eH g=some (.agg (ls.map (.int .i64)))
variable [au][bK][bB][bV][aL][kO][bu]
theorem IT{s:Tm}:∀g ls,au.dP g=some ls→cz s (.global g)=.aS ls.length [.agg (ls.map (.int .i64))] 0 0:=λg ls h=>by
 simp only[cz,kO.dP g ls h,D.cells,List.length_map]
def bS(n:Nat)(ρ ae:az):Prop:=∀i,i<n→lk ae i=lk ρ i
theorem bS.refl(n:Nat)(ρ:az):bS n ρ ρ:=λ_ _=>rfl
theorem bS.trans{n m:Nat}{a b c:az}(h:bS n a b)(k:bS m b c)(j:n≤m):bS n a c:=λi hi=>(k i (by omega)).trans (h i hi)
theorem bS.push{n m:Nat}(j:n≤m)(ρ:az)(v:Sy.V):bS n ρ ((m,v)::ρ):=λi hi=>by
 simp only[lk,beq_false (by omega:m≠i),cond_false]
theorem bS.ext{n:Nat}{ρ ae:az}(h:bS n ρ ae)(k:c7 n ρ):Ext ρ ae:=λi v j=>by rw[h i (xM k j)];exact j
theorem bp.BT{cs:List Callee}{n:Nat}{ρ ae:az}{is:List Ins}(h:bp cs n ρ is ae):bS n ρ ae∧n≤gB n is:=by
 induction h with
 |nil n ρ=>exact⟨.refl n ρ,Nat.le_refl _⟩
 |aW n ρ x r ae _ _ j=>exact j
 |get n ρ xs k r ae t l kk i e _ _ _ _ j=>
  obtain⟨B,F⟩:=j
  exact⟨(bS.push (Nat.le_refl n) ρ _).trans B (by omega),by simp only[gB];omega⟩
 |call n ρ c x r ae C a y _ _ _ _ j=>
  obtain⟨B,F⟩:=j
  exact⟨(bS.push (Nat.le_refl n) ρ _).trans B (by omega),by simp only[gB];omega⟩
 |prog n ρ ty T r ae z _ _ j=>
  obtain⟨B,F⟩:=j
  exact⟨(bS.push (Nat.le_refl n) ρ _).trans B (by omega),by simp only[gB];omega⟩
theorem Ot{cs:List Callee}{x p:X}{k:Nat}:∀{b:Tr}{ρ:az}{Q:LQ}{J:LJ},nE x k p b=true→Tr.wp cs b ρ Q J→∃q v,qC x p q=true∧q.den ρ=some v∧J k v∧Tr.wp cs b ρ gH (λF U=>F=k∧U=v):=by
 intro b
 induction b with
 |out F q=>
  intro ρ Q J h ⟨v,j,B⟩
  simp only[nE,Bool.and_eq_true]at h
  have:=Nat.eq_of_beq_eq_true h.1
  subst this
  exact⟨q,v,h.2,j,B,v,j,rfl,rfl⟩
 |aW y t G=>
  intro ρ Q J h ⟨j,B⟩
  obtain⟨q,v,k1,k2,M,O⟩:=G h B
  exact⟨q,v,k1,k2,M,j,O⟩
 |_=>intro ρ Q J h;cases h
theorem On{x p q:X}{ρ:az}{u:Ty}{v w:Sy.V}(h:qC x p q=true)(M:x.den ρ=some ⟨.list u,([]:List u.den)⟩)(k:p.den ρ=some v)(j:q.den ρ=some w):v=w:=by
 unfold qC at h
 rw[Bool.or_eq_true]at h
 rcases h with h|h
 ·have:=X.beq_eq h
  subst this
  rw[k]at j
  exact Option.some.inj j
 split at h
 ·rename_i G U y
  rw[Bool.and_eq_true,decide_eq_true_eq]at h
  obtain⟨rfl,h⟩:=h
  have:=X.beq_eq h
  subst this
  simp only[X.den,M]at k j
  injection k with k
  subst k
  have j:(match bZ (.list G) (⟨.list u,([]:List u.den)⟩:Sy.V)with|some ys=>some (⟨.list G,List.append [] ys⟩:Sy.V)|none=>none)=some w:=j
  split at j
  ·rename_i ys O
   have e:=jT O
   injection e with B F
   injection B with B
   subst B
   have F:=eq_of_heq F
   subst F
   exact Option.some.inj j
  cases j
 cases h
theorem UL{cs:List Callee}:∀{T:Tr}{m:Nat}{ρ:az}{Q:LQ}{J:LJ},ik m T=true→Tr.wp cs T ρ Q J→∃k v,k≤m∧J k v∧Tr.wp cs T ρ gH (λY G=>Y=k∧G=v):=by
 intro T
 induction T with
 |leaf e σ=>intro m ρ Q J h;cases h
 |out k x=>intro m ρ Q J h ⟨v,B,F⟩;exact⟨k,v,Nat.le_of_ble_eq_true h,F,v,B,rfl,rfl⟩
 |aW x t U=>intro m ρ Q J h ⟨B,F⟩;obtain⟨k,v,k1,k2,j⟩:=U (m:=m) h F;exact⟨k,v,k1,k2,B,j⟩
 |get v xs k t U=>intro m ρ Q J h ⟨u,l,kk,i,e,B,F,M,ae⟩;obtain⟨k,v,k1,k2,j⟩:=U (m:=m) h ae;exact⟨k,v,k1,k2,u,l,kk,i,e,B,F,M,j⟩
 |call v c x t U=>intro m ρ Q J h ⟨C,a,y,B,F,M,ae⟩;obtain⟨k,v,k1,k2,j⟩:=U (m:=m) h ae;exact⟨k,v,k1,k2,C,a,y,B,F,M,j⟩
 |cK c a b ab ad=>
  intro m ρ Q J h ⟨b0,B,F,M⟩
  simp only[ik,Bool.and_eq_true]at h
  cases b0 with
  |true=>obtain⟨k,v,k1,k2,j⟩:=ab (m:=m) h.1 (F rfl);exact⟨k,v,k1,k2,true,B,λ_=>j,(λh=>by cases h)⟩
  |false=>obtain⟨k,v,k1,k2,j⟩:=ad (m:=m) h.2 (M rfl);exact⟨k,v,k1,k2,false,B,(λh=>by cases h),λ_=>j⟩
 |dw c a b ab ad=>
  intro m ρ Q J h ⟨u,xs,B,F,M⟩
  cases a with
  |out k p=>
   have h:yc m c (.out k p) b=true:=h
   simp only[yc,Bool.and_eq_true]at h
   obtain⟨q,v,k1,k2,j,Z⟩:=Ot h.2 M
   refine⟨k,v,Nat.le_of_ble_eq_true h.1,j,u,xs,B,λao=>?_,Z⟩
   subst ao
   obtain⟨G,ak,_⟩:=F rfl
   exact⟨G,ak,rfl,On k1 B ak k2⟩
  |_=>cases h
 |join ty v a b ab ad=>
  intro m ρ Q J h an
  simp only[ik,Bool.and_eq_true]at h
  obtain⟨k,w,k1,k2,j⟩:=ab (m:=m+1) h.1 an
  cases k with
  |zero=>
   obtain⟨y,rfl,Z⟩:=k2
   obtain⟨k,w,ag,ah,ai⟩:=ad (m:=m) h.2 Z
   refine⟨k,w,ag,ah,?_⟩
   show Tr.wp cs a ρ _ (ee _ _)
   refine Tr.wp_mono (λY G O=>?_) (λ_ _ _ _ _ _ h=>h) j
   obtain⟨rfl,rfl⟩:=O
   exact⟨y,rfl,ai⟩
  |succ k=>
   refine⟨k,w,by omega,k2,?_⟩
   show Tr.wp cs a ρ _ (ee _ _)
   refine Tr.wp_mono (λY G O=>?_) (λ_ _ _ _ _ _ h=>h) j
   obtain⟨rfl,rfl⟩:=O
   exact⟨rfl,rfl⟩
 |loop ty v i b U=>
  intro m ρ Q J h ⟨al,B,n,F⟩
  have ar:∀(n:Nat)(z:ty.den),k9 (λagain z=>Tr.wp cs b ((v,⟨ty,z⟩)::ρ) Q (ee (λaj=>∃y:ty.den,aj=⟨ty,y⟩∧again y) J)) n z→∃k w,k≤m∧J k w∧∃aa,k9 (λagain z=>Tr.wp cs b ((v,⟨ty,z⟩)::ρ) gH (ee (λaj=>∃y:ty.den,aj=⟨ty,y⟩∧again y) λY G=>Y=k∧G=w)) aa z:=by
   intro n
   induction n with
   |zero=>intro z af;exact af.elim
   |succ n aq=>
    intro z af
    obtain⟨k,w,k1,k2,j⟩:=U (m:=m+1) h af
    cases k with
    |zero=>
     obtain⟨y,rfl,Z⟩:=k2
     obtain⟨k,w,ag,ah,aa,ai⟩:=aq y Z
     refine⟨k,w,ag,ah,aa+1,Tr.wp_mono (λY G O=>?_) (λ_ _ _ _ _ _ h=>h) j⟩
     obtain⟨rfl,rfl⟩:=O
     exact⟨y,rfl,ai⟩
    |succ k=>
     refine⟨k,w,by omega,k2,1,Tr.wp_mono (λY G O=>?_) (λ_ _ _ _ _ _ h=>h) j⟩
     obtain⟨rfl,rfl⟩:=O
     exact⟨rfl,rfl⟩
  obtain⟨k,w,k1,k2,aa,j⟩:=ar n al F
  exact⟨k,w,k1,k2,al,B,aa,j⟩
 |bad w=>intro m ρ Q J h;cases h
theorem UM{cs:List Callee}:∀{T:Tr}{ρ ae:az}{J:LJ},Ext ρ ae→Tr.wp cs T ρ gH J→Tr.wp cs T ae gH J:=by
 have push:∀{ρ ae:az}{v:Nat}{a:Sy.V},Ext ρ ae→Ext ((v,a)::ρ) ((v,a)::ae):=λ{ρ ae v a} h i u U=>by
  simp only[lk]at U⊢
  cases e:Nat.beq v i with
  |true=>rw[e]at U;exact U
  |false=>rw[e]at U;exact h i u U
 intro T
 induction T with
 |leaf e σ=>intro ρ ae J _ h;exact h.elim
 |out k x=>intro ρ ae J j ⟨v,B,F⟩;exact⟨v,X.cG j B,F⟩
 |aW x t M=>intro ρ ae J j ⟨B,F⟩;exact⟨X.cG j B,M j F⟩
 |get v xs k t M=>intro ρ ae J j ⟨u,l,kk,i,e,B,F,G,O⟩;exact⟨u,l,kk,i,e,X.cG j B,X.cG j F,G,M (push j) O⟩
 |call v c x t M=>intro ρ ae J j ⟨C,a,y,B,F,G,O⟩;exact⟨C,a,y,B,X.cG j F,G,M (push j) O⟩
 |cK c a b Y Z=>intro ρ ae J j ⟨b0,B,F,G⟩;exact⟨b0,X.cG j B,λh=>Y j (F h),λh=>Z j (G h)⟩
 |dw c a b Y Z=>intro ρ ae J j ⟨u,xs,B,F,G⟩;exact⟨u,xs,X.cG j B,λh=>Y j (F h),Z j G⟩
 |join ty v a b Y Z=>
  intro ρ ae J j h
  show Tr.wp cs a ae _ (ee _ J)
  refine Tr.wp_mono (iL ?_ (λ_ _ h=>h)) (λ_ _ _ _ _ _ h=>h) (Y j h)
  rintro z ⟨y,B,F⟩;exact⟨y,B,Z (push j) F⟩
 |loop ty v i b M=>
  intro ρ ae J j ⟨ad,B,n,F⟩
  refine⟨ad,X.cG j B,n,ni ?_ F⟩
  intro p q z aa ab
  refine Tr.wp_mono (iL ?_ (λ_ _ h=>h)) (λ_ _ _ _ _ _ h=>h) (M (push j) ab)
  rintro af ⟨y,G,O⟩;exact⟨y,G,aa y O⟩
 |bad w=>intro ρ ae J _ h;exact h
theorem oQ{cs:List Callee}{t:Tr}{Q:LQ}{J:LJ}:∀{is:List Ins}{n:Nat}{ρ:az},Tr.wp cs (kg t n is) ρ Q J→∃ae,bp cs n ρ is ae∧Tr.wp cs t ae Q J
 | [],n,ρ,h=>⟨ρ,.nil n ρ,h⟩
 |.aW x::r,n,ρ,⟨h1,j⟩=>by
  obtain⟨ae,k1,k2⟩:=oQ j
  exact⟨ae,.aW n ρ x r ae h1 k1,k2⟩
 |.get xs k::r,n,ρ,⟨u,l,kk,i,e,h1,j,B,F⟩=>by
  obtain⟨ae,k1,k2⟩:=oQ F
  exact⟨ae,.get n ρ xs k r ae u l kk i e h1 j B k1,k2⟩
 |.call c x::r,n,ρ,⟨C,a,y,h1,j,B,F⟩=>by
  obtain⟨ae,k1,k2⟩:=oQ F
  exact⟨ae,.call n ρ c x r ae C a y h1 j B k1,k2⟩
 |.prog ty T::r,n,ρ,h=>by
  simp only[kg]at h
  cases G:ik 0 T with
  |false=>rw[G]at h;exact h.elim
  |true=>
   rw[G]at h
   obtain⟨k,v,k1,k2,M⟩:=UL G h
   have:k=0:=by omega
   subst this
   obtain⟨y,rfl,O⟩:=k2
   obtain⟨ae,U,Y⟩:=oQ O
   exact⟨ae,.prog n ρ ty T r ae y M U,Y⟩
section
variable {P:Program}{V:Env}{C:Cx}{cs:List Callee}{n:Nat}{ops:List Oper}
def gq(P:Program)(n:Nat)(ops:List Oper)(o:Oper)(s:St)(K:St→Prop):Prop:=
 ∀(w0:World)(I0:aq)(a:Act)(w:World)(Q:Exit→Act→World→Prop)(j:Act→World→Prop),Rel w0 I0 n s a w→(∀s' k w',K s'→Rel w0 I0 n s' k w'→j k w') →
  if Region.wanted o (yielded ops.toArray a.tmps)=true then o.wpIn ec 0 P a w j Q else(∀f,o.about P w a.eval=some f→ec.fn f)∧j (a.put o.dst undef) w
def kN(P:Program)(n:Nat)(ops:List Oper):List Oper→St→(St→Prop)→Prop
 | [],s,K=>K s
 |o::r,s,K=>gq P n ops o s λs'=>kN P n ops r s' K
theorem kN.wp{w0:World}{I0:aq}{Q:Exit→Act→World→Prop}{K:St→Prop}(k:∀s a w,K s→Rel w0 I0 n s a w→Q .normal a w):∀(r:List Oper)(s:St)(a:Act)(w:World),Rel w0 I0 n s a w→kN P n ops r s K→wpListIn ec 0 P ops.toArray Q r a w
 | [],s,a,w,j,h=>k s a w h j
 |o::r,s,a,w,j,h=>by
  unfold wpListIn
  exact h w0 I0 a w Q _ j λs' B w' F G=>kN.wp k r s' B w' G F
theorem pG{o:Oper}{s:St}{K:St→Prop}{pc:PC}{t:T}{l':List AO}(aa:ey ops s.t o.guard=some pc)(ab:holds pc)(F:br P o (cz s.t) s.l t l')(Y:eQ n o.dst=true)(O:K ⟨ei s.t o.dst t,l'⟩):gq P n ops o s K:=by
 intro w0 I0 a w Q ag ad U
 obtain⟨G,I,m,M,Z,j⟩:=ad
 rw[if_pos ((rT j aa).2 ab)]
 refine bI.wpIn F.1 ((F.2 w0 I0 w I m a.eval M (λx ah=>mT M.sat.c9 j x)).mono λv w' ⟨J,m',B,af,ae⟩=>?_)
 exact U _ _ _ O ⟨by cases o.dst<;>simp[Act.put,G],J,m',af,Z.put B.cB,qZ G Y (λk=>(j k).mono B) ae⟩
theorem IK{o:Oper}{s:St}{K:St→Prop}{pc:PC}(O:ey ops s.t o.guard=some pc)(Y:¬holds pc)(G:eQ n o.dst=true)(B:K ⟨ei s.t o.dst af.gone,s.l⟩):gq P n ops o s K:=by
 intro w0 I0 a w Q ab Z F
 obtain⟨j,I,m,aa,M,k⟩:=Z
 rw[if_neg (λU=>Y ((rT k O).1 U))]
 exact⟨λf _=>oi f,F _ _ _ B ⟨by cases o.dst<;>simp[Act.put,j],I,m,aa,M.put (.refl I),qZ j G k MG⟩⟩
theorem iW{ρ:az}{tX:List (Nat×TX)}{t:Tm}(h:∀k,RX ρ (aD tX k) (af.get t k))(x:Operand):RX ρ (dE tX x) (cz t x):=by
 cases x with
 |tmp k=>exact h k
 |func f=>exact .d (.fn f) _ () (bx rfl) rfl
 |global g=>exact .undef _
 |const v=>
  show RX ρ (wy v) (sN v)
  unfold wy
  split
  ·exact .d .bool _ _ (bx rfl) rfl
  ·exact .d (.int _) _ _ (bx rfl) rfl
  ·rename_i s
   exact .d .str _ s (bx rfl) (by
    cases s with|mk d=>cases d with|mk l=>rfl)
  ·exact .aX 0
  ·exact .cV
  ·exact .d (.cI au.cI.1 au.cI.2) _ (none:Option (au.cI.2).den) (bx rfl) rfl
  exact .undef _
theorem Cu{ρ:az}{σ:Sk}{s:St}{g:Option (Nat×Bool)}(h:∀j b d,g=some (j,b)→(ops[j]?).bind (·.dst)=some d→RX ρ (aD σ.t d) (af.get s.t d))(k:kc ops σ g=.yes):∃pc,ey ops s.t g=some pc∧holds pc:=by
 unfold kc at k
 split at k
 ·exact⟨[],rfl,trivial⟩
 rename_i j b
 split at k
 ·rename_i d G
  have M:=h _ _ _ rfl G
  split at k
  ·rename_i c Y
   rw[Y]at M
   obtain⟨B,O,U⟩:=fO M
   have:B=c:=(ed (O.symm.trans (rfl:(X.bool c).den ρ=some ⟨.bool,c⟩)))
   subst this
   cases F:(B == b)with
   |true=>exact⟨[(j,B,b)],by simp only[ey,G,U],by simpa using F,trivial⟩
   |false=>simp[F]at k
  ·cases k
  ·cases k
  cases k
 cases k
theorem Ct{ρ:az}{σ:Sk}{s:St}{g:Option (Nat×Bool)}(h:∀j b d,g=some (j,b)→(ops[j]?).bind (·.dst)=some d→RX ρ (aD σ.t d) (af.get s.t d))(k:kc ops σ g=.no):∃pc,ey ops s.t g=some pc∧¬holds pc:=by
 unfold kc at k
 split at k
 ·cases k
 rename_i j b
 split at k
 ·rename_i d O
  have B:=h _ _ _ rfl O
  split at k
  ·rename_i c M
   rw[M]at B
   obtain⟨F,Z,G⟩:=fO B
   have:F=c:=(ed (Z.symm.trans (rfl:(X.bool c).den ρ=some ⟨.bool,c⟩)))
   subst this
   cases Y:(F == b)with
   |true=>simp[Y]at k
   |false=>exact⟨[(j,F,b)],by simp only[ey,O,G],λU=>by have:=U.1;simp[this]at Y⟩
  ·cases k
  ·rename_i M
   rw[M]at B
   have G:=xn B
   exact⟨[(0,true,false)],by simp only[ey,O,G,af.gone],λU=>by cases U.1⟩
  cases k
 cases k
theorem MM{ρ:az}{σ:Sk}{s:St}(h:aH ρ σ s){g:Option (Nat×Bool)}{x:X}{b:Bool}(k:kc ops σ g=.ask x b){c:Bool}(ae:x.den ρ=some ⟨.bool,c⟩):∃pc,ey ops s.t g=some pc∧(holds pc↔c=b):=by
 unfold kc at k
 split at k
 ·cases k
 rename_i j G
 split at k
 ·rename_i d ad
  have O:=h.t d
  split at k
  ·rename_i B M
   cases ab:(B == G)<;>simp[ab]at k
  ·rename_i af _ M
   injection k with U Y
   subst U;subst Y
   rw[M]at O
   obtain⟨B,Z,aa⟩:=fO O
   have:c=B:=ed (ae.symm.trans Z)
   subst this
   exact⟨[(j,c,G)],by simp only[ey,ad,aa],⟨λF=>F.1,λF=>⟨F,trivial⟩⟩⟩
  ·cases k
  cases k
 cases k
theorem BE{ρ:az}{σ:Sk}{s:St}(h:aH ρ σ s){x:X}{c:Bool}(aa:x.den ρ=some ⟨.bool,c⟩):aH ρ (σ.decide x c) s:=by
 refine⟨h.di,λk=>?_,h.l⟩
 show RX ρ (aD (kU x c σ.t) k) _
 have F:=h.t k
 generalize af.get s.t k=u at F
 have ab:∀t:List (Nat×TX),RX ρ (aD t k) u→RX ρ (aD (kU x c t) k) u:=by
  intro t
  induction t with
  |nil=>intro h;exact h
  |cons p r M=>
   intro h
   obtain⟨j,y⟩:=p
   by_cases G:∃z,y=.d .bool z
   ·obtain⟨z,rfl⟩:=G
    simp only[kU,aD]at h⊢
    cases B:Nat.beq j k with
    |false=>rw[B]at h;exact M h
    |true=>
     rw[B]at h
     simp only[cond_true]at h⊢
     cases Z:X.beq x z with
     |false=>exact h
     |true=>
      have:=X.beq_eq Z
      subst this
      obtain⟨O,U,Y⟩:=fO h
      have:c=O:=ed (aa.symm.trans U)
      subst this
      rw[Y]
      exact dI rfl
   have:kU x c ((j,y)::r)=(j,y)::kU x c r:=by
    cases y with
    |d t z=>cases t<;>first|rfl|exact absurd ⟨_,rfl⟩ G
    |_=>rfl
   rw[this]
   simp only[aD]at h⊢
   cases B:Nat.beq j k with
   |false=>rw[B]at h;exact M h
   |true=>rw[B]at h;exact h
 exact ab σ.t F
theorem yv{ρ:az}{tX:List (Nat×TX)}{t:Tm}(h:∀k,RX ρ (aD tX k) (af.get t k)){j:Option Nat}{x:TX}{u:T}(F:RX ρ x u):∀k,RX ρ (aD (fT tX j x) k) (af.get (ei t j u) k):=by
 intro k
 cases j with
 |none=>exact h k
 |some d=>
  show RX ρ (bif Nat.beq d k then x else aD tX k) (if d=k then u else af.get t k)
  by_cases B:d=k
  ·subst B;rw[if_pos rfl,Nat.beq_refl];exact F
  rw[if_neg B,beq_false B];exact h k
def AA(P:Program)(cs:List Callee)(n:Nat)(ops:List Oper)(H:rZ)(σ:Sk)(ρ:az):Prop:=
 ∀(o:Oper)(m:Nat)(F:(TX→Sk→Tr)→Tr)(s:St)(Q:LQ)(J:LJ)(K:TX→Sk→Tr)(k:St→Prop)(pc:PC),H o m σ=some F→aH ρ σ s→dr Q→eQ n o.dst=true→ey ops s.t o.guard=some pc→holds pc→Tr.wp cs (F K) ρ Q J →
  (∀x j ae J' u s',Tr.wp cs (K x j) ae Q J'→bS σ.n ρ ae→σ.n≤j.n→aH ae j s'→RX ae x u→k ⟨ei s'.t o.dst u,s'.l⟩)→gq P n ops o s k
theorem vm(ar:bb P V C)(av:eM P C cs)(aj:C.nt=n){H:rZ}{al:Nat}{K:St→Prop}{Q:LQ}(af:dr Q){n0:Nat}{ρ0:az}(au:∀σ ρ,bS n0 ρ0 ρ→n0≤σ.n→AA P cs n ops H σ ρ):∀(r:List Oper){σ:Sk}{ρ:az}{s:St}{J:LJ},bS n0 ρ0 ρ→n0≤σ.n→aH ρ σ s→Tr.wp cs (iY C H al ops r σ) ρ Q J →
  (∀aR ae J',Q .normal aR ae J'→bS σ.n ρ ae→σ.n≤aR.n→∀s',aH ae aR s'→K s')→kN P n ops r s K
 | [],σ,ρ,s,J,_,_,h,j,ag=>ag σ ρ J j (.refl _ _) (Nat.le_refl _) s h
 |o::r,σ,ρ,s,J,ay,aV,h,j,ag=>by
  have aA:∀{σ1:Sk}{pc:PC},σ1.n=σ.n→aH ρ σ1 s→ey ops s.t o.guard=some pc→holds pc→Tr.wp cs (bif !eQ C.nt o.dst then .bad 15 else match mU C ops (dE σ1.t) σ1.l σ1.n σ1.l.length o with|some q=>kg (iY C H al ops r (ot σ1 o.dst q)) σ1.n q.ins|none=>match H o (CX al ops r) σ1 with|some F=>F λx O=>iY C H al ops r ⟨O.n,fT O.t o.dst x,O.l⟩|none=>.bad (30000+o.dst.getD 9999)) ρ Q J→kN P n ops (o::r) s K:=by
   intro σ1 pc ak B M ax j
   cases G:eQ C.nt o.dst with
   |false=>rw[G]at j;exact j.elim
   |true=>
    rw[G]at j
    simp only[Bool.not_true,cond_false]at j
    rw[aj]at G
    split at j
    ·rename_i q aN
     obtain⟨ae,hi,j⟩:=oQ j
     obtain⟨aa,aL⟩:=hi.ext B.di
     obtain⟨aG,aF⟩:=hi.BT
     have aI:σ1.l.length=s.l.length:=B.l.len
     obtain⟨t,aP,aw⟩:=wN (ρT:=cz s.t) ar av B.l (λx _=>iW B.t x) IT aa aN hi
     have ad:∀(l':List AO),br P o (cz s.t) s.l t l'→RL ae (match q.bM with |.none=>σ1.l |.new a=>σ1.l++[a] |.aC l'=>l') l'→kN P n ops (o::r) s K:=by
      intro l' aM aE
      refine pG M ax aM G ?_
      refine vm ar av aj af au r (σ:=ot σ1 o.dst q) (ay.trans aG (by omega)) (show n0≤gB σ1.n q.ins by omega) ⟨aL,yv (λk=>(B.t k).mono aa) aP,aE⟩ j ?_
      intro aR an J' aB U ai s' ab
      have ai:gB σ1.n q.ins≤aR.n:=ai
      have U:bS (gB σ1.n q.ins) ae an:=U
      exact ag aR an J' aB (by rw[←ak];exact aG.trans U aF) (by omega) s' ab
     split at aw
     ·rename_i ah;rw[ah]at ad;exact ad _ aw (B.l.mono aa)
     ·rename_i a ah
      obtain⟨aU,k1,k2,_⟩:=aw
      rw[ah]at ad
      exact ad _ (k2 aI) (F2.app (B.l.mono aa) (.cons k1 .nil))
     rename_i l1 ah
     obtain⟨l',k1,k2⟩:=aw
     rw[ah]at ad
     exact ad l' (k2 aI) k1
    split at j
    ·rename_i F aK
     refine au σ1 ρ ay (by omega) o _ F s Q J _ _ pc aK B af G M ax j ?_
     intro x O ae J' u s' aS aa aF ab aQ
     refine vm ar av aj af au r (σ:=⟨O.n,fT O.t o.dst x,O.l⟩) (ay.trans aa (by omega)) (show n0≤O.n by omega) ⟨ab.di,yv ab.t aQ,ab.l⟩ aS ?_
     intro aR an aJ aB U ai aT aO
     have ai:O.n≤aR.n:=ai
     have U:bS O.n ae an:=U
     exact ag aR an aJ aB (by rw[←ak];exact aa.trans U aF) (by omega) aT aO
    exact j.elim
  have skip:∀{σ1:Sk}{pc:PC},σ1.n=σ.n→aH ρ σ1 s→ey ops s.t o.guard=some pc→¬holds pc→Tr.wp cs (bif !eQ C.nt o.dst then .bad 16 else iY C H al ops r {σ1 with t:=fT σ1.t o.dst .gone}) ρ Q J→kN P n ops (o::r) s K:=by
   intro σ1 pc ak B M ax j
   cases G:eQ C.nt o.dst with
   |false=>rw[G]at j;exact j.elim
   |true=>
    rw[G]at j
    simp only[Bool.not_true,cond_false]at j
    rw[aj]at G
    refine IK M ax G ?_
    refine vm ar av aj af au r (σ:={σ1 with t:=fT σ1.t o.dst .gone}) ay (show n0≤σ1.n by omega) ⟨B.di,yv B.t .gone,B.l⟩ j ?_
    intro aR ae J' af U aE s' ab
    exact ag aR ae J' af (by rw[←ak];exact U) (by rw[←ak];exact aE) s' ab
  simp only[iY]at j
  split at j
  ·rename_i M
   obtain⟨pc,Y,Z⟩:=Cu (λ_ _ d _ _=>h.t d) M
   exact aA rfl h Y Z j
  ·rename_i M
   obtain⟨pc,Y,Z⟩:=Ct (λ_ _ d _ _=>h.t d) M
   exact skip rfl h Y Z j
  ·rename_i x b M
   obtain⟨c,B,ao,aq⟩:=j
   obtain⟨pc,Y,Z⟩:=MM h M B
   have G:=BE h B
   cases c with
   |true=>
    have ao:=ao rfl
    cases b with
    |true=>exact aA (σ1:=σ.decide x true) rfl G Y (Z.2 rfl) ao
    |false=>exact skip (σ1:=σ.decide x true) rfl G Y (λaD=>by cases Z.1 aD) ao
   |false=>
    have aq:=aq rfl
    cases b with
    |true=>exact skip (σ1:=σ.decide x false) rfl G Y (λaD=>by cases Z.1 aD) aq
    |false=>exact aA (σ1:=σ.decide x false) rfl G Y (Z.2 rfl) aq
  exact j.elim
end
end Go.Sy
namespace Go.af
open Go Go.RowKit
variable [aL][bu]
section
variable {P:Program}{V:Env}{w0 w:World}{I0 I:aq}{m:Nat→Value}{l:List AO}{n:Nat}{Q:Exit→St→Prop}{s:St}
def jQ(P:Program)(g:FuncId)(ts:List T)(l:List AO)(ft:Tm)(K:T→List AO→Prop):Prop:=
 Enters P g∧∀(w0:World)(I0:aq)(w:World)(I:aq)(m:Nat→Value)(j:Array Value)(vals:Nat→Value),av w0 I0 w I m l→j.size=ts.length→(∀(i:Nat) v x,j[i]?=some v→ts[i]?=some x→ah I m l v x)→(∀k,ah I m l (vals k) (af.get ft k)) →
  Calls P g j w λe w'=>∃v,e=.returned v∧∃t l' J m',K t l'∧av w0 I0 w' J m' l'∧ah J m' l' v t∧(∀b,I.df b→J.df b)∧∀k,ah J m' l' (vals k) (af.get ft k)
theorem jQ.of {f:FuncId}{fn:Func}{c:Code}{ts:List T}{l:List AO}{ft:Tm}{K:T→List AO→Prop}(az:ga P V)(aG:Enters P f)(aI:P.funcs[f]?=some fn)(aD:fn.body=some c)(bb:ts.length≤fn.ntmps)(h:∀(R:bu),R.r=none→∀w0 I0 vals(Q:Exit→St→Prop),(∀e aa,(e=.ret∨e=.normal)→mL V aa fn.results.toList l.length vals ft K→Q e aa)→bH P w0 I0 fn.ntmps c ⟨iA 0 ts,l++[.frame l.length vals ft]⟩ Q):jQ P f ts l ft K:=by
 refine⟨aG,λw0 I0 w I m U vals ad aS aB aL=>?_⟩
 let R:bu:=⟨none,I.df⟩
 refine wc (R:=λe w'=>∃v,e=.returned v∧∃t l' J m',K t l'∧av w0 I0 w' J m' l'∧ah J m' l' v t∧(∀b,I.df b→J.df b)∧∀k,ah J m' l' (vals k) (get ft k)) rfl aI aD ?_
 have ar:av w0 I0 w I (aC m l.length (.bool false)) (l++[.frame l.length vals ft])∧Le I m l I (aC m l.length (.bool false)) (l++[.frame l.length vals ft]):=by
  have ab:∀k,k<l.length→(l++[AO.frame l.length vals ft])[k]?=l[k]?:=λk Y=>List.getElem?_append_left Y
  have aR:(l++[AO.frame l.length vals ft])[l.length]?=some (.frame l.length vals ft):=by simp
  have ak:Le I m l I (aC m l.length (.bool false)) (l++[.frame l.length vals ft]):=by
   refine⟨.refl I,by simp,λid O G=>⟨?_,bq m _ (by omega)⟩,λid O Z=>⟨?_,bq m _ (by omega)⟩,λid ay s' els' O aj=>⟨els',?_⟩⟩
   ·unfold isVar at G⊢;rw[ab id O];exact G
   ·unfold isRow at Z⊢;rw[ab id O]at Z;exact Z
   rw[ab id O]at aj;exact aj
  have ax:∀k,k≠l.length→alive (l++[AO.frame l.length vals ft]) k=true→alive l k=true:=by
   intro k Y aA
   obtain⟨o,F,M⟩:=bg.1 aA
   have aP:k<l.length:=by have:=(List.getElem?_eq_some_iff.1 F).1;simp at this;omega
   rw[ab k aP]at F
   exact bg.2 ⟨o,F,M⟩
  refine⟨⟨ad.below,ad.sat,ad.ext,λid o F=>?_,λi j b aM hi aN ag ai=>?_⟩,ak⟩
  ·by_cases O:id<l.length
   ·rw[ab id O]at F;rw[bq m _ (by omega)]
    by_cases M:o=.dead
    ·subst M;trivial
    exact(ad.obj id o F).dD ak (λ_ _=>rfl) (λ_ _=>⟨rfl,rfl⟩) (.push (λ_ _ _=>rfl) rfl)
   have:id=l.length:=by
    have:=(List.getElem?_eq_some_iff.1 F).1;simp at this;omega
   subst this
   rw[aR]at F;injection F with F;subst F
   rw[cD]
   refine⟨rfl,by simp,λk=>?_⟩
   have e:(l++[AO.frame l.length vals ft]).take l.length=l:=by simp
   rw[e]
   refine(aL k).mono ⟨.refl I,Nat.le_refl _,λid O G=>⟨G,bq m _ (by omega)⟩,λid O Z=>⟨Z,bq m _ (by omega)⟩,λid ay s' els' O aj=>⟨els',aj⟩⟩
  by_cases an:i=l.length
  ·subst an;rw[cD]at ag;cases ag
  by_cases ao:j=l.length
  ·subst ao;rw[cD]at ai;cases ai
  rw[bq m _ an]at ag;rw[bq m _ ao]at ai
  exact ad.sep i j b aM (ax i an hi) (ax j ao aN) ag ai
 obtain⟨ar,ak⟩:=ar
 have aV:Rel w0 I0 fn.ntmps ⟨iA 0 ts,l++[.frame l.length vals ft]⟩ {tmps:=U++Array.replicate (fn.ntmps-U.size) undef,defers:=[]} w:=by
  refine⟨by simp;omega,I,_,ar,dH.nil λ_ h=>h,λk=>?_⟩
  rw[zQ]
  simp only[Nat.zero_le,if_true,Nat.sub_zero]
  cases M:ts[k]? with
  |none=>exact .undef _
  |some d=>
   have Y:k<U.size:=by rw[aS];exact(List.getElem?_eq_some_iff.1 M).1
   have G:U[k]?=some U[k]:=Array.getElem?_eq_getElem Y
   have:(U++Array.replicate (fn.ntmps-U.size) undef).getD k undef=U[k]:=by
    rw[Array.getD_eq_getD_getElem?,Array.getElem?_append_left Y,G];rfl
   rw[this]
   exact(aB k _ d G M).mono ak
 refine Code.wpIn_mono (λe a bd ⟨aa,⟨aq,af,aW,aT,aK,Y⟩,Z⟩=>?_) (h R rfl w0 I0 vals (λe aa=>(e=.ret∨e=.normal)∧mL V aa fn.results.toList l.length vals ft K) (λe aa aq a1=>⟨aq,a1⟩) _ _ aV)
 obtain⟨_,ba,m',aZ,aE,aY⟩:=aW _ _ _ _ _ Z
 obtain⟨w',J,au,aO,aF,aH⟩:=wF (P:=P) (fn:=fn) (a:=a) aq aZ aE
 refine aH _ ?_
 have aX:∀k,ah J m' af.l (a.tmps.getD k undef) (get af.t k):=λk=>aF _ _ (aY k)
 obtain⟨ae,a6,a7,al⟩:=vh (P:=P) az.E au aX fn.results.toList aT
 have aU:(results fn a.tmps).run P w'=.ok (if h:ae.length=1 then ae[0]else .tuple ae.toArray) w':=by
  rw[zE]
  simp only[Sem.run_bind,Array.mapM_eq_mapM_toList,Sem.run_map,a6,Result.andThen_ok,Sem.run_pure]
  simp
 have aJ:=au.obj _ _ aK
 refine⟨_,aU,_,rfl,_,_,J,m',Y,au,?_,aO,λk=>(aJ.2.2 k).mono (Le.vN J m' af.l l.length)⟩
 have B:ae.length=(fn.results.toList.map λv=>(fw V af v).1).length:=by simp[a7]
 generalize (fn.results.toList.map λv=>(fw V af v).1)=a8 at B al
 match a8,B with
 | [t],B=>
  have aQ:ae.length=1:=B
  rw[dif_pos aQ]
  exact al 0 _ t (List.getElem?_eq_getElem (by omega)) rfl
 | [],B=>
  rw[dif_neg (by simp at B;simp[B])]
  exact .aw _ _ (by simpa using B) (λi v d G M=>al i v d (by simpa using G) M)
 |t1::t2::bc,B=>
  rw[dif_neg (by rw[B];simp)]
  exact .aw _ _ (by simpa using B) (λi v d G M=>al i v d (by simpa using G) M)
theorem Sn(aW:bu.r=none){g:Operand}{ps:Array Tmp}{assign body:Code}{G:FuncId}{Y:List T}(aF:oy (cz s.t g)=some (G,Y))(h:∀N,af.get s.t N=.undef→jQ P G (.aK s.l.length::Y) (s.l++[.loop s.l.length n ps assign body s.t .ready none]) ((N,.aK s.l.length)::s.t) λ_ l'=>se P w0 I0 n Q s s.l.length l') :
  bH P w0 I0 n (.rangeFunc g ps assign body) s Q:=λa w Z=>by
 obtain⟨an,I,m,O,aI,ab⟩:=Z
 obtain⟨vs,aO,a1,aH⟩:=Bs (mT O.sat.c9 ab g) aF
 obtain⟨N,ad⟩:=xl s.t
 obtain⟨aL,aG⟩:=h N ad
 refine wpIn_rangeFunc ?_
 intro fn bf
 have aX:ec.round=none:=aW
 rw[aX]
 obtain⟨J,ao,M,aD,aB⟩:=O.JL
 obtain⟨j,aa⟩:∃j:Loop,j={state:=.ready,pending:=none,fn,tmps:=a.tmps,params:=ps,assign,body,defers:=w.heap.size}:=⟨_,rfl⟩
 have aT:((w.alloc (.deferred (some []))).alloc (.loop j)).heap[w.heap.size+1]?=some (.loop j):=by
  have:=World.alloc_heap_new (w.alloc (.deferred (some []))) (.loop j);rwa [World.size_alloc]at this
 have aU:=ao.sat.cM (b:=w.heap.size+1) (by simp)
 have aV:dh w0.heap.size ((w.alloc (.deferred (some []))).alloc (.loop j)) J (aC m s.l.length (.func (.yield (w.heap.size+1)) #[] #[])) (s.l++[.loop s.l.length n ps assign body s.t .ready none]) (.func (.yield (w.heap.size+1)) #[] #[]) (.loop s.l.length n ps assign body s.t .ready none):=by
  refine⟨w.heap.size+1,j,rfl,?_,aT,?_,by simp,λk=>?_,aU⟩
  ·have:=O.below.size;omega
  ·rw[aa];exact⟨rfl,rfl,rfl,rfl,rfl,an⟩
  have e:(s.l++[AO.loop s.l.length n ps assign body s.t .ready none]).take s.l.length=s.l:=by simp
  rw[e,aa]
  exact((ab k).mono M).mono ⟨.refl J,Nat.le_refl _,λid ag F=>⟨F,bq m _ (by omega)⟩,λid ag Z=>⟨Z,bq m _ (by omega)⟩,λid bd s' els' ag aQ=>⟨els',aQ⟩⟩
 have aN:World.grownBy (w.alloc (.deferred (some []))) ((w.alloc (.deferred (some []))).alloc (.loop j)) none:=World.grownBy_alloc _ _ _
 obtain⟨ai,a7⟩:=ao.qV (b0:=w.heap.size+1) rfl (by simp) aN (Nat.le_refl _) (by simp) aV
 have ar:ah J (aC m s.l.length (.func (.yield (w.heap.size+1)) #[] #[])) (s.l++[.loop s.l.length n ps assign body s.t .ready none]) (.func (.yield (w.heap.size+1)) #[] #[]) (.aK s.l.length):=
  .aK _ _ (by simp[isVar,AO.isVar]) (cD m _ _)
 refine⟨w.heap.size+1,[mark w.heap.size],(w.alloc (.deferred (some []))).alloc (.loop j),{target:=.fn (.func G) vs,args:= #[.func (.yield (w.heap.size+1)) #[] #[]]},(w.alloc (.deferred (some []))).alloc (.loop j),G,
  #[.func (.yield (w.heap.size+1)) #[] #[]]++vs,(w.alloc (.deferred (some []))).alloc (.loop j),?_,?_,λaw _=>oi aw,?_,λh=>by simp[ec,Fence.wide]at h,?_⟩
 ·rw[aa];exact run_enterLoop_outer _ _ _ _ _
 ·simp only[resolve,aO]
  simp[go_sem]
 ·simp[invoke,aL _ _]
 refine wb ?_ _
 have ay:∀(i:Nat) v x,(#[Value.func (.yield (w.heap.size+1)) #[] #[]]++vs)[i]?=some v→(T.aK s.l.length::Y)[i]?=some x→ah J (aC m s.l.length (.func (.yield (w.heap.size+1)) #[] #[])) (s.l++[.loop s.l.length n ps assign body s.t .ready none]) v x:=λi v x F U=>by
  rcases i with _|i
  ·rw[Array.getElem?_append_left (by simp)]at F
   simp at F U;subst F;subst U;exact ar
  have aZ:vs[i]?=some v:=by
   rw[Array.getElem?_append_right (by simp)]at F
   simpa using F
  simp at U
  exact((aH i v x aZ U).mono M).mono ai
 have az:∀k,ah J (aC m s.l.length (.func (.yield (w.heap.size+1)) #[] #[])) (s.l++[.loop s.l.length n ps assign body s.t .ready none]) (if k=N then .func (.yield (w.heap.size+1)) #[] #[]else a.tmps.getD k undef) (get ((N,.aK s.l.length)::s.t) k):=λk=>by
  simp only[get]
  by_cases B:N=k
  ·subst B;simp only[if_true];exact ar
  rw[if_neg B,if_neg (Ne.symm B)]
  exact((ab k).mono M).mono ai
 have aA:=aG w0 I0 _ J _ (#[Value.func (.yield (w.heap.size+1)) #[] #[]]++vs) (λk=>if k=N then .func (.yield (w.heap.size+1)) #[] #[]else a.tmps.getD k undef) a7 (by simp[a1];omega) ay az
 refine aA.mono ?_
 rintro e w' ⟨v,rfl,t,l',J',m',B,a6,F,aJ,al⟩
 obtain⟨base,k,a8,aP,av,tm,st,cP,aR,aY,ae⟩:=B
 have aq:=al N
 simp only[get,if_true]at aq
 have aS:m' s.l.length=.func (.yield (w.heap.size+1)) #[] #[]:=by
  cases aq with
  |aK _ _ _ ax=>exact ax
 obtain⟨r,ba,au,bg,bh,bb,bc⟩:=a6.rS (st':=.exhausted) (pend':=cP) aR aS
 have aM:=run_endLoop (P:=P) ba (by rw[au.1];exact aY)
 have aj:r.pending=cP:=au.2.1
 refine⟨cP,_,by rw[←aj];exact aM,?_⟩
 have ak:Rel w0 I0 n ⟨s.t,l'.set s.l.length (.loop base k a8 aP av tm .exhausted cP)⟩ {a with defers:=[mark w.heap.size]++a.defers} (w'.putObj (w.heap.size+1) (.loop {r with state:=.exhausted})):=by
  refine⟨an,J',m',?_,?_,λk=>?_⟩
  ·have:({r with state:=.exhausted}:Loop)={r with state:=.exhausted,pending:=cP}:=by rw[←aj]
   rw[this];exact bc
  ·refine dH.l8 (I:=J) (dH.cons (aI.l8 (J:=I) λ_ h=>h) (λb aE=>M.cB.df b aE) (by exact O.below.size) aB aD) aJ
  have:=al k
  simp only[get]at this
  by_cases B:N=k
  ·subst B
   rw[ad];exact .undef _
  rw[if_neg B,if_neg (Ne.symm B)]at this
  exact this.mono bb
 cases cP with
 |none=>exact⟨_,ae,ak⟩
 |some c=>exact ae _ _ ak
theorem Sp{b0 aL aH ad al:Nat}{aG:Nat→Value}{aq:Tm}(bh:bu.r=some b0)(aY:s.l[aL]?=some (.frame aH aG aq))(bt:af.get aq ad=.aK al)(bo:aG ad=.func (.yield b0) #[] #[]){g:Operand}{ps:Array Tmp}{assign body:Code}{Y:FuncId}{ae:List T}(aR:oy (cz s.t g)=some (Y,ae))(h:∀N,af.get s.t N=.undef→jQ P Y (.aK s.l.length::ae) (s.l++[.loop s.l.length n ps assign body s.t .ready none]) ((N,.aK s.l.length)::s.t) λ_ l'=>se P w0 I0 n Q s s.l.length l') :
  bH P w0 I0 n (.rangeFunc g ps assign body) s Q:=λa w ai=>by
 obtain⟨aB,I,m,U,aU,ak⟩:=ai
 obtain⟨vs,a1,bp,aT⟩:=Bs (mT U.sat.c9 ak g) aR
 obtain⟨N,au⟩:=xl s.t
 obtain⟨aW,aS⟩:=h N au
 refine wpIn_rangeFunc ?_
 intro fn bD
 have bl:ec.round=some b0:=bh
 rw[bl]
 obtain⟨an,bj⟩:∃an,w.heap[b0]?=some (.loop an):=by
  have ar:=(U.obj _ _ aY).2.2 ad
  rw[bt,bo]at ar
  cases ar with
  |aK _ _ M bb=>
   obtain⟨o,Z,bg⟩:∃o,s.l[al]?=some o∧o.isVar=true:=by
    have a8:=tD M
    rw[List.length_take]at a8
    rw[tE (by omega)]at M
    unfold af.isVar at M
    cases Z:s.l[al]? with
    |none=>rw[Z]at M;simp at M
    |some o=>rw[Z]at M;exact⟨o,rfl,by simpa using M⟩
   have O:=U.obj _ _ Z
   rw[bb]at O
   cases o with
   |loop b n ps aP body t st cP=>
    obtain⟨ao,r,F,_,ab,_⟩:=O
    injection F with F;injection F with F;subst F
    exact⟨r,ab⟩
   |var ty cs=>obtain⟨ao,vs,F,_⟩:=O;cases F
   |iter ks vs done=>obtain⟨ao,bE,bC,seen,F,_⟩:=O;cases F
   |frame base vals t=>have:=O.1;simp[own]at this
   |_=>simp[AO.isVar]at bg
 have aD:=U
 have ag:Le I m s.l I m s.l:=.refl ..
 obtain⟨j,aj⟩:∃j:Loop,j={state:=.ready,pending:=none,fn,tmps:=a.tmps,params:=ps,assign,body,defers:=an.defers}:=⟨_,rfl⟩
 have bc:(w.alloc (.loop j)).heap[w.heap.size]?=some (.loop j):=World.alloc_heap_new w (.loop j)
 have bd:=aD.sat.cM (b:=w.heap.size) (by simp)
 have bf:dh w0.heap.size (w.alloc (.loop j)) I (aC m s.l.length (.func (.yield (w.heap.size)) #[] #[])) (s.l++[.loop s.l.length n ps assign body s.t .ready none]) (.func (.yield (w.heap.size)) #[] #[]) (.loop s.l.length n ps assign body s.t .ready none):=by
  refine⟨w.heap.size,j,rfl,?_,bc,?_,by simp,λk=>?_,bd⟩
  ·have:=U.below.size;omega
  ·rw[aj];exact⟨rfl,rfl,rfl,rfl,rfl,aB⟩
  have e:(s.l++[AO.loop s.l.length n ps assign body s.t .ready none]).take s.l.length=s.l:=by simp
  rw[e,aj]
  exact((ak k).mono ag).mono ⟨.refl I,Nat.le_refl _,λid aw G=>⟨G,bq m _ (by omega)⟩,λid aw ai=>⟨ai,bq m _ (by omega)⟩,λid bB s' els' aw a6=>⟨els',a6⟩⟩
 have aZ:World.grownBy w (w.alloc (.loop j)) none:=World.grownBy_alloc _ _ _
 obtain⟨ax,bs⟩:=aD.qV (b0:=w.heap.size) rfl (by simp) aZ (Nat.le_refl _) (by simp) bf
 have aF:ah I (aC m s.l.length (.func (.yield (w.heap.size)) #[] #[])) (s.l++[.loop s.l.length n ps assign body s.t .ready none]) (.func (.yield (w.heap.size)) #[] #[]) (.aK s.l.length):=
  .aK _ _ (by simp[isVar,AO.isVar]) (cD m _ _)
 refine⟨w.heap.size,[],w.alloc (.loop j),{target:=.fn (.func Y) vs,args:= #[.func (.yield (w.heap.size)) #[] #[]]},w.alloc (.loop j),Y,
  #[.func (.yield (w.heap.size)) #[] #[]]++vs,w.alloc (.loop j),?_,?_,λaJ _=>oi aJ,?_,λh=>by simp[ec,Fence.wide]at h,?_⟩
 ·rw[aj];exact run_enterLoop_inner bj _ _ _ _ _
 ·simp only[resolve,a1]
  simp[go_sem]
 ·simp[invoke,aW _ _]
 refine wb ?_ _
 have aN:∀(i:Nat) v x,(#[Value.func (.yield (w.heap.size)) #[] #[]]++vs)[i]?=some v→(T.aK s.l.length::ae)[i]?=some x→ah I (aC m s.l.length (.func (.yield (w.heap.size)) #[] #[])) (s.l++[.loop s.l.length n ps assign body s.t .ready none]) v x:=λi v x G aa=>by
  rcases i with _|i
  ·rw[Array.getElem?_append_left (by simp)]at G
   simp at G aa;subst G;subst aa;exact aF
  have bn:vs[i]?=some v:=by
   rw[Array.getElem?_append_right (by simp)]at G
   simpa using G
  simp at aa
  exact((aT i v x bn aa).mono ag).mono ax
 have aO:∀k,ah I (aC m s.l.length (.func (.yield (w.heap.size)) #[] #[])) (s.l++[.loop s.l.length n ps assign body s.t .ready none]) (if k=N then .func (.yield (w.heap.size)) #[] #[]else a.tmps.getD k undef) (get ((N,.aK s.l.length)::s.t) k):=λk=>by
  simp only[get]
  by_cases B:N=k
  ·subst B;simp only[if_true];exact aF
  rw[if_neg B,if_neg (Ne.symm B)]
  exact((ak k).mono ag).mono ax
 have aQ:=aS w0 I0 _ I _ (#[Value.func (.yield (w.heap.size)) #[] #[]]++vs) (λk=>if k=N then .func (.yield (w.heap.size)) #[] #[]else a.tmps.getD k undef) bs (by simp[bp];omega) aN aO
 refine aQ.mono ?_
 rintro e w' ⟨v,rfl,t,l',J',m',B,br,G,aV,aA⟩
 obtain⟨base,k,bw,aP,aI,tm,st,cP,a7,bm,av⟩:=B
 have aE:=aA N
 simp only[get,if_true]at aE
 have ba:m' s.l.length=.func (.yield (w.heap.size)) #[] #[]:=by
  cases aE with
  |aK _ _ _ aM=>exact aM
 obtain⟨r,bx,ab,bF,bG,bz,bA⟩:=br.rS (st':=.exhausted) (pend':=cP) a7 ba
 have aX:=run_endLoop (P:=P) bx (by rw[ab.1];exact bm)
 have ay:r.pending=cP:=ab.2.1
 refine⟨cP,_,by rw[←ay];exact aX,?_⟩
 have az:Rel w0 I0 n ⟨s.t,l'.set s.l.length (.loop base k bw aP aI tm .exhausted cP)⟩ {a with defers:=[]++a.defers} (w'.putObj (w.heap.size) (.loop {r with state:=.exhausted})):=by
  refine⟨aB,J',m',?_,?_,λk=>?_⟩
  ·have:({r with state:=.exhausted}:Loop)={r with state:=.exhausted,pending:=cP}:=by rw[←ay]
   rw[this];exact bA
  ·exact dH.l8 (I:=I) aU aV
  have:=aA k
  simp only[get]at this
  by_cases B:N=k
  ·subst B
   rw[au];exact .undef _
  rw[if_neg B,if_neg (Ne.symm B)]at this
  exact this.mono bz
 cases cP with
 |none=>exact⟨_,av,az⟩
 |some c=>exact av _ _ az
end
end Go.af
namespace Go.Sy
open Go Go.af Go.RowKit
variable [aL][bu]
section
variable [au][bB][bV]
variable {P:Program}{V:Env}{n:Nat}{ops:List Oper}
theorem IJ{o:Oper}{s:St}{K:St→Prop}{pc:PC}{g:FuncId}{ts:List T}{ft:Tm}(ad:ey ops s.t o.guard=some pc)(ag:holds pc)(Y:eQ n o.dst=true)(B:dj V.E (cz s.t) o=some (g,ts))(ab:∀k,af.get ft k=.undef∨af.get ft k=af.get s.t k)(h:jQ P g ts s.l ft λu l'=>K ⟨ei ft o.dst u,l'⟩):gq P n ops o s K:=by
 intro w0 I0 a w Q an ah O
 obtain⟨F,I,m,G,Z,j⟩:=ah
 rw[if_pos ((rT j ad).2 ag)]
 refine bI.wpIn (p7 B) ?_
 obtain⟨M,ai,ae,U⟩:=mS (P:=P) (w:=w) (ρ:=a.eval) h.1 (λx _=>mT G.sat.c9 j x) B
 rw[ai]
 simp only[bI]
 refine(h.2 w0 I0 w I m M (λk=>a.tmps.getD k undef) G ae U λk=>?_).mono ?_
 ·rcases ab k with e|e
  ·rw[e];exact .undef _
  rw[e];exact j k
 rintro e w' ⟨v,aa,t,l',J,m',k1,k2,aj,al,ak⟩
 exact⟨v,aa,O _ _ _ k1 ⟨by cases o.dst<;>simp[Act.put,F],J,m',k2,Z.yu al,qZ F Y ak aj⟩⟩
theorem Ts{o:Oper}{s:St}{K:St→Prop}{pc:PC}{id base k:Nat}{ts:List T}{ps:Array Tmp}{aP body:Code}{tm ft:Tm}(bj:ey ops s.t o.guard=some pc)(aj:holds pc)(a1:eQ n o.dst=true)(aH:mF V.E (cz s.t) o=some (id,ts))(bh:∀k,af.get ft k=.undef∨af.get ft k=af.get s.t k)(ay:s.l[id]?=some (.loop base k ps aP body tm .ready none))(bq:ps.size=ts.length)(bp:ps.toList.all (λp=>decide (p<k))=true)(
   h:∀(R:bu)(w0:World)(I0:aq)(N b0:Nat)(vals:Nat→Value)(Q:Exit→St→Prop),R.r=some b0→vals N=.func (.yield b0) #[] #[]→af.get ft N=.undef→(∀e B G,tG e=some B→AB G s.l.length vals ((N,.aK id)::ft) id base k ps aP body tm B (λl'=>K ⟨ei ft o.dst (.d (.bool B.isNone)),l'⟩)→Q e G) →
   @bH _ R P w0 I0 k aP ⟨mi ps.toList ts tm,s.l++[.frame s.l.length vals ((N,.aK id)::ft)]⟩ (DE λs1=>∃G,Sub s1 G∧G.l[s.l.length]?=some (.frame s.l.length vals ((N,.aK id)::ft))∧G.l[id]?=some (.loop base k ps aP body tm .ready none)∧@bH _ R P w0 I0 k body ⟨G.t,G.l.set id (.loop base k ps aP body tm .busy none)⟩ Q)):gq P n ops o s K:=by
 intro w0 I0 a w Q aM bw aS
 obtain⟨aF,I,m,al,a6,ak⟩:=bw
 rw[if_pos ((rT ak bj).2 aj)]
 obtain⟨b,ad,f,bV,bW,bU,aB,bx,aA,aU⟩:=UP (P:=P) (w:=w) (ρ:=a.eval) (λx _=>mT al.sat.c9 ak x) aH
 obtain⟨Y,aW,bt,bT,bF,_,_⟩:=al.rS (st':=.ready) (pend':=none) ay aB
 obtain⟨bY,bX,aD,aV,aX,aG⟩:=bt
 obtain⟨N,au⟩:=xl ft
 generalize ae:(λj=>if j=N then Value.func (.yield b) #[] #[]else a.tmps.getD j undef)=vals
 have bl:af.isVar s.l id=true:=by unfold af.isVar;rw[ay];rfl
 have bz:∀j,ah I m s.l (vals j) (af.get ((N,.aK id)::ft) j):=λj=>by
  rw[←ae]
  simp only[af.get]
  by_cases U:N=j
  ·subst U;simp only[if_true]
   exact .aK id b bl aB
  rw[if_neg U,if_neg (Ne.symm U)]
  rcases bh j with e|e
  ·rw[e];exact .undef _
  rw[e];exact ak j
 have ax:∀{aa:aq}{Z:Nat→Value}{ar:World}{l1:List AO},av w0 I0 ar aa Z l1→l1[s.l.length]?=some (.frame s.l.length vals ((N,.aK id)::ft))→Z id=.func (.yield b) #[] #[]:=λ{aa Z ar l1} ag bc=>by
  have M:=(ag.obj _ _ bc).2.2 N
  rw[←ae]at M
  simp only[if_true,af.get]at M
  cases M with
  |aK _ _ _ ai=>exact ai
 unfold Oper.wpIn
 refine⟨λ_ _=>oi _,?_⟩
 rw[Oper.semAt_eq _ _ _ (UO aH),bx,run_yield aW (by rw[aD,aA,bq]),Oper.uponIn_round]
 refine⟨λh=>by simp[ec,Fence.wide]at h,?_⟩
 obtain⟨bJ,az⟩:=al.frame (vals:=vals) (ft:=(N,.aK id)::ft) bz
 have aE:=HZ (m:=aC m s.l.length (.bool false)) (l:=s.l++[.frame s.l.length vals ((N,.aK id)::ft)]) (I:=I) ps.toList ad.toList ts Y.tmps tm (by simpa using aA) (λi v x bG bK=>(aU i v x (by simpa using bG) bK).mono az) (λp aj=>by rw[aG];simpa using List.all_eq_true.1 bp p aj) (λq=>((bF q).mono (Le.vN I m s.l base)).mono az)
 have bf:(Y.params.zip ad).foldl (λtmps(x:Tmp×Value)=>tmps.setIfInBounds x.1 x.2) Y.tmps=(ps.toList.zip ad.toList).foldl (λt(p:Tmp×Value)=>t.setIfInBounds p.1 p.2) Y.tmps:=by
  rw[←Array.foldl_toList,Array.toList_zip,aD]
 have bA:@Rel _ ⟨some b,I.df⟩ w0 I0 k ⟨mi ps.toList ts tm,s.l++[.frame s.l.length vals ((N,.aK id)::ft)]⟩ {tmps:=(Y.params.zip ad).foldl (λtmps(x:Tmp×Value)=>tmps.setIfInBounds x.1 x.2) Y.tmps,defers:=[]} w:=by
  rw[bf]
  exact @Rel.mk _ ⟨some b,I.df⟩ _ _ _ _ _ _ (aE.1.trans aG) ⟨I,_,bJ,@dH.nil _ ⟨some b,I.df⟩ _ _ λ_ h=>h,aE.2⟩
 have bI:=h ⟨some b,I.df⟩ w0 I0 N b vals (λe G=>∃B,tG e=some B∧@AB _ ⟨some b,I.df⟩ G s.l.length vals ((N,.aK id)::ft) id base k ps aP body tm B (λl'=>K ⟨ei ft o.dst (.d (.bool B.isNone)),l'⟩)) rfl (by rw[←ae];simp) au (λe B G M ai=>⟨B,M,ai⟩) _ _ bA
 refine roundIn_of_wpIn (F:=ec) (oi _) ?_
 rw[aV,aX]
 refine Code.wpIn_mono (λe aN ar O=>?_) bI
 obtain⟨s1,O,br⟩:=O
 cases e<;>simp only[DE]at O
 obtain⟨G,bB,bg,bn,aY⟩:=O
 obtain⟨bD,aa,Z,ag,a7,bE⟩:=bB _ _ _ _ _ br
 obtain⟨aJ,bL,aI,b1,b2,bM,bN⟩:=ag.rS (st':=.busy) (pend':=none) bn (ax ag bg)
 have aZ:=run_beginRound (P:=P) bL aI.1
 refine⟨_,aZ,?_⟩
 have aO:({aJ with state:=.busy}:Loop)={aJ with state:=.busy,pending:=none}:=by rw[←aI.2.1]
 rw[aO]
 refine Code.wpIn_mono (λe bS bR O=>?_) (aY aN _ (@Rel.mk _ ⟨some b,I.df⟩ _ _ _ _ _ _ bD ⟨aa,Z,bN,a7,λq=>(bE q).mono bM⟩))
 obtain⟨s',⟨B,U,aL,bC,aw,bo,aT⟩,bs⟩:=O
 obtain⟨_,ab,ao,an,a8,bZ⟩:=bC _ _ _ _ _ bs
 obtain⟨b6,bO,b3,b4,b5,bP,bQ⟩:=an.rS (st':=if B.isNone then .ready else .done) (pend':=B) bo (ax an aw)
 have ba:=run_endRound (P:=P) B bO
 have bm:∀b,I.df b→ab.df b:=by
  obtain⟨_,_,_,_,aR⟩:=a8
  exact aR
 have bd:=(an.obj _ _ aw).2.2
 have bb:∀q,ah ab ao (aL.l.set id (.loop base k ps aP body tm (if B.isNone then .ready else .done) B)) (a.tmps.getD q undef) (af.get ft q):=λq=>by
  have M:=bd q
  rw[←ae]at M
  simp only[af.get]at M
  by_cases O:N=q
  ·subst O;rw[au];exact .undef _
  rw[if_neg O,if_neg (Ne.symm O)]at M
  exact(M.mono (Le.vN ab ao aL.l s.l.length)).mono bP
 have aQ:∃v w',(Instr.endRound b B).run P bR=.ok v w'∧aM (a.put o.dst v) w':=by
  refine⟨_,_,ba,aS _ _ _ aT ⟨by cases o.dst<;>simp[Act.put,aF],ab,ao,bQ,a6.yu bm,?_⟩⟩
  exact qZ aF a1 bb (.d _ _ (.bool _))
 cases e<;>simp only[tG,Option.some.injEq]at U<;>first| (subst U;exact aQ)|cases U
end
end Go.Sy
namespace Go.Sy
open Go Go.af
variable [au]
mutual
def TX.clean:TX→Bool
 |.undef=>false
 |.sub _ _ _=>false
 |.gone=>false
 |.agg cs=>TX.lP cs
 |.aw cs=>TX.lP cs
 |.ar _ cs=>TX.lP cs
 |_=>true
def TX.lP:List TX→Bool
 | []=>true
 |t::ts=>t.clean&&TX.lP ts
end
inductive Dn where
 |skip
 |done (n:Nat) (ins:List Ins)
abbrev er:=List (X×Bool)
def sQ(D:er)(x:X):Option Bool:=match D with
 | []=>none
 |p::r=>bif X.beq p.1 x then some p.2 else sQ r x
def oA(D:er):TX→TX
 |.d .bool x=>(match sQ D x with
  |some c=>.d .bool (.bool c)
  |none=>.d .bool x)
 |t=>t
def fQ(σ:Sk):er→Sk
 | []=>σ
 |p::r=>Sk.decide p.1 p.2 (fQ σ r)
def Tr.beq:Tr→Tr→Bool
 |.out k x,.out M y=>Nat.beq k M&&X.beq x y
 |.aW x t,.aW y u=>X.beq x y&&Tr.beq t u
 |.get v x k t,.get B U M t'=>Nat.beq v B&&X.beq x U&&X.beq k M&&Tr.beq t t'
 |.call v c x t,.call B G U t'=>Nat.beq v B&&Nat.beq c G&&X.beq x U&&Tr.beq t t'
 |.cK c a b,.cK G F j=>X.beq c G&&Tr.beq a F&&Tr.beq b j
 |.dw c a b,.dw G F j=>X.beq c G&&Tr.beq a F&&Tr.beq b j
 |.join ty v a b,.join O B F j=>decide (ty=O)&&Nat.beq v B&&Tr.beq a F&&Tr.beq b j
 |.loop ty v i b,.loop O B Y j=>decide (ty=O)&&Nat.beq v B&&X.beq i Y&&Tr.beq b j
 |_,_=>false
def kf:List Ins→List Ins→Bool
 | [],[]=>true
 |.aW x::r,.aW y::s=>X.beq x y&&kf r s
 |.get x k::r,.get y j::s=>X.beq x y&&X.beq k j&&kf r s
 |.call c x::r,.call d y::s=>Nat.beq c d&&X.beq x y&&kf r s
 |.prog ty T::r,.prog F B::s=>decide (ty=F)&&Tr.beq T B&&kf r s
 |_,_=>false
def my(e:rY)(l:List AX):List AX:=match e with
 |.none=>l
 |.new a=>l++[a]
 |.aC l'=>l'
def DG(o:Oper)(t:List (Nat×TX)):List TX:=o.op.operands.toList.map (dE t)
def isNone(l:List AX):rY→Bool
 |.none=>true
 |.aC l'=>iI l' l
 |.new _=>false
def wO(C:Cx)(ops:List Oper)(ρX:Operand→TX)(l:List AX)(n:Nat)(o:Oper):Option Nat→Option bL
 |none=>mU C ops ρX l n l.length o
 |some id=>match mU C ops ρX l n id o with
  |some q=>(match q.bM,l[id]? with
   |.new a,some .dead=>some ⟨q.ins,q.t,.aC (l.set id a)⟩
   |_,_=>none)
  |none=>none
abbrev iE:=Oper→List (Nat×TX)→List (Nat×TX)→List AX→Nat→Option bL
def oD(C:Cx)(H:iE)(ops:List Oper)(j t:List (Nat×TX))(l:List AX)(n:Nat)(o:Oper)(k:Option Nat):Option (Bool×bL):=match wO C ops (dE t) l n o k with
 |some q=>some (false,q)
 |none=>bif l.all (AX.bz n 0)&&(DG o t).all (TX.bz n 0)then(match H o j t l n with
  |some q=>some (true,q)
  |none=>none)else none
def CF(o:Oper):Bool:=match o.op with
 |.alloc _=>true
 |_=>false
def nD(ops:List Oper):Nat:=(ops.filter CF).length
def lg(ops:List Oper)(N i:Nat):Option Nat:=bif Nat.ble 2 (nD ops)&&(match ops[i]? with
 |some o=>CF o
 |none=>false)then some (N-nD ops+nD (ops.take i))else none
def jF(ops:List Oper)(σ:Sk):Sk:=bif Nat.ble 2 (nD ops)then {σ with l:=σ.l++List.replicate (nD ops) .dead}else σ
def kx(C:Cx)(Hd:iE)(ops:List Oper)(kp:Nat→Option Nat)(D:er):List (Nat×Oper×Dn)→List (Nat×TX)→List AX→List (Nat×TX)×List Nat
 | [],t,_=>(t,[])
 | (_,o,.skip)::r,t,l=>kx C Hd ops kp D r (fT t o.dst .gone) l
 | (i,o,.done n _)::r,t,l=>match oD C Hd ops t t l n o (kp i)with
  |some (_,q)=>bif isNone l q.bM then kx C Hd ops kp D r (fT t o.dst (oA D q.t)) l else
   ((kx C Hd ops kp D r (fT t o.dst (oA D q.t)) (my q.bM l)).1,i::(kx C Hd ops kp D r (fT t o.dst (oA D q.t)) (my q.bM l)).2)
  |none=>kx C Hd ops kp D r t l
def vV(A:List Nat)(ws:List Nat)(m:Nat):Nat:=ws.foldl (λm k=>Nat.lor (gw m k) ((A[k]?).getD 0)) m
def jR:List Oper→List Nat→List Nat
 | [],A=>A
 |o::r,A=>jR r (A++[vV A (waits o) 0])
def pO(ops:List Oper)(A:List Nat):Bool:=(List.range ops.length).all λi=>match ops[i]? with
 |some o=>Nat.beq ((A[i]?).getD 0) (vV A (waits o) 0)
 |none=>true
def wt(A:List Nat)(i j:Nat):Bool:=hasB ((A[i]?).getD 0) j
def Ju(q:Oper)(k:Nat):Bool:=match q.dst with
 |some d=>Nat.beq d k
 |none=>false
def kI(ops:List Oper)(k:Nat)(p:Nat→Bool):Bool:=(List.range ops.length).all λj=>match ops[j]? with
 |some q=>!Ju q k||p j
 |none=>true
def gC(ops:List Oper)(A:List Nat)(t0 t:List (Nat×TX))(i:Nat)(o:Oper):List (Nat×TX):=((nP ops o).filterMap λk=>bif kI ops k (λj=>wt A i j)then none else some (k,aD t0 k))++t
def ry(ops:List Oper)(A:List Nat)(i:Nat)(o:Oper):Bool:=(nP ops o).all λk=>kI ops k (λj=>wt A i j)||kI ops k (λj=>wt A j i||Nat.beq i j)
def kP(A:List Nat)(i:Nat):List Nat→List Bool→Bool
 |h::H,b::S=>((!wt A i h||b)&&(!(Nat.beq h i||wt A h i) || !b))&&kP A i H S
 |_,_=>true
def iw(i:Nat):List Nat→List Bool→List Bool
 |h::H,b::S=>(b||Nat.beq h i)::iw i H S
 |_,_=>[]
def pU:List Bool→List Bool→Bool
 | [],[]=>true
 |true::a,true::b=>pU a b
 |false::a,false::b=>pU a b
 |_,_=>false
def jt(S:List Bool):List (List Bool×List AX)→Option (List AX)
 | []=>none
 |p::r=>bif pU p.1 S then some p.2 else jt S r
def ng(H:List Nat)(i:Nat):Bool:=H.any λh=>Nat.beq h i
def zZ(C:Cx)(Hd:iE)(ops:List Oper)(A:List Nat)(kp:Nat→Option Nat)(t0 t:List (Nat×TX))(rs:List Dn)(H:List Nat):List Nat→List (List Bool×List AX)→List (List Bool×List AX)
 | [],T=>T
 |h::r,T=>zZ C Hd ops A kp t0 t rs H r (T++T.filterMap λp=>match ops[h]?,rs[h]? with
  |some o,some (.done n _)=>bif kP A h H p.1 then(match oD C Hd ops (t++t0) (gC ops A t0 t h o) p.2 n o (kp h)with
   |some (_,q)=>some (iw h H p.1,my q.bM p.2)
   |none=>none)else none
  |_,_=>none)
def CL(t:List (Nat×TX)):Bool:=t.all λp=>p.2.clean||oT p.2
def qJ(C:Cx)(Hd:iE)(ops:List Oper)(kp:Nat→Option Nat)(t0 j t:List (Nat×TX))(D:er)(H:List Nat)(Ls:List (List Bool×List AX))(i:Nat)(o:Oper)(S:List Bool)(l:List AX):Dn→Bool
 |.skip=>!ng H i&&(match kc ops ⟨0,j,[]⟩ o.guard with |.no=>true|_=>false)&&(match o.dst with|some d=>oT (aD t d)|none=>true)
 |.done n k=>(match kc ops ⟨0,j,[]⟩ o.guard with |.yes=>true|_=>false)&&(match oD C Hd ops (t++t0) j l n o (kp i)with
  |some (b,q)=>(!b||CL (t++t0))&&kf q.ins k&&(match o.dst with|some d=>TX.beq (oA D q.t) (aD t d)|none=>true)&&(bif isNone l q.bM then !ng H i else(match jt (iw i H S) Ls with|some l'=>iI (my q.bM l) l'|none=>false))
  |none=>false)
def sL(C:Cx)(Hd:iE)(ops:List Oper)(A:List Nat)(kp:Nat→Option Nat)(t0 t:List (Nat×TX))(l0:List AX)(D:er)(H:List Nat)(Ls:List (List Bool×List AX))(rs:List Dn):Bool:=
 oW ops&&pO ops A&&(match jt (H.map λ_=>false) Ls with|some l=>iI l l0|none=>false)&&(H.all λh=>Nat.blt h ops.length)&&(List.range ops.length).all λi=>match ops[i]?,rs[i]? with
  |some o,some d=>eQ C.nt o.dst&&ry ops A i o&&Ls.all λp=>!kP A i H p.1||qJ C Hd ops kp t0 (gC ops A t0 t i o) t D H Ls i o p.1 p.2 d
  |_,_=>false
def oV(C:Cx)(Hd:iE)(ops:List Oper)(cE:Sk)(D:er)(n:Nat)(rs:List Dn):Option Sk:=
 let kp:=lg ops cE.l.length
 let p:=kx C Hd ops kp D ((List.range ops.length).zip (ops.zip rs)) (fQ cE D).t cE.l
 let Ls:=zZ C Hd ops (jR ops []) kp (fQ cE D).t p.1 rs p.2 p.2 [(p.2.map λ_=>false,cE.l)]
 bif sL C Hd ops (jR ops []) kp (fQ cE D).t p.1 cE.l D p.2 Ls rs then(match jt (p.2.map λ_=>true) Ls with
  |some l=>some ⟨n,p.1,l⟩
  |none=>none)else none
def ly(C:Cx)(Hd:iE)(ops:List Oper)(cE:Sk):List Oper→Sk→er→List Dn→Tr
 | [],σ,D,rs=>(match oV C Hd ops cE D σ.n rs.reverse with
  |some k=>.leaf .normal k
  |none=>.bad (1800+ops.length))
 |o::r,σ,D,rs=>
  let j:=λ(σ:Sk)(D:er)=>match oD C Hd ops σ.t σ.t σ.l σ.n o (lg ops cE.l.length rs.length)with
   |some (_,q)=>kg (ly C Hd ops cE r (ot σ o.dst q) D (.done σ.n q.ins::rs)) σ.n q.ins
   |none=>.bad (30000+o.dst.getD 9999)
  let skip:=λ(σ:Sk)(D:er)=>ly C Hd ops cE r {σ with t:=fT σ.t o.dst .gone} D (.skip::rs)
  match kc ops σ o.guard with
  |.yes=>j σ D
  |.no=>skip σ D
  |.ask x b=>.cK x (bif b then j (σ.decide x true) ((x,true)::D)else skip (σ.decide x true) ((x,true)::D)) (bif b then skip (σ.decide x false) ((x,false)::D)else j (σ.decide x false) ((x,false)::D))
  |.bad=>.bad 4
def qa(C:Cx)(Hd:iE)(ops:List Oper)(σ:Sk):Tr:=ly C Hd ops (jF ops σ) ops (jF ops σ) [] []
def j9(l:List AX)(id:Nat):List Nat:=l.zipIdx.map λp=>bif Nat.beq p.2 id||(match p.1 with |.cO=>true|_=>false)then tf+p.2 else p.2
def oI(ids:List Nat)(id:Nat):Bool:=nF ids && !(ids.any λi=>Nat.beq i id)
def xg(C:Cx)(ty:TypeId)(cs:List TX):Option Ty:=match C.ty ty with
 |some t=>some t
 |none=>(match cs with
  | [.d (.ar f t) _]=>some (.ar f t)
  | [.d (.fn f) _]=>some (.fn f)
  |_=>none)
def xh(C:Cx)(σ:Sk)(j:Nat):Option Sk:=match aD σ.t j with
 |.ptr id 0=>(match σ.l[id]? with
  |some (.var ty cs)=>(match xg C ty cs with
   |some t=>(match nC t cs with
    |some (.d u x)=>if u=t then(bif cF (.box t)&&oI (j9 σ.l id) id&&kY (j9 σ.l id) σ.l then some ⟨σ.n,(j,.d (.box t) (.box x))::(σ.re (j9 σ.l id)).t,(σ.re (j9 σ.l id)).l⟩else none)else none
    |_=>none)
   |none=>none)
  |_=>none)
 |_=>none
def p9(id:Nat):List Ty→Nat→Sk→Sk
 | [],_,σ=>σ
 |t::ts,k,σ=>p9 id ts (k+1) (match jS σ (.cell id k)with
  |.d _ _=>σ
  |_=>(match lJ σ (.cell id k) (.data t)with|some aR=>aR|none=>σ))
def sP(C:Cx)(σ:Sk)(j:Nat):Sk:=match aD σ.t j with
 |.ptr id 0=>(match σ.l[id]? with
  |some (.var ty _)=>(match C.ty ty with
   |some t=>(match eu eP t .unit with
    |some ps=>p9 id (ps.map (·.1)) 0 σ
    |none=>σ)
   |none=>σ)
  |_=>σ)
 |_=>σ
def gz(C:Cx):Sk→List Nat→Sk
 |σ,[]=>σ
 |σ,j::r=>match xh C (sP C σ j) j with
  |some aR=>gz C aR r
  |none=>gz C σ r
def zL(σ:Sk)(j:Nat):Option Sk:=match aD σ.t j with
 |.ptr id 0=>(match σ.l[id]? with
  |some (.var ty [.ar f [.ptr i 0]])=>(bif Nat.beq i id&&oI (j9 σ.l id) id&&kY (j9 σ.l id) σ.l then some ⟨σ.n,(j,.d (.self f) (.self f))::(σ.re (j9 σ.l id)).t,(σ.re (j9 σ.l id)).l⟩else none)
  |_=>none)
 |_=>none
def iZ:List Nat→Sk→Sk
 | [],σ=>σ
 |j::r,σ=>match zL σ j with
  |some aR=>iZ r aR
  |none=>iZ r σ
def slotsOf(σ:Sk):List Nat:=σ.t.map (·.1)
def mr(C:Cx)(σ:Sk):List Nat:=bif C.gen then []else slotsOf σ
def jo(C:Cx):List Oper→List Nat
 | []=>[]
 |o::r=>(match o.op with
  |.makeFunc (.func f) _ cs=>bif C.xi.any (Nat.beq f)then cs.toList.filterMap (λx=>match x with |.tmp t=>some t|_=>none)else []
  |_=>[])++jo C r
def fp(f:Func):Code:=match f.body with|some c=>c|none=>.skip
def fi(rs:List ResultVar):Nat:=rs.foldl (λm r=>match r with |.tmp t=>gw m t |.cell a _=>gw m a) 0
def HU(C:Cx)(ty:TypeId)(l:List AX)(a:TX):Option TX:=match C.ty ty,a with
 |some t,.ptr id off=>match l[id]? with
  |some (.var _ cs)=>bif Nat.ble (off+t.size) cs.length then nC t ((cs.drop off).take t.size)else none
  |_=>none
 |none,.ptr id off=>match C.E ty,l[id]? with
  |some i,some (.var _ cs)=>bif Nat.beq i.size 1 && !i.desc.agg then cs[off]? else none
  |_,_=>none
 |_,_=>none
def kz(C:Cx)(σ:Sk):List ResultVar→Option (List TX)
 | []=>some []
 |.tmp t::r=>(kz C σ r).map (aD σ.t t :: ·)
 |.cell a ty::r=>match HU C ty σ.l (aD σ.t a)with
  |some x=>(kz C σ r).map (x :: ·)
  |none=>none
def OE(T:Tr):Tr:=cZ (λe j=>match e with |.normal=>.leaf .normal j|_=>.bad 21) T
def dF(T:Tr):Tr:=cZ (λe j=>.leaf (.dF e) j) T
def Jm(T:Tr):Tr:=cZ (λe j=>match e with |.dF e=>.leaf e j|_=>.bad 27) T
def isDone(σ:Sk):Bool:=σ.l.any λa=>match a with |.lp _ _ _ (.done _)=>true|_=>false
def vp(p:Sk→Bool)(j n0:Nat)(T:Tr)(f:Sk→Tr):Tr:=
 bif (leaves .normal T).any p then
  Jm (pB j n0 (cZ (λe σ=>match e with |.normal=>(bif p σ then dF (f σ)else .leaf .normal σ)|e=>.leaf (.dF e) σ) T) λk=>dF (f k))
 else pB j n0 T f
def Ta(k:Nat)(ls:List Sk)(σ:Sk):Bool:=isDone σ||ls.any λj=>j.t.any λq=>hasB k q.1&&(match q.2 with |.ptr .. =>true|_=>false)&&(match aD σ.t q.1 with |.undef=>true|_=>false)
 ||σ.t.any λq=>hasB k q.1&&(match q.2 with |.ar f _=>ls.any λj=>(match aD j.t q.1 with |.ar g _=>!Nat.beq f g|_=>true)|_=>false)
def rG(j n0:Nat)(T:Tr)(f:Sk→Tr):Tr:=vp (Ta j (leaves .normal T)) j n0 T f
def zC:List ResultVar→List Nat
 | []=>[]
 |.tmp t::r=>t::zC r
 |_::r=>zC r
def S9(rs:List Nat)(ls:List Sk)(σ:Sk):Bool:=isDone σ||rs.any λj=>(match aD σ.t j with |.undef=>true|_=>false)&&ls.any λk=>match aD k.t j with |.ptr .. =>true|_=>false
def Io(rs:List Nat)(j n0:Nat)(T:Tr)(f:Sk→Tr):Tr:=vp (S9 rs (leaves .normal T)) j n0 T f
mutual
def TX.refs:TX→List Nat
 |.ptr id _=>[id]
 |.row id=>[id]
 |.aO id _ _=>[id]
 |.map id=>[id]
 |.aK id=>[id]
 |.bj id _=>[id]
 |.aQ id _ _=>[id]
 |.agg cs=>TX.nQ cs
 |.aw cs=>TX.nQ cs
 |.ar _ cs=>TX.nQ cs
 |_=>[]
def TX.nQ:List TX→List Nat
 | []=>[]
 |t::ts=>t.refs++TX.nQ ts
end
def lf(j:Nat)(t:List (Nat×TX)):List (Nat×TX):=(gk j t 0).map λp=>(p.1,bif p.2.clean then p.2 else .undef)
def dm:List (Nat×TX)→List Nat
 | []=>[]
 |p::r=>p.2.refs++dm r
inductive dB where
 |mk (id j k:Nat) (ps:List Nat) (aP body:Code) (t:List (Nat×TX)) (outer:List dB)
def dB.id:dB→Nat
 |.mk id _ _ _ _ _ _ _=>id
def qf(id:Nat):List dB→Option dB
 | []=>none
 |x::r=>bif Nat.beq x.id id then some x else qf id r
def findF(g:Nat):List (Nat×Func)→Option Func
 | []=>none
 |p::r=>bif Nat.beq p.1 g then some p.2 else findF g r
def jc:Nat→List TX→List (Nat×TX)
 |_,[]=>[]
 |k,t::ts=>(k,t)::jc (k+1) ts
def rR:List TX→TX
 | [x]=>x
 |xs=>.aw xs
def fj(d:Nat):AX→AX
 |.cr j b r=>bif Nat.ble d j then .cO else .cr j b r
 |.lp j b r s=>bif Nat.ble d j then .cO else .lp j b r s
 |a=>a
def fG(j b:Nat)(l:List AX):Bool:=match l[b]? with
 |some (.cr B k _)=>Nat.beq j B&&Nat.beq b k
 |_=>false
abbrev Runner:=Cx→List dB→Lv→Code→Sk→Tr
def wa(run:Runner)(C:Cx)(L:List dB)(fn:Func)(ts:List TX)(σ:Sk)(t0:List (Nat×TX))(K:TX→Sk→Tr):Tr:=
 bif !Nat.ble ts.length fn.ntmps then .bad 24 else
 Io (zC fn.results.toList) (fi fn.results.toList) σ.n
  (
   cZ (λe j=>match e with |.normal=>.leaf .normal (j.ej (fi fn.results.toList)) |.ret=>.leaf .normal (j.ej (fi fn.results.toList))|_=>.bad 21)
   (run {C with nt:=fn.ntmps,dep:=C.dep+1,fJ:=false} L ⟨fi fn.results.toList,[],fi fn.results.toList⟩ (fp fn) ⟨σ.n,jc 0 ts,σ.l++[.cr C.dep σ.l.length (dm t0)]⟩))
  λj=>match kz C j fn.results.toList with
   |some xs=>bif fG C.dep σ.l.length j.l then K (rR xs) ⟨j.n,t0,j.l.map (fj C.dep)⟩else .bad 23
   |none=>.bad 22
def rC:List Nat→List TX→List (Nat×TX)→List (Nat×TX)
 |p::ps,x::xs,t=>rC ps xs ((p,x)::t)
 |_,_,t=>t
def iK(C:Cx)(id j b:Nat)(rs:List Nat)(n1:Nat)(t0:List (Nat×TX))(K:TX→Sk→Tr)(e:Ex)(k:Sk):Tr:=match k.l[id]? with
 |some (.lp F B G .busy)=>bif Nat.beq F j&&Nat.beq B b&&decide (G=rs)&&fG C.dep n1 k.l then
   dF (K (.d .bool (.bool (decide (e=.normal)))) ⟨k.n,t0,(k.l.set id (.lp j b rs (if e=.normal then .ready else .done e))).map (fj C.dep)⟩)else .bad 28
 |_=>.bad 28
def Av(run:Runner)(C:Cx)(L:List dB)(id:Nat)(ts:List TX)(σ:Sk)(t0:List (Nat×TX))(K:TX→Sk→Tr):Tr:=match qf id L,σ.l[id]? with
 |some (
     .mk _ j k ps aP body t outer),some (.lp G b rs .ready)=>
  bif Nat.beq G j&&Nat.beq ps.length ts.length&&ps.all (λp=>Nat.blt p k)then
   Jm (
       rG 0 σ.n
    (
     cZ (λe B=>match e with |.normal=>.leaf .normal B |.ret=>iK C id j b rs σ.l.length t0 K .ret B |.exit i=>iK C id j b rs σ.l.length t0 K (.exit i) B|_=>.bad 26)
     (
      rG (dX body ⟨0,[],0⟩) σ.n
      (OE (run {C with nt:=k,dep:=C.dep+1,fJ:=true,rb:=σ.l.length} outer ⟨dX body ⟨0,[],0⟩,[],0⟩ aP ⟨σ.n,rC ps ts t,σ.l++[.cr C.dep σ.l.length (id::dm t0)]⟩))
      λB=>match B.l[id]? with
       |some (.lp M F O .ready)=>bif Nat.beq M j&&Nat.beq F b&&decide (O=rs)&&fG C.dep σ.l.length B.l then run {C with nt:=k,dep:=C.dep+1,fJ:=true,rb:=σ.l.length} outer ⟨0,[],0⟩ body ⟨B.n,B.t,B.l.set id (.lp j b rs .busy)⟩else .bad 25
       |_=>.bad 25))
    λB=>iK C id j b rs σ.l.length t0 K .normal B)
  else .bad 29
 |_,_=>.bad 29
def qp(ok:Bool)(x:TX)(b:Bool):TX:=bif ok then .aw [x,.d .bool (.bool b)]else x
def xa(ok:Bool)(kk:IntKind)(e:X)(σ:Sk)(K:TX→Sk→Tr):List Int→List TX→Tr
 |n::ns,t::ts=>.cK (.u2 .aj e (.int kk n)) (K (qp ok t true) σ) (xa ok kk e σ K ns ts)
 |_,_=>K (qp ok .undef false) σ
def xb(k:IntKind)(e:X)(id:Nat)(σ:Sk)(K:TX→Sk→Tr):Nat→Nat→Tr
 |j,0=>.aW (.u2 .aj e (.int k (Int.ofNat j))) (K (.ptr id j) σ)
 |j,m+1=>.cK (.u2 .aj e (.int k (Int.ofNat j))) (K (.ptr id j) σ) (xb k e id σ K (j+1) m)
def oM(
     run:Runner)(C:Cx)(L:List dB):rZ:=λo m σ=>match o.op with
 |.indexAddr t x i=>(match C.E t,dE σ.t x,dE σ.t i with
  |some ⟨_,_,_,.slice e⟩,.bj id (len+1),.d (.int k) y=>bif (C.E e).isSome&&Nat.beq (aE C.E e) 1 then some λK=>xb k y id σ K 0 len else none
  |_,_,_=>none)
 |.binOp op t x y _=>(match op,C.E t,dE σ.t x,y with
  |.eql,some ⟨_,_,_,.slice _⟩,.d (.list _) xs,.const (.slice none 0 0)=>some λK=>.dw xs (K (.d .bool (.bool true)) σ) (K (.d .bool (.bool false)) σ)
  |_,_,_,_=>none)
 |.lookup t x k ok=>(match qu C t,dE σ.t x,dE σ.t k with
  |some kk,.map id,.d (.int k1) e=>(match σ.l[id]? with
   |some (.bD j ks ts)=>bif decide (k1=kk)&&decide (j=kk)&&Nat.beq ks.length ts.length && !ks.isEmpty then some λK=>xa ok kk e σ K ks ts else none
   |_=>none)
  |_,_,_=>none)
 |.call c=>(match c.callee with
  |.value f=>(match dE σ.t f with
   |.aK id=>some λK=>Av run C L id (fU C.E c.argTypes.toList (c.args.toList.map (dE σ.t))) σ (lf m σ.t) K
   |t=>(match gU t with
    |some (g,ts)=>(match findF g C.iN with
     |some fn=>some λK=>wa run C L fn (fU C.E c.argTypes.toList (c.args.toList.map (dE σ.t))++ts) σ (lf m σ.t) K
     |none=>none)
    |none=>none))
  |_=>none)
 |_=>none
def rr(run:Runner)(C:Cx)(L:List dB)(B:Nat)(fn:Func)(F:List TX)(ps:List Nat)(aP body:Code)(σ:Sk)(t0:List (Nat×TX)):Tr:=
 bif !Nat.ble (F.length+1) fn.ntmps || !fn.results.toList.isEmpty || !Nat.ble σ.l.length σ.l.length then .bad 32 else
 cZ (λe k=>match e with
  |.normal=>fin k
  |.ret=>fin k
  |_=>.bad 31) (run {C with nt:=fn.ntmps,dep:=C.dep+2,fJ:=false} (.mk σ.l.length C.dep C.nt ps aP body t0 L::L) ⟨0,[],0⟩ (fp fn)
   ⟨σ.n,jc 0 (.aK σ.l.length::F),σ.l++[.lp C.dep σ.l.length (dm t0) .ready,.cr (C.dep+1) (σ.l.length+1) (σ.l.length::dm t0)]⟩)
where fin (k:Sk):Tr:=bif fG (C.dep+1) (σ.l.length+1) k.l then(match k.l[σ.l.length]? with
 |some (.lp j _ _ .ready)=>bif Nat.beq j C.dep then .leaf .normal (Sk.ej B ⟨k.n,t0,k.l.map (fj C.dep)⟩)else .bad 31
 |some (.lp j _ _ (.done .ret))=>bif Nat.beq j C.dep then .leaf .ret (Sk.ej B ⟨k.n,t0,k.l.map (fj C.dep)⟩)else .bad 31
 |some (.lp j _ _ (.done (.exit i)))=>bif Nat.beq j C.dep then .leaf (.exit i) (Sk.ej B ⟨k.n,t0,k.l.map (fj C.dep)⟩)else .bad 31
 |_=>.bad 31)else .bad 31
def tR(k:Nat)(rs:List Nat):List Nat:=rs.filter λr=>Nat.blt r k
def nf(run:Runner)(C:Cx)(L:List dB):iE:=λo k t l n=>match o.op with
 |.call c=>(match c.callee with
  |.value f=>(match gU (dE t f)with
   |some (g,ts)=>(match findF g C.iN with
    |some fn=>CD run C L fn (fU C.E c.argTypes.toList (c.args.toList.map (dE t))++ts) k l n
    |none=>none)
   |none=>none)
  |_=>none)
 |_=>none
where
 CD (run:Runner) (C:Cx) (L:List dB) (fn:Func) (ts:List TX) (k:List (Nat×TX)) (l:List AX) (n:Nat):Option bL:=
  let T:=cZ (λe B=>match e with |.normal=>.leaf .normal (B.ej (fi fn.results.toList)) |.ret=>.leaf .normal (B.ej (fi fn.results.toList))|_=>.bad 21)
   (run {C with nt:=fn.ntmps,dep:=C.dep+1,fJ:=false} L ⟨fi fn.results.toList,[],fi fn.results.toList⟩ (fp fn) ⟨n,jc 0 ts,l++[.cr C.dep l.length (tR l.length (dm k))]⟩)
  match leaves .normal T with
  | []=>none
  |σ::r=>match qx n σ r with
   |some (M,j)=>bif Nat.ble ts.length fn.ntmps&&M.bz n j.length then(match kz C (M.fill (j6 n j.length) (n+1)) fn.results.toList with
    |some xs=>bif fG C.dep l.length (M.fill (j6 n j.length) (n+1)).l then some ⟨[.prog (ay j) (resolve .normal M j.length 0 T)],rR xs,.aC ((M.fill (j6 n j.length) (n+1)).l.map (fj C.dep))⟩else none
    |none=>none)else none
   |none=>none
def An(body:Sk→Tr):Nat→Sk→Tr
 |0,_=>.bad 41
 |m+1,σ=>cZ (λe j=>match e with |.normal=>An body m j|e=>.leaf e j) (body σ)
def IQ(j:Nat)(t:List (Nat×TX)):Bool:=t.any λp=>hasB j p.1&&(match p.2 with |.bj _ _=>true|_=>false)
def kQ:Code→List Nat
 |.region _ ops _=>ops.toList.filterMap (·.dst)
 |.seq a b=>kQ a++kQ b
 |.cond _ a b=>kQ a++kQ b
 |.block _ b=>kQ b
 |.loop b=>kQ b
 |.rangeFunc _ ps a b=>ps.toList++(kQ a++kQ b)
 |_=>[]
def qh:Ty→Bool
 |.int _=>true
 |.bool=>true
 |.str=>true
 |.st _=>true
 |.list _=>true
 |.map _ _=>true
 |_=>false
def tp:TX→TX
 |.d t x=>bif qh t then .d t (.var 1000000007)else .d t x
 |t=>t
def Mw(t:Ty)(c:TX):TX:=match c with
 |.row _=>bif qh t then .d t (.var 1000000007)else c
 |.aX _=>bif qh t then .d t (.var 1000000007)else c
 |.map _=>bif qh t then .d t (.var 1000000007)else c
 |.cV=>bif qh t then .d t (.var 1000000007)else c
 |c=>tp c
def Cp:List Ty→List TX→List TX
 |t::ts,c::cs=>Mw t c::Cp ts cs
 |_,cs=>cs
def Mv(C:Cx):AX→AX
 |.var ty cs=>.var ty (match C.ty ty with
  |some (.st i)=>(match eu eP (.st i) .unit with
   |some ps=>Cp (ps.map (·.1)) cs
   |none=>cs.map tp)
  |_=>cs.map tp)
 |.row false e t _=>.row false e t (.var 1000000007)
 |.map false k v _=>.map false k v (.var 1000000007)
 |a=>a
def Mx(C:Cx)(js:List Nat)(n0:Nat)(σ:Sk):Sk:=match qx n0 σ [⟨σ.n,σ.t.map (λp=>bif js.any (Nat.beq p.1)then(p.1,tp p.2)else p),σ.l.map (Mv C)⟩]with
 |some (M,_)=>M
 |none=>σ
def exec:Nat→Cx→List dB→Lv→Code→Sk→Tr
 |0,_,_,_,_,_=>.bad 8
 |f+1,C,L,live,c,σ=>match c with
  |.skip=>.leaf .normal σ
  |.region _ ops d=>cZ (λe j=>.leaf e (j.ej live.out)) (bif d then qa C (nf (exec f) C L) ops.toList (gz C (iZ (mr C σ) σ) (jo C ops.toList))else iY C (oM (exec f) C L) live.out ops.toList ops.toList (gz C (iZ (mr C σ) σ) (jo C ops.toList)))
  |.seq a b=>rG (dX b live) σ.n (exec f C L {live with out:=dX b live} a σ) (exec f C L live b)
  |.cond c a b=>match dE σ.t c with
   |.d .bool (.bool true)=>exec f C L live a σ
   |.d .bool (.bool false)=>exec f C L live b σ
   |.d .bool x=>.cK x (exec f C L live a σ) (exec f C L live b σ)
   |_=>.bad 9
  |.block id b=>cZ (λe j=>match e with |.exit i=>(bif Nat.beq i id then .leaf .normal j else .leaf e j)|e=>.leaf e j) (exec f C L {live with ex:=(id,live.out)::live.ex} b σ)
  |.loop b=>bif IQ (dX (.loop b) live) σ.t then An (exec f C L {live with out:=dX (.loop b) live} b) 40 σ else qq (dX (.loop b) live) σ.n (exec f C L {live with out:=dX (.loop b) live} b) 6 σ (bif C.gen then Mx C (kQ b) σ.n (σ.ej (dX (.loop b) live))else σ.ej (dX (.loop b) live))
  |.exit id=>.leaf (.exit id) σ
  |.ret=>.leaf .ret σ
  |.rangeFunc g ps a b=>bif C.fJ && !fG (C.dep-1) C.rb σ.l then .bad 30 else match gU (dE (lf (dX (.rangeFunc g ps a b) live) σ.t) g)with
   |some (k,bJ)=>(match findF k C.iN with
    |some fn=>rr (exec f) C L live.out fn bJ ps.toList a b σ (lf (dX (.rangeFunc g ps a b) live) σ.t)
    |none=>.bad 33)
   |none=>.bad 34
  |_=>.bad 10
def pF:Nat→List Ty→List (Nat×TX)
 |_,[]=>[]
 |k,t::ts=>(k,.d t (.var k))::pF (k+1) ts
def gh(g:Sk→Option (X)):Nat→Tr→Tr
 |k,.leaf e σ=>match e with
  |.exit _=>.bad 11
  |.dF _=>.bad 11
  |_=>match g σ with
   |some x=>.out k x
   |none=>.bad 12
 |_,.out k x=>.out k x
 |k,.aW x t=>.aW x (gh g k t)
 |k,.get v xs i t=>.get v xs i (gh g k t)
 |k,.call v c x t=>.call v c x (gh g k t)
 |k,.cK c a b=>.cK c (gh g k a) (gh g k b)
 |k,.dw c a b=>.dw c (gh g k a) (gh g k b)
 |k,.join ty v a b=>.join ty v (gh g (k+1) a) (gh g k b)
 |k,.loop ty v i b=>.loop ty v i (gh g (k+1) b)
 |_,.bad w=>.bad w
def zF(C:Cx)(rs:List ResultVar)(j:List Ty)(σ:Sk):Option X:=match kz C σ rs with
 |some ts=>match eJ σ.l j ts with
  |some (xs,_)=>some (dJ xs)
  |none=>none
 |none=>none
def lD(C:Cx)(rs:List ResultVar)(c:Code)(j k:List Ty):Tr:=
 gh (zF C rs k) 0 (exec 400 C [] ⟨fi rs,[],fi rs⟩ c ⟨j.length,pF 0 j,[]⟩)
end Go.Sy
namespace Go.Sy
open Go Go.af
variable [au][bB][bV][aL][bu]
section
variable {P:Program}{n:Nat}{ops:List Oper}{w0:World}{I0:aq}{H:List Nat}{A:List Nat}{R0 R1:Nat→T→Prop}{Ob:List Bool→List AO→Prop}
theorem Ir{i:Nat}{f g:Nat→Bool}:∀{H:List Nat},(∀h∈H,g h=(f h||Nat.beq h i))→iw i H (H.map f)=H.map g
 | [],_=>rfl
 |h::H,k=>by
  simp only[List.map_cons,iw]
  rw[k h (by simp),Ir λx j=>k x (by simp[j])]
theorem AF{A:List Nat}{i:Nat}{f:Nat→Bool}:∀{H:List Nat},(∀h∈H,(wt A i h=true→f h=true)∧((Nat.beq h i||wt A h i)=true→f h=false))→kP A i H (H.map f)=true
 | [],_=>rfl
 |h::H,k=>by
  simp only[List.map_cons,kP,Bool.and_eq_true]
  obtain⟨k1,k2⟩:=k h (by simp)
  refine⟨⟨?_,?_⟩,AF λx B=>k x (by simp[B])⟩
  ·cases j:wt A i h with
   |false=>rfl
   |true=>rw[k1 j];rfl
  cases j:(Nat.beq h i||wt A h i)with
  |false=>rfl
  |true=>rw[k2 j];rfl
theorem MS(a b k:Nat):hasB (Nat.lor a b) k=(hasB a k||hasB b k):=by
 have h:∀m j:Nat,hasB m j=m.testBit j:=λm j=>by
  unfold hasB Nat.testBit
  show Nat.beq ((m >>> j) &&& 1) 1=_
  rw[Nat.and_comm]
  rcases Nat.mod_two_eq_zero_or_one (m >>> j)with e|e<;>simp[Nat.one_and_eq_mod_two,e]<;>rfl
 rw[h,h,h]
 exact Nat.testBit_or a b k
theorem AH{A:List Nat}{j:Nat}:∀{ws:List Nat}{m:Nat},hasB (vV A ws m) j=true→hasB m j=true∨∃k∈ws,j=k∨wt A k j=true
 | [],m,h=>.inl h
 |w::ws,m,h=>by
  rcases AH (ws:=ws) (m:=Nat.lor (gw m w) ((A[w]?).getD 0)) h with h| ⟨k,hk,h⟩
  ·rw[MS,oL,Bool.or_eq_true,Bool.or_eq_true,decide_eq_true_eq]at h
   rcases h with (h|h)|h
   ·exact .inl h
   ·exact .inr ⟨w,by simp,.inl h.symm⟩
   exact .inr ⟨w,by simp,.inr h⟩
  exact .inr ⟨k,by simp[hk],h⟩
theorem vP{G:Array Bool}(Y:pO ops A=true)(ab:oW ops=true)(Z:oe ops G):∀(i:Nat){o:Oper}{j:Nat},ops[i]?=some o→(∀k∈waits o,G.getD k false=true)→wt A i j=true→G.getD j false=true:=by
 intro i
 induction i using Nat.strongRecOn with
 |ind i ae=>
  intro o j F ad h
  have B:=List.all_eq_true.1 Y i (List.mem_range.2 (List.getElem?_eq_some_iff.1 F).1)
  rw[F]at B
  have B:=Nat.eq_of_beq_eq_true B
  unfold wt at h
  rw[B]at h
  rcases AH h with h| ⟨k,hk,h⟩
  ·rw[Cw]at h;cases h
  have M:=xE ab F k hk
  have O:=ad k hk
  rcases h with rfl|h
  ·exact O
  have aa:k<ops.length:=Nat.lt_trans M (List.getElem?_eq_some_iff.1 F).1
  have U:ops[k]?=some ops[k]:=List.getElem?_eq_getElem aa
  exact ae k M U (Z k _ U O) h
theorem Jt{k:Nat}{p:Nat→Bool}(h:kI ops k p=true){j:Nat}{q:Oper}(F:ops[j]?=some q)(G:q.dst=some k):p j=true:=by
 have B:=List.all_eq_true.1 h j (List.mem_range.2 (List.getElem?_eq_some_iff.1 F).1)
 rw[F]at B
 simpa [Ju,G,Nat.beq_refl]using B
theorem Ng{i:Nat}(h:ng H i=false):∀k∈H,Nat.beq k i=false:=λk j=>by
 simp only[ng,List.any_eq_false]at h
 exact Bool.eq_false_iff.2 (h k j)
def Good(ops:List Oper)(R0 R1:Nat→T→Prop)(H:List Nat)(Ob:List Bool→List AO→Prop)(B:Array Bool)(s:St):Prop:=
 Ob (H.map λh=>B.getD h false) s.l ∧
  (∀k,(∀j o,ops[j]?=some o→o.dst=some k→B.getD j false=true)→R1 k (af.get s.t k)) ∧
  ∀k,(∀j o,ops[j]?=some o→o.dst=some k→B.getD j false=false)→R0 k (af.get s.t k)
def r9(P:Program)(n:Nat)(ops:List Oper)(A:List Nat)(R0 R1:Nat→T→Prop)(H:List Nat)(Ob:List Bool→List AO→Prop)(i:Nat)(o:Oper):Prop:=
 ∀(S:List Bool)(s:St)(K:St→Prop),S.length=H.length→kP A i H S=true→Ob S s.l→(∀k∈nP ops o,(kI ops k (λj=>wt A i j)=true→R1 k (af.get s.t k))∧(kI ops k (λj=>wt A i j)=false→R0 k (af.get s.t k))) →
  (∀b u l',(∀k,R1 k (af.get s.t k)→R1 k (af.get b k))→(∀k,R0 k (af.get s.t k)→R0 k (af.get b k))→(∀e,o.dst=some e→R1 e u)→Ob (iw i H S) l'→K ⟨ei b o.dst u,l'⟩)→gq P n ops o s K
theorem Is{i:Nat}:∀{H:List Nat}{S:List Bool},S.length=H.length→ng H i=false→iw i H S=S
 | [],[],_,_=>rfl
 |h::H,b::S,j,B=>by
  have k:=Ng B
  simp only[iw,k h (by simp),Bool.or_false,Is (i:=i) (H:=H) (S:=S) (by simpa using j) (by
   rw[ng,List.any_eq_false]
   exact λx F=>by rw[k x (by simp[F])];simp)]
 | [],_::_,j,_=>by simp at j
 |_::_,[],j,_=>by simp at j
theorem To(aE:∀h∈H,h<ops.length){G ag:Array Bool}{i:Nat}{o:Oper}(ad:ops[i]?=some o)(O:oe ops G)(ae:G.getD i false=false)(aq:∀j∈waits o,G.getD j false=true)(aa:∀k,ag.getD k false=if k=i then true else G.getD k false){s:St}(az:Good ops R0 R1 H Ob G s)(Z:pO ops A=true)(ab:oW ops=true)(aD:ry ops A i o=true)(aC:r9 P n ops A R0 R1 H Ob i o):gq P n ops o s (Good ops R0 R1 H Ob ag):=by
 obtain⟨au,ak,al⟩:=az
 have av:kP A i H (H.map λh=>G.getD h false)=true:=by
  refine AF λh ah=>⟨λaG=>vP Z ab O i ad aq aG,λhx=>?_⟩
  cases ai:G.getD h false with
  |false=>rfl
  |true=>
   rw[Bool.or_eq_true]at hx
   rcases hx with hx|hx
   ·have:=Nat.eq_of_beq_eq_true hx
    subst this;rw[ae]at ai;cases ai
   have aB:=aE h ah
   have B:ops[h]?=some ops[h]:=List.getElem?_eq_getElem aB
   have:=vP Z ab O h B (O h _ B ai) hx
   rw[ae]at this;cases this
 have hS:iw i H (H.map λh=>G.getD h false)=H.map λh=>ag.getD h false:=Ir λh _=>by
  rw[aa]
  by_cases e:h=i
  ·subst e;rw[if_pos rfl,Nat.beq_refl,Bool.or_true]
  rw[if_neg e,beq_false e,Bool.or_false]
 refine aC _ s _ (by simp) av au (λk U=>?_) λb u l' ax aw aF ao=>?_
 ·have an:=List.all_eq_true.1 aD k U
  refine⟨λaj=>ak k λj q B M=>vP Z ab O i ad aq (Jt aj B M),λaj=>?_⟩
  rw[aj,Bool.false_or]at an
  refine al k λj q B M=>?_
  have h2:=Jt an B M
  rw[Bool.or_eq_true]at h2
  rcases h2 with h2|h2
  ·cases aA:G.getD j false with
   |false=>rfl
   |true=>
    have:=vP Z ab O j B (O j q B aA) h2
    rw[ae]at this;cases this
  have:=Nat.eq_of_beq_eq_true h2
  subst this;exact ae
 rw[hS]at ao
 have ar:∀k,o.dst≠some k→af.get (ei b o.dst u) k=af.get b k:=λk F=>by
  cases ay:o.dst with
  |none=>rfl
  |some e=>show(if e=k then u else _)=_;rw[if_neg (λah=>F (by rw[ay,ah]))]
 refine⟨ao,λk U=>?_,λk U=>?_⟩
 ·by_cases F:o.dst=some k
  ·rw[F]
   show R1 k (if k=k then u else _)
   rw[if_pos rfl];exact aF k F
  show R1 k (af.get (ei b o.dst u) k)
  rw[ar k F]
  refine ax k (ak k λj q B M=>?_)
  have:=U j q B M
  rw[aa]at this
  by_cases Y:j=i
  ·subst Y
   rw[ad]at B;injection B with B;subst B
   exact absurd M F
  rw[if_neg Y]at this;exact this
 have F:o.dst≠some k:=λF=>by
  have:=U i o ad F
  rw[aa,if_pos rfl]at this;cases this
 show R0 k (af.get (ei b o.dst u) k)
 rw[ar k F]
 refine aw k (al k λj q B M=>?_)
 have:=U j q B M
 rw[aa]at this
 by_cases Y:j=i
 ·subst Y;rw[if_pos rfl]at this;cases this
 rw[if_neg Y]at this;exact this
theorem JO(ab:oW ops=true)(aq:pO ops A=true)(aj:∀h∈H,h<ops.length)(az:∀i o,ops[i]?=some o→ry ops A i o=true)(aB:∀i o,ops[i]?=some o→r9 P n ops A R0 R1 H Ob i o){Q:Exit→Act→World→Prop}(ar:∀s a w,Ob (H.map λ_=>true) s.l→(∀k,R1 k (af.get s.t k))→Rel w0 I0 n s a w→Q .normal a w) :
  ∀(O:Nat)(B:Array Bool)(a:Act)(w:World),B.size=ops.length→pJ ops.length B=O→oe ops B→(∃s,Rel w0 I0 n s a w∧Good ops R0 R1 H Ob B s)→wpAnyIn ec 0 P .any ops.toArray Q O B a w:=by
 have done:∀(B:Array Bool)(a:Act)(w:World),(∀i,i<ops.length→B.getD i false=true)→(∃s,Rel w0 I0 n s a w∧Good ops R0 R1 H Ob B s)→Q .normal a w:=by
  rintro B a w U ⟨s,ad,ae,an,_⟩
  rw[show(H.map λh=>B.getD h false)=H.map λ_=>true from List.map_congr_left λh ax=>U h (aj h ax)]at ae
  exact ar s a w ae (λk=>an k λj o F _=>U j (List.getElem?_eq_some_iff.1 F).1) ad
 intro O
 induction O with
 |zero=>
  intro B a w M ak aa Y
  have U:∀i,i<ops.length→B.getD i false=true:=by
   intro i hi
   have:=List.length_eq_zero_iff.1 ak
   have:=(List.filter_eq_nil_iff.1 this) i (List.mem_range.2 hi)
   simpa using this
  refine⟨?_,done B a w U Y⟩
  refine List.eq_nil_iff_forall_not_mem.2 λi hi=>?_
  have G:=HP hi
  have:=((zy M G (List.getElem?_eq_getElem G)).1 hi).1
  rw[U i G]at this;cases this
 |succ O aD=>
  intro B a w M ak aa Y
  refine⟨λao=>?_,λi hi=>?_⟩
  ·
   refine done B a w (λi hi=>?_) Y
   induction i using Nat.strongRecOn with
   |ind i aE=>
    cases au:B.getD i false with
    |true=>rfl
    |false=>
     have F:ops[i]?=some ops[i]:=List.getElem?_eq_getElem hi
     have:i∈Region.ready .any ops.toArray B:=(zy M hi F).2 ⟨au,λj ai=>aE j (xE ab F j ai) (Nat.lt_trans (xE ab F j ai) hi)⟩
     rw[ao]at this;cases this
  have G:=HP hi
  have F:ops[i]?=some ops[i]:=List.getElem?_eq_getElem G
  obtain⟨ag,Z⟩:=(zy M G F).1 hi
  have ah:∀j,(B.setIfInBounds i true).getD j false=if j=i then true else B.getD j false:=λj=>My M G
  have aC:pJ ops.length (B.setIfInBounds i true)=O:=by have:=Um M G ag;omega
  generalize ops[i]=o at F Z
  obtain⟨s,ad,aw⟩:=Y
  have aA:=To aj F aa ag Z ah aw aq ab (az i o F) (aB i o F)
  unfold wpOpIn
  have:ops.toArray[i]?=some o:=by simpa using F
  simp only[this]
  exact aA w0 I0 a w Q _ ad λs' al w' av ay=>aD _ al w' (by simp[M]) aC (aa.step F Z ah) ⟨s',ay,av⟩
theorem Su(aj:P.follows .mixedOrders=true){s:St}{Qd:Exit→St→Prop}{id:Nat}(ai:oW ops=true)(aa:pO ops A=true)(aq:∀h∈H,h<ops.length)(ao:∀i o,ops[i]?=some o→ry ops A i o=true)(ar:∀i o,ops[i]?=some o→r9 P n ops A R0 R1 H Ob i o)(U:Ob (H.map λ_=>false) s.l)(Y:∀k,R0 k (af.get s.t k))(Z:∀k,(∀o∈ops,o.dst≠some k)→R1 k (af.get s.t k))(ab:∀s',Ob (H.map λ_=>true) s'.l→(∀k,R1 k (af.get s'.t k))→Qd .normal s'):bH P w0 I0 n (.region id ops.toArray true) s Qd:=by
 intro a w al
 refine wpIn_region_any aj ?_
 have F:∀i,(Array.replicate ops.length false).getD i false=false:=λi=>by
  rw[Array.getD_eq_getD_getElem?]
  cases aw:(Array.replicate ops.length false)[i]? with
  |none=>rfl
  |some b=>have:=Array.getElem?_eq_some_iff.1 aw;simp at this;simp[←this.2]
 have an:Rel w0 I0 n s a {w with drawn:=w.drawn+1}:=by
  obtain⟨au,I,m,B,ae,av⟩:=al
  exact⟨au,I,m,(B.call (w':={w with drawn:=w.drawn+1}) ⟨rfl,rfl,rfl,Nat.le_refl _,λ_ _=>rfl,λ_=>Nat.le_succ _⟩ (eE.refl _ _) ⟨B.sat.cell,B.sat.mp,B.sat.df,B.sat.c9⟩).1,ae,av⟩
 have:=JO (w0:=w0) (I0:=I0) (Q:=λe O w'=>∃s',Qd e s'∧Rel w0 I0 n s' O w') ai aa aq ao ar (λM aA aB ax ay az=>⟨M,ab M ax ay,az⟩) ops.length (Array.replicate ops.length false) a {w with drawn:=w.drawn+1} (by simp)
  (by unfold pJ;rw[List.filter_eq_self.2 (λi _=>by rw[F];rfl)];simp)
  (λi o _ G=>by rw[F]at G;cases G)
  ⟨s,an,(by rw[show(H.map λh=>(Array.replicate ops.length false).getD h false)=H.map λ_=>false from List.map_congr_left λh _=>F h];exact U),(λk ah=>Z k λo ak ad=>by
    obtain⟨j,ag,rfl⟩:=List.mem_iff_getElem.1 ak
    have:=ah j _ (List.getElem?_eq_getElem ag) ad
    rw[F]at this;cases this),λk _=>Y k⟩
 simpa using this
end
end Go.Sy
namespace Go.Sy
open Go Go.af
variable [au][bK][bB][bV][aL][kO][bu]
theorem Tr.beq_eq:∀{a b:Tr},Tr.beq a b=true→a=b:=by
 intro a
 induction a with
 |leaf e σ=>intro b h;cases b<;>cases h
 |out k x=>
  intro b h;cases b with
  |out Y y=>simp only[Tr.beq,Bool.and_eq_true]at h;rw[Nat.eq_of_beq_eq_true h.1,X.beq_eq h.2]
  |_=>cases h
 |aW x t j=>
  intro b h;cases b with
  |aW y u=>simp only[Tr.beq,Bool.and_eq_true]at h;rw[X.beq_eq h.1,j h.2]
  |_=>cases h
 |get v x k t j=>
  intro b h;cases b with
  |get M aa Y t'=>simp only[Tr.beq,Bool.and_eq_true]at h;rw[Nat.eq_of_beq_eq_true h.1.1.1,X.beq_eq h.1.1.2,X.beq_eq h.1.2,j h.2]
  |_=>cases h
 |call v c x t j=>
  intro b h;cases b with
  |call M U aa t'=>simp only[Tr.beq,Bool.and_eq_true]at h;rw[Nat.eq_of_beq_eq_true h.1.1.1,Nat.eq_of_beq_eq_true h.1.1.2,X.beq_eq h.1.2,j h.2]
  |_=>cases h
 |cK c a b B F=>
  intro z h;cases z with
  |cK U O G=>simp only[Tr.beq,Bool.and_eq_true]at h;rw[X.beq_eq h.1.1,B h.1.2,F h.2]
  |_=>cases h
 |dw c a b B F=>
  intro z h;cases z with
  |dw U O G=>simp only[Tr.beq,Bool.and_eq_true]at h;rw[X.beq_eq h.1.1,B h.1.2,F h.2]
  |_=>cases h
 |join ty v a b B F=>
  intro z h;cases z with
  |join Z M O G=>simp only[Tr.beq,Bool.and_eq_true,decide_eq_true_eq]at h;rw[h.1.1.1,Nat.eq_of_beq_eq_true h.1.1.2,B h.1.2,F h.2]
  |_=>cases h
 |loop ty v i b j=>
  intro z h;cases z with
  |loop Z M ab G=>simp only[Tr.beq,Bool.and_eq_true,decide_eq_true_eq]at h;rw[h.1.1.1,Nat.eq_of_beq_eq_true h.1.1.2,X.beq_eq h.1.2,j h.2]
  |_=>cases h
 |bad w=>intro z h;cases z<;>cases h
theorem qi:∀{a b:List Ins},kf a b=true→a=b
 | [],[],_=>rfl
 |.aW x::r,.aW y::s,h=>by
  simp only[kf,Bool.and_eq_true]at h
  rw[X.beq_eq h.1,qi h.2]
 |.get x k::r,.get y j::s,h=>by
  simp only[kf,Bool.and_eq_true]at h
  rw[X.beq_eq h.1.1,X.beq_eq h.1.2,qi h.2]
 |.call c x::r,.call d y::s,h=>by
  simp only[kf,Bool.and_eq_true]at h
  rw[Nat.eq_of_beq_eq_true h.1.1,X.beq_eq h.1.2,qi h.2]
 |.prog ty T::r,.prog F B::s,h=>by
  simp only[kf,Bool.and_eq_true,decide_eq_true_eq]at h
  rw[h.1.1,Tr.beq_eq h.1.2,qi h.2]
 | [],_::_,h=>by cases h
 |a::_,[],h=>by cases a<;>cases h
 |.aW _::_,.get _ _::_,h=>by cases h
 |.aW _::_,.call _ _::_,h=>by cases h
 |.aW _::_,.prog _ _::_,h=>by cases h
 |.get _ _::_,.aW _::_,h=>by cases h
 |.get _ _::_,.call _ _::_,h=>by cases h
 |.get _ _::_,.prog _ _::_,h=>by cases h
 |.call _ _::_,.aW _::_,h=>by cases h
 |.call _ _::_,.get _ _::_,h=>by cases h
 |.call _ _::_,.prog _ _::_,h=>by cases h
 |.prog _ _::_,.aW _::_,h=>by cases h
 |.prog _ _::_,.get _ _::_,h=>by cases h
 |.prog _ _::_,.call _ _::_,h=>by cases h
theorem bp.again{cs:List Callee}{n:Nat}{O af ρ:az}{is:List Ins}(h:bp cs n O is af):c7 n O→Ext af ρ→∀ρ0,(∀i,lk ρ0 i=lk ρ i)→∃F,bp cs n ρ0 is F∧∀i,lk F i=lk ρ i:=by
 induction h with
 |nil n O=>intro _ _ ρ0 G;exact⟨ρ0,.nil n ρ0,G⟩
 |aW n O x r af ak aa ad=>
  intro M B ρ0 G
  obtain⟨F,k1,k2⟩:=ad M B ρ0 G
  have al:=X.cG (λi v ab=>(G i).trans (B i v ((aa.ext M).1 i v ab)):Ext O ρ0) ak
  exact⟨F,.aW n ρ0 x r F al k1,k2⟩
 |get n O xs k r af t l kk i e ag ai aj aa ad=>
  intro M B ρ0 G
  have Y:=M.push (Nat.lt_succ_self n) ⟨t,e⟩
  have U:=(aa.ext Y).1
  have ae:Ext O ρ0:=λi v ab=>(G i).trans (B i v (U i v (Ext.push M _ i v ab)))
  have ah:lk ρ n=some ⟨t,e⟩:=B n _ (U n _ (fg n _ _))
  obtain⟨F,k1,k2⟩:=ad Y B ((n,⟨t,e⟩)::ρ0) (λj=>by
   by_cases Z:n=j
   ·subst Z;rw[fg,ah]
   simp only[lk,beq_false Z,cond_false];exact G j)
  exact⟨F,.get n ρ0 xs k r F t l kk i e (X.cG ae ag) (X.cG ae ai) aj k1,k2⟩
 |call n O c x r af C a y ag ai aj aa ad=>
  intro M B ρ0 G
  have Y:=M.push (Nat.lt_succ_self n) ⟨ay C.res,y⟩
  have U:=(aa.ext Y).1
  have ae:Ext O ρ0:=λi v ab=>(G i).trans (B i v (U i v (Ext.push M _ i v ab)))
  have ah:lk ρ n=some ⟨ay C.res,y⟩:=B n _ (U n _ (fg n _ _))
  obtain⟨F,k1,k2⟩:=ad Y B ((n,⟨ay C.res,y⟩)::ρ0) (λj=>by
   by_cases Z:n=j
   ·subst Z;rw[fg,ah]
   simp only[lk,beq_false Z,cond_false];exact G j)
  exact⟨F,.call n ρ0 c x r F C a y ag (X.cG ae ai) aj k1,k2⟩
 |prog n O ty T r af z ag aa ad=>
  intro M B ρ0 G
  have Y:=M.push (Nat.lt_succ_self n) ⟨ty,z⟩
  have U:=(aa.ext Y).1
  have ae:Ext O ρ0:=λi v ab=>(G i).trans (B i v (U i v (Ext.push M _ i v ab)))
  have ah:lk ρ n=some ⟨ty,z⟩:=B n _ (U n _ (fg n _ _))
  obtain⟨F,k1,k2⟩:=ad Y B ((n,⟨ty,z⟩)::ρ0) (λj=>by
   by_cases Z:n=j
   ·subst Z;rw[fg,ah]
   simp only[lk,beq_false Z,cond_false];exact G j)
  exact⟨F,.prog n ρ0 ty T r F z (UM ae ag) k1,k2⟩
def gn(ρ:az)(D:er):Prop:=∀p∈D,p.1.den ρ=some ⟨.bool,p.2⟩
theorem gn.mono{ρ ae:az}{D:er}(h:gn ρ D)(j:Ext ρ ae):gn ae D:=λp k=>X.cG j (h p k)
theorem BF{ρ:az}:∀{D:er},gn ρ D→∀{x c},sQ D x=some c→x.den ρ=some ⟨.bool,c⟩
 | [],_,x,c,h=>by cases h
 |p::r,k,x,c,h=>by
  simp only[sQ]at h
  cases j:X.beq p.1 x with
  |true=>
   rw[j]at h
   injection h with h
   rw[←X.beq_eq j,←h];exact k p (by simp)
  |false=>rw[j]at h;exact BF (λq B=>k q (by simp[B])) h
theorem BC{ρ:az}{D:er}(B:gn ρ D){x:TX}{t:T}(h:RX ρ x t):RX ρ (oA D x) t:=by
 unfold oA
 split
 ·split
  ·rename_i c F
   obtain⟨b,j,k⟩:=fO h
   have:b=c:=ed (j.symm.trans (BF B F))
   subst this
   rw[k];exact dI rfl
  exact h
 exact h
theorem BB{ρ:az}{σ:Sk}{s:St}(h:aH ρ σ s):∀{D:er},gn ρ D→aH ρ (fQ σ D) s
 | [],_=>h
 |p::r,j=>BE (BB h λq k=>j q (by simp[k])) (j p (by simp))
def pM(cs:List Callee)(ρ0:az)(N:Nat)(ρ:az):Dn→Prop
 |.skip=>True
 |.done n B=>n≤N∧∃j k,c7 n j∧bp cs n j B k∧Ext k ρ∧Ext ρ0 j∧bS n j ρ
section
variable {P:Program}{V:Env}{C:Cx}{cs:List Callee}{n:Nat}{ops:List Oper}{cE:Sk}{Hd:iE}{ρ00:az}
theorem CR{D:er}{m:Nat}{rs:List Dn}{k:Sk}(h:oV C Hd ops cE D m rs=some k):∃(t:List (Nat×TX))(H:List Nat)(Ls:List (List Bool×List AX))(l:List AX),sL C Hd ops (jR ops []) (lg ops cE.l.length) (fQ cE D).t t cE.l D H Ls rs=true∧jt (H.map λ_=>true) Ls=some l∧k=⟨m,t,l⟩∧t=(kx C Hd ops (lg ops cE.l.length) D ((List.range ops.length).zip (ops.zip rs)) (fQ cE D).t cE.l).1:=by
 unfold oV at h
 simp only at h
 generalize kx C Hd ops (lg ops cE.l.length) D ((List.range ops.length).zip (ops.zip rs)) (fQ cE D).t cE.l=p at h⊢
 generalize zZ C Hd ops (jR ops []) (lg ops cE.l.length) (fQ cE D).t p.1 rs p.2 p.2 [(p.2.map λ_=>false,cE.l)]=Ls at h
 cases j:sL C Hd ops (jR ops []) (lg ops cE.l.length) (fQ cE D).t p.1 cE.l D p.2 Ls rs with
 |false=>rw[j]at h;cases h
 |true=>
  rw[j]at h
  simp only[cond_true]at h
  split at h
  ·rename_i l B
   injection h with h
   exact⟨p.1,p.2,Ls,l,j,B,h.symm,rfl⟩
  cases h
theorem zG{Q:LQ}:∀(r:List Oper){σ:Sk}{ρ:az}{J:LJ}{D:er}{rs:List Dn},c7 σ.n ρ→Ext ρ00 ρ→gn ρ D→(∀d∈rs,pM cs ρ00 σ.n ρ d)→Tr.wp cs (ly C Hd ops cE r σ D rs) ρ Q J →
  ∃j ae J' B F,Q .normal j ae J'∧oV C Hd ops cE B j.n F=some j∧c7 j.n ae∧bS σ.n ρ ae∧σ.n≤j.n∧gn ae B∧∀d∈F,pM cs ρ00 j.n ae d
 | [],σ,ρ,J,D,rs,U,Z,O,af,k=>by
  simp only[ly]at k
  split at k
  ·rename_i j ar
   have G:j.n=σ.n:=by
    obtain⟨_,_,_,l,_,_,rfl,_⟩:=CR ar
    rfl
   exact⟨j,ρ,J,D,rs.reverse,k,by rw[G];exact ar,by rw[G];exact U,.refl _ _,by omega,O,λd hd=>by rw[G];exact af d (by simpa using hd)⟩
  exact k.elim
 |o::r,σ,ρ,J,D,rs,U,Z,O,af,k=>by
  have ah:∀{σ1:Sk}{M:er},σ1.n=σ.n→gn ρ M→Tr.wp cs (match oD C Hd ops σ1.t σ1.t σ1.l σ1.n o (lg ops cE.l.length rs.length)with|some (_,q)=>kg (ly C Hd ops cE r (ot σ1 o.dst q) M (.done σ1.n q.ins::rs)) σ1.n q.ins|none=>.bad (30000+o.dst.getD 9999)) ρ Q J →
    ∃j ae J' B F,Q .normal j ae J'∧oV C Hd ops cE B j.n F=some j∧c7 j.n ae∧bS σ.n ρ ae∧σ.n≤j.n∧gn ae B∧∀d∈F,pM cs ρ00 j.n ae d:=by
   intro σ1 M G ai k
   split at k
   ·rename_i _ q aD
    obtain⟨av,hi,k⟩:=oQ k
    have aq:c7 σ1.n ρ:=by rw[G];exact U
    obtain⟨aj,aB⟩:=hi.ext aq
    obtain⟨ak,au⟩:=hi.BT
    obtain⟨j,ae,J',B,F,k1,k2,al,Y,ag,an,ao⟩:=zG r (σ:=ot σ1 o.dst q) (D:=M) (rs:=.done σ1.n q.ins::rs) aB (Z.trans aj) (ai.mono aj) (λd hd=>by
     rcases List.mem_cons.1 hd with rfl|hd
     ·exact⟨au,ρ,av,aq,hi,.refl _,Z,ak⟩
     have:=af d hd
     cases d with
     |skip=>trivial
     |done n aE=>obtain⟨c0,a,b,c1,c2,aw,ax,ay⟩:=this;exact⟨by show n≤gB σ1.n q.ins;omega,a,b,c1,c2,aw.trans aj,ax,λi hi=>(ak i (by omega)).trans (ay i hi)⟩) k
    have Y:bS (gB σ1.n q.ins) av ae:=Y
    have ag:gB σ1.n q.ins≤j.n:=ag
    exact⟨j,ae,J',B,F,k1,k2,al,by rw[←G];exact ak.trans Y au,by omega,an,ao⟩
   exact k.elim
  have skip:∀{σ1:Sk}{M:er},σ1.n=σ.n→gn ρ M→Tr.wp cs (ly C Hd ops cE r {σ1 with t:=fT σ1.t o.dst .gone} M (.skip::rs)) ρ Q J →
    ∃j ae J' B F,Q .normal j ae J'∧oV C Hd ops cE B j.n F=some j∧c7 j.n ae∧bS σ.n ρ ae∧σ.n≤j.n∧gn ae B∧∀d∈F,pM cs ρ00 j.n ae d:=by
   intro σ1 M G ai k
   obtain⟨j,ae,J',B,F,k1,k2,al,Y,ag,an,ao⟩:=zG r (σ:={σ1 with t:=fT σ1.t o.dst .gone}) (D:=M) (rs:=.skip::rs) (by rw[←G]at U;exact U) Z ai (λd hd=>by
    rcases List.mem_cons.1 hd with rfl|hd
    ·trivial
    have:=af d hd
    rw[←G]at this;exact this) k
   exact⟨j,ae,J',B,F,k1,k2,al,by rw[←G];exact Y,by rw[←G];exact ag,an,ao⟩
  simp only[ly]at k
  split at k
  ·exact ah rfl O k
  ·exact skip rfl O k
  ·rename_i x b aC
   obtain⟨c,aA,aa,ab⟩:=k
   have ad:gn ρ ((x,c)::D):=λp hp=>by
    rcases List.mem_cons.1 hp with rfl|hp
    ·exact aA
    exact O p hp
   cases c with
   |true=>
    have aa:=aa rfl
    cases b with
    |true=>exact ah (σ1:=σ.decide x true) rfl ad aa
    |false=>exact skip (σ1:=σ.decide x true) rfl ad aa
   |false=>
    have ab:=ab rfl
    cases b with
    |true=>exact skip (σ1:=σ.decide x false) rfl ad ab
    |false=>exact ah (σ1:=σ.decide x false) rfl ad ab
  exact k.elim
theorem qT{kp:Nat→Option Nat}{D:er}:∀{z:List (Nat×Oper×Dn)}{t:List (Nat×TX)}{l:List AX}{k:Nat},(∀x∈z,x.2.1.dst≠some k)→aD (kx C Hd ops kp D z t l).1 k=aD t k
 | [],t,l,k,_=>rfl
 | (
    i,o,d)::r,t,l,k,h=>by
  have G:o.dst≠some k:=h (i,o,d) (by simp)
  have j:∀x∈r,x.2.1.dst≠some k:=λx M=>h x (by simp[M])
  have put:∀x:TX,aD (fT t o.dst x) k=aD t k:=λx=>by
   cases B:o.dst with
   |none=>rfl
   |some e=>
    show(bif Nat.beq e k then x else aD t k)=_
    rw[beq_false (λF=>G (by rw[B,F]))];rfl
  cases d with
  |skip=>exact(qT j).trans (put _)
  |done m O=>
   simp only[kx]
   split
   ·cases isNone _ _ with
    |true=>exact(qT j).trans (put _)
    |false=>exact(qT j).trans (put _)
   exact qT j
theorem X.iM:∀x:X,x.fill X.hole=x:=by
 intro x
 induction x<;>simp_all [X.fill]
theorem L3{o:Oper}{ρX:Operand→TX}{ρT:Operand→T}{lX:List AX}{l:List AO}{ρ ae:az}{k:Option Nat}{q:bL}(F:bb P V C)(O:eM P C cs)(j:RL ρ lX l)(M:∀x∈o.op.operands,RX ρ (ρX x) (ρT x))(G:∀g ls,au.dP g=some ls→ρT (.global g)=.aS ls.length [.agg (ls.map (.int .i64))] 0 0)(B:Ext ρ ae)(h:wO C ops ρX lX n o k=some q)(hi:bp cs n ρ q.ins ae):bm P o ρT l l.length ae q:=by
 cases k with
 |none=>
  have h:mU C ops ρX lX n lX.length o=some q:=h
  rw[j.len]at h
  exact wN F O j M G B h hi
 |some id=>
  simp only[wO]at h
  split at h
  ·rename_i ai ad
   split at h
   ·rename_i a ab aa
    injection h with h
    subst h
    obtain⟨u,k1,k2⟩:=wN F O j M G B ad hi
    rw[ab]at k2
    obtain⟨U,af,_,ag⟩:=k2
    obtain⟨ah,Y,Z⟩:=F2.left j aa
    cases Z
    exact⟨u,k1,l.set id U,F2.set (j.mono B) af id,λ_=>ag Y⟩
   cases h
  cases h
theorem vT:∀{ts:List T}{r:Nat},r∈ji ts→∃(i:Nat)(t:T),ts[i]?=some t∧r∈bU t
 | [],r,h=>by simp[ji]at h
 |t::ts,r,h=>by
  simp only[ji,List.mem_append]at h
  rcases h with h|h
  ·exact⟨0,t,rfl,h⟩
  obtain⟨i,u,j,k⟩:=vT h
  exact⟨i+1,u,by simpa using j,k⟩
theorem HR:∀{cs:List TX}{i:Nat}{c:TX}{r:Nat},cs[i]?=some c→r∈c.refs→r∈TX.nQ cs
 | [],i,c,r,h,_=>by simp at h
 |u::cs,i,c,r,h,j=>by
  simp only[TX.nQ,List.mem_append]
  cases i with
  |zero=>simp at h;subst h;exact .inl j
  |succ i=>exact .inr (HR (by simpa using h) j)
theorem wu:∀{cs:List TX}{i:Nat}{c:TX},TX.lP cs=true→cs[i]?=some c→c.clean=true
 | [],i,c,_,h=>by simp at h
 |u::cs,i,c,j,h=>by
  simp only[TX.lP,Bool.and_eq_true]at j
  cases i with
  |zero=>simp at h;subst h;exact j.1
  |succ i=>exact wu j.2 (by simpa using h)
theorem Bq{ρ:az}{c:TX}{t:T}(h:RX ρ c t):c.clean=true→∀r∈bU t,r∈c.refs:=by
 have O:∀{cs:List TX}{ts:List T},cs.length=ts.length→(∀(i:Nat) c t,cs[i]?=some c→ts[i]?=some t→c.clean=true→∀r∈bU t,r∈c.refs)→TX.lP cs=true→∀r∈ji ts,r∈TX.nQ cs:=by
  intro cs ts Z G B r j
  obtain⟨i,t,U,Y⟩:=vT j
  have hi:=(List.getElem?_eq_some_iff.1 U).1
  have M:cs[i]?=some (cs[i]'(by omega)):=List.getElem?_eq_getElem (by omega)
  exact HR M (G i _ t M U (wu B M) r Y)
 induction h with
 |undef t=>intro B;cases B
 |gone=>intro B;cases B
 |ptr id off=>intro _ r j;exact j
 |row id=>intro _ r j;exact j
 |aO id k off kk n F=>intro _ r j;exact j
 |map id=>intro _ r j;exact j
 |aK id=>intro _ r j;exact j
 |bj id n=>intro _ r j;exact j
 |sub=>intro h;cases h
 |aQ id t x xs F=>intro _ r j;exact j
 |agg cs ts F _ G=>intro B r j;exact O F G B r j
 |aw cs ts F _ G=>intro B r j;exact O F G B r j
 |ar f cs ts F _ G=>intro B r j;exact O F G B r j
 |_=>intro _ r j;simp[bU]at j
theorem SQ{ρ:az}{c:TX}{t:T}(h:RX ρ c t):c.clean=true→∀{I:aq}{m:Nat→Value}{l:List AO}{v:Value},ah I m l v t→∀r∈bU t,r<l.length:=by
 have ab:∀{cs:List TX}{ts:List T},cs.length=ts.length→(∀(i:Nat) c t,cs[i]?=some c→ts[i]?=some t→c.clean=true→∀{I:aq}{m:Nat→Value}{l:List AO}{v:Value},ah I m l v t→∀r∈bU t,r<l.length)→TX.lP cs=true→∀{I:aq}{m:Nat→Value}{l:List AO}{vs:Array Value},vs.size=ts.length→(∀(i:Nat) v t,vs[i]?=some v→ts[i]?=some t→ah I m l v t)→∀r∈ji ts,r<l.length:=by
  intro cs ts an M G I m l vs ao ak r j
  obtain⟨i,t,Z,ai⟩:=vT j
  have hi:=(List.getElem?_eq_some_iff.1 Z).1
  have ad:cs[i]?=some (cs[i]'(by omega)):=List.getElem?_eq_getElem (by omega)
  have aj:vs[i]?=some (vs[i]'(by omega)):=Array.getElem?_eq_getElem (by omega)
  exact M i _ t ad Z (wu G ad) (ak i _ t aj Z) r ai
 have aa:∀{l:List AO}{id:Nat},af.isVar l id=true→id<l.length:=λ{l id} h=>by
  unfold af.isVar at h
  cases e:l[id]? with
  |none=>rw[e]at h;simp at h
  |some o=>exact(List.getElem?_eq_some_iff.1 e).1
 induction h with
 |undef t=>intro G;cases G
 |gone=>intro G;cases G
 |ptr id off=>intro _ I m l v F r j;cases F with|ptr _ b _ B O=>simp[bU]at j;subst j;exact aa B
 |row id=>intro _ I m l v F r j;cases F with|row A n c _ B O=>simp[bU]at j;subst j;exact B
 |aO id k off kk n B=>intro _ I m l v F r j;cases F with|aO a _ q _ B O=>simp[bU]at j;subst j;exact B
 |map id=>intro _ I m l v F r j;cases F with|map r _ B O=>simp[bU]at j;subst j;exact B
 |aK id=>intro _ I m l v F r j;cases F with|aK _ b B O=>simp[bU]at j;subst j;exact aa B
 |bj id n=>intro _ I m l v F r j;cases F with|bj _ b n c B O ag al=>simp[bU]at j;subst j;exact aa B
 |sub=>intro h;cases h
 |aQ id t x xs B=>intro _ I m l v F r j;cases F with|aQ A n c _ x B O ag=>simp[bU]at j;subst j;exact B
 |agg cs ts B _ M=>intro G I m l v F r j;cases F with|agg vs _ U Y ae=>exact ab B M G U ae r j
 |aw cs ts B _ M=>intro G I m l v F r j;cases F with|aw vs _ U Y=>exact ab B M G U Y r j
 |ar f cs ts B _ M=>intro G I m l v F r j;cases F with|ar _ vs _ U Y=>exact ab B M G U Y r j
 |_=>intro _ I m l v F r j;simp[bU]at j
theorem HQ:∀{j:List (Nat×TX)}{k:Nat}{c:TX}{r:Nat},(k,c)∈j→r∈c.refs→r∈dm j
 | [],k,c,r,h,_=>by cases h
 |p::j,k,c,r,h,B=>by
  simp only[dm,List.mem_append]
  rcases List.mem_cons.1 h with rfl|h
  ·exact .inl B
  exact .inr (HQ h B)
theorem xk:∀(t:List (Nat×TX))(k:Nat),aD t k=.undef∨(k,aD t k)∈t
 | [],k=>.inl rfl
 | (i,u)::r,k=>by
  simp only[aD]
  cases h:Nat.beq i k with
  |true=>
   have:=Nat.eq_of_beq_eq_true h
   subst this
   exact .inr (by simp)
  |false=>
   simp only[cond_false]
   rcases xk r k with e|e
   ·exact .inl e
   exact .inr (List.mem_cons_of_mem _ e)
open Classical in
theorem Np{Y:List (Nat×TX)}{s:St}(ag:CL Y=true):∃ft:Tm,(∀k,af.get ft k=.undef∨af.get ft k=af.get s.t k)∧gS ft (dm Y)∧(∀k c(ρ:az),(k,c)∈Y→RX ρ c (af.get s.t k)→RX ρ c (af.get ft k))∧∀{I:aq}{m:Nat→Value}{l:List AO} k v,ah I m l v (af.get s.t k)→∀r∈bU (af.get ft k),r<l.length:=by
 generalize O:(λk:Nat=>if ∃c ρ,(k,c)∈Y∧(c.clean=true∨c=.gone)∧RX ρ c (af.get s.t k)then af.get s.t k else T.undef)=F
 have M:∀(L:Tm) k,(af.get (L.map λp=>(p.1,F p.1)) k=.undef∨af.get (L.map λp=>(p.1,F p.1)) k=F k)∧(af.get L k ≠ .undef→af.get (L.map λp=>(p.1,F p.1)) k=F k):=by
  intro L k
  induction L with
  |nil=>exact⟨.inl rfl,λh=>absurd rfl h⟩
  |cons p r aj=>
   obtain⟨i,u⟩:=p
   simp only[List.map_cons,af.get]
   by_cases aa:i=k
   ·subst aa;simp
   simp only[if_neg aa];exact aj
 have ae:∀k,F k=.undef∨F k=af.get s.t k:=λk=>by
  rw[←O]
  dsimp only
  split<;>simp
 refine⟨s.t.map λp=>(p.1,F p.1),λk=>?_,λk r j=>?_,λk c ρ ab U=>?_,λ{I m l} k v ai r j=>?_⟩
 ·rcases (M s.t k).1 with e|e
  ·exact .inl e
  rw[e];exact ae k
 ·rcases (M s.t k).1 with e|e
  ·rw[e]at j;simp[bU]at j
  rw[e,←O]at j
  simp only[]at j
  split at j
  ·rename_i hex
   obtain⟨c,ρ,h1,B,G⟩:=hex
   rcases B with B|rfl
   ·exact HQ h1 (Bq G B r j)
   generalize af.get s.t k=u at G j
   cases G
   simp[bU,af.gone]at j
  simp[bU]at j
 ·have h1:=List.all_eq_true.1 ag (k,c) ab
  simp only[Bool.or_eq_true]at h1
  have xo:(c.clean=true∨c=.gone)→RX ρ c (af.get (s.t.map λp=>(p.1,F p.1)) k):=λh=>by
   have Z:F k=af.get s.t k:=by
    rw[←O]
    simp only[]
    exact if_pos ⟨c,ρ,ab,h,U⟩
   by_cases ad:af.get s.t k=.undef
   ·rcases (M s.t k).1 with e|e
    ·rw[e,←ad];exact U
    rw[e,Z];exact U
   rw[(M s.t k).2 ad,Z];exact U
  rcases h1 with h1|h1
  ·exact xo (.inl h1)
  cases c with
  |undef=>exact .undef _
  |gone=>exact xo (.inr rfl)
  |_=>cases h1
 rcases (M s.t k).1 with e|e
 ·rw[e]at j;simp[bU]at j
 rw[e,←O]at j
 simp only[]at j
 split at j
 ·rename_i hex
  obtain⟨c,ρ,h1,B,G⟩:=hex
  rcases B with B|rfl
  ·exact SQ G B ai r j
  generalize af.get s.t k=u at G j
  cases G
  simp[bU,af.gone]at j
 simp[bU]at j
mutual
theorem TX.iM:∀c:TX,c.fill X.hole=c
 |.undef=>rfl
 |.gone=>rfl
 |.d t x=>by simp only[TX.fill,X.iM]
 |.aX s=>rfl
 |.cV=>rfl
 |.ptr _ _=>rfl
 |.aS t e off=>by simp only[TX.fill,X.iM]
 |.row _=>rfl
 |.aO id k off=>by simp only[TX.fill,X.iM]
 |.map _=>rfl
 |.aK _=>rfl
 |.aQ id t x=>by simp only[TX.fill,X.iM]
 |.agg cs=>by simp only[TX.fill,TX.qe cs]
 |.aw cs=>by simp only[TX.fill,TX.qe cs]
 |.ar f cs=>by simp only[TX.fill,TX.qe cs]
 |.bj _ _=>rfl
 |.sub _ _ _=>rfl
theorem TX.qe:∀cs:List TX,TX.fc X.hole cs=cs
 | []=>rfl
 |c::cs=>by simp only[TX.fc,TX.iM c,TX.qe cs]
end
theorem AX.iM(a:AX):a.fill X.hole=a:=by
 cases a<;>simp only[AX.fill,X.iM,TX.qe]
theorem BZ{n:Nat}{j ρ:az}(h:bS n j ρ):og n 0 ρ X.hole j X.hole:=⟨λi v hi k=>by rw[←h i hi];exact k,λp v B=>by omega⟩
theorem SP{n:Nat}{j ρ:az}(h:bS n j ρ){c:TX}(k:c.bz n 0=true){u:T}(B:RX ρ c u):RX j c u:=by
 have:=TX.dU (BZ h) k (t:=u) (by rw[TX.iM];exact B)
 rwa [TX.iM]at this
theorem SB{n:Nat}{k ρ:az}(h:bS n k ρ){l:List AX}{m:List AO}(j:l.all (AX.bz n 0)=true)(F:RL ρ l m):RL k l m:=by
 induction F with
 |nil=>exact .nil
 |cons B _ G=>
  simp only[List.all_cons,Bool.and_eq_true]at j
  refine .cons ?_ (G j.2)
  have:=AX.dU (BZ h) j.1 (by rw[AX.iM];exact B)
  rwa [AX.iM]at this
def vR(P:Program)(cs:List Callee)(n:Nat)(ops:List Oper)(ρ00:az)(H:iE):Prop:=
 ∀(o:Oper)(G F:List (Nat×TX))(l:List AX)(m:Nat)(q:bL)(j B:az)(s:St)(ft:Tm)(pc:PC)(K:St→Prop),H o G F l m=some q→Ext ρ00 j→c7 m j→bp cs m j q.ins B→RL j l s.l→(∀x∈o.op.operands,RX j (dE F x) (cz s.t x))→eQ n o.dst=true→ey ops s.t o.guard=some pc→holds pc →
  (∀k,af.get ft k=.undef∨af.get ft k=af.get s.t k)→gS ft (dm G)→(∀k,∀r∈bU (af.get ft k),r<s.l.length)→(∀u l',RX B q.t u→RL B (my q.bM l) l'→K ⟨ei ft o.dst u,l'⟩)→gq P n ops o s K
theorem C0{S:List Bool}{l:List AX}:∀{Ls:List (List Bool×List AX)},jt S Ls=some l→(S,l)∈Ls
 | [],h=>by cases h
 |p::r,h=>by
  have B:∀a b:List Bool,pU a b=true→a=b:=by
   intro a
   induction a with
   |nil=>intro b h;cases b with
    |nil=>rfl
    |cons _ _=>cases h
   |cons x a k=>intro b h;cases b with
    |nil=>cases x<;>cases h
    |cons y b=>cases x<;>cases y<;>first|cases h|exact congrArg _ (k b h)
  simp only[jt]at h
  cases j:pU p.1 S with
  |true=>
   rw[j]at h
   simp only[cond_true,Option.some.injEq]at h
   rw[←B _ _ j,←h]
   exact List.mem_cons_self
  |false=>rw[j]at h;exact List.mem_cons_of_mem _ (C0 h)
theorem HS{w0 w:World}{I0:aq}{n:Nat}{s:St}{a:Act}(h:Rel w0 I0 n s a w):∀k,Rel w0 I0 n ⟨s.t,s.l++List.replicate k .dead⟩ a w
 |0=>by simpa using h
 |k+1=>by
  obtain⟨U,I,m,G,M,O⟩:=HS h k
  obtain⟨B,F⟩:=G.push
  rw[List.append_assoc,←List.replicate_succ']at B F
  exact⟨U,I,m,B,M,λj=>(O j).mono F⟩
theorem BU{ρ:az}:∀k,RL ρ (List.replicate k .dead) (List.replicate k .dead)
 |0=>.nil
 |k+1=>.cons .dead (BU k)
theorem Sw{σ:Sk}{ρ:az}{s:St}(j:aH ρ σ s):∃s',aH ρ (jF ops σ) s'∧(jF ops σ).n=σ.n∧(jF ops σ).t=σ.t∧∀{w0 I0 m a w},Rel w0 I0 m s a w→Rel w0 I0 m s' a w:=by
 unfold jF
 cases Nat.ble 2 (nD ops)with
 |false=>exact⟨s,j,rfl,rfl,λh=>h⟩
 |true=>exact⟨⟨s.t,s.l++List.replicate (nD ops) .dead⟩,⟨j.di,j.t,F2.app j.l (BU _)⟩,rfl,rfl,λh=>HS h _⟩
end
end Go.Sy
namespace Go.Sy
open Go Go.af
variable [au][bK][bB][bV][aL][kO][bu]
section
variable {P:Program}{V:Env}{C:Cx}{cs:List Callee}{n:Nat}{ops:List Oper}{w0:World}{I0:aq}{ρ:az}{D:er}{rs:List Dn}{t:List (Nat×TX)}{H:List Nat}{Ls:List (List Bool×List AX)}{A:List Nat}{t0:List (Nat×TX)}{kp:Nat→Option Nat}{l0:List AX}{Hd:iE}{ρ00:az}{N:Nat}
theorem CS{i:Nat}{o:Oper}{k:Nat}:(kI ops k (λj=>wt A i j)=true→aD (gC ops A t0 t i o) k=aD t k)∧(kI ops k (λj=>wt A i j)=false→k∈nP ops o→aD (gC ops A t0 t i o) k=aD t0 k):=by
 unfold gC
 generalize nP ops o=L
 induction L with
 |nil=>exact⟨λ_=>rfl,λ_ h=>by cases h⟩
 |cons x r B=>
  simp only[List.filterMap_cons]
  cases F:kI ops x (λj=>wt A i j)with
  |true=>
   simp only[cond_true]
   refine⟨B.1,λh hk=>?_⟩
   rcases List.mem_cons.1 hk with rfl|hk
   ·rw[F]at h;cases h
   exact B.2 h hk
  |false=>
   simp only[cond_false]
   have e:∀M:List (Nat×TX),aD (((x,aD t0 x)::M)++t) k=bif Nat.beq x k then aD t0 x else aD (M++t) k:=λ_=>rfl
   rw[e]
   refine⟨λh=>?_,λh hk=>?_⟩
   ·rw[beq_false (λO=>by rw[O,h]at F;cases F)];exact B.1 h
   by_cases G:x=k
   ·subst G;rw[Nat.beq_refl];rfl
   rw[beq_false G]
   rcases List.mem_cons.1 hk with rfl|hk
   ·exact absurd rfl G
   exact B.2 h hk
theorem Tp(bg:bb P V C)(bn:eM P C cs)(bs:C.nt=n)(aP:gn ρ D)(bh:vR P cs n ops ρ00 Hd)(bA:∀d∈rs,pM cs ρ00 N ρ d){i:Nat}{o:Oper}{d:Dn}(bo:d∈rs)(O:eQ C.nt o.dst=true)(U:∀S l,(S,l)∈Ls→kP A i H S=true→qJ C Hd ops kp t0 (gC ops A t0 t i o) t D H Ls i o S l d=true) :
  r9 P n ops A (λk u=>RX ρ (aD t0 k) u) (λk u=>RX ρ (aD t k) u) H (λS l=>∃lX,jt S Ls=some lX∧RL ρ lX l) i o:=by
 rintro S s K bj bm ⟨l,aN,ad⟩ aU M
 have U:=U _ l (C0 aN) bm
 have av:∀{l':List AO},ng H i=false→RL ρ l l'→∃lX,jt (iw i H S) Ls=some lX∧RL ρ lX l':=λbt bq=>⟨l,by rw[Is bj bt];exact aN,bq⟩
 have aV:∀k,k∈nP ops o→RX ρ (aD (gC ops A t0 t i o) k) (af.get s.t k):=λk az=>by
  cases ao:kI ops k (λj=>wt A i j)with
  |true=>rw[CS.1 ao];exact(aU k az).1 ao
  |false=>rw[CS.2 ao az];exact(aU k az).2 ao
 have aS:∀j b ab,o.guard=some (j,b)→(ops[j]?).bind (·.dst)=some ab→RX ρ (aD (gC ops A t0 t i o) ab) (af.get s.t ab):=λj b ab aw ax=>aV ab (by
  unfold nP
  rw[aw]
  simp only[ax]
  simp)
 have bH:∀{R:Nat→T→Prop},∀k,R k (af.get s.t k)→R k (af.get s.t k):=λk h=>h
 rw[bs]at O
 cases d with
 |skip=>
  simp only[qJ,Bool.and_eq_true,Bool.not_eq_true']at U
  obtain⟨⟨k1,k2⟩,G⟩:=U
  split at k2
  ·rename_i ay
   obtain⟨pc,Z,aa⟩:=Ct (σ:=⟨0,gC ops A t0 t i o,[]⟩) (s:=s) aS ay
   refine IK Z aa O (M s.t _ s.l (λ_ h=>h) (λ_ h=>h) (λe ag=>?_) (av k1 ad))
   rw[ag]at G
   simp only at G
   generalize aD t e=y at G⊢
   cases y<;>first|exact .undef _|exact .gone|cases G
  cases k2
 |done aJ bJ=>
  simp only[qJ,Bool.and_eq_true]at U
  obtain⟨k1,k2⟩:=U
  split at k1
  ·rename_i ay
   obtain⟨pc,Z,aa⟩:=Cu (σ:=⟨0,gC ops A t0 t i o,[]⟩) (s:=s) aS ay
   split at k2
   ·rename_i bI q F
    simp only[Bool.and_eq_true]at k2
    obtain⟨⟨⟨aW,k2⟩,G⟩,B⟩:=k2
    have bp:=qi k2
    obtain⟨_,a6,bD,aZ,aK,aL,bC,a1⟩:=bA _ bo
    obtain⟨a7,hi,aO⟩:=aK.again aZ aL ρ λ_=>rfl
    have a8:Ext ρ a7:=λi v aH=>(aO i).trans aH
    have al:Ext a7 ρ:=λi v aH=>(aO i).symm.trans aH
    rw[←bp]at hi aK
    have aQ:∀x∈o.op.operands,RX ρ (dE (gC ops A t0 t i o) x) (cz s.t x):=λx aq=>by
     cases x with
     |tmp k=>exact aV k (List.mem_append_left _ (List.mem_filterMap.2 ⟨.tmp k,by simpa using aq,rfl⟩))
     |const v=>exact iW (tX:=[]) (t:=[]) (λ_=>.undef _) (.const v)
     |global g=>exact .undef _
     |func f=>exact iW (tX:=[]) (t:=[]) (λ_=>.undef _) (.func f)
    unfold oD at F
    split at F
    ·rename_i ak aE
     injection F with F
     injection F with _ F
     subst F
     have F:=aE
     obtain⟨u,aG,an⟩:=L3 bg bn ad aQ IT a8 F hi
     have Y:∀e,o.dst=some e→RX ρ (aD t e) u:=λe ag=>by
      rw[ag]at G
      rw[←TX.beq_eq G]
      exact BC aP (aG.mono al)
     have aR:∀{e:rY},(match jt (iw i H S) Ls with|some l'=>iI (my e l) l'|none=>false)=true→∀l':List AO,br P o (cz s.t) s.l u l'→RL ρ (my e l) l'→gq P n ops o s K:=by
      intro e B l' aw ax
      split at B
      ·rename_i aI aA
       have aB:=mN B
       exact pG Z aa aw O (M s.t u l' (λ_ h=>h) (λ_ h=>h) Y ⟨aI,aA,by rw[←aB];exact ax⟩)
      cases B
     split at an
     ·rename_i ah
      rw[ah]at B
      simp only[isNone,cond_true,Bool.not_eq_true']at B
      exact pG Z aa an O (M s.t u s.l (λ_ h=>h) (λ_ h=>h) Y (av B ad))
     ·rename_i bG ah
      obtain⟨bF,ar,au,_⟩:=an
      rw[ah]at B
      exact aR B _ (au rfl) (F2.app ad (.cons (ar.mono al) .nil))
     rename_i l1 ah
     obtain⟨l',ar,au⟩:=an
     rw[ah]at B
     cases aF:iI l1 l with
     |false=>
      simp only[isNone,aF,cond_false]at B
      exact aR B _ (au rfl) (ar.mono al)
     |true=>
      simp only[isNone,aF,cond_true,Bool.not_eq_true']at B
      have:=mN aF
      subst this
      exact pG Z aa (au rfl) O (M s.t u l' (λ_ h=>h) (λ_ h=>h) Y (av B (ar.mono al)))
    cases ae:(l.all (AX.bz aJ 0)&&(DG o (gC ops A t0 t i o)).all (TX.bz aJ 0))with
    |false=>rw[ae]at F;cases F
    |true=>
    rw[ae]at F
    simp only[cond_true]at F
    split at F
    ·rename_i ak aE
     injection F with F
     injection F with bu F
     subst F;subst bu
     simp only[Bool.not_true,Bool.false_or]at aW
     rw[Bool.and_eq_true]at ae
     obtain⟨ft,bc,bd,aM,bf⟩:=Np (s:=s) aW
     by_cases aT:∀k,∀r∈bU (af.get ft k),r<s.l.length
     case neg=>
      intro w0 I0 a w Q bE bx _
      obtain⟨_,I,m,_,_,bB⟩:=bx
      exact absurd (λk r bw=>bf k _ (bB k) r bw) aT
     have bl:∀x∈o.op.operands,RX a6 (dE (gC ops A t0 t i o) x) (cz s.t x):=λx aq=>SP a1 (List.all_eq_true.1 ae.2 _ (List.mem_map.2 ⟨x,by simpa using aq,rfl⟩)) (aQ x aq)
     have aX:∀k,RX ρ (aD t k) (af.get s.t k)→RX ρ (aD t k) (af.get ft k):=λk h=>by
      rcases xk t k with e|e
      ·rw[e];exact .undef _
      exact aM k _ ρ (List.mem_append_left _ e) h
     have aY:∀k,RX ρ (aD t0 k) (af.get s.t k)→RX ρ (aD t0 k) (af.get ft k):=λk h=>by
      rcases xk t0 k with e|e
      ·rw[e];exact .undef _
      exact aM k _ ρ (List.mem_append_right _ e) h
     refine bh o _ _ l aJ ak a6 bD s ft pc _ aE bC aZ aK (SB a1 ae.1 ad) bl O Z aa bc bd aT λu l' aG ai=>?_
     have Y:∀e,o.dst=some e→RX ρ (aD t e) u:=λe ag=>by
      rw[ag]at G
      rw[←TX.beq_eq G]
      exact BC aP (aG.mono aL)
     have ai:=ai.mono aL
     cases aj:isNone l ak.bM with
     |true=>
      rw[aj]at B
      simp only[cond_true,Bool.not_eq_true']at B
      have:my ak.bM l=l:=by
       generalize ak.bM=ba at aj
       cases ba with
       |none=>rfl
       |new a=>cases aj
       |aC l1=>exact mN aj
      rw[this]at ai
      exact M ft u l' aX aY Y (av B ai)
     |false=>
      rw[aj]at B
      simp only[cond_false]at B
      split at B
      ·rename_i aI aA
       have aB:=mN B
       exact M ft u l' aX aY Y ⟨aI,aA,by rw[←aB];exact ai⟩
      cases B
    cases F
   cases k2
  cases k1
omit [bB] [bV] [aL] [bu]in
theorem wB(m:Nat)(σ:Sk):∀D:er,(fQ ⟨m,σ.t,σ.l⟩ D).t=(fQ σ D).t
 | []=>rfl
 |p::r=>congrArg (kU p.1 p.2) (wB m σ r)
theorem LR(aA:bb P V C)(aI:eM P C cs)(aN:C.nt=n)(ad:P.follows .mixedOrders=true){σ:Sk}{ρ0:az}(aB:vR P cs n ops ρ0 Hd){s:St}{Q:LQ}{J:LJ}{Qd:Exit→St→Prop}{id:Nat}(j:aH ρ0 σ s)(Y:Tr.wp cs (qa C Hd ops σ) ρ0 Q J)(U:∀aR ae J',Q .normal aR ae J'→bS σ.n ρ0 ae→σ.n≤aR.n→∀s',aH ae aR s'→Qd .normal s'):bH P w0 I0 n (.region id ops.toArray true) s Qd:=by
 obtain⟨ar,aW,aX,_,aY⟩:=Sw (ops:=ops) j
 have U:∀aR ae J',Q .normal aR ae J'→bS (jF ops σ).n ρ0 ae→(jF ops σ).n≤aR.n→∀s',aH ae aR s'→Qd .normal s':=by rw[aX];exact U
 have Y:Tr.wp cs (ly C Hd ops (jF ops σ) ops (jF ops σ) [] []) ρ0 Q J:=Y
 have j:=aW
 refine bH.sub (s':=ar) (λ_ _ _ _ _ aP=>aY aP) ?_
 generalize jF ops σ=σ at j Y U
 generalize ar=s at j
 obtain⟨M,ρ,J',D,rs,av,O,Z,ai,aw,aj,ax⟩:=zG (Q:=Q) (ρ00:=ρ0) ops j.di (.refl ρ0) (λp aO=>by cases aO) (λd aa=>by cases aa) Y
 have an:Ext ρ0 ρ:=ai.ext j.di
 have ao:aH ρ ⟨M.n,σ.t,σ.l⟩ s:=⟨Z,λk=>(j.t k).mono an,j.l.mono an⟩
 obtain⟨t,H,Ls,l,ak,aK,O,aS⟩:=CR O
 have aG:∀(k:Nat),(∀o∈ops,o.dst≠some k)→aD t k=aD (fQ σ D).t k:=λk ab=>by rw[aS];exact qT λx aT=>ab _ (List.of_mem_zip (List.of_mem_zip aT).2).1
 simp only[sL,Bool.and_eq_true]at ak
 obtain⟨⟨⟨⟨aM,ay⟩,ag⟩,aC⟩,aF⟩:=ak
 have al:=BB ao aj
 have at_:∀i o,ops[i]?=some o→∃d,d∈rs∧eQ C.nt o.dst=true∧ry ops (jR ops []) i o=true∧(Ls.all λp=>!kP (jR ops []) i H p.1||qJ C Hd ops (lg ops σ.l.length) (fQ σ D).t (gC ops (jR ops []) (fQ σ D).t t i o) t D H Ls i o p.1 p.2 d)=true:=λi o F=>by
  have B:=List.all_eq_true.1 aF i (List.mem_range.2 (List.getElem?_eq_some_iff.1 F).1)
  rw[F]at B
  split at B
  ·rename_i o' d af aa
   injection af with af
   subst af
   simp only[Bool.and_eq_true]at B
   exact⟨d,List.mem_of_getElem? aa,B.1.1,B.1.2,B.2⟩
  cases B
 refine Su ad (H:=H) (A:=jR ops []) (R0:=λk u=>RX ρ (aD (fQ σ D).t k) u) (R1:=λk u=>RX ρ (aD t k) u) (Ob:=λS l=>∃lX,jt S Ls=some lX∧RL ρ lX l) aM ay (λh aJ=>by
  have:=List.all_eq_true.1 aC h aJ
  simpa [Nat.blt_eq]using this) (λi o F=>by obtain⟨_,_,_,h,_⟩:=at_ i o F;exact h) (λi o F=>?_) ?_ (λk=>by rw[←wB M.n σ D];exact al.t k) (λk ab=>by rw[aG k ab,←wB M.n σ D];exact al.t k) ?_
 ·obtain⟨d,G,ah,aq,aV⟩:=at_ i o F
  exact Tp aA aI aN aj aB ax G ah λS l ad aE=>by
   have:=List.all_eq_true.1 aV (S,l) ad
   rw[aE]at this
   simpa using this
 ·split at ag
  ·rename_i aU aL
   exact⟨σ.l,by rw[aL,mN ag],ao.l⟩
  cases ag
 rintro au ⟨aU,G,ah⟩ aq
 rw[aK]at G;injection G with G;subst G
 have aQ:aH ρ M au:=by rw[O];exact⟨by rw[O]at Z;exact Z,aq,ah⟩
 exact U M ρ J' av ai aw au aQ
end
end Go.Sy
namespace Go.Sy
open Go Go.af
variable [au][bK][bB][bV][aL][bu]
theorem qv:∀{ts:List T}{ds:List af.D},ts.mapM dQ=some ds→ts=ds.map .d
 | [],ds,h=>by simp at h;subst h;rfl
 |t::ts,ds,h=>by
  rw[List.mapM_cons]at h
  cases j:dQ t with
  |none=>rw[j]at h;cases h
  |some d=>
   cases k:ts.mapM dQ with
   |none=>rw[j,k]at h;cases h
   |some r=>
    rw[j,k]at h
    simp only[Option.bind_eq_bind,Option.bind_some,Option.pure_def,Option.some.injEq]at h
    subst h
    rw[qv k]
    cases t<;>simp[dQ]at j
    subst j;rfl
section
variable {P:Program}{V:Env}{C:Cx}{ρ:az}{σ aR:Sk}{s:St}
theorem Of{t:Ty}(k:isVal t){ts:List T}{v:t.den}(h:eA (bE t) ts=.d (t.enc v))(O:bE t=false→ts.length=1):ts=(t.enc v).cells.map .d∧∀x∈(t.enc v).cells,x.one=true:=by
 cases j:bE t with
 |false=>
  obtain⟨F,G⟩:=gV j k.1 k.2 v
  rw[F]
  match ts,O j with
  | [u],_=>
   rw[j]at h
   simp only[eA,Bool.false_eq_true,if_false,List.headD_cons]at h
   subst h
   exact⟨rfl,λx B=>by simp at B;subst B;exact G⟩
 |true=>
  cases t with
  |st i=>
   have e:(Ty.st i).enc v=.agg (au.cells i v):=rfl
   rw[e]at h⊢
   rw[j]at h
   simp only[eA,if_true]at h
   split at h
   ·rename_i ds M
    injection h with h;injection h with h
    rw[qv M,h]
    exact⟨rfl,bB.uf i v⟩
   cases h
  |_=>cases j
theorem Mq(j:bb P V C){ty:TypeId}{cs:List TX}{t:Ty}(h:xg C ty cs=some t):isVal t:=by
 unfold xg at h
 split at h
 ·rename_i k
  injection h with h;subst h
  obtain⟨i,_,_,_,B,_⟩:=j.info k
  exact B
 split at h
 ·injection h with h;subst h;exact bx rfl
 ·injection h with h;subst h;exact bx rfl
 cases h
theorem Mr(
        ag:bb P V C)(h:aH ρ σ s){j:Nat}(B:xh C σ j=some aR):∃s',Sub s s'∧aH ρ aR s'∧aR.n=σ.n:=by
 unfold xh at B
 split at B
 ·rename_i id ao
  split at B
  ·rename_i ty cs an
   split at B
   ·rename_i t au
    split at B
    ·rename_i u x F
     split at B
     ·rename_i av
      subst av
      generalize aC:j9 σ.l id=ids at B
      cases M:(cF (.box u)&&oI ids id&&kY ids σ.l)with
      |false=>rw[M]at B;cases B
      |true=>
       rw[M]at B
       simp only[cond_true,Option.some.injEq]at B
       subst B
       rw[Bool.and_eq_true,Bool.and_eq_true]at M
       obtain⟨⟨U,G⟩,ak⟩:=M
       unfold oI at G
       rw[Bool.and_eq_true]at G
       have ad:=Mq ag au
       have aa:ids.Nodup:=qF G.1
       have aq:id∉ids:=λO=>by
        have:(ids.any λi=>Nat.beq i id)=true:=List.any_eq_true.2 ⟨id,O,Nat.beq_refl id⟩
        rw[this]at G;cases G.2
       obtain⟨az,ai,aj⟩:=F2.left h.l an
       cases aj with
       |var _ _ ts ab=>
        have O:=tY ad ab F
        have Z:=h.t j
        rw[ao]at Z
        generalize ah:eA (bE u) ts=ay at O
        cases O with
        |d _ _ v aB ae=>
         obtain⟨aw,ax⟩:=Of ad ah (λar=>by
          unfold nC at F
          rw[ar]at F
          simp only[cond_false]at F
          split at F
          ·rw[←ab.len];rfl
          cases F)
         generalize al:af.get s.t j=aA at Z
         cases Z
         obtain⟨s1,k1,k2⟩:=Sk.zw h (ids:=ids) aa ak
         refine⟨⟨(j,.d (.box (u.enc v)))::s1.t,s1.l⟩,?_,⟨h.di,λk=>?_,k2.l⟩,rfl⟩
         ·exact TB j id (u.enc v) ids al (by rw[ai,aw]) ax aq aa k1.1 k1.2.1 k1.2.2
         show RX ρ (bif Nat.beq j k then _ else aD (σ.re ids).t k) (if j=k then _ else af.get s1.t k)
         by_cases Y:j=k
         ·subst Y
          rw[if_pos rfl,Nat.beq_refl]
          exact .d (.box u) (.box x) v (bx U) (by simp only[X.den,ae])
         have U:Nat.beq j k=false:=by
          cases e:Nat.beq j k with
          |false=>rfl
          |true=>exact absurd (Nat.eq_of_beq_eq_true e) Y
         rw[if_neg Y,U]
         exact k2.t k
     cases B
    cases B
   cases B
  cases B
 cases B
theorem SX(h:aH ρ σ s){j:Nat}(B:zL σ j=some aR):∃s',Sub s s'∧aH ρ aR s'∧aR.n=σ.n:=by
 unfold zL at B
 split at B
 ·rename_i id an
  split at B
  ·rename_i ty f i al
   generalize az:j9 σ.l id=ids at B
   cases G:(Nat.beq i id&&oI ids id&&kY ids σ.l)with
   |false=>rw[G]at B;cases B
   |true=>
    rw[G]at B
    simp only[cond_true,Option.some.injEq]at B
    subst B
    rw[Bool.and_eq_true,Bool.and_eq_true]at G
    obtain⟨⟨O,M⟩,aj⟩:=G
    have:=Nat.eq_of_beq_eq_true O
    subst this
    unfold oI at M
    rw[Bool.and_eq_true]at M
    have ad:ids.Nodup:=qF M.1
    have ao:i∉ids:=λZ=>by
     have:(ids.any λk=>Nat.beq k i)=true:=List.any_eq_true.2 ⟨i,Z,Nat.beq_refl i⟩
     rw[this]at M;cases M.2
    obtain⟨ax,ah,ai⟩:=F2.left h.l al
    cases ai with
    |var _ _ ts au=>
     cases au with
     |cons ae ag=>
      cases ag
      cases ae with
      |ar _ _ aw aa F=>
       match aw,aa,F with
       | [u],_,F=>
        have ab:=F 0 _ _ rfl rfl
        cases ab
        have Y:=h.t j
        rw[an]at Y
        generalize ak:af.get s.t j=ay at Y
        cases Y
        obtain⟨s1,k1,k2⟩:=Sk.zw h (ids:=ids) ad aj
        refine⟨⟨(j,.d (.self f))::s1.t,s1.l⟩,?_,⟨h.di,λk=>?_,k2.l⟩,rfl⟩
        ·exact IL j i (.self f) _ ids ak ah ao ad k1.1 k1.2.1 k1.2.2 λI J m b vs _ Z aq av G=>SY Z aq av G
        show RX ρ (bif Nat.beq j k then _ else aD (σ.re ids).t k) (if j=k then _ else af.get s1.t k)
        by_cases U:j=k
        ·subst U
         rw[if_pos rfl,Nat.beq_refl]
         exact .d (.self f) (.self f) () (bx rfl) rfl
        have O:Nat.beq j k=false:=by
         cases e:Nat.beq j k with
         |false=>rfl
         |true=>exact absurd (Nat.eq_of_beq_eq_true e) U
        rw[if_neg U,O]
        exact k2.t k
      |e8 _ _ ds aa F=>
       match ds,aa,F with
       | [u],_,F=>
        have ab:=F 0 _ _ rfl rfl
        cases ab
  cases B
 cases B
theorem zK:∀{js:List Nat}{σ:Sk}{s:St},aH ρ σ s→∃s',Sub s s'∧aH ρ (iZ js σ) s'∧(iZ js σ).n=σ.n
 | [],σ,s,h=>⟨s,Sub.refl s,h,rfl⟩
 |j::r,σ,s,h=>by
  simp only[iZ]
  split
  ·rename_i σ1 k
   obtain⟨s1,k1,k2,B⟩:=SX h k
   obtain⟨O,F,G,M⟩:=zK (js:=r) k2
   exact⟨O,Sub.trans' k1 F,G,M.trans B⟩
  exact zK (js:=r) h
theorem sO{id:Nat}:∀{ts:List Ty}{k:Nat}{σ:Sk}{s:St},aH ρ σ s→∃s',Sub s s'∧aH ρ (p9 id ts k σ) s'∧(p9 id ts k σ).n=σ.n
 | [],k,σ,s,h=>⟨s,Sub.refl s,h,rfl⟩
 |t::ts,k,σ,s,h=>by
  simp only[p9]
  split
  ·exact sO h
  split
  ·rename_i σ1 j
   obtain⟨s1,k1,k2,B⟩:=AJ h j
   obtain⟨O,F,G,M⟩:=sO (id:=id) (ts:=ts) (k:=k+1) k2
   exact⟨O,Sub.trans' k1 F,G,M.trans B⟩
  exact sO h
theorem LG{j:Nat}(h:aH ρ σ s):∃s',Sub s s'∧aH ρ (sP C σ j) s'∧(sP C σ j).n=σ.n:=by
 unfold sP
 have z:∃s',Sub s s'∧aH ρ σ s'∧σ.n=σ.n:=⟨s,Sub.refl s,h,rfl⟩
 split
 ·split
  ·split
   ·split
    ·exact sO h
    exact z
   exact z
  exact z
 exact z
theorem xf(k:bb P V C):∀{js:List Nat}{σ:Sk}{s:St},aH ρ σ s→∃s',Sub s s'∧aH ρ (gz C σ js) s'∧(gz C σ js).n=σ.n
 | [],σ,s,h=>⟨s,Sub.refl s,h,rfl⟩
 |j::r,σ,s,h=>by
  simp only[gz]
  split
  ·rename_i σ1 B
   obtain⟨ad,Y,Z,aa⟩:=LG (C:=C) (j:=j) h
   obtain⟨s1,k1,k2,G⟩:=Mr k Z B
   obtain⟨ab,M,O,U⟩:=xf k (js:=r) k2
   exact⟨ab,λw0 I0 n a w F=>M _ _ _ _ _ (k1 _ _ _ _ _ (Y _ _ _ _ _ F)),O,U.trans (G.trans aa)⟩
  exact xf k (js:=r) h
end
end Go.Sy
namespace Go.Sy
open Go Go.af
section
variable [au]
@[reducible] def dc(Λ:bK)(j:Nat)(x:LF):bK:=⟨λi=>if i=j then some x else Λ.lam i⟩
def eN(Λ k:bK):Prop:=∀j x,Λ.lam j=some x→k.lam j=some x
theorem eN.push{Λ:bK}{j:Nat}{x:LF}(h:Λ.lam j=none):eN Λ (dc Λ j x):=λi y k=>by
 show(if i=j then some x else Λ.lam i)=some y
 by_cases hi:i=j
 ·subst hi;rw[h]at k;cases k
 rw[if_neg hi];exact k
theorem eN.trans{a b c:bK}(h:eN a b)(k:eN b c):eN a c:=λj x B=>k j x (h j x B)
theorem JV{Λ F:bK}(h:eN Λ F){ρ:az}{a:AX}{o:AO}(k:@bd _ Λ ρ a o):@bd _ F ρ a o:=by
 cases k with
 |dead=>exact @bd.dead _ F ρ
 |var ty cs ts B=>exact @bd.var _ F ρ ty cs ts B
 |row e t x xs G B=>exact @bd.row _ F ρ e t x xs G B
 |aM e t x xs G B=>exact @bd.aM _ F ρ e t x xs G B
 |map k v x m G M B=>exact @bd.map _ F ρ k v x m G M B
 |cU k v x m G M B=>exact @bd.cU _ F ρ k v x m G M B
 |aU e kk t x m O G M B=>exact @bd.aU _ F ρ e kk t x m O G M B
 |eg e kk t x k m n O G M B U=>exact @bd.eg _ F ρ e kk t x k m n O G M B U
 |bD kk ks ts Y B=>exact @bd.bD _ F ρ kk ks ts Y B
 |hZ kk=>exact @bd.hZ _ F ρ kk
 |cr j b rs vals ft B M=>exact @bd.cr _ F ρ j b rs vals ft (h _ _ B) M
 |lp j b rs st k ps aP body tm B M=>exact @bd.lp _ F ρ j b rs st k ps aP body tm (h _ _ B) M
 |cO o B=>exact @bd.cO _ F ρ o B
theorem vk{Λ j:bK}(h:eN Λ j){ρ:az}{l:List AX}{m:List AO}(k:@RL _ Λ ρ l m):@RL _ j ρ l m:=F2.mono (λ_ _=>JV h) k
theorem JX{Λ O:bK}{d:Nat}(h:∀j,j<d→O.lam j=Λ.lam j){ρ:az}{a:AX}{o:AO}(k:@bd _ O ρ a o):@bd _ Λ ρ (fj d a) o:=by
 cases k with
 |dead=>exact @bd.dead _ Λ ρ
 |var ty cs ts B=>exact @bd.var _ Λ ρ ty cs ts B
 |row e t x xs F B=>exact @bd.row _ Λ ρ e t x xs F B
 |aM e t x xs F B=>exact @bd.aM _ Λ ρ e t x xs F B
 |map k v x m F G B=>exact @bd.map _ Λ ρ k v x m F G B
 |cU k v x m F G B=>exact @bd.cU _ Λ ρ k v x m F G B
 |aU e kk t x m M F G B=>exact @bd.aU _ Λ ρ e kk t x m M F G B
 |eg e kk t x k m n M F G B U=>exact @bd.eg _ Λ ρ e kk t x k m n M F G B U
 |bD kk ks ts Y B=>exact @bd.bD _ Λ ρ kk ks ts Y B
 |hZ kk=>exact @bd.hZ _ Λ ρ kk
 |cr j b rs vals ft B G=>
  simp only[fj]
  cases e:Nat.ble d j with
  |true=>exact @bd.cO _ Λ ρ _ rfl
  |false=>
   have:j<d:=by
    rcases Nat.lt_or_ge j d with h|h
    ·exact h
    rw[Nat.ble_eq_true_of_le h]at e;cases e
   exact @bd.cr _ Λ ρ j b rs vals ft ((h j this).symm.trans B) G
 |lp j b rs st k ps aP body tm B G=>
  simp only[fj]
  cases e:Nat.ble d j with
  |true=>exact @bd.cO _ Λ ρ _ rfl
  |false=>
   have:j<d:=by
    rcases Nat.lt_or_ge j d with h|h
    ·exact h
    rw[Nat.ble_eq_true_of_le h]at e;cases e
   exact @bd.lp _ Λ ρ j b rs st k ps aP body tm ((h j this).symm.trans B) G
 |cO o B=>exact @bd.cO _ Λ ρ o B
theorem vl{Λ B:bK}{d:Nat}(h:∀j,j<d→B.lam j=Λ.lam j){ρ:az}{l:List AX}{m:List AO}(k:@RL _ B ρ l m):@RL _ Λ ρ (l.map (fj d)) m:=F2.map (F2.mono (λ_ _=>JX h) k)
inductive fL[bK](ρ:az):dB→Prop
 |mk (id j k ps aP body t outer b) (fS:Array Tmp) (tm:Tm):bK.lam j=some (.loop b k fS aP body tm)→fS.toList=ps→(∀q,RX ρ (aD t q) (af.get tm q))→(∀x,x∈outer→fL ρ x)→fL ρ (.mk id j k ps aP body t outer)
theorem fL.mono[bK]{ρ ae:az}(h:Ext ρ ae){x:dB}(k:fL ρ x):fL ae x:=by
 induction k with
 |mk id j k ps aP body t O b U tm B F G _ M=>exact .mk id j k ps aP body t O b U tm B F (λq=>(G q).mono h) M
theorem fL.lam{Λ B:bK}(h:eN Λ B){ρ:az}{x:dB}(k:@fL _ Λ ρ x):@fL _ B ρ x:=by
 induction k with
 |mk id j k ps aP body t U b Y tm F G M _ O=>exact @fL.mk _ B ρ id j k ps aP body t U b Y tm (h _ _ F) G M O
def gQ[bK](ρ:az)(L:List dB):Prop:=∀x,x∈L→fL ρ x
theorem B3{id:Nat}:∀{L:List dB}{x:dB},qf id L=some x→x∈L∧x.id=id
 | [],x,h=>by simp[qf]at h
 |y::r,x,h=>by
  simp only[qf]at h
  cases e:Nat.beq y.id id with
  |true=>rw[e]at h;simp at h;subst h;exact⟨by simp,Nat.eq_of_beq_eq_true e⟩
  |false=>rw[e]at h;obtain⟨j,k⟩:=B3 h;exact⟨by simp[j],k⟩
end
variable [au][Λ:bK][bB][bV][aL][kO][R0:bu]
theorem CN{ρ:az}{σ:Sk}{s:St}(h:aH ρ σ s)(m:Nat):∃ft:Tm,(∀k,af.get ft k=.undef∨af.get ft k=af.get s.t k)∧(∀k,RX ρ (aD (lf m σ.t) k) (af.get ft k))∧gS ft (dm (lf m σ.t)):=by
 have Z:=(nS m h).t
 have Z:∀k,RX ρ (aD (gk m σ.t 0) k) (af.get s.t k):=Z
 have ad:∀(t:List (Nat×TX)),(∀k,fq k t=true→RX ρ (aD t k) (af.get s.t k))→∃ft:Tm,(∀k,af.get ft k=.undef∨af.get ft k=af.get s.t k)∧(∀k,RX ρ (aD (t.map λp=>(p.1,bif p.2.clean then p.2 else .undef)) k) (af.get ft k))∧gS ft (dm (t.map λp=>(p.1,bif p.2.clean then p.2 else .undef))):=by
  intro t G
  have:∀(
       t:List (Nat×TX)) (seen:List Nat),(∀k,k∉seen→fq k t=true→RX ρ (aD t k) (af.get s.t k))→∃ft:Tm,(∀k,k∉seen→(af.get ft k=.undef∨af.get ft k=af.get s.t k))∧(∀k,k∉seen→RX ρ (aD (t.map λp=>(p.1,bif p.2.clean then p.2 else .undef)) k) (af.get ft k))∧∀k,k∉seen→∀r∈bU (af.get ft k),r∈dm (t.map λp=>(p.1,bif p.2.clean then p.2 else .undef)):=by
   intro t
   induction t with
   |nil=>intro seen _;exact⟨[],λk _=>.inl rfl,λk _=>.undef _,λk _ r F=>by simp[af.get,bU]at F⟩
   |cons p t ab=>
    intro seen G
    obtain⟨i,u⟩:=p
    obtain⟨ft,O,U,Y⟩:=ab (i::seen) λk B aa=>by
     simp only[List.mem_cons,not_or]at B
     have:=G k B.2 (by simp[fq,aa])
     simpa only[aD,beq_false (λe:i=k=>B.1 e.symm),cond_false]using this
    refine⟨(i,bif u.clean then af.get s.t i else .undef)::ft,λk B=>?_,λk B=>?_,λk B r F=>?_⟩
    ·simp only[af.get]
     by_cases j:i=k
     ·subst j;rw[if_pos rfl];cases u.clean<;>simp
     rw[if_neg j];exact O k (by simp[B];exact λe=>j e.symm)
    ·simp only[af.get,List.map_cons,aD]
     by_cases j:i=k
     ·subst j;rw[if_pos rfl,Nat.beq_refl]
      simp only[cond_true]
      cases M:u.clean with
      |false=>exact .undef _
      |true=>
       have:=G i B (by simp[fq,Nat.beq_refl])
       simpa only[aD,Nat.beq_refl,cond_true]using this
     rw[if_neg j,beq_false j];exact U k (by simp[B];exact λe=>j e.symm)
    simp only[af.get]at F
    simp only[List.map_cons,dm,List.mem_append]
    by_cases j:i=k
    ·subst j;rw[if_pos rfl]at F
     cases M:u.clean with
     |false=>rw[M]at F;simp[bU]at F
     |true=>
      rw[M]at F
      simp only[cond_true]at F⊢
      have:=G i B (by simp[fq,Nat.beq_refl])
      simp only[aD,Nat.beq_refl,cond_true]at this
      exact .inl (Bq this M r F)
    rw[if_neg j]at F;exact .inr (Y k (by simp[B];exact λe=>j e.symm) r F)
  obtain⟨ft,O,U,Y⟩:=this t [] λk _=>G k
  exact⟨ft,λk=>O k (by simp),λk=>U k (by simp),λk=>Y k (by simp)⟩
 exact ad (gk m σ.t 0) λk _=>Z k
section
variable {P:Program}{V:Env}{C:Cx}{ρ:az}{σ:Sk}{s:St}
theorem rB(M:bb P V C)(h:aH ρ σ s):∀{rs:List ResultVar}{xs:List TX},kz C σ rs=some xs→qI (rs.map λv=>(fw V s v).2)∧F2 (RX ρ) xs (rs.map λv=>(fw V s v).1)
 | [],xs,k=>by
  simp only[kz,Option.some.injEq]at k;subst k
  exact⟨trivial,.nil⟩
 |.tmp t::r,xs,k=>by
  simp only[kz,Option.map_eq_some_iff]at k
  obtain⟨ys,Y,rfl⟩:=k
  obtain⟨k1,k2⟩:=rB M h Y
  exact⟨⟨trivial,k1⟩,.cons (h.t t) k2⟩
 |.cell a ty::r,xs,k=>by
  simp only[kz]at k
  split at k
  ·rename_i x j
   simp only[Option.map_eq_some_iff]at k
   obtain⟨ys,Y,rfl⟩:=k
   obtain⟨k1,k2⟩:=rB M h Y
   have B:=h.t a
   unfold HU at j
   split at j
   ·rename_i t id off ah ab
    rw[ab]at B
    split at j
    ·rename_i aq af ad
     cases G:Nat.ble (off+t.size) af.length with
     |false=>rw[G]at j;cases j
     |true=>
      rw[G]at j
      simp only[cond_true]at j
      have G:=Nat.le_of_ble_eq_true G
      obtain⟨i,al,ag,an,U,_⟩:=M.info ah
      obtain⟨ai,Z,aa⟩:=F2.left h.l ad
      generalize ae:get s.t a=u at B
      cases B
      cases aa with
      |var _ _ ts O=>
       have e:fw V s (.cell a ty)=(eA (bE t) ((ts.drop off).take t.size),True):=by
        simp only[fw,ae,eT,al,Z]
        rw[if_pos (by rw[ag,←O.len];exact G),ag,an]
        rfl
       refine⟨?_,?_⟩
       ·simp only[List.map_cons,e];exact⟨trivial,k1⟩
       simp only[List.map_cons,e];exact .cons (tY U ((O.drop off).take t.size) j) k2
    cases j
   ·rename_i id off ah ab
    rw[ab]at B
    split at j
    ·rename_i i aq af hE ad
     cases F:(Nat.beq i.size 1 && !i.desc.agg)with
     |false=>rw[F]at j;cases j
     |true=>
      rw[F]at j
      simp only[cond_true]at j
      rw[Bool.and_eq_true,Bool.not_eq_true']at F
      have ak:=Nat.eq_of_beq_eq_true F.1
      obtain⟨ai,Z,aa⟩:=F2.left h.l ad
      generalize ae:get s.t a=u at B
      cases B
      cases aa with
      |var _ _ ts O=>
       obtain⟨v,U,ao⟩:=O.left j
       have ar:=(List.getElem?_eq_some_iff.1 U).1
       have aj:(ts.drop off).take 1=[v]:=by
        rw[List.take_one,List.head?_drop,U];rfl
       have e:fw V s (.cell a ty)=(v,True):=by
        simp only[fw,ae,eT,M.E,hE,Z,ak,F.2]
        rw[if_pos (by omega),aj]
        rfl
       refine⟨?_,?_⟩
       ·simp only[List.map_cons,e];exact⟨trivial,k1⟩
       simp only[List.map_cons,e];exact .cons ao k2
    cases j
   cases j
  cases k
end
def kV:Ex→Exit
 |.normal=>.normal
 |.ret=>.ret
 |.exit i=>.exit i
 |.dF _=>.goto 0
section
variable {P:Program}{V:Env}{C:Cx}{cs:List Callee}{n:Nat}{w0:World}{I0:aq}
def zB(e:Ex)(M:Sk)(nh:Nat)(p:Sy.V→Prop)(Q:LQ):LQ:=λj σ ae J'=>if e=j then ∃xs v,instS M nh σ=some xs∧(dJ xs).den ae=some v∧p v else Q j σ ae J'
theorem HV{e:Ex}{M:Sk}{nh:Nat}{p:Sy.V→Prop}{Q:LQ}(G:dr Q):dr (zB e M nh p Q):=by
 intro j σ ρ B F O h
 unfold zB at h⊢
 by_cases k:e=j
 ·rw[if_pos k]at h⊢;exact h
 rw[if_neg k]at h⊢;exact G j σ ρ B F O h
theorem bind_mono{f:Ex→Sk→Tr}{Q:LQ}(j:dr Q):dr (λe σ ae J'=>Tr.wp cs (f e σ) ae Q J'):=λ_ _ _ _ _ k h=>Tr.wp_mono k j h
def fM(P:Program)(cs:List Callee)(n:Nat)(w0:World)(I0:aq)(L:List dB)(c:Code)(σ:Sk)(T:Tr):Prop:=
 ∀(ρ:az)(s:St)(Q:LQ)(J:LJ)(Qd:Exit→St→Prop),aH ρ σ s→gQ ρ L→dr Q→T.wp cs ρ Q J →
  (∀e aR ae J',Q e aR ae J'→bS σ.n ρ ae→σ.n≤aR.n→∀s',aH ae aR s'→Qd (kV e) s')→bH P w0 I0 n c s Qd
theorem fM.go{L:List dB}{c:Code}{σ:Sk}{T:Tr}(h:fM P cs n w0 I0 L c σ T){ρ:az}{s:St}{Q:LQ}{J:LJ}{Qd:Exit→St→Prop}(F:aH ρ σ s)(k:gQ ρ L)(B:dr Q)(G:T.wp cs ρ Q J)(j:∀e aR ae J',Q e aR ae J'→bS σ.n ρ ae→σ.n≤aR.n→∀s',aH ae aR s'→Qd (kV e) s'):bH P w0 I0 n c s Qd:=h ρ s Q J Qd F k B G j
theorem gQ.mono{ρ ae:az}{L:List dB}(h:gQ ρ L)(j:Ext ρ ae):gQ ae L:=λx k=>(h x k).mono j
theorem IU{K:St→Prop}{Q:Exit→St→Prop}{e:Ex}(h:e ≠ .normal)(s:St):z8 K Q (kV e) s=Q (kV e) s:=by
 cases e<;>first|rfl|exact absurd rfl h
def de(cs:List Callee)(n0:Nat)(ρ:az)(f:Sk→Tr)(Q:LQ):LQ:=λe aR ae J'=>if e=.normal then(bS n0 ρ ae→n0≤aR.n→∀s',aH ae aR s'→∃k j B F,Sub s' B∧aH j k B∧bS n0 ρ j∧n0≤k.n∧Tr.wp cs (f k) j Q F)else Q e aR ae J'
theorem pA{n0:Nat}{ρ:az}{f:Sk→Tr}{Q:LQ}(F:dr Q):dr (de cs n0 ρ f Q):=by
 intro e σ ae k B G h
 unfold de at h⊢
 by_cases j:e=.normal
 ·rw[if_pos j]at h⊢;exact h
 rw[if_neg j]at h⊢;exact F e σ ae k B G h
theorem Ip{ai n0:Nat}{T:Tr}{f:Sk→Tr}{ρ:az}{Q:LQ}{J:LJ}(al:c7 n0 ρ)(G:dr Q)(j:Tr.wp cs (pB ai n0 T f) ρ Q J):∃k,Tr.wp cs T ρ (de cs n0 ρ f Q) k:=by
 have aj:leaves .normal T=[]→Tr.wp cs T ρ Q J→∃k,Tr.wp cs T ρ (de cs n0 ρ f Q) k:=λZ j=>
  ⟨_,Tr.wp_mono (λ_ _ h=>h) (λe σ ae F O Y h=>by
   unfold de
   rw[if_neg h.1];exact G e σ ae F O Y h.2) (Ow Z G j)⟩
 have ah:Tr.wp cs (pB.tF ai n0 T f) ρ Q J→∃k,Tr.wp cs T ρ (de cs n0 ρ f Q) k:=by
  intro j
  unfold pB.tF at j
  split at j
  ·rename_i Z;exact aj Z j
  split at j
  ·rename_i M ts aw
   cases ab:M.bz n0 ts.length with
   |false=>rw[ab]at j;exact j.elim
   |true=>
    rw[ab]at j
    simp only[cond_true]at j
    have j:=zD (p:=λz=>∃af:(ay ts).den,z=⟨ay ts,af⟩∧Tr.wp cs (f (M.fill (j6 n0 ts.length) (n0+1))) ((n0,⟨ay ts,af⟩)::ρ) Q J) G (λv h=>h) j
    refine⟨_,Tr.wp_mono (λ_ _ h=>h) (λe σ ae F O Y h=>?_) j⟩
    unfold de
    by_cases B:Ex.normal=e
    ·subst B
     rw[if_pos rfl]at h⊢
     obtain⟨xs,v,k1,k2,af,rfl,aq⟩:=h
     intro aa ag s' ad
     obtain⟨av,ar,au⟩:=instS_ok (ρ0:=ρ) ad k1 rfl k2 ab (λi v hi ao=>by rw[←aa i hi];exact ao) al
     exact⟨_,_,av,J,ar,au,bS.push (Nat.le_refl n0) ρ _,Nat.le_succ n0,aq⟩
    rw[if_neg B]at h
    rw[if_neg λan=>B an.symm]
    exact G e σ ae F O Y h
  exact j.elim
 have ak:Tr.wp cs (cZ (λe σ=>match e with |.normal=>f σ|e=>.leaf e σ) T) ρ Q J→∃k,Tr.wp cs T ρ (de cs n0 ρ f Q) k:=by
  intro j
  have j:=fN G j
  refine⟨_,Tr.wp_mono (λ_ _ h=>h) (λe σ ae F O Y h=>?_) j⟩
  unfold de
  by_cases B:e=.normal
  ·subst B
   rw[if_pos rfl]
   exact λaa ag s' ad=>⟨σ,ae,s',F,Sub.refl s',ad,aa,ag,h⟩
  rw[if_neg B]
  cases e with
  |normal=>exact absurd rfl B
  |_=>exact G _ σ ae F O Y h
 unfold pB at j
 split at j
 ·rename_i Z;exact aj Z j
 ·cases U:iP T with
  |true=>rw[U]at j;exact ah j
  |false=>
   rw[U]at j
   simp only[cond_false]at j
   exact ak j
 cases U:(iP T || !lW T||H3 (leaves .normal T))with
 |true=>rw[U]at j;exact ah j
 |false=>
  rw[U]at j
  simp only[cond_false]at j
  exact ak j
theorem Iq{p:Sk→Bool}{au n0:Nat}{T:Tr}{f:Sk→Tr}{ρ:az}{Q:LQ}{J:LJ}(aj:c7 n0 ρ)(F:dr Q)(j:Tr.wp cs (vp p au n0 T f) ρ Q J):∃O,Tr.wp cs T ρ (de cs n0 ρ f Q) O:=by
 unfold vp at j
 cases ak:(leaves .normal T).any p with
 |false=>rw[ak]at j;exact Ip aj F j
 |true=>
  rw[ak]at j
  simp only[cond_true]at j
  have j:=fN F j
  obtain⟨B,ai,j⟩:∃B:LQ,B=_∧Tr.wp cs _ ρ B J:=⟨_,rfl,j⟩
  have Y:dr B:=by rw[ai];exact bind_mono F
  have aa:∀e k ρ J,B (.dF e) k ρ J→Q e k ρ J:=λe k ρ J h=>by rw[ai]at h;exact h
  obtain⟨O,j⟩:=Ip aj Y j
  have ah:=pA (cs:=cs) (n0:=n0) (ρ:=ρ) (f:=λk=>dF (f k)) Y
  have j:=fN ah j
  refine⟨O,Tr.wp_mono (λ_ _ h=>h) (λe σ ae U ax G h=>?_) j⟩
  unfold de
  by_cases Z:e=.normal
  ·subst Z
   rw[if_pos rfl]
   intro af ag s' an
   simp only[]at h
   cases al:p σ with
   |true=>
    rw[al]at h
    simp only[cond_true]at h
    have h:=fN ah h
    refine⟨σ,ae,s',U,Sub.refl s',an,af,ag,Tr.wp_mono (λ_ _ h=>h) (λad k ρ M ao G h=>?_) h⟩
    have h:de cs n0 _ _ B (.dF ad) k ρ M:=h
    unfold de at h
    rw[if_neg (by intro h;cases h)]at h
    exact F _ _ _ _ _ G (aa _ _ _ _ h)
   |false=>
    rw[al]at h
    have h:de cs n0 ρ (λk=>dF (f k)) B .normal σ ae U:=h
    unfold de at h
    rw[if_pos rfl]at h
    obtain⟨k,aw,av,M,k1,k2,aq,ar,ab⟩:=h af ag s' an
    have ab:=fN Y ab
    exact⟨k,aw,av,M,k1,k2,aq,ar,Tr.wp_mono (λ_ _ h=>h) (λad k ρ M ao G h=>F _ _ _ _ _ G (aa _ _ _ _ h)) ab⟩
  rw[if_neg Z]
  have h:de cs n0 ρ (λk=>dF (f k)) B (.dF e) σ ae U:=by
   cases e with
   |normal=>exact absurd rfl Z
   |_=>exact h
  unfold de at h
  rw[if_neg (by intro h;cases h)]at h
  exact F _ _ _ _ _ G (aa _ _ _ _ h)
theorem zM{G n0:Nat}{T:Tr}{f:Sk→Tr}{ρ:az}{Q:LQ}{J:LJ}(B:c7 n0 ρ)(k:dr Q)(F:Tr.wp cs (rG G n0 T f) ρ Q J):∃j,Tr.wp cs T ρ (de cs n0 ρ f Q) j:=Iq B k F
theorem SZ{rs:List Nat}{G n0:Nat}{T:Tr}{f:Sk→Tr}{ρ:az}{Q:LQ}{J:LJ}(B:c7 n0 ρ)(k:dr Q)(F:Tr.wp cs (Io rs G n0 T f) ρ Q J):∃j,Tr.wp cs T ρ (de cs n0 ρ f Q) j:=Iq B k F
theorem S0{L:List dB}{x y:Code}{ak:Nat}{σ:Sk}{T:Tr}{f:Sk→Tr}(ah:fM P cs n w0 I0 L x σ T)(ai:∀k,fM P cs n w0 I0 L y k (f k)):fM P cs n w0 I0 L (x.seq y) σ (rG ak σ.n T f):=by
 intro ρ s Q J Qd G Z B M Y
 obtain⟨aw,M⟩:=zM G.di B M
 refine bH.seq (ah.go G Z (pA B) M λe aR ae J' j O U s' aa=>?_)
 unfold de at j
 by_cases F:e=.normal
 ·subst F
  rw[if_pos rfl]at j
  obtain⟨k,ay,ax,av,k1,k2,ab,ad,aj⟩:=j O U s' aa
  refine bH.sub k1 ((ai k).go k2 (Z.mono (ab.ext G.di)) B aj λe au ar af al an ao aq ag=>?_)
  exact Y e au ar af al (ab.trans an ad) (Nat.le_trans ad ao) aq ag
 rw[if_neg F]at j
 rw[IU F]
 exact Y e aR ae J' j O U s' aa
theorem xR{L:List dB}{x:Code}{ax:Nat}{body:Sk→Tr}(ag:∀an,fM P cs n w0 I0 L x an (body an)):∀(f:Nat)(σ A:Sk),fM P cs n w0 I0 L (.loop x) σ (qq ax σ.n body f σ A)
 |0,σ,A=>λ_ _ _ _ _ _ _ _ j _=>j.elim
 |f+1,σ,A=>by
  intro ρ s Q J Qd G ab Z j aa
  simp only[qq]at j
  split at j
  ·rename_i U B aJ
   split at j
   ·rename_i M ts aI
    split at j
    ·rename_i xs au
     split at j
     ·rename_i aG
      cases Y:U.bz σ.n B.length with
      |false=>rw[Y]at j;exact j.elim
      |true=>
       rw[Y]at j
       simp only[cond_true]at j
       obtain⟨aF,av,m,aj⟩:=j
       generalize al:(λ(again:(ay B).den→Prop)(z:(ay B).den)=>Tr.wp cs (resolve .normal U B.length 0 (body (U.fill (j6 σ.n B.length) (σ.n+1)))) ((σ.n,⟨ay B,z⟩)::ρ) Q (ee (λah=>∃y:(ay B).den,ah=⟨ay B,y⟩∧again y) J))=step at aj
       obtain⟨aD,az,aA⟩:=instS_ok (ρ0:=ρ) G au rfl av Y (λi v _ af=>af) G.di
       refine bH.loop (X:=Nat×(ay B).den×St) (λz=>z.2.2) (λz=>k9 step z.1 z.2.1∧aH ((σ.n,⟨ay B,z.2.1⟩)::ρ) (U.fill (j6 σ.n B.length) (σ.n+1)) z.2.2) (λz=>z.1) (m,aF,aD) ⟨aj,aA⟩ az ?_
       rintro⟨k,z,s1⟩ ⟨F,ao⟩
       cases k with
       |zero=>exact F.elim
       |succ k=>
        have F:step (k9 step k) z:=F
        rw[←al]at F
        have F:=zD (p:=λah=>∃y:(ay B).den,ah=⟨ay B,y⟩∧k9 step k y) Z (λv h=>by rw[al]at h;exact h) F
        refine(ag _).go ao (ab.mono (Ext.push G.di _)) (HV Z) F λe aR ae J' O aq ar s' ak=>?_
        have ai:bS σ.n ρ ae:=(bS.push (Nat.le_refl σ.n) ρ _).trans aq (Nat.le_succ σ.n)
        unfold zB at O
        by_cases ad:Ex.normal=e
        ·subst ad
         rw[if_pos rfl]at O
         obtain⟨aK,v,k1,k2,y,rfl,aw⟩:=O
         obtain⟨aE,aB,aC⟩:=instS_ok (ρ0:=ρ) ak k1 rfl k2 Y (λi v hi af=>by rw[←ai i hi];exact af) G.di
         exact⟨(k,y,aE),⟨aw,aC⟩,Nat.lt_succ_self k,aB⟩
        rw[if_neg ad]at O
        rw[IU (λh=>ad h.symm)]
        exact aa e aR ae J' O ai (Nat.le_trans (Nat.le_succ σ.n) ar) s' ak
     exact(xR ag f σ M).go G ab Z j aa
    exact(xR ag f σ M).go G ab Z j aa
   exact j.elim
  exact j.elim
end
end Go.Sy
namespace Go.Sy
open Go Go.af
variable [au][bK][bB][bV][aL][kO]
section
variable {P:Program}{V:Env}{C:Cx}{cs:List Callee}{n:Nat}{w0:World}{I0:aq}[bu]
theorem Un{L:List dB}{x:Code}{body:Sk→Tr}(aj:∀ab,fM P cs n w0 I0 L x ab (body ab))(m:Nat)(σ:Sk):fM P cs n w0 I0 L (.loop x) σ (An body m σ):=by
 intro ρ s Q J Qd aa Y Z U F a w ah
 refine wpIn_loop_rounds m ?_
 induction m generalizing σ ρ s J a w with
 |zero=>exact U.elim
 |succ m ak=>
  have U:=fN Z U
  rw[roundsIn_succ]
  refine Code.wpIn_mono (λe j w' ⟨s',af,ag⟩=>?_) ((aj σ).go (Qd:=λe s'=>∀j w',Rel w0 I0 n s' j w'→Exit.then (Code.roundsIn ec 0 P x (λe j w'=>∃s',Qd e s'∧Rel w0 I0 n s' j w') m) (λe j w'=>∃s',Qd e s'∧Rel w0 I0 n s' j w') e j w') aa Y (bind_mono Z) U (λe aR ae J' G k B s' O j w' M=>?_) a w ah)
  ·cases e with
   |normal=>exact ak aR ae s' J' O (Y.mono (k.ext aa.di)) G (λe au ar ad al an ao aq ai=>F e au ar ad al (k.trans an B) (Nat.le_trans B ao) aq ai) j w' M
   |ret=>exact⟨s',F .ret _ _ _ G k B s' O,M⟩
   |dF e=>exact⟨s',F (.dF e) _ _ _ G k B s' O,M⟩
   |exit i=>exact⟨s',F (.exit i) _ _ _ G k B s' O,M⟩
  exact af j w' ag
end
end Go.Sy
