import Derived.Test.YtioaemdeeebgcaaGreatDoorX2
import Derived.RangeFuncIn
set_option linter.all false
namespace Go.af
open Go Go.RowKit
variable [aL][bu]
def idx(id:Nat):List Nat→Nat→Option Nat
 | [],_=>none
 |x::xs,k=>if x=id then some k else idx id xs (k+1)
theorem jr{id:Nat}:∀{xs:List Nat}{k j:Nat},idx id xs k=some j→k≤j∧xs[j-k]?=some id
 | [],k,j,h=>by simp[idx]at h
 |x::xs,k,j,h=>by
  simp only[idx]at h
  split at h
  ·rename_i F;cases h;simp[F]
  obtain⟨G,B⟩:=jr h
  refine⟨by omega,?_⟩
  rw[show j-k=(j-(k+1))+1 by omega];simpa using B
def T.data:T→Bool
 |.d _=>true
 |_=>false
def T.flat:T→Bool
 |.d _=>true
 |.ptr _ _=>true
 |.aK _=>true
 |_=>false
def T.nR(ids:List Nat):T→T
 |.ptr id off=>match idx id ids 0 with|some k=>.ptr k off|none=>.undef
 |.aK id=>match idx id ids 0 with|some k=>.aK k|none=>.undef
 |t=>t
def T.cR(ids:List Nat):T→T
 |.ptr id off=>match idx id ids 0 with|some k=>.ptr k off|none=>.undef
 |.row id=>match idx id ids 0 with|some k=>.row k|none=>.undef
 |.aO id k off=>match idx id ids 0 with|some j=>.aO j k off|none=>.undef
 |.map id=>match idx id ids 0 with|some k=>.map k|none=>.undef
 |.aK id=>match idx id ids 0 with|some k=>.aK k|none=>.undef
 |.sub id lo hi=>match idx id ids 0 with|some k=>.sub k lo hi|none=>.undef
 |.bj id n=>match idx id ids 0 with|some k=>.bj k n|none=>.undef
 |.aQ id x=>match idx id ids 0 with|some k=>.aQ k x|none=>.d x
 |.ar g ts=>if ts.all T.flat then .ar g (ts.map (T.nR ids))else .undef
 |.aw _=>.undef
 |.cond _ _=>.undef
 |.agg _=>.undef
 |t=>t
def T.cQ(ids:List Nat):T→T
 |.aw ts=>if ts.all T.data then .aw ts else .undef
 |.cond pc t=>if t.data then .cond pc t else .undef
 |.agg ts=>.agg (ts.map (T.cR ids))
 |t=>t.cR ids
def AO.cQ(ids:List Nat):AO→AO
 |.var ty cs=>.var ty (cs.map (T.cQ ids))
 |.bD ks ts=>.bD ks (ts.map (T.cQ ids))
 |o=>o
def dx(ids:List Nat)(l:List AO):List AO:=ids.map λid=>((l[id]?).getD .dead).cQ ids
theorem rz{ids:List Nat}{l:List AO}{k id:Nat}(h:ids[k]?=some id):(dx ids l)[k]?=some (((l[id]?).getD .dead).cQ ids):=by simp[dx,h]
theorem AO.ky(ids:List Nat)(o:AO):(o.cQ ids).isVar=o.isVar:=by cases o<;>rfl
theorem AO.mh(ids:List Nat)(o:AO):(o.cQ ids).isRow=o.isRow:=by cases o<;>rfl
theorem Ov{ids:List Nat}(h:ids.Nodup):∀{i j a:Nat},ids[i]?=some a→ids[j]?=some a→i=j:=by
 induction ids with
 |nil=>intro i j a hi;simp at hi
 |cons x xs B=>
  intro i j a hi k
  rw[List.nodup_cons]at h
  rcases i with _|i<;>rcases j with _|j
  ·rfl
  ·simp at hi k;subst hi;exact absurd (List.mem_of_getElem? k) h.1
  ·simp at hi k;subst k;exact absurd (List.mem_of_getElem? hi) h.1
  simp at hi k;rw[B h.2 hi k]
section
variable {P:Program}{V:Env}{w0:World}{I0:aq}{n:Nat}{Q:Exit→St→Prop}{s:St}
theorem BA{I:aq}{m m':Nat→Value}{l l':List AO}{v:Value}{t:T}(h:ah I m l v t)(j:t.data=true):ah I m' l' v t:=by
 cases h<;>simp[T.data]at j
 exact .d _ _ (by assumption)
theorem ky{ids:List Nat}{l:List AO}{k id:Nat}(h:ids[k]?=some id):isVar (dx ids l) k=isVar l id:=by
 unfold isVar;rw[rz h];simp only[Option.map_some,Option.getD_some,AO.ky]
 cases l[id]?<;>rfl
theorem mh{ids:List Nat}{l:List AO}{k id:Nat}(h:ids[k]?=some id):isRow (dx ids l) k=isRow l id:=by
 unfold isRow;rw[rz h];simp only[Option.map_some,Option.getD_some,AO.mh]
 cases l[id]?<;>rfl
theorem Sv{ids:List Nat}{l:List AO}{m m':Nat→Value}{q:Nat}(F:∀(k id:Nat),ids[k]?=some id→m' k=m id)(h:bO (dx ids l) q=true):∃B,bO l B=true∧own (m B)=own (m' q):=by
 unfold bO at h
 cases hi:ids[q]? with
 |none=>simp[dx,hi]at h
 |some id=>
  rw[rz hi]at h
  refine⟨id,?_,by rw[F q id hi]⟩
  unfold bO
  cases j:l[id]? with
  |none=>rw[j]at h;simp[AO.cQ,AO.bO]at h
  |some o=>rw[j]at h;cases o<;>simp_all [AO.cQ,AO.bO]
theorem zA{ids:List Nat}{l:List AO}{k id e size:Nat}{els:List D}(h:ids[k]?=some id)(j:(dx ids l)[k]?=some (.row e size els)∨(dx ids l)[k]?=some (.aM e size els)):l[id]?=some (.row e size els)∨l[id]?=some (.aM e size els):=by
 rw[rz h]at j
 cases B:l[id]? with
 |none=>rw[B]at j;simp[AO.cQ]at j
 |some o=>rw[B]at j;cases o<;>simp_all [AO.cQ]
theorem ah.cR{I:aq}{m m':Nat→Value}{l:List AO}{ids:List Nat}(G:∀k id,ids[k]?=some id→m' k=m id){v:Value}{t:T}(h:ah I m l v t):ah I m' (dx ids l) v (t.cR ids):=by
 have aa:∀{k id:Nat},ids[k]?=some id→k<(dx ids l).length:=λh=>by rw[show(dx ids l).length=ids.length by simp[dx]];exact(List.getElem?_eq_some_iff.1 h).1
 cases h with
 |undef=>exact .undef _
 |d v x ae=>exact .d _ _ ae
 |aX s=>exact .aX _
 |ptr id b off F B=>
  simp only[T.cR]
  split
  ·rename_i k j
   have j:=(jr j).2;simp only[Nat.sub_zero]at j
   exact .ptr k b off ((ky j).trans F) ((G k id j).trans B)
  exact .undef _
 |aK id b F B=>
  simp only[T.cR]
  split
  ·rename_i k j
   have j:=(jr j).2;simp only[Nat.sub_zero]at j
   exact .aK k b ((ky j).trans F) ((G k id j).trans B)
  exact .undef _
 |bj id b n c F B O ad=>
  simp only[T.cR]
  split
  ·rename_i k j
   have j:=(jr j).2;simp only[Nat.sub_zero]at j
   exact .bj k b n c ((ky j).trans F) ((G k id j).trans B) O ad
  exact .undef _
 |aS b o size els q off val F B O ad=>exact .aS b o size els q off val F B O ad
 |row A n c id F B=>
  simp only[T.cR]
  split
  ·rename_i k j
   have j:=(jr j).2;simp only[Nat.sub_zero]at j
   exact .row A n c k (aa j) λM=>(G k id j).trans (B ((mh j).symm.trans M))
  exact .undef _
 |aQ A n c id x F B O=>
  simp only[T.cR]
  split
  ·rename_i k j
   have j:=(jr j).2;simp only[Nat.sub_zero]at j
   exact .aQ A n c k x (aa j) (λM=>(G k id j).trans (B ((mh j).symm.trans M))) O
  exact .d _ _ O
 |aO a id q off F B=>
  simp only[T.cR]
  split
  ·rename_i k j
   have j:=(jr j).2;simp only[Nat.sub_zero]at j
   refine .aO a k q off (aa j) λe size els M=>?_
   obtain⟨b,n,c,U,Y⟩:=B e size els (zA j M)
   exact⟨b,n,c,(G k id j).trans U,Y⟩
  exact .undef _
 |sub A n c id lo hi F B=>
  simp only[T.cR]
  split
  ·rename_i k j
   have j:=(jr j).2;simp only[Nat.sub_zero]at j
   refine .sub A n c k lo hi (aa j) λe size els M=>?_
   obtain⟨A0,n0,c0,U,Y⟩:=B e size els (zA j M)
   exact⟨A0,n0,c0,(G k id j).trans U,Y⟩
  exact .undef _
 |map r id F B=>
  simp only[T.cR]
  split
  ·rename_i k j
   have j:=(jr j).2;simp only[Nat.sub_zero]at j
   exact .map r k (aa j) λM=>(G k id j).trans (B ((mh j).symm.trans M))
  exact .undef _
 |aw vs ts F B=>exact .undef _
 |cond v pc t F B=>exact .undef _
 |agg vs ts F B O=>exact .undef _
 |ar g vs ts F B=>
  simp only[T.cR]
  split
  ·rename_i ag
   refine .ar g vs _ (by simpa using F) λi v t aj Z=>?_
   rw[List.getElem?_map]at Z
   cases ab:ts[i]? with
   |none=>rw[ab]at Z;cases Z
   |some t0=>
    rw[ab]at Z;simp at Z;subst Z
    have af:=B i v t0 aj ab
    have ai:=List.all_eq_true.1 ag t0 (List.mem_of_getElem? ab)
    cases af with
    |d v x ae=>exact .d _ _ ae
    |ptr id b off U Y=>
     simp only[T.nR]
     split
     ·rename_i k j
      have j:=(jr j).2;simp only[Nat.sub_zero]at j
      exact .ptr k b off ((ky j).trans U) ((G k id j).trans Y)
     exact .undef _
    |aK id b U Y=>
     simp only[T.nR]
     split
     ·rename_i k j
      have j:=(jr j).2;simp only[Nat.sub_zero]at j
      exact .aK k b ((ky j).trans U) ((G k id j).trans Y)
     exact .undef _
    |_=>simp[T.flat]at ai
  exact .undef _
theorem ah.cQ{I:aq}{m m':Nat→Value}{l:List AO}{ids:List Nat}(F:∀k id,ids[k]?=some id→m' k=m id){v:Value}{t:T}(h:ah I m l v t):ah I m' (dx ids l) v (t.cQ ids):=by
 cases h with
 |aw vs ts M O=>
  simp only[T.cQ]
  split
  ·rename_i Y
   exact .aw vs ts M λi v t aa G=>BA (O i v t aa G) (List.all_eq_true.1 Y t (List.mem_of_getElem? G))
  exact .undef _
 |cond v pc t M O=>
  simp only[T.cQ]
  split
  ·rename_i Y
   exact .cond v pc t (λae=>BA (M ae) Y) O
  exact .undef _
 |agg vs ts M O ad=>
  refine .agg vs _ (by simpa using M) O λi v t aa G=>?_
  rw[List.getElem?_map]at G
  cases Z:ts[i]? with
  |none=>rw[Z]at G;cases G
  |some t0=>
   rw[Z]at G;simp at G;subst G
   exact(ad i v t0 aa Z).cR F
 |undef=>exact .undef _
 |d v x af=>exact .d _ _ af
 |aX s=>exact .aX _
 |ptr id b off j B=>exact ah.cR F (.ptr id b off j B)
 |aS b o size els q off val j B U ab=>exact ah.cR F (.aS b o size els q off val j B U ab)
 |row A n c id j B=>exact ah.cR F (.row A n c id j B)
 |aQ A n c id x j B U=>exact ah.cR F (.aQ A n c id x j B U)
 |aO a id q off j B=>exact ah.cR F (.aO a id q off j B)
 |map r id j B=>exact ah.cR F (.map r id j B)
 |aK id b j B=>exact ah.cR F (.aK id b j B)
 |bj id b n c j B U ab=>exact ah.cR F (.bj id b n c j B U ab)
 |sub A n c id lo hi j B=>exact ah.cR F (.sub A n c id lo hi j B)
 |ar g vs ts j B=>exact ah.cR F (.ar g vs ts j B)
def na(ids:List Nat)(s:Tm):Tm→Prop
 | []=>True
 | (i,t)::r=>(get s i).cQ ids=t∧na ids s r
theorem w9{ids:List Nat}{s:Tm}:∀{r:Tm},na ids s r→∀k,get r k=.undef∨get r k=(get s k).cQ ids
 | [],_,k=>.inl rfl
 | (i,t)::r,h,k=>by
  simp only[get]
  by_cases hi:i=k
  ·subst hi;rw[if_pos rfl];exact .inr h.1.symm
  rw[if_neg hi];exact w9 h.2 k
theorem av.H2{w0 w:World}{I0 I:aq}{m:Nat→Value}{l:List AO}(U:av w0 I0 w I m l)(e size:Nat):∃m',av w0 I0 w I m' (l++[.row e size []])∧Le I m l I m' (l++[.row e size []])∧m' l.length=.slice none 0 0:=by
 let m':Nat→Value:=λk=>if k=l.length then .slice none 0 0 else m k
 have M:∀k,k<l.length→m' k=m k:=λk an=>by simp only[m'];rw[if_neg (by omega)]
 have al:∀id,id<l.length→isVar (l++[.row e size []]) id=isVar l id:=λid hid=>by unfold isVar;rw[List.getElem?_append_left hid]
 have ak:∀id,id<l.length→isRow (l++[.row e size []]) id=isRow l id:=λid hid=>by unfold isRow;rw[List.getElem?_append_left hid]
 have F:Le I m l I m' (l++[.row e size []]):=by
  refine⟨.refl I,by simp,λid hid ah=>⟨(al id hid).trans ah,M id hid⟩,λid hid ah=>⟨(ak id hid).symm.trans ah,M id hid⟩,λid au s' els hid aA=>⟨els,?_⟩⟩
  rwa [List.getElem?_append_left hid]at aA
 have af:m' l.length=.slice none 0 0:=by simp[m']
 refine⟨m',⟨U.below,U.sat,U.ext,λid o B=>?_,λi k b az hi an=>?_⟩,F,af⟩
 ·rcases Nat.lt_or_ge id l.length with hid|hid
  ·rw[List.getElem?_append_left hid]at B
   have:=U.obj id o B
   rw[M id hid]
   cases o with
   |dead=>trivial
   |var ty cs=>
    obtain⟨b,vs,Y,Z,aa,ab,O,ad⟩:=this
    exact⟨b,vs,Y,Z,aa,ab,λi x t ao ag=>⟨(O i x t ao ag).1.mono F,(O i x t ao ag).2⟩,ad⟩
   |row e size els=>exact this
   |aM e size els=>exact this
   |map ks vs=>exact this
   |cU ks vs=>exact this
   |aU au aC ks vs op=>exact dh.gm (λq G=>(oR G).elim (λh=>⟨q,h.2,by rw[M q h.1]⟩) λh=>by cases h.2) this
   |iter ks vs done=>exact this
   |bD ks ts=>
    obtain⟨b,aw,ai,Y,Z,aa,ab,O,ad,aB⟩:=this
    exact⟨b,aw,ai,Y,Z,aa,ab,O,λi e t ay ag=>(ad i e t ay ag).mono F,aB⟩
   |frame b vals t=>exact⟨this.1,Nat.le_trans this.2.1 F.len,λj=>(this.2.2 j).mono (F.take b)⟩
   |loop b n ps aP body t st cP=>
    obtain⟨ar,r,ai,Y,Z,aa,ab,O,ad⟩:=this
    exact⟨ar,r,ai,Y,Z,aa,Nat.le_trans ab F.len,λj=>(O j).mono (F.take b),ad⟩
  rw[List.getElem?_append_right hid]at B
  have ax:id-l.length=0:=by
   cases G:id-l.length with
   |zero=>rfl
   |succ q=>rw[G]at B;simp at B
  rw[ax]at B;simp at B;subst B
  have:id=l.length:=by omega
  subst this
  rw[af]
  exact⟨[],⟨by simp,.inl ⟨rfl,rfl⟩⟩,by simp,by simp,by simp[own]⟩
 intro ae
 have aj:∀q,alive (l++[.row e size []]) q=true→(q<l.length∧alive l q=true)∨q=l.length:=λq G=>by
  rcases Nat.lt_or_ge q l.length with h|h
  ·refine .inl ⟨h,?_⟩;unfold alive at G⊢;rwa [al q h,ak q h]at G
  obtain⟨o,B,_⟩:=bg.1 G
  have:=(List.getElem?_eq_some_iff.1 B).1
  simp at this;right;omega
 rcases aj i hi with ⟨i1,i2⟩|rfl
 ·rcases aj k an with ⟨k1,k2⟩|rfl
  ·rw[M i i1]at ae;rw[M k k1];exact U.sep i k b az i2 k2 ae
  rw[af];simp[own]
 rw[af]at ae;simp[own]at ae
theorem Sub.oq(j e size:Nat){z:Nat}(aB:get s.t j=.aX z):Sub s ⟨(j,.row s.l.length)::s.t,s.l++[.row e size []]⟩:=by
 intro w0 I0 n a w aD
 obtain⟨ax,I,m,U,ay,al⟩:=aD
 let m':Nat→Value:=λk=>if k=s.l.length then .slice none 0 0 else m k
 have M:∀k,k<s.l.length→m' k=m k:=λk Y=>by simp only[m'];rw[if_neg (by omega)]
 have ao:∀id,id<s.l.length→isVar (s.l++[.row e size []]) id=isVar s.l id:=λid hid=>by unfold isVar;rw[List.getElem?_append_left hid]
 have an:∀id,id<s.l.length→isRow (s.l++[.row e size []]) id=isRow s.l id:=λid hid=>by unfold isRow;rw[List.getElem?_append_left hid]
 have F:Le I m s.l I m' (s.l++[.row e size []]):=by
  refine⟨.refl I,by simp,λid hid ai=>⟨(ao id hid).trans ai,M id hid⟩,λid hid ai=>⟨(an id hid).symm.trans ai,M id hid⟩,λid au s' els hid aC=>⟨els,?_⟩⟩
  rwa [List.getElem?_append_left hid]at aC
 have ag:m' s.l.length=.slice none 0 0:=by simp[m']
 refine⟨ax,I,m',⟨U.below,U.sat,U.ext,λid o B=>?_,λi k b aA hi Y=>?_⟩,ay,λk=>?_⟩
 ·rcases Nat.lt_or_ge id s.l.length with hid|hid
  ·rw[List.getElem?_append_left hid]at B
   have:=U.obj id o B
   rw[M id hid]
   cases o with
   |dead=>trivial
   |var ty cs=>
    obtain⟨b,vs,Z,aa,ab,ad,O,ae⟩:=this
    exact⟨b,vs,Z,aa,ab,ad,λi x t aq ah=>⟨(O i x t aq ah).1.mono F,(O i x t aq ah).2⟩,ae⟩
   |row e size els=>exact this
   |aM e size els=>exact this
   |map ks vs=>exact this
   |cU ks vs=>exact this
   |aU au aF ks vs op=>exact dh.gm (λq G=>(oR G).elim (λh=>⟨q,h.2,by rw[M q h.1]⟩) λh=>by cases h.2) this
   |iter ks vs done=>exact this
   |bD ks ts=>
    obtain⟨b,av,aj,Z,aa,ab,ad,O,ae,aE⟩:=this
    exact⟨b,av,aj,Z,aa,ab,ad,O,λi e t az ah=>(ae i e t az ah).mono F,aE⟩
   |frame b vals t=>exact⟨this.1,Nat.le_trans this.2.1 F.len,λj=>(this.2.2 j).mono (F.take b)⟩
   |loop b n ps aP body t st cP=>
    obtain⟨ar,r,aj,Z,aa,ab,ad,O,ae⟩:=this
    exact⟨ar,r,aj,Z,aa,ab,Nat.le_trans ad F.len,λj=>(O j).mono (F.take b),ae⟩
  rw[List.getElem?_append_right hid]at B
  have aw:id-s.l.length=0:=by
   cases G:id-s.l.length with
   |zero=>rfl
   |succ q=>rw[G]at B;simp at B
  rw[aw]at B;simp at B;subst B
  have:id=s.l.length:=by omega
  subst this
  rw[ag]
  exact⟨[],⟨by simp,.inl ⟨rfl,rfl⟩⟩,by simp,by simp,by simp[own]⟩
 ·intro af
  have ak:∀q,alive (s.l++[.row e size []]) q=true→(q<s.l.length∧alive s.l q=true)∨q=s.l.length:=λq G=>by
   rcases Nat.lt_or_ge q s.l.length with h|h
   ·refine .inl ⟨h,?_⟩;unfold alive at G⊢;rwa [ao q h,an q h]at G
   obtain⟨o,B,_⟩:=bg.1 G
   have:=(List.getElem?_eq_some_iff.1 B).1
   simp at this;right;omega
  rcases ak i hi with ⟨i1,i2⟩|rfl
  ·rcases ak k Y with ⟨k1,k2⟩|rfl
   ·rw[M i i1]at af;rw[M k k1];exact U.sep i k b aA i2 k2 af
   rw[ag];simp[own]
  rw[ag]at af;simp[own]at af
 simp only[get]
 by_cases Y:j=k
 ·subst Y
  rw[if_pos rfl]
  have:=al j
  rw[aB]at this
  generalize a.tmps.getD j undef=v at this
  cases this
  exact .row none 0 0 _ (by simp) λ_=>ag
 rw[if_neg Y];exact(al k).mono F
theorem Sub.JI(id k e size:Nat){ty:TypeId}{cs:List T}{z:Nat}(U:s.l[id]?=some (.var ty cs))(ai:cs[k]?=some (.aX z)):Sub s ⟨s.t,(s.l++[AO.row e size []]).set id (.var ty (cs.set k (.row s.l.length)))⟩:=by
 intro w0 I0 n a w an
 obtain⟨ad,I,m,af,ae,ag⟩:=an
 obtain⟨m',aa,ak,al⟩:=af.H2 e size
 have ah:=(List.getElem?_eq_some_iff.1 U).1
 have G:(s.l++[AO.row e size []])[id]?=some (.var ty cs):=by rw[List.getElem?_append_left ah];exact U
 have F:Le I m' (s.l++[AO.row e size []]) I m' ((s.l++[AO.row e size []]).set id (.var ty (cs.set k (.row s.l.length)))):=Le.setKind G rfl rfl (λe size els h=>by rcases h with h|h<;>cases h)
 obtain⟨b,vs,Y,ao,aq,ar,O,Z⟩:=aa.obj id _ G
 refine⟨ad,I,m',aa.je G (by simp) (b:=b) (by rw[Y];rfl) Z rfl rfl F rfl rfl rfl (Nat.le_refl _) (Nat.le_refl _) (λ_ _=>rfl) ⟨b,vs,Y,ao,aq,by simpa using ar,λi x t M B=>?_,Z⟩,ae,λj=>((ag j).mono ak).mono F⟩
 rw[List.getElem?_set]at B
 split at B
 ·rename_i aj
  subst aj
  split at B
  ·injection B with B;subst B
   have:=O k x _ M ai
   refine⟨?_,this.2⟩
   have ab:=this.1
   cases ab
   exact .row none 0 0 _ (by simp) λ_=>al
  cases B
 exact⟨(O i x t M B).1.mono F,(O i x t M B).2⟩
end
end Go.af
namespace Go.af
open Go Go.RowKit
class dK(α:Type) where
 enc:α→D
 dec:D→α
 size:Nat
 BD:∀a,dec (enc a)=a
 len:∀a,(enc a).cells.length=size
 uf:∀a,∀x∈(enc a).cells,x.one=true
open dK
instance:dK Int:=⟨λn=>.int .i64 n,λd=>match d with |.int _ n=>n|_=>0,1,λ_=>rfl,λ_=>rfl,by simp[D.cells,D.one]⟩
instance:dK Bool:=⟨λn=>.bool n,λd=>match d with |.bool n=>n|_=>false,1,λ_=>rfl,λ_=>rfl,by simp[D.cells,D.one]⟩
instance:dK ByteArray:=⟨λn=>.str n,λd=>match d with |.str n=>n|_=>⟨#[]⟩,1,λ_=>rfl,λ_=>rfl,by simp[D.cells,D.one]⟩
theorem NY{α:Type}[dK α](xs:List α):(xs.map (enc:α→D)).map dec=xs:=by
 induction xs with
 |nil=>rfl
 |cons x xs j=>simp only[List.map_cons,j,BD]
instance {α:Type} [dK α]:dK (List α):=⟨λxs=>.slice (size α) (xs.map enc),λd=>match d with |.slice _ els=>els.map dec|_=>[],1,NY,λ_=>rfl,by simp[D.cells,D.one]⟩
structure Fn where
 f:FuncId
instance:dK Fn:=⟨λn=>.fn n.f,λd=>match d with |.fn f=>⟨f⟩|_=>⟨0⟩,1,λ_=>rfl,λ_=>rfl,by simp[D.cells,D.one]⟩
theorem sV{α:Type}[dK α](xs:List α):enc xs=.slice (size α) (xs.map enc):=rfl
variable [aL][bu]
section
variable {P:Program}{g:FuncId}
end
section
variable {P:Program}{w0:World}{I0:aq}{n:Nat}{Q:Exit→St→Prop}{s:St}{x y z:Code}
def ej(j:List Nat)(t:Tm):Tm:=j.map λk=>(k,get t k)
end
end Go.af
namespace Go.af
open Go Go.RowKit dK
variable [aL][bu]
def aa{α β:Type}(o:Option α)(f:α→Option β):Option β:=match o with|some x=>f x|none=>none
def aW{β:Type}(p:Prop)[Decidable p](o:Option β):Option β:=if p then o else none
def ab{β:Type}(c:Bool)(a b:Option β):Option β:=match c with|true=>a|false=>b
def lZ(n:Int):Prop:= -9223372036854775808≤n∧n≤9223372036854775807
instance (n:Int):Decidable (lZ n):=inferInstanceAs (Decidable (_∧_))
def aA{α:Type}(l:List α)(i:Int):Option α:=if 0≤i then l[i.toNat]? else none
theorem MY{β:Type}(c:Bool)(a b:Option β):ab c a b=if c=true then a else b:=by cases c<;>rfl
theorem cg{α β:Type}(x:α)(f:α→Option β):aa (some x) f=f x:=rfl
def fu{σ ρ:Type}(step:σ→Option (σ⊕ρ)):Nat→σ→Option ρ
 |0,_=>none
 |n+1,z=>match step z with
  |some (.inl j)=>fu step n j
  |some (.inr r)=>some r
  |none=>none
theorem xy{σ ρ:Type}{step:σ→Option (σ⊕ρ)}{r:ρ}:∀{n m:Nat}{z:σ},n≤m→fu step n z=some r→fu step m z=some r
 |0,_,_,_,h=>by cases h
 |n+1,0,_,hm,_=>by omega
 |n+1,m+1,z,hm,h=>by
  simp only[fu]at h⊢
  split at h<;>try (first|exact h|cases h)
  exact xy (by omega) h
open Classical in
noncomputable def cd{σ ρ:Type}(step:σ→Option (σ⊕ρ))(z:σ):Option ρ:=if h:∃n r,fu step n z=some r then some (Classical.choose (Classical.choose_spec h))else none
theorem tP{σ ρ:Type}{step:σ→Option (σ⊕ρ)}{z:σ}{n:Nat}{r:ρ}(h:fu step n z=some r):cd step z=some r:=by
 have j:∃n r,fu step n z=some r:=⟨n,r,h⟩
 unfold cd
 rw[dif_pos j]
 have B:=Classical.choose_spec (Classical.choose_spec j)
 have k:=xy (Nat.le_max_left n (Classical.choose j)) h
 have F:=xy (Nat.le_max_right n (Classical.choose j)) B
 rw[F]at k;exact k
theorem tQ{σ ρ:Type}{step:σ→Option (σ⊕ρ)}{z:σ}{r:ρ}(h:cd step z=some r):∃n,fu step n z=some r:=by
 unfold cd at h
 split at h
 ·rename_i k
  have j:=Classical.choose_spec (Classical.choose_spec k)
  cases h
  exact⟨_,j⟩
 cases h
theorem C1{σ ρ:Type}(step:σ→Option (σ⊕ρ))(z:σ):cd step z=match step z with|some (.inl F)=>cd step F|some (.inr r)=>some r|none=>none:=by
 cases B:step z with
 |none=>
  cases k:cd step z with
  |none=>rfl
  |some r=>
   obtain⟨n,j⟩:=tQ k
   cases n with
   |zero=>cases j
   |succ n=>simp only[fu,B]at j;cases j
 |some x=>
  cases x with
  |inr r=>exact tP (n:=1) (by simp only[fu,B])
  |inl F=>
   simp only
   cases k:cd step F with
   |some r=>
    obtain⟨n,j⟩:=tQ k
    exact tP (n:=n+1) (by simp only[fu,B];exact j)
   |none=>
    cases G:cd step z with
    |none=>rfl
    |some r=>
     obtain⟨n,j⟩:=tQ G
     cases n with
     |zero=>cases j
     |succ n=>
      simp only[fu,B]at j
      rw[tP j]at k;cases k
theorem xQ{σ ρ:Type}{step:σ→Option (σ⊕ρ)}{z j:σ}(h:step z=some (.inl j)):cd step z=cd step j:=by rw[C1,h]
theorem nv{σ ρ:Type}{step:σ→Option (σ⊕ρ)}{z:σ}{r:ρ}(h:step z=some (.inr r)):cd step z=some r:=by rw[C1,h]
section
variable {P:Program}{V:Env}{w0:World}{I0:aq}{n:Nat}{Q:Exit→St→Prop}{s s':St}{x y:Code}
end
section
end
section
variable {P:Program}{g:FuncId}
end
end Go.af
namespace Go.Sy
open Go Go.af
inductive Ty where
 |int (k:IntKind)
 |bool
 |str
 |st (i:Nat)
 |list (t:Ty)
 |map (k v:Ty)
 |fn (f:Nat)
 |ar (f:Nat) (t:Ty)
 |aa (f:Nat) (t:Ty)
 |box (t:Ty)
 |self (f:Nat)
 |cI (c:Nat) (t:Ty)
 |fns (fs:List Nat)
 |aw (a b:Ty)
 |unit
 deriving DecidableEq,Inhabited
class bQ where
 cu:Nat→Type
def Ty.den[bQ]:Ty→Type
 |.int _=>Int
 |.bool=>Bool
 |.str=>ByteArray
 |.st i=>bQ.cu i
 |.list t=>List t.den
 |.map k v=>List (k.den×v.den)
 |.fn _=>Unit
 |.ar _ t=>t.den
 |.aa _ t=>t.den
 |.box t=>t.den
 |.self _=>Unit
 |.cI _ t=>Option t.den
 |.fns _=>Nat
 |.aw a b=>a.den×b.den
 |.unit=>Unit
def ay:List Ty→Ty
 | []=>.unit
 | [t]=>t
 |t::u::ts=>.aw t (ay (u::ts))
abbrev V[bQ]:=(t:Ty)×t.den
abbrev az[bQ]:=List (Nat×V)
def lk[bQ]:az→Nat→Option V
 | [],_=>none
 | (j,v)::r,i=>bif Nat.beq j i then some v else lk r i
def bZ[bQ](t:Ty)(v:V):Option t.den:=if h:v.1=t then some (h▸v.2)else none
class au extends bQ where
 bC:Nat→List Ty
 sz:Nat→Nat
 un:∀i,cu i→(ay (bC i)).den
 du:∀i,(ay (bC i)).den→cu i
 cells:∀i,cu i→List D
 lF:∀i x,un i (du i x)=x
 x7:∀i x,du i (un i x)=x
 dP:Nat→Option (List Int)
 cI:Nat×Ty:=(0,.unit)
variable [au]
def Ty.size:Ty→Nat
 |.st i=>au.sz i
 |_=>1
def dV(fs:List Nat)(n:Nat):D:=match n with
 |0=>.eV
 |n+1=>match fs[n]? with|some f=>.fn f|none=>.eV
def Ty.cH:(t:Ty)→t.den→D×List D
 |.int k,n=>(.int k n,[.int k n])
 |.bool,b=>(.bool b,[.bool b])
 |.str,s=>(.str s,[.str s])
 |.st i,x=>(.agg (au.cells i x),[.agg (au.cells i x)])
 |.list t,xs=>(.slice t.size (List.map (λx=>(t.cH x).1) xs),[.slice t.size (List.map (λx=>(t.cH x).1) xs)])
 |.map k v,m=>(.map (List.map (λp=>(k.cH p.1).1) m) (List.map (λp=>(v.cH p.2).1) m),[.map (List.map (λp=>(k.cH p.1).1) m) (List.map (λp=>(v.cH p.2).1) m)])
 |.fn f,_=>(.fn f,[.fn f])
 |.ar f t,x=>(.ar f (t.cH x).2,[.ar f (t.cH x).2])
 |.aa f t,x=>(.aa f (t.cH x).1,[.aa f (t.cH x).1])
 |.box t,x=>(.box (t.cH x).1,[.box (t.cH x).1])
 |.self f,_=>(.self f,[.self f])
 |.cI c t,x=>(match x with|none=>.fH|some y=>.iface c (t.cH y).1,[match x with|none=>.fH|some y=>.iface c (t.cH y).1])
 |.fns fs,n=>(dV fs n,[dV fs n])
 |.aw a b,x=>(.aw ((a.cH x.1).1::(b.cH x.2).2),(a.cH x.1).1::(b.cH x.2).2)
 |.unit,_=>(.aw [],[])
def Ty.enc(t:Ty)(x:t.den):D:=(t.cH x).1
inductive U1 where
 |not
 |neg (k:IntKind)
 |len
 |tM
 |CT
 |lZ
 |conv (k:IntKind)
 |fit (b:Nat)
 |fst
 |snd
 |unbox
 |Ai
 |Dt (f:Nat)
 |Jj
 |Dq (c:Nat)
 |qD (c:Nat) (t:Ty)
 |isNil
 |runes
 |te
 deriving DecidableEq
inductive U2 where
 |add (k:IntKind)
 |sub (k:IntKind)
 |mul (k:IntKind)
 |quo (k:IntKind)
 |rem (k:IntKind)
 |lt
 |le
 |aj
 |wG
 |wI
 |wJ (i:Nat)
 |and
 |B9
 |cat
 |cons
 |app
 |take
 |drop
 |byte
 |max
 |min
 |qy
 |tU
 |rep
 |pP (k:IntKind)
 |shr (k:IntKind)
 deriving DecidableEq
inductive U3 where
 |set
 |o6
 |l7
 deriving DecidableEq
inductive X where
 |var (i:Nat)
 |hole (p:Nat)
 |int (k:IntKind) (n:Int)
 |bool (b:Bool)
 |str (s:List UInt8)
 |nil (t:Ty)
 |gG (k v:Ty)
 |unit
 |fn (f:Nat)
 |pair (a b:X)
 |ar (f:Nat) (x:X)
 |box (x:X)
 |self (f:Nat)
 |oG (fs:List Nat) (n:Nat)
 |proj (i j:Nat) (x:X)
 |mk (i:Nat) (x:X)
 |u1 (o:U1) (x:X)
 |u2 (o:U2) (x y:X)
 |u3 (o:U3) (x y z:X)
 deriving Inhabited
def iH(k:IntKind)(n:Int):Int:=match k with
 |.i64=>n
 |k=>k.wrap n
abbrev ai(a b:Int):Bool:=decide (a<b)
abbrev aB(a b:Int):Bool:=decide (a≤b)
abbrev aj(a b:Int):Bool:=decide (a=b)
abbrev an(a:Int):Bool:=decide (af.lZ a)
abbrev jz(a:Int):Int:=0-a
def kC(s:ByteArray):List Int:=(Conv.runesFrom s s.size 0 #[]).toList.map λv=>match v with |.int _ n=>n|_=>0
def dp:U1→V→Option V
 |.not,⟨.bool,b⟩=>some ⟨.bool,!b⟩
 |.neg k,⟨.int _,n⟩=>some ⟨.int k,iH k (jz n)⟩
 |.len,⟨.list _,xs⟩=>some ⟨.int .i64,(List.length xs:Int)⟩
 |.tM,⟨.str,s⟩=>some ⟨.int .i64,(ByteArray.size s:Int)⟩
 |.CT,⟨.map _ _,m⟩=>some ⟨.int .i64,(List.length m:Int)⟩
 |.lZ,⟨.int _,n⟩=>some ⟨.bool,an n⟩
 |.conv k,⟨.int _,n⟩=>some ⟨.int k,k.wrap n⟩
 |.fit b,⟨.list _,xs⟩=>some ⟨.bool,decide (List.length xs*b≤140737488355328∧List.length xs≤9223372036854775807)⟩
 |.fst,⟨.aw a _,x⟩=>some ⟨a,x.1⟩
 |.snd,⟨.aw _ b,x⟩=>some ⟨b,x.2⟩
 |.unbox,⟨.box t,x⟩=>some ⟨t,x⟩
 |.Ai,⟨.ar _ t,x⟩=>some ⟨t,x⟩
 |.Dt f,⟨t,x⟩=>some ⟨.aa f t,x⟩
 |.Jj,⟨.aa _ t,x⟩=>some ⟨t,x⟩
 |.Dq c,⟨t,x⟩=>some ⟨.cI c t,(some x:Option t.den)⟩
 |.qD c t,⟨.unit,_⟩=>some ⟨.cI c t,(none:Option t.den)⟩
 |.runes,⟨.str,s⟩=>some ⟨.list (.int .i32),kC s⟩
 |.te,⟨.fns _,n⟩=>some ⟨.int .i64,Int.ofNat n⟩
 |.isNil,⟨.cI _ t,x⟩=>some ⟨.bool,Option.isNone (α:=t.den) x⟩
 |_,_=>none
def sA(s:ByteArray)(n:Int):Int:=sy s n.toNat
def dO{α:Type}(m:List (Int×α))(k:Int):Bool:=m.any λp=>p.1 == k
def aZ{α:Type}(m:List (Int×α))(k:Int)(d:α):α:=((m.find? λp=>p.1 == k).map (·.2)).getD d
def bc{α:Type}:List (Int×α)→Int→α→List (Int×α)
 | [],k,v=>[(k,v)]
 |p::m,k,v=>if p.1=k then(k,v)::m else p::bc m k v
def oZ{α:Type}:List (Int×α)→Int→List (Int×α)
 | [],_=>[]
 |p::m,k=>if p.1=k then m else p::oZ m k
def j0(t:Ty)(a b:t.den):Bool:=fe (t.enc a) (t.enc b)
def ku(t:Ty){α:Type}(m:List (t.den×α))(k:t.den):Bool:=m.any λp=>j0 t k p.1
def jy(t:Ty){α:Type}(m:List (t.den×α))(k:t.den)(d:α):α:=((m.find? λp=>j0 t k p.1).map (·.2)).getD d
def iV(t:Ty){α:Type}:List (t.den×α)→t.den→α→List (t.den×α)
 | [],k,v=>[(k,v)]
 |p::m,k,v=>if j0 t k p.1=true then(p.1,v)::m else p::iV t m k v
def ko(t:Ty){α:Type}:List (t.den×α)→t.den→List (t.den×α)
 | [],_=>[]
 |p::m,k=>if j0 t k p.1=true then m else p::ko t m k
def o5:(t:Ty)→{α:Type}→List (t.den×α)→t.den→Bool
 |.int _,_,m,k=>dO m k
 |t,_,m,k=>ku t m k
def kr:(t:Ty)→{α:Type}→List (t.den×α)→t.den→α→α
 |.int _,_,m,k,d=>aZ m k d
 |t,_,m,k,d=>jy t m k d
def fR:(t:Ty)→{α:Type}→List (t.den×α)→t.den→α→List (t.den×α)
 |.int _,_,m,k,v=>bc m k v
 |t,_,m,k,v=>iV t m k v
def l6:(t:Ty)→{α:Type}→List (t.den×α)→t.den→List (t.den×α)
 |.int _,_,m,k=>oZ m k
 |t,_,m,k=>ko t m k
def bF:U2→V→V→Option V
 |.add k,⟨.int _,a⟩,⟨.int _,b⟩=>some ⟨.int k,iH k (Int.add a b)⟩
 |.sub k,⟨.int _,a⟩,⟨.int _,b⟩=>some ⟨.int k,iH k (Int.sub a b)⟩
 |.mul k,⟨.int _,a⟩,⟨.int _,b⟩=>some ⟨.int k,iH k (Int.mul a b)⟩
 |.quo k,⟨.int _,a⟩,⟨.int _,b⟩=>some ⟨.int k,Int.tdiv a b⟩
 |.rem k,⟨.int _,a⟩,⟨.int _,b⟩=>some ⟨.int k,Int.tmod a b⟩
 |.lt,⟨.int _,a⟩,⟨.int _,b⟩=>some ⟨.bool,ai a b⟩
 |.le,⟨.int _,a⟩,⟨.int _,b⟩=>some ⟨.bool,aB a b⟩
 |.aj,⟨.int _,a⟩,⟨.int _,b⟩=>some ⟨.bool,aj a b⟩
 |.wG,⟨.bool,a⟩,⟨.bool,b⟩=>some ⟨.bool,BEq.beq (α:=Bool) a b⟩
 |.wI,⟨.str,a⟩,⟨.str,b⟩=>some ⟨.bool,BEq.beq (α:=ByteArray) a b⟩
 |.wJ i,u,v=>match bZ (.st i) u,bZ (.st i) v with
  |some a,some b=>some ⟨.bool,dL (au.cells i a) (au.cells i b)⟩
  |_,_=>none
 |.and,⟨.bool,a⟩,⟨.bool,b⟩=>some ⟨.bool,and a b⟩
 |.B9,⟨.str,a⟩,⟨.str,b⟩=>some ⟨.bool,decide ((ByteArray.size a:Int)+(ByteArray.size b:Int)≤9223372036854775807)⟩
 |.cons,u,⟨.list t,xs⟩=>match bZ t u with
  |some x=>some ⟨.list t,List.cons x xs⟩
  |none=>none
 |.cat,⟨.str,a⟩,⟨.str,b⟩=>some ⟨.str,ByteArray.append a b⟩
 |.app,⟨.list t,xs⟩,v=>match bZ (.list t) v with
  |some ys=>some ⟨.list t,List.append xs ys⟩
  |none=>none
 |.take,⟨.list t,xs⟩,⟨.int _,n⟩=>some ⟨.list t,List.take (Int.toNat n) xs⟩
 |.drop,⟨.list t,xs⟩,⟨.int _,n⟩=>some ⟨.list t,List.drop (Int.toNat n) xs⟩
 |.byte,⟨.str,s⟩,⟨.int _,n⟩=>some ⟨.int .u8,sA s n⟩
 |.max,⟨.int k,a⟩,⟨.int _,b⟩=>some ⟨.int k,Max.max (α:=Int) a b⟩
 |.min,⟨.int k,a⟩,⟨.int _,b⟩=>some ⟨.int k,Min.min (α:=Int) a b⟩
 |.qy,⟨.map t _,m⟩,u=>match bZ t u with
  |some k=>some ⟨.bool,o5 t m k⟩
  |none=>none
 |.tU,⟨.map t v,m⟩,u=>match bZ t u with
  |some k=>some ⟨.map t v,l6 t m k⟩
  |none=>none
 |.rep,⟨.int _,n⟩,⟨t,x⟩=>some ⟨.list t,List.replicate (Int.toNat n) x⟩
 |.pP k,⟨.int _,a⟩,⟨.int _,b⟩=>some ⟨.int k,pP k a b⟩
 |.shr k,⟨.int _,a⟩,⟨.int _,b⟩=>some ⟨.int k,pD k a b⟩
 |_,_,_=>none
def mC:U3→V→V→V→Option V
 |.set,⟨.list t,xs⟩,⟨.int _,n⟩,v=>match bZ t v with
  |some y=>some ⟨.list t,List.set xs (Int.toNat n) y⟩
  |none=>none
 |.o6,⟨.map t v,m⟩,u,w=>match bZ t u,bZ v w with
  |some k,some y=>some ⟨.map t v,fR t m k y⟩
  |_,_=>none
 |.l7,⟨.map t v,m⟩,u,w=>match bZ t u,bZ v w with
  |some k,some y=>some ⟨v,kr t m k y⟩
  |_,_=>none
 |_,_,_,_=>none
def bX:(ts:List Ty)→(ay ts).den→Nat→Option V
 | [],_,_=>none
 | [t],x,0=>some ⟨t,x⟩
 | [_],_,_+1=>none
 |t::_::_,x,0=>some ⟨t,x.1⟩
 |_::u::ts,x,j+1=>bX (u::ts) x.2 j
def X.den(ρ:az):X→Option V
 |.var i=>lk ρ i
 |.hole _=>none
 |.int k n=>some ⟨.int k,n⟩
 |.bool b=>some ⟨.bool,b⟩
 |.str s=>some ⟨.str,⟨⟨s⟩⟩⟩
 |.nil t=>some ⟨.list t,([]:List t.den)⟩
 |.gG k v=>some ⟨.map k v,([]:List (k.den×v.den))⟩
 |.unit=>some ⟨.unit,()⟩
 |.fn f=>some ⟨.fn f,()⟩
 |.pair a b=>match a.den ρ,b.den ρ with
  |some u,some v=>some ⟨.aw u.1 v.1,(u.2,v.2)⟩
  |_,_=>none
 |.ar f x=>match x.den ρ with
  |some v=>some ⟨.ar f v.1,v.2⟩
  |none=>none
 |.box x=>match x.den ρ with
  |some v=>some ⟨.box v.1,v.2⟩
  |none=>none
 |.self f=>some ⟨.self f,()⟩
 |.oG fs n=>some ⟨.fns fs,n⟩
 |.proj i j x=>match x.den ρ with
  |some v=>match bZ (.st i) v with
   |some a=>bX (au.bC i) (au.un i a) j
   |none=>none
  |none=>none
 |.mk i x=>match x.den ρ with
  |some v=>match bZ (ay (au.bC i)) v with
   |some a=>some ⟨.st i,au.du i a⟩
   |none=>none
  |none=>none
 |.u1 o x=>match x.den ρ with
  |some u=>dp o u
  |none=>none
 |.u2 o x y=>match x.den ρ,y.den ρ with
  |some u,some v=>bF o u v
  |_,_=>none
 |.u3 o x y z=>match x.den ρ,y.den ρ,z.den ρ with
  |some u,some v,some w=>mC o u v w
  |_,_,_=>none
end Go.Sy
namespace Go.Sy
open Go Go.af
def X.beq:X→X→Bool
 |.var i,.var j=>Nat.beq i j
 |.hole i,.hole j=>Nat.beq i j
 |.int k n,.int F U=>decide (k=F)&&decide (n=U)
 |.bool b,.bool c=>b == c
 |.str s,.str t=>decide (s=t)
 |.nil t,.nil u=>decide (t=u)
 |.gG k v,.gG F Y=>decide (k=F)&&decide (v=Y)
 |.unit,.unit=>true
 |.fn f,.fn g=>Nat.beq f g
 |.pair a b,.pair c d=>X.beq a c&&X.beq b d
 |.ar f x,.ar g y=>Nat.beq f g&&X.beq x y
 |.box x,.box y=>X.beq x y
 |.self f,.self g=>Nat.beq f g
 |.oG fs n,.oG gs m=>decide (fs=gs)&&Nat.beq n m
 |.proj i j x,.proj B O y=>Nat.beq i B&&Nat.beq j O&&X.beq x y
 |.mk i x,.mk B y=>Nat.beq i B&&X.beq x y
 |.u1 o x,.u1 o' y=>decide (o=o')&&X.beq x y
 |.u2 o x y,.u2 o' G M=>decide (o=o')&&X.beq x G&&X.beq y M
 |.u3 o x y z,.u3 o' G M Z=>decide (o=o')&&X.beq x G&&X.beq y M&&X.beq z Z
 |_,_=>false
inductive TX where
 |undef
 |gone
 |d (t:Ty) (x:X)
 |aX (s:Nat)
 |cV
 |ptr (id off:Nat)
 |aS (t:Ty) (e:X) (off:Nat)
 |row (id:Nat)
 |aO (id:Nat) (k:X) (off:Nat)
 |map (id:Nat)
 |aK (id:Nat)
 |aQ (id:Nat) (t:Ty) (x:X)
 |agg (cs:List TX)
 |aw (ts:List TX)
 |ar (f:Nat) (ts:List TX)
 |bj (id n:Nat)
 |sub (id:Nat) (lo hi:X)
 deriving Inhabited
inductive Ex where
 |normal
 |ret
 |exit (id:Nat)
 |dF (e:Ex)
 deriving DecidableEq
inductive Ls where
 |ready
 |busy
 |done (e:Ex)
 deriving DecidableEq
inductive AX where
 |dead
 |var (ty:TypeId) (cs:List TX)
 |row (fr:Bool) (e:TypeId) (t:Ty) (x:X)
 |map (fr:Bool) (k v:Ty) (x:X)
 |aU (e:TypeId) (kk:Ty) (t:Ty) (x:X)
 |eg (e:TypeId) (kk:Ty) (t:Ty) (x k:X)
 |bD (kk:IntKind) (ks:List Int) (ts:List TX)
 |cr (j base:Nat) (refs:List Nat)
 |lp (j base:Nat) (refs:List Nat) (st:Ls)
 |cO
 deriving Inhabited
structure Sk where
 n:Nat
 t:List (Nat×TX)
 l:List AX
 deriving Inhabited
def aD:List (Nat×TX)→Nat→TX
 | [],_=>.undef
 | (i,t)::r,k=>bif Nat.beq i k then t else aD r k
structure gp where
 f:FuncId
 args:List Ty
 res:List Ty
inductive NS where
 |eH (t:Ty)
 |nil (size:Nat)
def eW:List NS→List Ty
 | []=>[]
 |.eH t::r=>t::eW r
 |.nil _::r=>eW r
structure pN where
 f:FuncId
 args:List Ty
 sh:List NS
 k:Nat
structure gr where
 f:FuncId
 t:Ty
 args:List Ty
 k:Nat
structure Cx where
 E:bN
 ty:TypeId→Option Ty
 eqs:TypeId→Option (List Lf)
 nt:Nat
 sigs:List gp
 iN:List (Nat×Func)
 dep:Nat
 fJ:Bool
 xi:List Nat
 turns:List gr
 yg:List pN:=[]
 rb:Nat:=0
 lits:Bool:=false
 gen:Bool:=false
inductive Tr where
 |leaf (e:Ex) (σ:Sk)
 |out (k:Nat) (x:X)
 |aW (x:X) (t:Tr)
 |get (v:Nat) (xs k:X) (t:Tr)
 |call (v c:Nat) (x:X) (t:Tr)
 |cK (c:X) (a b:Tr)
 |dw (x:X) (a b:Tr)
 |join (ty:Ty) (v:Nat) (a b:Tr)
 |loop (ty:Ty) (v:Nat) (init:X) (body:Tr)
 |bad (jL:Nat)
 deriving Inhabited
inductive Ins where
 |aW (x:X)
 |get (xs k:X)
 |call (c:Nat) (x:X)
 |prog (ty:Ty) (t:Tr)
inductive rY where
 |none
 |new (a:AX)
 |aC (l:List AX)
structure bL where
 ins:List Ins
 t:TX
 bM:rY
variable [au]
def dJ:List X→X
 | []=>.unit
 | [x]=>x
 |x::y::r=>.pair x (dJ (y::r))
def oJ:X→X
 |.pair a _=>a
 |x=>.u1 .fst x
def pE:X→X
 |.pair _ b=>b
 |x=>.u1 .snd x
def ln:Nat→Nat→X→X
 |0,_,x=>x
 |1,_,x=>x
 |_+2,0,x=>oJ x
 |n+2,j+1,x=>ln (n+1) j (pE x)
def pj(i j:Nat)(x:X):X:=match x with
 |.mk k y=>bif Nat.beq i k then ln (au.bC i).length j y else .proj i j x
 |x=>.proj i j x
def mM(i:Nat)(x:X):Nat→List X→Bool
 |_,[]=>true
 |j,.proj k B y::r=>Nat.beq i k&&Nat.beq j B&&X.beq x y&&mM i x (j+1) r
 |_,_=>false
def lT(i:Nat)(xs:List X):X:=match xs with
 |.proj j 0 x::r=>bif Nat.beq i j&&mM i x 1 r&&Nat.beq (r.length+1) (au.bC i).length then x else .mk i (dJ xs)
 |_=>.mk i (dJ xs)
def mR(g:Ty→X→Option (List (Ty×X)))(i:Nat)(x:X):List Ty→Nat→Option (List (Ty×X))
 | [],_=>some []
 |t::ts,j=>match g t (pj i j x),mR g i x ts (j+1)with
  |some a,some b=>some (a++b)
  |_,_=>none
def eu:Nat→Ty→X→Option (List (Ty×X))
 |0,_,_=>none
 |f+1,.st i,x=>mR (eu f) i x (au.bC i) 0
 |_+1,t,x=>some [(t,x)]
def eP:Nat:=9
def oN(g:Nat):List Nat→Nat→Option Nat
 | [],_=>none
 |f::r,k=>bif Nat.beq f g then some k else oN g r (k+1)
def p8(t u:Ty):Option X:=match t,u with
 |.fns fs,.fn g=>(oN g fs 0).map λk=>.oG fs (k+1)
 |_,_=>none
def nB(g:Ty→List (Ty×X)→Option (X×List (Ty×X))):List Ty→List (Ty×X)→Option (List X×List (Ty×X))
 | [],cs=>some ([],cs)
 |t::ts,cs=>match g t cs with
  |some (x,r)=>match nB g ts r with
   |some (xs,j)=>some (x::xs,j)
   |none=>none
  |none=>none
def iU:Nat→Ty→List (Ty×X)→Option (X×List (Ty×X))
 |0,_,_=>none
 |f+1,.st i,cs=>match nB (iU f) (au.bC i) cs with
  |some (xs,r)=>some (lT i xs,r)
  |none=>none
 |_+1,t,(u,x)::r=>if t=u then some (x,r)else(p8 t u).map λy=>(y,r)
 |_+1,_,[]=>none
def qz(t:Ty)(cs:List (Ty×X)):Option X:=match iU eP t cs with
 |some (x,[])=>some x
 |_=>none
def oz:TX→Option (Ty×X)
 |.d t x=>some (t,x)
 |_=>none
def bE:Ty→Bool
 |.st _=>true
 |_=>false
def qK:TX→Bool
 |.d t _=>!bE t
 |.aX _=>true
 |.cV=>true
 |.ptr _ _=>true
 |.aS _ _ _=>true
 |.row _=>true
 |.aO _ _ _=>true
 |.map _=>true
 |.aK _=>true
 |.bj _ _=>true
 |.aQ _ _ _=>true
 |.ar _ _=>true
 |_=>false
def fP:TX→Option (List TX)
 |.d t x=>(eu eP t x).map (·.map λp=>.d p.1 p.2)
 |.agg cs=>some cs
 |.undef=>none
 |.gone=>none
 |.aw _=>none
 |t=>some [t]
def mP(t:TX):Option (List TX):=match fP t with
 |some cs=>bif cs.all qK then some cs else none
 |none=>none
def nC(t:Ty)(cs:List TX):Option TX:=
 bif bE t then(match cs.mapM oz with
  |some ds=>(qz t ds).map (.d t ·)
  |none=>some (.agg cs))
 else(match cs with| [c]=>some c|_=>none)
def iD:Nat→Ty→Option X
 |0,_=>none
 |_+1,.int k=>some (.int k 0)
 |_+1,.bool=>some (.bool false)
 |_+1,.str=>some (.str [])
 |_+1,.list t=>some (.nil t)
 |_+1,.map k v=>some (.gG k v)
 |_+1,.cI c t=>some (.u1 (.qD c t) .unit)
 |_+1,.fns fs=>some (.oG fs 0)
 |f+1,.st i=>((au.bC i).mapM (iD f)).map λxs=>.mk i (dJ xs)
 |_,_=>none
def rW(p:Ty×X):TX:=match p with
 | (.list t,x)=>(match x with |.nil u=>(if t=u then .aX t.size else .undef)|_=>.undef)
 | (t,x)=>.d t x
def zeroCells(t:Ty):Option (List TX):=match iD eP t with
 |some x=>(eu eP t x).map (·.map rW)
 |none=>none
def fo(l:List AX)(t:Ty):TX→Option (X×List AX)
 |.d u x=>if t=u then some (x,l)else(p8 t u).map λy=>(y,l)
 |.aX s=>match t with
  |.list u=>bif Nat.beq s u.size then some (.nil u,l)else none
  |_=>none
 |.cV=>match t with
  |.map k v=>some (.gG k v,l)
  |_=>none
 |.row id=>match l[id]? with
  |some (.row fr e u x)=>if t=.list u then some (x,bif fr then l else l.set id (.row true e u x))else none
  |_=>none
 |.aQ _ u x=>if t=.list u then some (x,l)else none
 |.map id=>match l[id]? with
  |some (.map fr k v x)=>if t=.map k v then some (x,bif fr then l else l.set id (.map true k v x))else none
  |_=>none
 |_=>none
def gP:Nat→List AX→List Ty→List TX→Option (List X×List TX×List AX)
 |0,_,_,_=>none
 |_+1,l,[],cs=>some ([],cs,l)
 |f+1,l,t::ts,cs=>match t with
  |.st i=>match gP f l (au.bC i) cs with
   |some (xs,r,l1)=>match gP f l1 ts r with
    |some (ys,k,j)=>some (lT i xs::ys,k,j)
    |none=>none
   |none=>none
  |t=>match cs with
   | []=>none
   |c::cs=>match fo l t c with
    |some (x,l1)=>match gP f l1 ts cs with
     |some (ys,r,j)=>some (x::ys,r,j)
     |none=>none
    |none=>none
def iB(l:List AX)(t:Ty)(x:TX):Option (X×List AX):=match x with
 |.agg cs=>match t with
  |.st i=>match gP 60 l (au.bC i) cs with
   |some (xs,[],l')=>some (lT i xs,l')
   |_=>none
  |_=>none
 |x=>fo l t x
def eJ(l:List AX):List Ty→List TX→Option (List X×List AX)
 | [],[]=>some ([],l)
 |t::ts,x::xs=>match iB l t x with
  |some (y,l1)=>match eJ l1 ts xs with
   |some (ys,j)=>some (y::ys,j)
   |none=>none
  |none=>none
 |_,_=>none
def wy:Value→TX
 |.bool b=>.d .bool (.bool b)
 |.int k n=>.d (.int k) (.int k n)
 |.string s=>.d .str (.str s.data.toList)
 |.slice none 0 0=>.aX 0
 |.map none=>.cV
 |.nilIface=>.d (.cI au.cI.1 au.cI.2) (.u1 (.qD au.cI.1 au.cI.2) .unit)
 |_=>.undef
def dE(t:List (Nat×TX)):Operand→TX
 |.tmp k=>aD t k
 |.const v=>wy v
 |.func f=>.d (.fn f) (.fn f)
 |.global _=>.undef
def yd:X→X
 |.bool b=>.bool (!b)
 |x=>.u1 .not x
def c6(t:TX):Option bL:=some ⟨[],t,.none⟩
def nX(E:bN)(t:TypeId):TX→TX
 |.aX _=>.aX (BJ E t)
 |x=>x
def rH(l:List TX)(off:Nat)(xs:List TX):List TX:=l.take off++xs++l.drop (off+xs.length)
def mc(u:Ty)(e:X)(off:Nat)(t:Ty):Option TX:=
 bif Nat.beq off 0&&decide (t=u)then some (.d t e)else
 bif Nat.beq off 0&&Nat.beq t.size u.size&&(bE t != bE u)then none else
 match eu eP u e with
 |some cs=>bif Nat.ble (off+t.size) cs.length then(qz t ((cs.drop off).take t.size)).map (.d t ·)else none
 |none=>none
def cF:Ty→Bool
 |.aw _ _=>false
 |.unit=>false
 |_=>true
def fy:TX→TX
 |.d (.box u) x=>bif cF u then(match x with
  |.box e=>.aS u e 0
  |x=>.aS u (.u1 .unbox x) 0)else .undef
 |.d (.self f) _=>.aS (.ar f (.self f)) (.ar f (.self f)) 0
 |t=>t
def xP(C:Cx)(ty:TypeId)(l:List AX)(n:Nat)(a:TX):Option bL:=
 match C.ty ty with
 |none=>match a,C.E ty with
  |.aS u e off,some i=>bif Nat.beq i.size u.size&&(i.desc.agg == bE u)&&cF u then(mc u e off u).map λv=>⟨[],v,.none⟩else none
  |.ptr id off,some i=>match l[id]? with
   |some (.var _ cs)=>bif Nat.beq i.size 1 then(cs[off]?).map λv=>⟨[],bif i.desc.agg then .agg [v]else v,.none⟩else none
   |_=>none
  |_,_=>none
 |some t=>match a with
  |.ptr id off=>match l[id]? with
   |some (.var _ cs)=>bif Nat.ble (off+t.size) cs.length then(nC t ((cs.drop off).take t.size)).map λv=>⟨[],v,.none⟩else none
   |_=>none
  |.aS u e off=>(mc u e off t).map λv=>⟨[],v,.none⟩
  |.aO id k off=>match l[id]? with
   |some (.row _ _ u x)=>(mc u (.var n) off t).map λv=>⟨[.get x k],v,.none⟩
   |_=>none
  |_=>none
def zR(C:Cx)(ty:TypeId)(l:List AX)(n:Nat)(a v:TX):Option bL:=
 match C.ty ty,mP v with
 |some t,some vs=>bif Nat.beq vs.length t.size&&Nat.ble 1 vs.length then
  match a with
  |.ptr id off=>match l[id]? with
   |some (.var j cs)=>bif Nat.ble (off+vs.length) cs.length then some ⟨[],.undef,.aC (l.set id (.var j (rH cs off vs)))⟩else none
   |_=>none
  |.aO id k off=>match l[id]?,v with
   |some (.row false e u x),.d B F=>
    if off=0∧B=u then some ⟨[.get x k],.undef,.aC (l.set id (.row false e u (.u3 .set x k F)))⟩
    else match eu eP u (.var n),eu eP B F with
     |some cs,some ds=>bif Nat.ble (off+ds.length) cs.length && !(Nat.beq off 0&&Nat.beq ds.length cs.length)then(qz u (cs.take off++ds++cs.drop (off+ds.length))).map λy=>⟨[.get x k],.undef,.aC (l.set id (.row false e u (.u3 .set x k y)))⟩else none
     |_,_=>none
   |_,_=>none
  |_=>none
  else none
 |none,some [y]=>match a with
  |.ptr id off=>match l[id]? with
   |some (.var j cs)=>bif Nat.beq (aE C.E ty) 1&&Nat.ble (off+1) cs.length then some ⟨[],.undef,.aC (l.set id (.var j (rH cs off [y])))⟩else none
   |_=>none
  |_=>none
 |_,_=>none
def wR(C:Cx)(s:TypeId)(f:Nat)(a:TX):Option bL:=
 match C.E s with
 |some ⟨_,_,_,.struct fs⟩=>match fs[f]? with
  |some p=>bif Nat.ble 1 (aE C.E p.2)then
   match a with
   |.ptr id off=>c6 (.ptr id (off+p.1))
   |.aS u e off=>c6 (.aS u e (off+p.1))
   |.aO id k off=>c6 (.aO id k (off+p.1))
   |_=>none
   else none
  |none=>none
 |_=>none
def wS(C:Cx)(s:TypeId)(f:Nat)(a:TX):Option bL:=
 match C.E s,a with
 |some ⟨_,_,_,.struct fs⟩,.d u e=>match fs[f]? with
  |some p=>match C.ty p.2 with
   |some t=>bif bE u&&Nat.ble 1 t.size then(mc u e p.1 t).map λv=>⟨[],v,.none⟩else none
   |none=>none
  |none=>none
 |_,_=>none
def iX(n:Int):X:=.int .i64 n
def tN(l:List Int):X:=match l with
 | []=>.nil (.int .i64)
 |x::xs=>.u2 .cons (iX x) (tN xs)
def xu(C:Cx)(t:TypeId)(g:Nat)(n:Nat)(i:TX):Option bL:=
 match C.E t,au.dP g,i with
 |some ⟨_,_,_,.array len e⟩,some l,.d (.int _) k=>bif Nat.beq len l.length&&Nat.beq (aE C.E e) 1&&Nat.ble 2 len&&(C.E e).isSome then some ⟨[.get (tN l) k],.aS (.int .i64) (.var n) 0,.none⟩else none
 |_,_,_=>none
def gX(k n:X):X:=.u2 .and (.u2 .le (iX 0) k) (.u2 .lt k n)
def ff(x:X):X:=.u1 .len x
def xv(C:Cx)(t:TypeId)(l:List AX)(n:Nat)(a i:TX):Option bL:=
 match C.E t,i with
 |some ⟨_,_,_,.slice e⟩,.d (.int _) k=>match a with
  |.d (.list u) xs=>bif Nat.beq (aE C.E e) u.size&&Nat.ble 1 u.size&&cF u then some ⟨[.get xs k],.aS u (.var n) 0,.none⟩else none
  |.row id=>match l[id]? with
   |some (.row _ _ u xs)=>bif Nat.beq (aE C.E e) u.size&&Nat.ble 1 u.size then some ⟨[.aW (gX k (ff xs))],.aO id k 0,.none⟩else none
   |_=>none
  |_=>none
 |_,_=>none
def vq(xs:X)(lo hi:Option TX):Option (List Ins×X):=
 match lo,hi with
 |none,none=>some ([],xs)
 |some (.d (.int _) a),none=>some ([.aW (.u2 .and (.u2 .le (iX 0) a) (.u2 .le a (ff xs)))],.u2 .drop xs a)
 |none,some (.d (.int _) b)=>some ([.aW (.u2 .and (.u2 .le (iX 0) b) (.u2 .le b (ff xs)))],.u2 .take xs b)
 |some (.d (.int _) a),some (.d (.int _) b)=>some ([.aW (.u2 .and (.u2 .le (iX 0) a) (.u2 .and (.u2 .le a b) (.u2 .le b (ff xs))))],.u2 .drop (.u2 .take xs b) a)
 |_,_=>none
def pQ(k:IntKind)(x:X):List Ins:=match k with
 |.i64=>[.aW (.u1 .lZ x)]
 |_=>[]
def CV:Lf→Ty→Bool
 |.bool,.bool=>true
 |.int k,.int j=>decide (k=j)
 |.str,.str=>true
 |_,_=>false
def nm:List Lf→List (Ty×X)→Bool
 | [],[]=>true
 |a::r,p::s=>CV a p.1&&nm r s
 |_,_=>false
def wL(C:Cx)(ty:TypeId)(i:Nat)(a b:X):Bool:=match C.eqs ty,eu eP (.st i) a,eu eP (.st i) b with
 |some ls,some p,some q=>nm ls p&&nm ls q && !decide (ls=[.bool])
 |_,_,_=>false
def Dz(C:Cx)(ty:TypeId)(op:BinOp)(y:Operand)(a b:TX):Option TX:=match y,a,b with
 |.const .nilIface,.d (.cI _ _) e,.d (.cI _ _) (.u1 (.qD _ _) .unit)=>bif qm C.E ty then(match op with
  |.eql=>some (.d .bool (.u1 .isNil e))
  |.neq=>some (.d .bool (.u1 .not (.u1 .isNil e)))
  |_=>none)else none
 |_,_,_=>none
def x5(C:Cx)(c:TypeId)(a:TX):Option bL:=match C.E c,a with
 |some ⟨_,_,_,.struct _⟩,.d (.st i) e=>c6 (.d (.cI c (.st i)) (.u1 (.Dq c) e))
 |_,_=>none
def A4(C:Cx)(ty:TypeId)(op:BinOp):TX→TX→Option (List Ins×TX)
 |.d (.int k) a,.d (.int B) b=>
  if k≠B then(match op with |.shr=>some ([.aW (.u2 .le (.int B 0) b)],.d (.int k) (.u2 (.shr k) a b))|_=>none)else
  match op with
  |.shr=>some ([.aW (.u2 .le (.int B 0) b)],.d (.int k) (.u2 (.shr k) a b))
  |.and=>some ([],.d (.int k) (.u2 (.pP k) a b))
  |.add=>some (pQ k (.u2 (.add k) a b),.d (.int k) (.u2 (.add k) a b))
  |.sub=>some (pQ k (.u2 (.sub k) a b),.d (.int k) (.u2 (.sub k) a b))
  |.mul=>some (pQ k (.u2 (.mul k) a b),.d (.int k) (.u2 (.mul k) a b))
  |.quo=>(match k with |.i64=>some ([.aW (.u1 .not (.u2 .aj b (iX 0))),.aW (.u1 .lZ (.u2 (.quo k) a b))],.d (.int k) (.u2 (.quo k) a b))|_=>none)
  |.rem=>some ([.aW (.u1 .not (.u2 .aj b (.int k 0)))],.d (.int k) (.u2 (.rem k) a b))
  |.eql=>some ([],.d .bool (.u2 .aj a b))
  |.neq=>some ([],.d .bool (.u1 .not (.u2 .aj a b)))
  |.lss=>some ([],.d .bool (.u2 .lt a b))
  |.leq=>some ([],.d .bool (.u2 .le a b))
  |.gtr=>some ([],.d .bool (.u2 .lt b a))
  |.geq=>some ([],.d .bool (.u2 .le b a))
  |_=>none
 |.d .bool a,.d .bool b=>bif decide (C.eqs ty=some [.bool])then(match op with
  |.eql=>some ([],.d .bool (.u2 .wG a b))
  |.neq=>some ([],.d .bool (.u1 .not (.u2 .wG a b)))
  |_=>none)else none
 |.d .str a,.d .str b=>match op with
  |.eql=>some ([],.d .bool (.u2 .wI a b))
  |.neq=>some ([],.d .bool (.u1 .not (.u2 .wI a b)))
  |.add=>some ([.aW (.u2 .B9 a b)],.d .str (.u2 .cat a b))
  |_=>none
 |.d (.st i) a,.d (.st j) b=>bif Nat.beq i j&&wL C ty i a b then(match op with
  |.eql=>some ([],.d .bool (.u2 (.wJ i) a b))
  |.neq=>some ([],.d .bool (.u1 .not (.u2 (.wJ i) a b)))
  |_=>none)else none
 |_,_=>none
def w8:X→X
 |.u2 .lt (.int _ a) (.int _ b)=>.bool (ai a b)
 |.u2 .le (.int _ a) (.int _ b)=>.bool (aB a b)
 |.u2 .aj (.int _ a) (.int _ b)=>.bool (aj a b)
 |.u1 .not (.u2 .aj (.int _ a) (.int _ b))=>.bool (!aj a b)
 |.u2 (.add k) (.int _ a) (.int _ b)=>.int k (iH k (Int.add a b))
 |.u2 (.sub k) (.int _ a) (.int _ b)=>.int k (iH k (Int.sub a b))
 |x=>x
def w7:TX→TX
 |.d t x=>.d t (w8 x)
 |t=>t
def pf(j:Nat→Option (Nat×Nat))(cells:List TX):List (Nat×TX)→Option (List TX)
 | []=>some cells
 | (i,t)::rest=>match j i,mP t with
  |some (off,size),some vs=>bif Nat.beq vs.length size&&Nat.ble (off+size) cells.length then pf j (rH cells off vs) rest else none
  |_,_=>none
def np(t:Ty):List X→X
 | []=>.nil t
 |x::xs=>.u2 .cons x (np t xs)
def km(C:Cx)(t:TypeId):Option (Ty×Ty):=match C.ty t with
 |some (.map k v)=>some (k,v)
 |_=>none
def tT(l:List AX)(k v:Ty):TX→Option X
 |.d (.map j B) x=>if k=j∧v=B then some x else none
 |.cV=>some (.gG k v)
 |.map id=>match l[id]? with
  |some (.map _ j B x)=>if k=j∧v=B then some x else none
  |some (.aU _ kk t x)=>if k=kk∧v=.list t then some x else none
  |_=>none
 |_=>none
def bytesOf(E:bN)(e:TypeId):Nat:=match E e with|some i=>i.bytes|none=>0
def xc(l:List AX)(id:Nat):Bool:=match l[id]? with
 |some (.row fr _ _ _)=>fr
 |_=>false
def vX(C:Cx)(t:TypeId)(l:List AX)(nid:Nat)(s x:TX):Option bL:=
 match C.E t,C.ty t with
 |some ⟨_,_,_,.slice e⟩,some (.list u)=>
  match iB l (.list u) x with
  |some (
      y,l1)=>match s with
   |.aX _=>some ⟨[.aW (.u1 (.fit (bytesOf C.E e)) y)],.row nid,.aC (l1++[.row false e u y])⟩
   |.row id=>match l1[id]? with
    |some (.row fr j k z)=>if j=e∧k=u then(bif Nat.beq nid l1.length&&(xc l id == fr)then
      some ⟨[.aW (.u1 (.fit (bytesOf C.E e)) (.u2 .app z y))],.row nid,.aC (l1.set id .dead++[.row fr e u (.u2 .app z y)])⟩else none)else none
    |_=>none
   |_=>none
  |none=>none
 |_,_=>none
def xC(C:Cx)(t:TypeId)(l:List AX)(x:TX):Option bL:=
 match C.E t,x with
 |some ⟨_,_,_,.string⟩,.d .str s=>c6 (.d (.int .i64) (.u1 .tM s))
 |some ⟨_,_,_,.slice _⟩,.d (.list _) xs=>c6 (.d (.int .i64) (.u1 .len xs))
 |some ⟨_,_,_,.slice _⟩,.aX _=>c6 (.d (.int .i64) (iX 0))
 |some ⟨_,_,_,.slice _⟩,.row id=>match l[id]? with
  |some (.row _ _ _ xs)=>c6 (.d (.int .i64) (.u1 .len xs))
  |_=>none
 |some ⟨_,_,_,.map _ _⟩,x=>match km C t with
  |some (k,v)=>(tT l k v x).map λm=>⟨[],.d (.int .i64) (.u1 .CT m),.none⟩
  |none=>none
 |_,_=>none
def isLit:TX→Option Bool
 |.d .bool (.bool b)=>some b
 |_=>none
def kT:Ty→X→Option (List TX)
 |.aw a b,x=>bif cF a then(match kT b (pE x)with|some r=>some (.d a (oJ x)::r)|none=>none)else none
 |.unit,_=>some []
 |t,x=>some [.d t x]
def gU:TX→Option (FuncId×List TX)
 |.ar g ts=>some (g,ts)
 |.d (.fn g) _=>some (g,[])
 |.d (.ar g t) (.ar _ x)=>(kT t x).map λr=>(g,r)
 |.d (.ar g t) x=>(kT t (.u1 .Ai x)).map λr=>(g,r)
 |_=>none
def lU(l:List AX)(g:FuncId)(ts:List TX):List gp→Nat→Option (Nat×List X×List AX×gp)
 | [],_=>none
 |s::r,k=>bif Nat.beq s.f g then(match eJ l s.args ts with
   |some (xs,l')=>some (k,xs,l',s)
   |none=>lU l g ts r (k+1))else lU l g ts r (k+1)
def fU(E:bN):List TypeId→List TX→List TX
 |t::ts,x::xs=>nX E t x::fU E ts xs
 |_,xs=>xs
def jE(v:X):List Ty→TX
 | []=>.aw []
 | [t]=>.d t v
 |ts=>.aw (jW ts.length v ts 0)
where jW (n:Nat) (v:X):List Ty→Nat→List TX
 | [],_=>[]
 |t::ts,j=>.d t (ln n j v)::jW n v ts (j+1)
def qG(n:Nat)(v:X):List NS→Nat→List TX
 | [],_=>[]
 |.eH t::r,j=>.d t (ln n j v)::qG n v r (j+1)
 |.nil s::r,j=>.aX s::qG n v r j
def qg(l:List AX)(g:FuncId)(ts:List TX):List pN→Option (pN×List X×List AX)
 | []=>none
 |s::r=>bif Nat.beq s.f g then(match eJ l s.args ts with
   |some (xs,l')=>some (s,xs,l')
   |none=>qg l g ts r)else qg l g ts r
def sD(C:Cx)(l:List AX)(n:Nat)(g:FuncId)(ts:List TX):Option bL:=
 match qg l g ts C.yg with
 |some (s,xs,l')=>some ⟨[.call s.k (dJ xs)],.agg (qG (eW s.sh).length (.var n) s.sh 0),.aC l'⟩
 |none=>none
def tg(g:FuncId)(A R:List Ty):List gp→Nat→Option Nat
 | [],_=>none
 |s::r,k=>bif Nat.beq s.f g&&decide (s.args=A)&&decide (s.res=R)then some k else tg g A R r (k+1)
def Ap(n:Nat)(x a:X):List Nat→Nat→Tr
 | [],_=>.bad 42
 | [k],j=>.aW (.u2 .aj (.u1 .te x) (.int .i64 (Int.ofNat j))) (.call n k a (.out 0 (.var n)))
 |k::B::r,j=>.cK (.u2 .aj (.u1 .te x) (.int .i64 (Int.ofNat j))) (.call n k a (.out 0 (.var n))) (Ap n x a (B::r) (j+1))
def Ao(C:Cx)(l:List AX)(n:Nat)(fs:List Nat)(x:X)(ts:List TX):Option bL:=match fs with
 | []=>none
 |g::_=>match lU l g ts C.sigs 0 with
  |some (_,xs,l',s)=>match fs.mapM (λg=>tg g s.args s.res C.sigs 0)with
   |some ks=>some ⟨[.prog (ay s.res) (Ap n x (dJ xs) ks 1)],jE (.var n) s.res,.aC l'⟩
   |none=>none
  |none=>none
def pW(C:Cx)(l:List AX)(n:Nat)(g:FuncId)(ts:List TX):Option bL:=
 match lU l g ts C.sigs 0 with
 |some (k,xs,l',s)=>some ⟨[.call k (dJ xs)],jE (.var n) s.res,.aC l'⟩
 |none=>none
def lV(l:List AX)(g:FuncId)(t:Ty)(ts:List TX):List gr→Option (gr×List X×List AX)
 | []=>none
 |s::r=>if s.t=t then(bif Nat.beq s.f g then(match eJ l s.args ts with
   |some (xs,l')=>some (s,xs,l')
   |none=>lV l g t ts r)else lV l g t ts r)else lV l g t ts r
def mY(l:List AX)(g:FuncId)(ts:List TX):List gr→Option (gr×List X×List AX)
 | []=>none
 |s::r=>bif Nat.beq s.f g then(match eJ l s.args ts with
   |some (xs,l')=>some (s,xs,l')
   |none=>mY l g ts r)else mY l g ts r
def Af(C:Cx)(l:List AX)(n:Nat)(g:FuncId):List TX→Option bL
 |.row id::ts=>match l[id]? with
  |some (.row false e t x)=>match lV l g t ts C.turns with
   |some (s,xs,l')=>match l'[id]? with
    |some (.row false j t' B)=>if j=e∧t'=t then some ⟨[.call s.k (dJ (B::xs))],.aw [],.aC (l'.set id (.row false e t (.var n)))⟩else none
    |_=>none
   |none=>none
  |_=>none
 |.aX _::ts=>match mY l g ts C.turns with
  |some (s,xs,l')=>some ⟨[.call s.k (dJ (.nil s.t::xs))],.aw [],.aC (l'++[.row false 0 s.t (.var n)])⟩
  |none=>none
 |_=>none
def gi(C:Cx)(t:TypeId)(k:Ty):Bool:=match C.E t with
 |some ⟨_,_,_,.map kt _⟩=>(match tH C.E kt,k with
  |some (.int kk),.int j=>decide (kk=j)
  |some (.arr n kk),.st i=>decide (au.bC i=List.replicate n (.int kk))
  |some .str,.str=>true
  |_,_=>false)
 |_=>false
def uD(C:Cx)(t:TypeId)(l:List AX)(m k x:TX):Option bL:=match km C t,m,k with
 |some (kt,v),.map id,.d F key=>match iB l v x with
  |some (y,l1)=>match l1[id]? with
   |some (.map false j B G)=>if kt=F∧j=kt∧v=B then(bif gi C t kt then some ⟨[],.undef,.aC (l1.set id (.map false j B (.u3 .o6 G key y)))⟩else none)else none
   |_=>none
  |none=>none
 |_,_,_=>none
def wC(C:Cx)(t:TypeId)(l:List AX)(m k:TX):Option bL:=match km C t,m,k with
 |some (kt,v),.map id,.d F key=>match l[id]? with
  |some (.map false j B G)=>if kt=F∧j=kt∧v=B then(bif gi C t kt then some ⟨[],.aw [],.aC (l.set id (.map false j B (.u2 .tU G key)))⟩else none)else none
  |_=>none
 |_,_,_=>none
def xV(C:Cx)(t:TypeId)(l:List AX)(nid:Nat)(a b:TX):Option bL:=match C.E t,C.ty t,a,b with
 |some ⟨_,_,_,.slice e⟩,some (.list u),.d (.int _) n,.d (.int _) c=>(match iD eP u with
  |some z=>bif X.beq n c then some ⟨[.aW (.u2 .le (iX 0) n),.aW (.u1 (.fit (bytesOf C.E e)) (.u2 .rep n z))],.row nid,.aC (l++[.row false e u (.u2 .rep n z)])⟩else none
  |none=>none)
 |_,_,_,_=>none
def cq(C:Cx)(ρ:Operand→TX)(l:List AX)(n nid:Nat)(o:Oper):Option bL:=
 match o.op with
 |.move x |.assign x=>c6 (nX C.E o.type (ρ x))
 |.pick c a b=>match isLit (ρ c)with
  |some true=>(match ρ a,ρ b with |.d .bool x,.d .bool _=>c6 (.d .bool x) |.d .bool x,.gone=>c6 (.d .bool x)|_,_=>none)
  |some false=>(match ρ b,ρ a with |.d .bool x,.d .bool _=>c6 (.d .bool x) |.d .bool x,.gone=>c6 (.d .bool x)|_,_=>none)
  |none=>none
 |.box e x=>(mP (ρ x)).map λcs=>⟨[],.ptr nid 0,.new (.var e cs)⟩
 |.alloc e=>match C.ty e with
  |some t=>(zeroCells t).map λcs=>⟨[],.ptr nid 0,.new (.var e cs)⟩
  |none=>match C.E e with
   |some ⟨_,_,[_],_⟩=>some ⟨[],.ptr nid 0,.new (.var e [.undef])⟩
   |_=>none
 |.load t a=>xP C t l n (fy (ρ a))
 |.store t a x=>zR C t l n (nX C.E t (ρ a)) (nX C.E t (ρ x))
 |.nilCheck x=>match ρ x with
  |.ptr id off=>c6 (.ptr id off)
  |_=>none
 |.fieldAddr s x f=>wR C s f (fy (ρ x))
 |.field s x f=>wS C s f (ρ x)
 |.binOp op ty x y _=>(match Dz C ty op y (ρ x) (ρ y)with
  |some t=>c6 t
  |none=>(A4 C ty op (ρ x) (ρ y)).map λr=>⟨r.1,w7 r.2,.none⟩)
 |.makeInterface c x=>x5 C c (ρ x)
 |.unOp op _ x=>match op,ρ x with
  |.not,.d .bool a=>c6 (.d .bool (yd a))
  |.neg,.d (.int k) a=>some ⟨pQ k (.u1 (.neg k) a),.d (.int k) (.u1 (.neg k) a),.none⟩
  |_,_=>none
 |.indexAddr t x i=>match x with
  |.global g=>xu C t g n (ρ i)
  |x=>xv C t l n (fy (ρ x)) (ρ i)
 |.index t x i=>match C.E t,ρ x,ρ i with
  |some ⟨_,_,_,.string⟩,.d .str s,.d (.int _) k=>some ⟨[.aW (gX k (.u1 .tM s))],.d (.int .u8) (.u2 .byte s k),.none⟩
  |_,_,_=>none
 |.slice t x lo hi none=>match C.ty t,ρ x with
  |some (.list u),.d (.list M) xs=>if u=M then(vq xs (lo.map ρ) (hi.map ρ)).map λr=>⟨r.1,.d (.list u) r.2,.none⟩else none
  |some (.list u),.row id=>match fo l (.list u) (.row id)with
   |some (xs,l')=>(vq xs (lo.map ρ) (hi.map ρ)).map λr=>⟨r.1,.d (.list u) r.2,.aC l'⟩
   |none=>none
  |_,_=>none
 |.build t j=>match C.E t,C.ty t with
  |some ⟨_,_,_,.struct fs⟩,some u=>match zeroCells u with
   |some z=>(pf (pg C.E fs) z (j.toList.map λp=>(p.1,ρ p.2))).bind λcs=>(nC u cs).map λv=>⟨[],v,.none⟩
   |none=>none
  |_,_=>none
 |.buildSlice t len j=>match C.E t,C.ty t with
  |some ⟨_,_,_,.slice e⟩,some (.list u)=>
   bif Nat.beq len 0 then(bif j.toList.isEmpty then some ⟨[],.row nid,.aC (l++[.row false e u (.nil u)])⟩else none)
   else bif decide (j.toList.map (·.1)=List.range len)&&Nat.ble (len*u.size) 16777216 then
    match eJ l (List.replicate len u) (j.toList.map λp=>ρ p.2)with
    |some (xs,l')=>some ⟨[],.d (.list u) (np u xs),.aC l'⟩
    |none=>none
   else none
  |_,_=>none
 |.extract x i=>match ρ x with
  |.aw ts=>(ts[i]?).map λt=>⟨[],t,.none⟩
  |_=>none
 |.call c=>match c.callee with
  |.value f=>match gU (ρ f)with
   |some (g,ts)=>match sD C l n g (fU C.E c.argTypes.toList (c.args.toList.map ρ)++ts)with
    |some q=>some q
    |none=>match pW C l n g (fU C.E c.argTypes.toList (c.args.toList.map ρ)++ts)with
     |some q=>some q
     |none=>Af C l n g (fU C.E c.argTypes.toList (c.args.toList.map ρ)++ts)
   |none=>match ρ f with
    |.d (.fns fs) x=>Ao C l n fs x (fU C.E c.argTypes.toList (c.args.toList.map ρ))
    |.d (.aa g t) x=>bif cF t then pW C l n g (.d t (.u1 .Jj x)::fU C.E c.argTypes.toList (c.args.toList.map ρ))else none
    |_=>none
  |.builtin .len=>match c.args.toList,c.argTypes.toList with| [x],[t]=>xC C t l (ρ x)|_,_=>none
  |.builtin .append=>match c.args.toList,c.argTypes.toList with
   | [s,x],[t,t']=>if t=t' then vX C t l nid (ρ s) (ρ x)else none
   |_,_=>none
  |.builtin .max=>match c.args.toList.map ρ with| [.d (.int k) a,.d (.int B) b]=>if k=B then c6 (.d (.int k) (.u2 .max a b))else none|_=>none
  |.builtin .min=>match c.args.toList.map ρ with| [.d (.int k) a,.d (.int B) b]=>if k=B then c6 (.d (.int k) (.u2 .min a b))else none|_=>none
  |.builtin .delete=>match c.args.toList,c.argTypes.toList with
   | [x,k],[t,_]=>wC C t l (ρ x) (ρ k)
   |_,_=>none
  |_=>none
 |.makeSlice t a b=>xV C t l nid (ρ a) (ρ b)
 |.makeMap t none=>match km C t with
  |some (k,v)=>some ⟨[],.map nid,.aC (l++[.map false k v (.gG k v)])⟩
  |none=>none
 |.makeMap t (some x)=>match km C t,ρ x with
  |some (k,v),.d (.int _) _=>bif gi C t k then some ⟨[],.map nid,.aC (l++[.map false k v (.gG k v)])⟩else none
  |_,_=>none
 |.mapUpdate t m k x=>uD C t l (ρ m) (ρ k) (ρ x)
 |.insert t m k x=>uD C t l (ρ m) (ρ k) (ρ x)
 |.lookup t x k ok=>match km C t,ρ k with
  |some (kt,v),.d F key=>if kt=F then(bif gi C t kt then(match tT l kt v (ρ x),iD eP v with
   |some m,some z=>c6 (bif ok then .aw [.d v (.u3 .l7 m key z),.d .bool (.u2 .qy m key)]else .d v (.u3 .l7 m key z))
   |_,_=>none)else none)else none
  |_,_=>none
 |.convert G t x=>match C.E G,C.E t,ρ x with
  |some ⟨_,_,_,.cA _⟩,some ⟨_,_,_,.cA k⟩,.d (.int _) a=>c6 (.d (.int k) (.u1 (.conv k) a))
  |some ⟨_,_,_,.string⟩,some ⟨_,_,_,.slice e⟩,.d .str a=>(match C.E e with
   |some ⟨1,_,_,.cA .i32⟩=>some ⟨[.aW (.u2 .le (.u1 .tM a) (iX 16777216))],.d (.list (.int .i32)) (.u1 .runes a),.none⟩
   |_=>none)
  |_,_,_=>none
 |.makeFunc (.func g) first bJ=>bif first.isEmpty then
   (match (bJ.toList.map ρ).mapM oz with
   |some ds=>c6 (.d (.ar g (ay (ds.map (·.1)))) (.ar g (dJ (ds.map (·.2)))))
   |none=>c6 (.ar g (bJ.toList.map ρ)))else(match first.toList,bJ.toList with
   | [x],[]=>(match ρ x with
    |.d t e=>c6 (.d (.aa g t) (.u1 (.Dt g) e))
    |_=>none)
   |_,_=>none)
 |_=>none
def xw:AX→Bool
 |.aU .. =>true
 |.eg .. =>true
 |_=>false
def vM:AX→AX
 |.aU _ kk t x=>.map false kk (.list t) x
 |a=>a
def mD(id:Nat):List AX→Nat→List AX
 | [],_=>[]
 |a::r,i=>(bif Nat.beq i id then a else vM a)::mD id r (i+1)
def qE(id:Nat):List AX→Nat→Bool
 | [],_=>true
 |a::r,i=>(Nat.beq i id || !xw (vM a))&&qE id r (i+1)
def tn(C:Cx)(t:TypeId):Option TypeId:=match C.E t with
 |some ⟨_,_,_,.map _ v⟩=>(match C.E v with
  |some ⟨_,_,_,.slice e⟩=>some e
  |_=>none)
 |_=>none
def vA(e:TypeId)(kk:Ty)(u:Ty):AX→Option X
 |.aU j F G x=>if j=e∧F=kk∧G=u then some x else none
 |.map false k v (.gG B M)=>if k=kk∧v=.list u∧B=kk∧M=.list u then some (.gG k v)else none
 |_=>none
def B8(ops:List Oper)(d:Nat):Bool:=ops.any λo=>match o.op with
 |.call c=>(match c.callee with
  |.builtin .append=>(match c.args.toList with
   |.tmp t::_=>Nat.beq t d
   |_=>false)
  |_=>false)
 |_=>false
def xp(C:Cx)(t:TypeId)(l:List AX)(nid:Nat)(m k:TX):Option bL:=match km C t,m,k with
 |some (kk,.list u),.map id,.d j key=>(match tn C t,l[id]? with
  |some e,some a=>(match vA e kk u a with
   |some x=>if kk=j then(bif gi C t kk&&qE id l 0 then some ⟨[],.row nid,.aC ((mD id l 0).set id (.eg e kk u x key)++[.row true e u (.u3 .l7 x key (.nil u))])⟩else none)else none
   |none=>none)
  |_,_=>none)
 |_,_,_=>none
def uc:X→Bool
 |.u2 .app _ (.u2 .cons _ _)=>true
 |_=>false
def xq(C:Cx)(t:TypeId)(l:List AX)(m k x:TX):Option bL:=match m,k,x with
 |.map id,.d G key,.row j=>(match l[id]?,l[j]? with
  |some (.eg e kk u M F),some (.row true B O y)=>if kk=G∧e=B∧u=O∧km C t=some (kk,.list u)then(bif gi C t kk&&X.beq key F&&uc y then some ⟨[],.undef,.aC ((l.set j .dead).set id (.aU e kk u (.u3 .o6 M key y)))⟩else none)else none
  |_,_=>none)
 |_,_,_=>none
def Br(ops:List Oper)(d:Nat):Bool:=ops.any λo=>match o.op with
 |.call c=>(match c.callee,c.args.toList with
  |.builtin .clear,[.tmp t]=>Nat.beq t d
  |_,_=>false)
 |_=>false
def zT(C:Cx)(t:TypeId)(l:List AX)(x lo:TX):Option bL:=match C.E t,C.ty t,x,lo with
 |some ⟨_,_,_,.slice _⟩,some (.list u),.row id,.d (.int _) n=>(match l[id]? with
  |some (.row false _ j xs)=>if j=u then some ⟨[.aW (.u2 .and (.u2 .le (iX 0) n) (.u2 .le n (ff xs)))],.sub id n (ff xs),.aC l⟩else none
  |_=>none)
 |_,_,_,_=>none
def wv(C:Cx)(t:TypeId)(l:List AX)(x:TX):Option bL:=match C.E t,C.ty t,x with
 |some ⟨_,_,_,.slice _⟩,some (.list u),.sub id lo hi=>(match l[id]?,iD eP u with
  |some (.row false e j xs),some z=>if j=u then(bif X.beq hi (ff xs)then some ⟨[],.aw [],.aC (l.set id (.row false e u (.u2 .app (.u2 .take xs lo) (.u2 .rep (.u2 (.sub .i64) hi lo) z))))⟩else none)else none
  |_,_=>none)
 |_,_,_=>none
def ew:TX→Bool
 |.ar _ _=>true
 |.d (.fn _) _=>true
 |.d (.ar _ _) _=>true
 |_=>false
def qu(C:Cx)(t:TypeId):Option IntKind:=match eU C.E t with
 |some (.int kk,_)=>some kk
 |_=>none
def x9(C:Cx)(t:TypeId)(l:List AX)(nid:Nat):Option bL:=match C.ty t,qu C t with
 |none,some kk=>some ⟨[],.map nid,.aC (l++[.bD kk [] []])⟩
 |_,_=>none
def uC(C:Cx)(t:TypeId)(l:List AX)(m k x:TX):Option bL:=match m,k,qu C t with
 |.map id,.d (.int _) (.int k1 n),some kk=>(match l[id]? with
  |some (.bD j ks ts)=>if k1=kk∧j=kk∧n∉ks then some ⟨[],.undef,.aC (l.set id (.bD kk (ks++[n]) (ts++[x])))⟩else none
  |_=>none)
 |_,_,_=>none
def nY:TX→TX
 |.agg [c]=>c
 |t=>t
def xj(C:Cx)(ρ:Operand→TX)(t:TypeId)(j:Array (Nat×Operand)):Option bL:=match C.E t,C.ty t with
 |some ⟨_,_,[_],.struct fs⟩,none=>bif fs.all (λf=>(C.E f.2).isSome)then(match pf (pg C.E fs) [.undef] (j.toList.map λp=>(p.1,ρ p.2))with
  |some cs=>bif cs.all ew then c6 (.agg cs)else none
  |none=>none)else none
 |_,_=>none
def zU(C:Cx)(ρ:Operand→TX)(t:TypeId)(nid len:Nat)(j:Array (Nat×Operand)):Option bL:=match C.E t,C.ty t with
 |some ⟨_,_,_,.slice e⟩,none=>bif !Nat.beq len 0&&Nat.ble len 16777216&&decide (j.toList.map (·.1)=List.range len)&&(C.E e).isSome&&Nat.beq (aE C.E e) 1&&j.toList.all (λp=>ew (nY (ρ p.2)))
  then some ⟨[],.bj nid len,.new (.var e (j.toList.map λp=>nY (ρ p.2)))⟩else none
 |_,_=>none
def zV(C:Cx)(t:TypeId)(x i:TX):Option bL:=match C.E t,x,i with
 |some ⟨_,_,_,.slice e⟩,.bj id len,.d (.int _) (.int _ n)=>bif decide (0≤n)&&decide (n<Int.ofNat len)&&(C.E e).isSome&&Nat.beq (aE C.E e) 1 then c6 (.ptr id n.toNat)else none
 |_,_,_=>none
def zW(C:Cx)(t:TypeId)(x:TX):Option bL:=match C.E t,x with
 |some ⟨_,_,_,.slice _⟩,.bj _ len=>c6 (.d (.int .i64) (iX (Int.ofNat len)))
 |_,_=>none
def xL(C:Cx)(ρ:Operand→TX)(t:TypeId)(l:List AX)(nid len:Nat)(j:Array (Nat×Operand)):Option bL:=bif C.lits then(match C.E t,C.ty t with
 |some ⟨_,_,_,.slice e⟩,some (.list u)=>bif !Nat.beq len 0&&decide (j.toList.map (·.1)=List.range len)&&Nat.ble (len*u.size) 16777216 then
  (match eJ l (List.replicate len u) (j.toList.map λp=>ρ p.2)with
  |some (xs,l')=>some ⟨[],.aQ nid u (np u xs),.aC (l'++[.row true e u (np u xs)])⟩
  |none=>none)else none
 |_,_=>none)else none
def BI:TX→TX
 |.aQ _ t x=>.d (.list t) x
 |y=>y
def Ii:TX→TX
 |.aQ id _ _=>.row id
 |y=>y
def Cs(C:Cx)(ops:List Oper)(ρ:Operand→TX)(l:List AX)(nid:Nat)(o:Oper):Option bL:=match o.op with
 |.lookup t x k false=>(match o.dst with
  |some d=>bif B8 ops d then xp C t l nid (ρ x) (ρ k)else none
  |none=>none)
 |.mapUpdate t m k x=>(match xq C t l (ρ m) (ρ k) (ρ x)with
  |some q=>some q
  |none=>uC C t l (ρ m) (ρ k) (ρ x))
 |.insert t m k x=>uC C t l (ρ m) (ρ k) (ρ x)
 |.makeMap t none=>x9 C t l nid
 |.buildSlice t len j=>(match zU C ρ t nid len j with
  |some q=>some q
  |none=>xL C ρ t l nid len j)
 |.build t j=>xj C ρ t j
 |.indexAddr t x i=>zV C t (ρ x) (ρ i)
 |.slice t x (some lo) none none=>(match o.dst with
  |some d=>bif Br ops d then zT C t l (ρ x) (ρ lo)else none
  |none=>none)
 |.call c=>(match c.callee,c.args.toList,c.argTypes.toList with
  |.builtin .clear,[x],[t]=>wv C t l (ρ x)
  |.builtin .len,[x],[t]=>zW C t (ρ x)
  |_,_,_=>none)
 |_=>none
def mU(C:Cx)(ops:List Oper)(ρ:Operand→TX)(l:List AX)(n nid:Nat)(o:Oper):Option bL:=match Cs C ops ρ l nid o with
 |some q=>some q
 |none=>(match cq C ρ l n nid o with
  |some q=>some q
  |none=>bif C.lits then(match cq C (λy=>BI (ρ y)) l n nid o with
   |some q=>some q
   |none=>cq C (λy=>Ii (ρ y)) l n nid o)else none)
end Go.Sy
namespace Go.Sy
open Go Go.af
def hasB(m k:Nat):Bool:=Nat.beq (Nat.land (Nat.shiftRight m k) 1) 1
def gw(m k:Nat):Nat:=Nat.lor m (Nat.shiftLeft 1 k)
def ug(m:Nat):Operand→Nat
 |.tmp t=>gw m t
 |_=>m
def OG(m:Nat)(j:List Oper):Nat:=j.foldl (λm o=>o.op.operands.toList.foldl ug m) m
def BG(m k:Nat):Nat:=bif hasB m k then Nat.xor m (Nat.shiftLeft 1 k)else m
structure Lv where
 out:Nat
 ex:List (Nat×Nat)
 rt:Nat
def NR(ops:List Oper)(m:Nat)(o:Oper):Nat:=match o.guard with
 |some (j,_)=>(match (ops[j]?).bind (·.dst)with|some d=>gw m d|none=>m)
 |none=>m
def xS(ops:List Oper):List Oper→Nat→Nat
 | [],m=>m
 |o::r,m=>NR ops (o.op.operands.toList.foldl ug (match o.dst with|some d=>BG (xS ops r m) d|none=>xS ops r m)) o
def C3(j:List (Nat×Nat))(id:Nat):Nat:=match j with
 | []=>0
 |p::r=>bif Nat.beq p.1 id then p.2 else C3 r id
def dX:Code→Lv→Nat
 |.region _ ops _,l=>xS ops.toList ops.toList l.out
 |.seq a b,l=>dX a {l with out:=dX b l}
 |.cond c a b,l=>ug (Nat.lor (dX a l) (dX b l)) c
 |.block id c,l=>dX c {l with ex:=(id,l.out)::l.ex}
 |.loop c,l=>dX c {l with out:=dX c {l with out:=0} }
 |.rangeFunc g ps a b,l=>ug (Nat.lor l.out (ps.toList.foldl BG (dX a ⟨dX b ⟨0,l.ex,l.rt⟩,l.ex,l.rt⟩))) g
 |.scope c,l=>dX c l
 |.exit id,l=>C3 l.ex id
 |.ret,l=>l.rt
 |_,l=>l.out
def X.ic:X→Nat
 |.var i=>i+1
 |.hole _=>1000000000
 |.pair a b=>Nat.max a.ic b.ic
 |.ar _ x=>x.ic
 |.box x=>x.ic
 |.proj _ _ x=>x.ic
 |.mk _ x=>x.ic
 |.u1 _ x=>x.ic
 |.u2 _ x y=>Nat.max x.ic y.ic
 |.u3 _ x y z=>Nat.max x.ic (Nat.max y.ic z.ic)
 |_=>0
def X.fill(g:Nat→X):X→X
 |.hole p=>g p
 |.pair a b=>.pair (a.fill g) (b.fill g)
 |.ar f x=>.ar f (x.fill g)
 |.box x=>.box (x.fill g)
 |.proj i j x=>.proj i j (x.fill g)
 |.mk i x=>.mk i (x.fill g)
 |.u1 o x=>.u1 o (x.fill g)
 |.u2 o x y=>.u2 o (x.fill g) (y.fill g)
 |.u3 o x y z=>.u3 o (x.fill g) (y.fill g) (z.fill g)
 |x=>x
mutual
def TX.fill (g:Nat→X):TX→TX
 |.d t x=>.d t (x.fill g)
 |.aS t e off=>.aS t (e.fill g) off
 |.aO id k off=>.aO id (k.fill g) off
 |.aQ id t x=>.aQ id t (x.fill g)
 |.agg cs=>.agg (TX.fc g cs)
 |.aw cs=>.aw (TX.fc g cs)
 |.ar f cs=>.ar f (TX.fc g cs)
 |t=>t
def TX.fc (g:Nat→X):List TX→List TX
 | []=>[]
 |t::ts=>t.fill g::TX.fc g ts
end
def AX.fill(g:Nat→X):AX→AX
 |.var ty cs=>.var ty (TX.fc g cs)
 |.row j e t x=>.row j e t (x.fill g)
 |.map j k v x=>.map j k v (x.fill g)
 |.aU e kk t x=>.aU e kk t (x.fill g)
 |.eg e kk t x k=>.eg e kk t (x.fill g) (k.fill g)
 |.bD kk ks ts=>.bD kk ks (TX.fc g ts)
 |a=>a
def Sk.fill(g:Nat→X)(n:Nat)(σ:Sk):Sk:=⟨n,σ.t.map λp=>(p.1,p.2.fill g),σ.l.map (AX.fill g)⟩
mutual
def TX.beq:TX→TX→Bool
 |.undef,.undef=>true
 |.gone,.gone=>true
 |.d t x,.d u y=>decide (t=u)&&X.beq x y
 |.aX s,.aX s'=>Nat.beq s s'
 |.cV,.cV=>true
 |.ptr i o,.ptr B o'=>Nat.beq i B&&Nat.beq o o'
 |.aS t e o,.aS t' F o'=>decide (t=t')&&X.beq e F&&Nat.beq o o'
 |.row i,.row j=>Nat.beq i j
 |.aO i k o,.aO B G o'=>Nat.beq i B&&X.beq k G&&Nat.beq o o'
 |.map i,.map j=>Nat.beq i j
 |.aK i,.aK j=>Nat.beq i j
 |.bj i n,.bj j m=>Nat.beq i j&&Nat.beq n m
 |.aQ i t x,.aQ B t' M=>Nat.beq i B&&decide (t=t')&&X.beq x M
 |.agg a,.agg b=>TX.kR a b
 |.aw a,.aw b=>TX.kR a b
 |.ar f a,.ar g b=>Nat.beq f g&&TX.kR a b
 |_,_=>false
def TX.kR:List TX→List TX→Bool
 | [],[]=>true
 |a::r,b::s=>TX.beq a b&&TX.kR r s
 |_,_=>false
end
def nU:List (Nat×TX)→List (Nat×TX)→Bool
 | [],[]=>true
 | (i,a)::r,(j,b)::s=>Nat.beq i j&&TX.beq a b&&nU r s
 |_,_=>false
def AX.beq:AX→AX→Bool
 |.dead,.dead=>true
 |.var t a,.var u b=>Nat.beq t u&&TX.kR a b
 |.row f e t x,.row O G t' F=>(f == O)&&Nat.beq e G&&decide (t=t')&&X.beq x F
 |.map f k v x,.map O B aa F=>(f == O)&&decide (k=B)&&decide (v=aa)&&X.beq x F
 |.aU e k t x,.aU G B t' F=>Nat.beq e G&&decide (k=B)&&decide (t=t')&&X.beq x F
 |.eg e k t x y,.eg G B t' F ab=>Nat.beq e G&&decide (k=B)&&decide (t=t')&&X.beq x F&&X.beq y ab
 |.bD k ks a,.bD B Z b=>decide (k=B)&&decide (ks=Z)&&TX.kR a b
 |.cr j b r,.cr U M Y=>Nat.beq j U&&Nat.beq b M&&decide (r=Y)
 |.lp j b r s,.lp U M Y s'=>Nat.beq j U&&Nat.beq b M&&decide (r=Y)&&decide (s=s')
 |.cO,.cO=>true
 |_,_=>false
def iI:List AX→List AX→Bool
 | [],[]=>true
 |a::r,b::s=>AX.beq a b&&iI r s
 |_,_=>false
def kZ(k:Nat)(t:TX):List (Nat×TX)→List (Nat×TX)
 | []=>[(k,t)]
 | (j,u)::r=>bif Nat.ble k j then(bif Nat.beq k j then(j,u)::r else(k,t)::(j,u)::r)else(j,u)::kZ k t r
def oT:TX→Bool
 |.undef=>true
 |.gone=>true
 |_=>false
def gk(j:Nat):List (Nat×TX)→Nat→List (Nat×TX)
 | [],_=>[]
 | (k,t)::r,seen=>bif hasB j k && !hasB seen k then(bif oT t then gk j r (gw seen k)else kZ k t (gk j r (gw seen k)))else gk j r seen
def Sk.ej(j:Nat)(σ:Sk):Sk:={σ with t:=gk j σ.t 0}
def oO(id:Nat):List Nat→Nat→Option Nat
 | [],_=>none
 |x::xs,k=>bif Nat.beq x id then some k else oO id xs (k+1)
def eB(ids:List Nat)(f:Nat→TX)(id:Nat):TX:=match oO id ids 0 with|some k=>f k|none=>.undef
def vg(ids:List Nat):TX→TX
 |.ptr id off=>eB ids (.ptr · off) id
 |.aK id=>eB ids .aK id
 |t=>t
def lv(ids:List Nat):TX→TX
 |.ptr id off=>eB ids (.ptr · off) id
 |.row id=>eB ids .row id
 |.aO id k off=>eB ids (.aO · k off) id
 |.map id=>eB ids .map id
 |.aK id=>eB ids .aK id
 |.bj id n=>eB ids (.bj · n) id
 |.aQ id t x=>match oO id ids 0 with|some k=>.aQ k t x|none=>.d (.list t) x
 |.agg _=>.undef
 |.sub _ _ _=>.undef
 |.aw _=>.undef
 |.ar _ _=>.undef
 |.gone=>.undef
 |t=>t
def mZ:TX→Bool
 |.d _ _=>true
 |.ptr _ _=>true
 |.aK _=>true
 |_=>false
def tB:TX→Bool
 |.d _ _=>true
 |_=>false
def TX.re(ids:List Nat):TX→TX
 |.gone=>.undef
 |.sub _ _ _=>.undef
 |.ptr id off=>eB ids (.ptr · off) id
 |.row id=>eB ids .row id
 |.aO id k off=>eB ids (.aO · k off) id
 |.map id=>eB ids .map id
 |.aK id=>eB ids .aK id
 |.bj id n=>eB ids (.bj · n) id
 |.aQ id t x=>match oO id ids 0 with|some k=>.aQ k t x|none=>.d (.list t) x
 |.agg cs=>.agg (cs.map (lv ids))
 |.ar f cs=>bif cs.all mZ then .ar f (cs.map (vg ids))else .undef
 |.aw cs=>bif cs.all tB then .aw cs else .undef
 |t=>t
def AX.re(ids:List Nat):AX→AX
 |.var ty cs=>.var ty (cs.map (TX.re ids))
 |.bD kk ks ts=>.bD kk ks (ts.map (TX.re ids))
 |o=>o
def Sk.re(ids:List Nat)(σ:Sk):Sk:=⟨σ.n,σ.t.map λp=>(p.1,p.2.re ids),ids.map λid=>((σ.l[id]?).getD .dead).re ids⟩
inductive Pl where
 |slot (j:Nat)
 |cell (id k:Nat)
 |obj (id:Nat)
inductive Co where
 |oq (e:TypeId) (t:Ty)
 |data (t:Ty)
 |tj
 |grow (e:TypeId) (kk:Ty) (t:Ty)
 |vL
def jH(j:Nat)(t:TX):List (Nat×TX)→List (Nat×TX)
 | []=>[]
 | (i,u)::r=>bif Nat.beq i j then(i,t)::r else(i,u)::jH j t r
variable [au]
def jS(σ:Sk):Pl→TX
 |.slot j=>aD σ.t j
 |.cell id k=>match σ.l[id]? with
  |some (.var _ cs)=>(cs[k]?).getD .undef
  |_=>.undef
 |.obj _=>.undef
def C5(σ:Sk):Pl→TX
 |.obj id=>.map id
 |p=>jS σ p
def pC(σ:Sk)(t:TX):Pl→Sk
 |.slot j=>{σ with t:=jH j t σ.t}
 |.cell id k=>match σ.l[id]? with
  |some (.var ty cs)=>{σ with l:=σ.l.set id (.var ty (cs.set k t))}
  |_=>σ
 |.obj _=>σ
def lJ(σ:Sk)(p:Pl):Co→Option Sk
 |.oq e t=>bif !cF t then none else match jS σ p with
  |.aX _=>some (pC {σ with l:=σ.l++[.row false e t (.nil t)]} (.row σ.l.length) p)
  |_=>none
 |.data t=>bif !cF t then none else match iB σ.l t (jS σ p)with
  |some (x,l')=>some (pC {σ with l:=l' } (.d t x) p)
  |none=>none
 |.tj=>match jS σ p with
  |.row id=>match σ.l[id]? with
   |some (.row false e t x)=>some {σ with l:=σ.l.set id (.row true e t x)}
   |_=>none
  |_=>none
 |.grow e kk t=>match C5 σ p with
  |.map id=>match σ.l[id]? with
   |some a=>match vA e kk t a with
    |some x=>bif cF t&&Nat.ble 1 t.size then some {σ with l:=σ.l.set id (.aU e kk t x)}else none
    |none=>none
   |none=>none
  |_=>none
 |.vL=>match C5 σ p with
  |.map id=>match σ.l[id]? with
   |some (.aU _ kk t x)=>some {σ with l:=σ.l.set id (.map false kk (.list t) x)}
   |_=>none
  |_=>none
def xZ(B F:List AX)(a b:TX):Option (Option Co×Option Co):=
 match a,b with
 |.aX _,.row id=>match F[id]? with|some (.row _ e t _)=>some (some (.oq e t),none)|_=>none
 |.row id,.aX _=>match B[id]? with|some (.row _ e t _)=>some (none,some (.oq e t))|_=>none
 |.aX _,.d (.list t) _=>some (some (.data (.list t)),none)
 |.d (.list t) _,.aX _=>some (none,some (.data (.list t)))
 |.cV,.d (.map k v) _=>some (some (.data (.map k v)),none)
 |.d (.map k v) _,.cV=>some (none,some (.data (.map k v)))
 |.row _,.d t _=>some (some (.data t),none)
 |.d t _,.row _=>some (none,some (.data t))
 |.agg _,.d t _=>some (some (.data t),none)
 |.d t _,.agg _=>some (none,some (.data t))
 |.map _,.d t _=>some (some (.data t),none)
 |.d t _,.map _=>some (none,some (.data t))
 |.row i,.row j=>match B[i]?,F[j]? with
  |some (.row G _ _ _),some (.row M _ _ _)=>bif G == M then none else(bif G then some (none,some .tj)else some (some .tj,none))
  |_,_=>none
 |.map i,.map j=>match B[i]?,F[j]? with
  |some (.aU e k t _),some (.map false _ _ x)=>match x with
   |.gG _ _=>some (none,some (.grow e k t))
   |_=>some (some .vL,none)
  |some (.map false _ _ x),some (.aU e k t _)=>match x with
   |.gG _ _=>some (some (.grow e k t),none)
   |_=>some (none,some .vL)
  |_,_=>none
 |_,_=>none
abbrev gR:=List (Nat×Nat)
abbrev jP:=gR×gR
def tf:Nat:=1000000
def gx(p:Nat×Nat)(l:jP):jP:=bif l.1.any λq=>Nat.beq q.1 p.1 then l else
 match l.1[p.1]? with
 |some q=>bif Nat.beq q.1 (tf+p.1)then(l.1.set p.1 p,l.2++[p])else(l.1++[p],l.2++[p])
 |none=>(l.1++[p],l.2++[p])
def DK:TX→TX→jP→jP
 |.ptr i _,.ptr j _,l=>gx (i,j) l
 |.row i,.row j,l=>gx (i,j) l
 |.aQ i _ _,.aQ j _ _,l=>gx (i,j) l
 |.aO i _ _,.aO j _ _,l=>gx (i,j) l
 |.map i,.map j,l=>gx (i,j) l
 |.aK i,.aK j,l=>gx (i,j) l
 |.bj i _,.bj j _,l=>gx (i,j) l
 |.ar _ a,.ar _ b,l=>(a.zip b).foldl (λl p=>match p with
  | (.ptr i _,.ptr j _)=>gx (i,j) l
  | (.aK i,.aK j)=>gx (i,j) l
  |_=>l) l
 |.agg a,.agg b,l=>(a.zip b).foldl (λl p=>match p with
  | (.ptr i _,.ptr j _)=>gx (i,j) l
  | (.row i,.row j)=>gx (i,j) l
  | (.map i,.map j)=>gx (i,j) l
  | (.aQ i _ _,.aQ j _ _)=>gx (i,j) l
  | (.bj i _,.bj j _)=>gx (i,j) l
  |_=>l) l
 |_,_,l=>l
def Im(A k:Sk):List (Nat×TX)→jP→Sum (Pl×Pl×Option Co×Option Co) jP
 | [],ps=>.inr ps
 | (j,a)::r,ps=>match xZ A.l k.l a (aD k.t j)with
  |some (x,y)=>.inl (.slot j,.slot j,x,y)
  |none=>Im A k r (DK a (aD k.t j) ps)
def Il(A j:Sk)(B F:Nat):List TX→List TX→Nat→jP→Sum (Pl×Pl×Option Co×Option Co) jP
 |a::r,b::s,k,ps=>match xZ A.l j.l a b with
  |some (x,y)=>.inl (.cell B k,.cell F k,x,y)
  |none=>Il A j B F r s (k+1) (DK a b ps)
 |_,_,_,ps=>.inr ps
def zJ(A k:Sk):Nat→jP→Sum (Pl×Pl×Option Co×Option Co) gR
 |0,ps=>.inr ps.1
 |f+1,(ps,w)=>match w with
  | []=>.inr ps
  | (
     i,j)::w=>match xZ A.l k.l (.map i) (.map j)with
   |some (x,y)=>.inl (.obj i,.obj j,x,y)
   |none=>match A.l[i]?,k.l[j]? with
    |some (.var _ a),some (.var _ b)=>match Il A k i j a b 0 (ps,w)with
     |.inl m=>.inl m
     |.inr q=>zJ A k f q
    |_,_=>zJ A k f (ps,w)
def xe:AX→Option (Nat×List Nat)
 |.cr _ b r=>some (b,r)
 |.lp _ b r _=>some (b,r)
 |_=>none
def I7:List AX→Nat→Nat→Nat
 | [],_,m=>m
 |a::r,i,m=>I7 r (i+1) (match xe a with|some _=>i+1|none=>m)
def zz:List AX→Nat→List Nat
 | [],_=>[]
 |a::r,i=>match xe a with
  |some (_,rs)=>i::rs++zz r (i+1)
  |none=>zz r (i+1)
def pins(A:Sk):jP:=match I7 A.l 0 0 with
 |0=>([],[])
 |m=>let rs:=zz A.l 0
  let l:=(List.range m).map λi=>bif rs.any (Nat.beq i)then(i,i)else(tf+i,tf+i)
  (l,l)
def SV(A j:Sk):Sum (Pl×Pl×Option Co×Option Co) gR:=match Im A j A.t (pins A)with
 |.inl m=>.inl m
 |.inr ps=>zJ A j 200 ps
def sT(σ:Sk)(p:Pl):Option Co→Option Sk
 |none=>some σ
 |some c=>lJ σ p c
def meet:Nat→Sk→Sk→Option (Sk×Sk×gR)
 |0,_,_=>none
 |f+1,A,B=>match SV A B with
  |.inr ps=>some (A,B,ps)
  |.inl (M,O,F,G)=>match sT A M F,sT B O G with
   |some j,some k=>meet f j k
   |_,_=>none
def gF(n0:Nat)(t:Ty)(x y:X)(h:List Ty):X×List Ty:=bif X.beq x y&&Nat.ble x.ic n0 then(x,h)else(.hole h.length,h++[t])
def nz(j k:Nat)(ps:gR):Option Nat:=ps.findIdx? λq=>Nat.beq q.1 j&&Nat.beq q.2 k
mutual
def tW (n0:Nat) (ps:gR):TX→TX→List Ty→TX×List Ty
 |.d t x,.d u y,h=>if t=u then(.d t (gF n0 t x y h).1,(gF n0 t x y h).2)else(.undef,h)
 |.aX s,.aX s',h=>bif Nat.beq s s' then(.aX s,h)else(.undef,h)
 |.cV,.cV,h=>(.cV,h)
 |.ptr i o,.ptr j o',h=>match nz i j ps with|some k=>(bif Nat.beq o o' then .ptr k o else .undef,h)|none=>(.undef,h)
 |.aS t e o,.aS t' B o',h=>if t=t' then(bif Nat.beq o o' then(.aS t (gF n0 t e B h).1 o,(gF n0 t e B h).2)else(.undef,h))else(.undef,h)
 |.row i,.row j,h=>match nz i j ps with|some k=>(.row k,h)|none=>(.undef,h)
 |.aO i k o,.aO j F o',h=>match nz i j ps with|some q=>(bif Nat.beq o o' then(.aO q (gF n0 (.int .i64) k F h).1 o,(gF n0 (.int .i64) k F h).2)else(.undef,h))|none=>(.undef,h)
 |.map i,.map j,h=>match nz i j ps with|some k=>(.map k,h)|none=>(.undef,h)
 |.aK i,.aK j,h=>match nz i j ps with|some k=>(.aK k,h)|none=>(.undef,h)
 |.bj i n,.bj j m,h=>match nz i j ps with|some k=>(bif Nat.beq n m then .bj k n else .undef,h)|none=>(.undef,h)
 |.aQ i t x,.aQ j u y,h=>match nz i j ps with|some k=>(if t=u then(.aQ k t (gF n0 (.list t) x y h).1,(gF n0 (.list t) x y h).2)else(.undef,h))|none=>(.undef,h)
 |.agg a,.agg b,h=>(.agg (kq n0 ps a b h).1,(kq n0 ps a b h).2)
 |.aw a,.aw b,h=>(.aw (kq n0 ps a b h).1,(kq n0 ps a b h).2)
 |.ar f a,.ar g b,h=>bif Nat.beq f g then(.ar f (kq n0 ps a b h).1,(kq n0 ps a b h).2)else(.undef,h)
 |_,_,h=>(.undef,h)
def kq (n0:Nat) (ps:gR):List TX→List TX→List Ty→List TX×List Ty
 |a::r,b::s,h=>((tW n0 ps a b h).1::(kq n0 ps r s (tW n0 ps a b h).2).1,(kq n0 ps r s (tW n0 ps a b h).2).2)
 |_,_,h=>([],h)
end
def Dh(n0:Nat)(ps:gR)(k:Sk):List (Nat×TX)→List Ty→List (Nat×TX)×List Ty
 | [],h=>([],h)
 | (j,a)::r,h=>let m:=tW n0 ps a (aD k.t j) h
  let q:=Dh n0 ps k r m.2
  (bif oT m.1 then q.1 else(j,m.1)::q.1,q.2)
def N8(n0:Nat)(ps:gR):AX→AX→List Ty→AX×List Ty
 |.var t a,.var _ b,h=>(.var t (kq n0 ps a b h).1,(kq n0 ps a b h).2)
 |.row f e t x,.row _ _ _ y,h=>(.row f e t (gF n0 (.list t) x y h).1,(gF n0 (.list t) x y h).2)
 |.map f k v x,.map _ _ _ y,h=>(.map f k v (gF n0 (.map k v) x y h).1,(gF n0 (.map k v) x y h).2)
 |.aU e k t x,.aU _ _ _ y,h=>(.aU e k t (gF n0 (.map k (.list t)) x y h).1,(gF n0 (.map k (.list t)) x y h).2)
 |.cr j b r,.cr _ _ _,h=>(.cr j b r,h)
 |.lp j b r s,.lp _ _ _ _,h=>(.lp j b r s,h)
 |_,_,h=>(.dead,h)
def Dg(n0:Nat)(ps:gR)(A k:Sk):gR→List Ty→List AX×List Ty
 | [],h=>([],h)
 | (i,j)::r,h=>let m:=N8 n0 ps ((A.l[i]?).getD .dead) ((k.l[j]?).getD .dead) h
  let q:=Dg n0 ps A k r m.2
  (m.1::q.1,q.2)
def tV(n0:Nat)(A j:Sk):Option (Sk×List Ty):=match meet 40 A j with
 |some (A,j,ps)=>
  let s:=Dh n0 ps j A.t []
  let q:=Dg n0 ps A j ps s.2
  some (⟨n0,s.1,q.1⟩,q.2)
 |none=>none
def mW(x y:X)(j:List (Nat×X)):List (Nat×X):=match x with
 |.hole p=>j++[(p,y)]
 |_=>j
mutual
def BY:TX→TX→List (Nat×X)→List (Nat×X)
 |.d _ x,.d _ y,c=>mW x y c
 |.aS _ x _,.aS _ y _,c=>mW x y c
 |.aO _ x _,.aO _ y _,c=>mW x y c
 |.aQ _ _ x,.aQ _ _ y,c=>mW x y c
 |.agg a,.agg b,c=>qc a b c
 |.aw a,.aw b,c=>qc a b c
 |.ar _ a,.ar _ b,c=>qc a b c
 |_,_,c=>c
def qc:List TX→List TX→List (Nat×X)→List (Nat×X)
 |a::r,b::s,c=>qc r s (BY a b c)
 |_,_,c=>c
end
def Ma:AX→AX→List (Nat×X)→List (Nat×X)
 |.var _ a,.var _ b,c=>qc a b c
 |.row _ _ _ x,.row _ _ _ y,c=>mW x y c
 |.map _ _ _ x,.map _ _ _ y,c=>mW x y c
 |.aU _ _ _ x,.aU _ _ _ y,c=>mW x y c
 |_,_,c=>c
def BX(M σ:Sk):List (Nat×X):=
 let c:=(M.t.zip σ.t).foldl (λc p=>BY p.1.2 p.2.2 c) []
 (M.l.zip σ.l).foldl (λc p=>Ma p.1 p.2 c) c
def nq:List (Nat×X)→Nat→X
 | [],_=>.unit
 | (j,x)::r,p=>bif Nat.beq j p then x else nq r p
def xX:List (Nat×TX)→Nat→Nat
 | [],m=>m
 | (j,_)::r,m=>xX r (gw m j)
def nF:List Nat→Bool
 | []=>true
 |x::xs=>!(xs.any λy=>Nat.beq x y)&&nF xs
def kY(ids:List Nat)(l:List AX):Bool:=ids.all λid=>match l[id]? with
 |some .cO=>false
 |some a=>match xe a with
  |some (b,rs)=>Nat.ble b ids.length&&rs.all λr=>Nat.blt r b&&(match ids[r]? with|some i=>Nat.beq i r|none=>false)
  |none=>true
 |none=>true
def X.bz(n h:Nat):X→Bool
 |.var i=>Nat.blt i n
 |.hole p=>Nat.blt p h
 |.pair a b=>a.bz n h&&b.bz n h
 |.ar _ x=>x.bz n h
 |.box x=>x.bz n h
 |.proj _ _ x=>x.bz n h
 |.mk _ x=>x.bz n h
 |.u1 _ x=>x.bz n h
 |.u2 _ x y=>x.bz n h&&y.bz n h
 |.u3 _ x y z=>x.bz n h&&y.bz n h&&z.bz n h
 |_=>true
mutual
def TX.bz (n h:Nat):TX→Bool
 |.d _ x=>x.bz n h
 |.aS _ e _=>e.bz n h
 |.aO _ k _=>k.bz n h
 |.aQ _ _ x=>x.bz n h
 |.sub _ _ _=>false
 |.agg cs=>TX.l9 n h cs
 |.aw cs=>TX.l9 n h cs
 |.ar _ cs=>TX.l9 n h cs
 |_=>true
def TX.l9 (n h:Nat):List TX→Bool
 | []=>true
 |t::ts=>t.bz n h&&TX.l9 n h ts
end
def AX.bz(n h:Nat):AX→Bool
 |.var _ cs=>TX.l9 n h cs
 |.row _ _ _ x=>x.bz n h
 |.map _ _ _ x=>x.bz n h
 |.aU _ _ _ x=>x.bz n h
 |.eg _ _ _ x y=>x.bz n h&&y.bz n h
 |.bD _ _ ts=>TX.l9 n h ts
 |_=>true
def Sk.bz(n h:Nat)(σ:Sk):Bool:=σ.t.all (λp=>p.2.bz n h)&&σ.l.all (AX.bz n h)
def instS(M:Sk)(nh:Nat)(σ:Sk):Option (List X):=
 match meet 40 M (σ.ej (xX M.t 0))with
 |some (_,B,ps)=>
  let ids:=ps.map (·.2)
  let aR:=B.re ids
  let vs:=BX M aR
  let xs:=(List.range nh).map (nq vs)
  let F:=M.fill (nq vs) σ.n
  bif nU F.t aR.t&&iI F.l aR.l&&nF ids&&kY ids B.l then some xs else none
 |none=>none
def leaves(e:Ex):Tr→List Sk
 |.leaf j σ=>if e=j then [σ]else []
 |.out _ _=>[]
 |.aW _ t=>leaves e t
 |.get _ _ _ t=>leaves e t
 |.call _ _ _ t=>leaves e t
 |.cK _ a b=>leaves e a++leaves e b
 |.dw _ a b=>leaves e a++leaves e b
 |.join _ _ a b=>leaves e a++leaves e b
 |.loop _ _ _ b=>leaves e b
 |.bad _=>[]
def resolve(e:Ex)(M:Sk)(nh:Nat):Nat→Tr→Tr
 |k,.leaf j σ=>if e=j then(match instS M nh σ with|some xs=>.out k (dJ xs)|none=>.bad 1)else .leaf j σ
 |_,.out k x=>.out k x
 |k,.aW x t=>.aW x (resolve e M nh k t)
 |k,.get v xs i t=>.get v xs i (resolve e M nh k t)
 |k,.call v c x t=>.call v c x (resolve e M nh k t)
 |k,.cK c a b=>.cK c (resolve e M nh k a) (resolve e M nh k b)
 |k,.dw c a b=>.dw c (resolve e M nh k a) (resolve e M nh k b)
 |k,.join ty v a b=>.join ty v (resolve e M nh (k+1) a) (resolve e M nh k b)
 |k,.loop ty v i b=>.loop ty v i (resolve e M nh (k+1) b)
 |_,.bad w=>.bad w
def cZ(f:Ex→Sk→Tr):Tr→Tr
 |.leaf e σ=>f e σ
 |.out k x=>.out k x
 |.aW x t=>.aW x (cZ f t)
 |.get v xs i t=>.get v xs i (cZ f t)
 |.call v c x t=>.call v c x (cZ f t)
 |.cK c a b=>.cK c (cZ f a) (cZ f b)
 |.dw c a b=>.dw c (cZ f a) (cZ f b)
 |.join ty v a b=>.join ty v (cZ f a) (cZ f b)
 |.loop ty v i b=>.loop ty v i (cZ f b)
 |.bad w=>.bad w
def iP:Tr→Bool
 |.leaf _ _=>false
 |.out _ _=>false
 |.aW _ t=>iP t
 |.get _ _ _ t=>iP t
 |.call _ _ _ t=>iP t
 |.cK _ a b=>iP a||iP b
 |.dw _ a b=>iP a||iP b
 |.join _ _ _ b=>iP b
 |.loop _ _ _ _=>true
 |.bad _=>false
def lW:Tr→Bool
 |.aW _ t=>lW t
 |.get _ _ _ t=>lW t
 |.call _ _ _ t=>lW t
 |.cK _ a b=>lW a||lW b
 |.dw _ _ _=>true
 |.join _ _ _ b=>lW b
 |_=>false
def j6(v n p:Nat):X:=ln n p (.var v)
def qx(n0:Nat):Sk→List Sk→Option (Sk×List Ty)
 |A,[]=>tV n0 A A
 |A,[B]=>tV n0 A B
 |A,B::r=>match tV n0 A B with
  |some (M,_)=>qx n0 M r
  |none=>none
def H3(ls:List Sk):Bool:=ls.any λσ=>σ.t.any λp=>(match p.2 with |.aX _=>true|_=>false)&&ls.any λj=>match aD j.t p.1 with |.row _=>true|_=>false
def pB(j n0:Nat)(T:Tr)(f:Sk→Tr):Tr:=
 match leaves .normal T with
 | []=>T
 | [_]=>bif iP T then tF else cZ (λe σ=>match e with |.normal=>f σ|e=>.leaf e σ) T
 |_=>bif iP T || !lW T||H3 (leaves .normal T)then tF else cZ (λe σ=>match e with |.normal=>f σ|e=>.leaf e σ) T
where tF:Tr:=match leaves .normal T with
 | []=>T
 |σ::r=>match qx n0 (σ.ej j) (r.map (Sk.ej j))with
  |some (M,ts)=>bif M.bz n0 ts.length then .join (ay ts) n0 (resolve .normal M ts.length 0 T) (f (M.fill (j6 n0 ts.length) (n0+1)))else .bad 13
  |none=>.bad 2
def qC(x p q:X):Bool:=X.beq p q||(match p,q with
 |.nil u,.u2 .app (.nil j) y=>decide (u=j)&&X.beq y x
 |_,_=>false)
def nE(x:X)(k:Nat)(p:X):Tr→Bool
 |.out j q=>Nat.beq k j&&qC x p q
 |.aW _ t=>nE x k p t
 |_=>false
def yc(m:Nat)(x:X)(a b:Tr):Bool:=match a with
 |.out k p=>Nat.ble k m&&nE x k p b
 |_=>false
def ik:Nat→Tr→Bool
 |m,.dw x a b=>yc m x a b
 |m,.out k _=>Nat.ble k m
 |m,.aW _ t=>ik m t
 |m,.get _ _ _ t=>ik m t
 |m,.call _ _ _ t=>ik m t
 |m,.cK _ a b=>ik m a&&ik m b
 |m,.join _ _ a b=>ik (m+1) a&&ik m b
 |m,.loop _ _ _ b=>ik (m+1) b
 |_,_=>false
def kg(t:Tr):Nat→List Ins→Tr
 |_,[]=>t
 |n,.aW x::r=>.aW x (kg t n r)
 |n,.get xs k::r=>.get n xs k (kg t (n+1) r)
 |n,.call c x::r=>.call n c x (kg t (n+1) r)
 |n,.prog ty T::r=>bif ik 0 T then .join ty n T (kg t (n+1) r)else .bad 40
def gB(n:Nat):List Ins→Nat
 | []=>n
 |.aW _::r=>gB n r
 |_::r=>gB (n+1) r
def fT(t:List (Nat×TX))(j:Option Nat)(x:TX):List (Nat×TX):=match j with|some d=>(d,x)::t|none=>t
def ot(σ:Sk)(j:Option Nat)(r:bL):Sk:=⟨gB σ.n r.ins,fT σ.t j r.t,match r.bM with |.none=>σ.l |.new a=>σ.l++[a] |.aC l'=>l'⟩
inductive Gd where
 |yes
 |no
 |ask (x:X) (b:Bool)
 |bad
def kc(ops:List Oper)(σ:Sk):Option (Nat×Bool)→Gd
 |none=>.yes
 |some (j,b)=>match (ops[j]?).bind (·.dst)with
  |some d=>match aD σ.t d with
   |.d .bool (.bool c)=>bif c == b then .yes else .no
   |.d .bool x=>.ask x b
   |.gone=>.no
   |_=>.bad
  |none=>.bad
def kU(x:X)(b:Bool):List (Nat×TX)→List (Nat×TX)
 | []=>[]
 | (j,.d .bool y)::r=>(j,.d .bool (bif X.beq x y then .bool b else y))::kU x b r
 |p::r=>p::kU x b r
def Sk.decide(x:X)(b:Bool)(σ:Sk):Sk:={σ with t:=kU x b σ.t}
def ML(ops:List Oper)(m:Nat)(o:Oper):Nat:=match o.guard with
 |some (j,_)=>(match (ops[j]?).bind (·.dst)with|some d=>gw m d|none=>m)
 |none=>m
def CX(j:Nat)(ops r:List Oper):Nat:=r.foldl (ML ops) (OG j r)
abbrev rZ:=Oper→Nat→Sk→Option ((TX→Sk→Tr)→Tr)
def iY(C:Cx)(H:rZ)(j:Nat)(ops:List Oper):List Oper→Sk→Tr
 | [],σ=>.leaf .normal σ
 |o::r,σ=>
  let k:=λ(σ:Sk)=>bif !eQ C.nt o.dst then .bad 15 else match mU C ops (dE σ.t) σ.l σ.n σ.l.length o with
   |some q=>kg (iY C H j ops r (ot σ o.dst q)) σ.n q.ins
   |none=>match H o (CX j ops r) σ with
    |some F=>F λx B=>iY C H j ops r ⟨B.n,fT B.t o.dst x,B.l⟩
    |none=>.bad (30000+o.dst.getD 9999)
  let skip:=λ(σ:Sk)=>bif !eQ C.nt o.dst then .bad 16 else iY C H j ops r {σ with t:=fT σ.t o.dst .gone}
  match kc ops σ o.guard with
  |.yes=>k σ
  |.no=>skip σ
  |.ask x b=>.cK x (bif b then k (σ.decide x true)else skip (σ.decide x true)) (bif b then skip (σ.decide x false)else k (σ.decide x false))
  |.bad=>.bad 4
def qq(B n0:Nat)(body:Sk→Tr):Nat→Sk→Sk→Tr
 |0,_,_=>.bad 5
 |f+1,σ,A=>
  match tV n0 A A with
  |some (k,j)=>
   let T:=body (k.fill (j6 n0 j.length) (n0+1))
   match qx n0 A ((leaves .normal T).map (Sk.ej B))with
   |some (M,ts)=>match instS k j.length σ with
    |some xs=>match (leaves .normal T).all λF=>(instS k j.length F).isSome with
     |true=>bif k.bz n0 j.length then .loop (ay j) n0 (dJ xs) (resolve .normal k j.length 0 T)else .bad 14
     |false=>qq B n0 body f σ M
    |none=>qq B n0 body f σ M
   |none=>.bad 6
  |none=>.bad 7
def jM:List Ty→Type
 | []=>Empty
 | [t]=>t.den
 |t::u::r=>t.den⊕jM (u::r)
def gA:(j:List Ty)→Nat→V→Option (jM j)
 | [],_,_=>none
 | [t],0,v=>bZ t v
 | [_],_+1,_=>none
 |t::_::_,0,v=>match bZ t v with
  |some x=>some (.inl x)
  |none=>none
 |_::u::r,k+1,v=>match gA (u::r) k v with
  |some y=>some (.inr y)
  |none=>none
def gv:Nat→Tr→Bool
 |_,.leaf _ _=>false
 |k,.out j _=>Nat.blt k j
 |k,.aW _ t=>gv k t
 |k,.get _ _ _ t=>gv k t
 |k,.call _ _ _ t=>gv k t
 |k,.cK _ a b=>gv k a||gv k b
 |k,.dw _ a b=>gv k a||gv k b
 |k,.join _ _ a b=>gv (k+1) a||gv k b
 |k,.loop _ _ _ b=>gv (k+1) b
 |_,.bad _=>false
structure Callee where
 f:FuncId
 args:List Ty
 res:List Ty
 fn:(ay args).den→Option (ay res).den
def ag{β:Type}(p:Bool)(o:Option β):Option β:=match p with|true=>o|false=>none
def CJ(t:Ty):(j:List Ty)→Option (jM (t::j))→(t.den→Option (jM j))→Option (jM j)
 | [],o,f=>aa o f
 |_::_,o,f=>aa o λx=>match x with
  |.inl z=>f z
  |.inr y=>some y
def aT{α β:Type}(o:Option (α⊕β))(f:α→Option β):Option β:=aa o λx=>match x with
 |.inl z=>f z
 |.inr y=>some y
noncomputable def qB{β:Type}(e:Bool)(a b:Option β):Option β:=open Classical in match e with|true=>if a=b then b else none|false=>b
noncomputable def Tr.den(cs:List Callee):(sig:List Ty)→Tr→az→Option (jM sig)
 |_,.leaf _ _,_=>none
 |sig,.out k x,ρ=>match x.den ρ with
  |some v=>gA sig k v
  |none=>none
 |sig,.aW x t,ρ=>match x.den ρ with
  |some ⟨.bool,b⟩=>ag b (Tr.den cs sig t ρ)
  |_=>none
 |sig,.get v xs k t,ρ=>match xs.den ρ,k.den ρ with
  |some ⟨.list j,l⟩,some ⟨.int _,i⟩=>aa (aA (α:=j.den) l i) λe=>Tr.den cs sig t ((v,⟨j,e⟩)::ρ)
  |_,_=>none
 |sig,.call v c x t,ρ=>match cs[c]? with
  |some C=>match x.den ρ with
   |some u=>match bZ (ay C.args) u with
    |some a=>aa (C.fn a) λr=>Tr.den cs sig t ((v,⟨ay C.res,r⟩)::ρ)
    |none=>none
   |none=>none
  |none=>none
 |sig,.cK c a b,ρ=>match c.den ρ with
  |some ⟨.bool,b0⟩=>ab b0 (Tr.den cs sig a ρ) (Tr.den cs sig b ρ)
  |_=>none
 |sig,.dw c a b,ρ=>match c.den ρ with
  |some ⟨.list _,xs⟩=>qB (List.isEmpty xs) (Tr.den cs sig a ρ) (Tr.den cs sig b ρ)
  |_=>none
 |sig,.join ty v a b,ρ=>bif gv 0 a then CJ ty sig (Tr.den cs (ty::sig) a ρ) λz=>Tr.den cs sig b ((v,⟨ty,z⟩)::ρ)
  else aa (Tr.den cs [ty] a ρ) λz=>Tr.den cs sig b ((v,⟨ty,z⟩)::ρ)
 |sig,.loop ty v init body,ρ=>match sig with
  | []=>none
  |s::r=>match init.den ρ with
   |some u=>match bZ ty u with
    |some B=>cd (λz=>Tr.den cs (ty::s::r) body ((v,⟨ty,z⟩)::ρ)) B
    |none=>none
   |none=>none
 |_,.bad _,_=>none
def jZ:(ts:List Ty)→(ay ts).den→Nat→az
 | [],_,_=>[]
 | [t],x,k=>[(k,⟨t,x⟩)]
 |t::u::ts,x,k=>(k,⟨t,x.1⟩)::jZ (u::ts) x.2 (k+1)
noncomputable def kX(cs:List Callee)(T:Tr)(j k:List Ty)(a:(ay j).den):Option (ay k).den:=Tr.den cs [ay k] T (jZ j a 0)
end Go.Sy
namespace Go.Sy
open Go Go.af
inductive F2{α β:Type}(R:α→β→Prop):List α→List β→Prop
 |nil:F2 R [] []
 |cons {a b as bs}:R a b→F2 R as bs→F2 R (a::as) (b::bs)
section
variable {α β:Type}{R S:α→β→Prop}
theorem F2.mono(h:∀a b,R a b→S a b){as:List α}{j:List β}(k:F2 R as j):F2 S as j:=by
 induction k with
 |nil=>exact .nil
 |cons B _ F=>exact .cons (h _ _ B) F
theorem F2.len{as:List α}{j:List β}(k:F2 R as j):as.length=j.length:=by
 induction k with
 |nil=>rfl
 |cons _ _ B=>simp[B]
theorem F2.app{as cs:List α}{j ds:List β}(h:F2 R as j)(k:F2 R cs ds):F2 R (as++cs) (j++ds):=by
 induction h with
 |nil=>exact k
 |cons B _ F=>exact .cons B F
theorem F2.take{as:List α}{j:List β}(h:F2 R as j):∀n,F2 R (as.take n) (j.take n):=by
 induction h with
 |nil=>intro n;simp;exact .nil
 |cons k _ B=>intro n;cases n with
  |zero=>exact .nil
  |succ n=>exact .cons k (B n)
theorem F2.drop{as:List α}{j:List β}(h:F2 R as j):∀n,F2 R (as.drop n) (j.drop n):=by
 induction h with
 |nil=>intro n;simp;exact .nil
 |cons k B F=>intro n;cases n with
  |zero=>exact .cons k B
  |succ n=>exact F n
theorem F2.get{as:List α}{B:List β}(h:F2 R as B):∀{i:Nat}{a b},as[i]?=some a→B[i]?=some b→R a b:=by
 induction h with
 |nil=>intro i a b j;simp at j
 |cons F _ G=>intro i a b j k;cases i with
  |zero=>simp at j k;subst j;subst k;exact F
  |succ i=>simp at j k;exact G j k
theorem F2.left{as:List α}{j:List β}(h:F2 R as j){i:Nat}{a}(k:as[i]?=some a):∃b,j[i]?=some b∧R a b:=by
 have hi:=(List.getElem?_eq_some_iff.1 k).1
 have B:j[i]?=some (j[i]'(by rw[←h.len];exact hi)):=List.getElem?_eq_getElem _
 exact⟨_,B,h.get k B⟩
theorem F2.right{as:List α}{j:List β}(h:F2 R as j){i:Nat}{b}(B:j[i]?=some b):∃a,as[i]?=some a∧R a b:=by
 have hi:=(List.getElem?_eq_some_iff.1 B).1
 have k:as[i]?=some (as[i]'(by rw[h.len];exact hi)):=List.getElem?_eq_getElem _
 exact⟨_,k,h.get k B⟩
theorem F2.none{as:List α}{j:List β}(h:F2 R as j){i:Nat}(k:as[i]?=none):j[i]?=none:=by
 rw[List.getElem?_eq_none_iff]at k⊢;rw[←h.len];exact k
theorem F2.set{as:List α}{j:List β}(h:F2 R as j){a b}(F:R a b):∀i,F2 R (as.set i a) (j.set i b):=by
 induction h with
 |nil=>intro i;simp;exact .nil
 |cons k B G=>intro i;cases i with
  |zero=>exact .cons F B
  |succ i=>exact .cons k (G i)
theorem F2.map{k:Type}{f:k→α}{as:List k}{j:List β}(h:F2 (λc b=>R (f c) b) as j):F2 R (as.map f) j:=by
 induction h with
 |nil=>exact .nil
 |cons B _ F=>exact .cons B F
theorem F2.of {as:List α}{j:List β}(k:as.length=j.length)(h:∀(i:Nat) a b,as[i]?=some a→j[i]?=some b→R a b):F2 R as j:=by
 induction as generalizing j with
 |nil=>cases j with
  |nil=>exact .nil
  |cons _ _=>simp at k
 |cons a as G=>cases j with
  |nil=>simp at k
  |cons b j=>exact .cons (h 0 a b rfl rfl) (G (by simpa using k) λi x y B F=>h (i+1) x y B F)
end
theorem X.beq_eq:∀{x y:X},X.beq x y=true→x=y:=by
 intro x
 induction x<;>intro y h<;>cases y<;>simp[X.beq]at h<;>simp_all<;>grind
def Ext[bQ](ρ ae:az):Prop:=∀i v,lk ρ i=some v→lk ae i=some v
theorem Ext.refl[bQ](ρ:az):Ext ρ ρ:=λ_ _ h=>h
theorem Ext.trans[bQ]{a b c:az}(h:Ext a b)(k:Ext b c):Ext a c:=λi v x=>k i v (h i v x)
def c7[bQ](n:Nat)(ρ:az):Prop:=∀p∈ρ,p.1<n
theorem xM[bQ]{n:Nat}:∀{ρ:az}{i:Nat}{v:V},c7 n ρ→lk ρ i=some v→i<n
 | (j,w)::r,i,v,k,h=>by
  simp only[lk]at h
  cases B:Nat.beq j i with
  |true=>
   have:=Nat.eq_of_beq_eq_true B
   subst this
   exact k (j,w) (by simp)
  |false=>
   rw[B]at h
   exact xM (λp F=>k p (by simp[F])) h
theorem Ext.push[bQ]{n:Nat}{ρ:az}(j:c7 n ρ)(v:V):Ext ρ ((n,v)::ρ):=λi u h=>by
 have:=xM j h
 have k:Nat.beq n i=false:=by
  cases e:Nat.beq n i with
  |false=>rfl
  |true=>have:=Nat.eq_of_beq_eq_true e;omega
 simp only[lk,k,cond_false]
 exact h
theorem c7.push[bQ]{n m:Nat}{ρ:az}(j:c7 n ρ)(h:n<m)(v:V):c7 m ((n,v)::ρ):=λp hp=>by
 rcases List.mem_cons.1 hp with rfl|hp
 ·exact h
 have:=j p hp;omega
theorem fg[bQ](n:Nat)(v:V)(ρ:az):lk ((n,v)::ρ) n=some v:=by
 have:Nat.beq n n=true:=Nat.beq_refl n
 simp[lk,this]
theorem jT[bQ]{t:Ty}{v:V}{a:t.den}(h:bZ t v=some a):v=⟨t,a⟩:=by
 obtain⟨u,b⟩:=v
 unfold bZ at h
 split at h
 ·rename_i j
  cases j
  simp at h
  rw[h]
 cases h
theorem eG[bQ](t:Ty)(a:t.den):bZ t ⟨t,a⟩=some a:=by simp[bZ]
variable [au]
theorem X.cG{ρ ae:az}(h:Ext ρ ae):∀{x:X}{v:V},x.den ρ=some v→x.den ae=some v:=by
 intro x
 induction x with
 |var i=>intro v k;exact h i v k
 |pair a b aa ab=>
  intro v k;simp only[X.den]at k⊢
  cases U:a.den ρ<;>cases Y:b.den ρ<;>simp[U,Y]at k
  rw[aa U,ab Y];simp[k]
 |ar f x G|box x G|proj i j x G|mk i x G|u1 o x G=>
  intro v k;simp only[X.den]at k⊢
  cases B:x.den ρ<;>simp[B]at k
  rw[G B];simpa using k
 |u2 o x y M O=>
  intro v k;simp only[X.den]at k⊢
  cases B:x.den ρ<;>cases F:y.den ρ<;>simp[B,F]at k
  rw[M B,O F];simpa using k
 |u3 o x y z M O ad=>
  intro v k;simp only[X.den]at k⊢
  cases B:x.den ρ<;>cases F:y.den ρ<;>cases Z:z.den ρ<;>simp[B,F,Z]at k
  rw[M B,O F,ad Z];simpa using k
 |_=>intro v k;exact k
def cellsOf:(ts:List Ty)→(ay ts).den→List D
 | [],_=>[]
 | [t],x=>(t.enc x).cells
 |t::u::ts,x=>(t.enc x.1).cells++cellsOf (u::ts) x.2
class bB:Prop where
 cells:∀i a,au.cells i a=cellsOf (au.bC i) (au.un i a)
 len:∀i a,(au.cells i a).length=au.sz i
 uf:∀i a,∀x∈au.cells i a,x.one=true
theorem w6(fs:List Nat)(n:Nat):(dV fs n).cells=[dV fs n]∧(dV fs n).one=true:=by
 unfold dV
 split
 ·exact⟨rfl,rfl⟩
 split<;>exact⟨rfl,rfl⟩
theorem gV{t:Ty}(h:bE t=false)(j:∀a b,t ≠ .aw a b)(k:t ≠ .unit)(v:t.den):(t.enc v).cells=[t.enc v]∧(t.enc v).one=true:=by
 cases t<;>first| (simp_all [bE,Ty.enc,Ty.cH,D.cells,D.one];done)| (rename_i c u;cases (show Option u.den from v)<;>exact⟨rfl,rfl⟩)|exact w6 _ v
def isVal(t:Ty):Prop:=(∀a b,t ≠ .aw a b)∧t ≠ .unit
def RC(ρ:az)(p:Ty×X)(d:D):Prop:=isVal p.1∧∃v:p.1.den,p.2.den ρ=some ⟨p.1,v⟩∧d=p.1.enc v
theorem Jb{x y:X}{r:List X}:dJ (x::y::r)=.pair x (dJ (y::r)):=rfl
theorem kF{ρ:az}:∀{ts:List Ty}{xs:List X}{a:(ay ts).den},xs.length=ts.length→(∀j t,ts[j]?=some t→∃x,xs[j]?=some x∧x.den ρ=bX ts a j)→(dJ xs).den ρ=some ⟨ay ts,a⟩
 | [],[],a,_,_=>by cases a;rfl
 | [t],[x],a,_,h=>by
  obtain⟨y,G,B⟩:=h 0 t rfl
  simp at G;subst G
  exact B
 |t::u::ts,x::y::xs,a,k,h=>by
  obtain⟨Z,F,B⟩:=h 0 t rfl
  simp at F;subst F
  have Y:=kF (ts:=u::ts) (xs:=y::xs) (a:=a.2) (by simpa using k) (λj v M=>by
   obtain⟨z,O,U⟩:=h (j+1) v (by simpa using M)
   exact⟨z,by simpa using O,by simpa [bX]using U⟩)
  rw[Jb]
  simp only[X.den,B,bX,Y]
  rfl
 | [],_::_,_,k,_=>by simp at k
 |_::_,[],_,k,_=>by simp at k
 | [_],_::_::_,_,k,_=>by simp at k
 |_::_::_,[_],_,k,_=>by simp at k
theorem DC:∀{ts:List Ty}{j:Nat}{t:Ty}(a:(ay ts).den),ts[j]?=some t→∃v:t.den,bX ts a j=some ⟨t,v⟩
 | [],j,t,a,h=>by simp at h
 | [u],0,t,a,h=>by simp at h;subst h;exact⟨a,rfl⟩
 | [u],j+1,t,a,h=>by simp at h
 |u::w::ts,0,t,a,h=>by simp at h;subst h;exact⟨a.1,rfl⟩
 |u::w::ts,j+1,t,a,h=>by
  obtain⟨v,k⟩:=DC (ts:=w::ts) a.2 (by simpa using h)
  exact⟨v,k⟩
theorem Cl{ρ:az}{t u:Ty}{p:t.den×u.den}{x:X}(h:x.den ρ=some ⟨.aw t u,p⟩):(oJ x).den ρ=some ⟨t,p.1⟩:=by
 have G:∀y:X,y.den ρ=some ⟨.aw t u,p⟩→(X.u1 .fst y).den ρ=some ⟨t,p.1⟩:=λy F=>by simp only[X.den,F];rfl
 by_cases B:∃a b,x=.pair a b
 ·obtain⟨a,b,rfl⟩:=B
  simp only[X.den]at h
  cases j:X.den ρ a<;>cases k:X.den ρ b<;>simp[j,k]at h
  rename_i v w
  obtain⟨M,O⟩:=v;obtain⟨U,Y⟩:=w
  cases h
  simp[oJ,j,k]
 have:oJ x=.u1 .fst x:=by
  unfold oJ;split
  ·exact absurd ⟨_,_,rfl⟩ B
  rfl
 rw[this];exact G x h
theorem IB{ρ:az}{t u:Ty}{p:t.den×u.den}{x:X}(h:x.den ρ=some ⟨.aw t u,p⟩):(pE x).den ρ=some ⟨u,p.2⟩:=by
 have G:∀y:X,y.den ρ=some ⟨.aw t u,p⟩→(X.u1 .snd y).den ρ=some ⟨u,p.2⟩:=λy F=>by simp only[X.den,F];rfl
 by_cases B:∃a b,x=.pair a b
 ·obtain⟨a,b,rfl⟩:=B
  simp only[X.den]at h
  cases j:X.den ρ a<;>cases k:X.den ρ b<;>simp[j,k]at h
  rename_i v w
  obtain⟨M,O⟩:=v;obtain⟨U,Y⟩:=w
  cases h
  simp[pE,j,k]
 have:pE x=.u1 .snd x:=by
  unfold pE;split
  ·exact absurd ⟨_,_,rfl⟩ B
  rfl
 rw[this];exact G x h
theorem qH{ρ:az}:∀{ts:List Ty}{x:X}{a:(ay ts).den}(j:Nat),x.den ρ=some ⟨ay ts,a⟩→j<ts.length→(ln ts.length j x).den ρ=bX ts a j
 | [t],x,a,0,h,_=>h
 | [t],_,_,j+1,_,k=>by simp at k
 |t::u::ts,x,a,0,h,_=>Cl (t:=t) (u:=ay (u::ts)) (p:=a) h
 |t::u::ts,x,a,j+1,h,k=>qH (ts:=u::ts) j (IB (t:=t) (u:=ay (u::ts)) (p:=a) h) (by simpa using k)
end Go.Sy
namespace Go.Sy
open Go Go.af
variable [au]
theorem DN{ρ:az}{i j:Nat}{x:X}{a:bQ.cu i}(h:x.den ρ=some ⟨.st i,a⟩):(X.proj i j x).den ρ=bX (au.bC i) (au.un i a) j:=by
 simp only[X.den,h,eG (.st i) a]
theorem Og{ρ:az}{i k:Nat}{y:X}{a:bQ.cu i}(h:(X.mk k y).den ρ=some ⟨.st i,a⟩):k=i∧y.den ρ=some ⟨ay (au.bC i),au.un i a⟩:=by
 simp only[X.den]at h
 cases B:y.den ρ with
 |none=>simp[B]at h
 |some v=>
  simp only[B]at h
  cases j:bZ (ay (au.bC k)) v with
  |none=>simp[j]at h
  |some b=>
   simp only[j]at h
   have F:=jT j
   injection h with h
   cases h
   refine⟨rfl,?_⟩
   rw[F,au.lF]
theorem Dr{ρ:az}{i:Nat}{y:X}{a:(ay (au.bC i)).den}(h:y.den ρ=some ⟨ay (au.bC i),a⟩):(X.mk i y).den ρ=some ⟨.st i,au.du i a⟩:=by
 simp only[X.den,h,eG]
theorem OL{ρ:az}{i j:Nat}{x:X}{a:bQ.cu i}(h:x.den ρ=some ⟨.st i,a⟩)(F:j<(au.bC i).length):(pj i j x).den ρ=bX (au.bC i) (au.un i a) j:=by
 by_cases k:∃B y,x=.mk B y
 ·obtain⟨B,y,rfl⟩:=k
  obtain⟨rfl,G⟩:=Og h
  simp only[pj,Nat.beq_refl,cond_true]
  exact qH j G F
 have:pj i j x=.proj i j x:=by
  unfold pj;split
  ·exact absurd ⟨_,_,rfl⟩ k
  rfl
 rw[this];exact DN h
theorem AG{i:Nat}{x:X}:∀{xs:List X}{j k:Nat}{y:X},mM i x j xs=true→xs[k]?=some y→y=.proj i (j+k) x
 | [],j,k,y,_,h=>by simp at h
 |z::r,j,k,y,h,hk=>by
  have ab:∃B F w,z=.proj B F w:=by
   cases z<;>simp[mM]at h
   exact⟨_,_,_,rfl⟩
  obtain⟨B,F,w,rfl⟩:=ab
  simp only[mM,Bool.and_eq_true]at h
  obtain⟨⟨⟨U,Y⟩,Z⟩,aa⟩:=h
  have G:=Nat.eq_of_beq_eq_true U;have M:=Nat.eq_of_beq_eq_true Y;have O:=X.beq_eq Z
  subst G;subst M;subst O
  cases k with
  |zero=>simp at hk;exact hk.symm
  |succ k=>simp at hk;rw[AG aa hk];congr 1;omega
def gK(ρ:az)(ts:List Ty)(xs:List X)(a:(ay ts).den):Prop:=xs.length=ts.length∧∀j t,ts[j]?=some t→∃x,xs[j]?=some x∧x.den ρ=bX ts a j
theorem Jd:∀{ts:List Ty}{a b:(ay ts).den},(∀j,j<ts.length→bX ts a j=bX ts b j)→a=b
 | [],a,b,_=>by cases a;cases b;rfl
 | [t],a,b,h=>by
  have:=h 0 (by simp)
  simp only[bX]at this
  injection this with this
  cases this
  rfl
 |t::u::ts,a,b,h=>by
  have k:=h 0 (by simp)
  simp only[bX]at k
  have k:a.1=b.1:=by
   injection k with k
   injection k
  have:=Jd (ts:=u::ts) (a:=a.2) (b:=b.2) (λj B=>by simpa [bX]using h (j+1) (by simpa using B))
  exact Prod.ext k this
theorem s7{ρ:az}{i:Nat}{xs:List X}{a:(ay (au.bC i)).den}(h:gK ρ (au.bC i) xs a):(lT i xs).den ρ=some ⟨.st i,au.du i a⟩:=by
 have ah:(X.mk i (dJ xs)).den ρ=some ⟨.st i,au.du i a⟩:=Dr (kF h.1 h.2)
 by_cases Y:∃B x r,xs=.proj B 0 x::r∧(Nat.beq i B&&mM i x 1 r&&Nat.beq (r.length+1) (au.bC i).length)=true
 ·obtain⟨B,x,r,rfl,k⟩:=Y
  have e:lT i (.proj B 0 x::r)=x:=by simp only[lT,k,cond_true]
  rw[e]
  simp only[Bool.and_eq_true]at k
  obtain⟨⟨ad,ae⟩,af⟩:=k
  have ab:=Nat.eq_of_beq_eq_true ad;have al:=Nat.eq_of_beq_eq_true af
  subst ab
  have U:0<(au.bC i).length:=by omega
  have aa:∀j t,(au.bC i)[j]?=some t→(X.proj i j x).den ρ=bX (au.bC i) a j:=λj t ai=>by
   obtain⟨y,G,M⟩:=h.2 j t ai
   cases j with
   |zero=>simp at G;subst G;exact M
   |succ j=>
    simp at G
    have:=AG ae G
    rw[this,Nat.add_comm]at M;exact M
  have F:=aa 0 _ (List.getElem?_eq_getElem U)
  obtain⟨an,aj⟩:=DC a (List.getElem?_eq_getElem U)
  rw[aj]at F
  have ak:∃b:bQ.cu i,x.den ρ=some ⟨.st i,b⟩:=by
   simp only[X.den]at F
   cases Z:x.den ρ with
   |none=>simp[Z]at F
   |some w=>
    simp only[Z]at F
    cases k:bZ (.st i) w with
    |none=>simp[k]at F
    |some b=>exact⟨b,by rw[jT k]⟩
  obtain⟨b,O⟩:=ak
  have:au.un i b=a:=Jd λj ag=>by
   have:=aa j _ (List.getElem?_eq_getElem ag)
   rw[DN O]at this
   exact this
  rw[O,←this,au.x7]
 have e:lT i xs=.mk i (dJ xs):=by
  unfold lT
  split
  ·rename_i B x r
   cases k:(Nat.beq i B&&mM i x 1 r&&Nat.beq (r.length+1) (au.bC i).length)with
   |true=>exact absurd ⟨B,x,r,rfl,k⟩ Y
   |false=>simp
  rfl
 rw[e];exact ah
class bV:Prop where
 val:∀i t,t∈au.bC i→isVal t
theorem mQ[bB][bV]{ρ:az}:∀(f:Nat){t:Ty}{x:X}{v:t.den}{cs:List (Ty×X)},isVal t→x.den ρ=some ⟨t,v⟩→eu f t x=some cs→F2 (RC ρ) cs (t.enc v).cells:=by
 intro f
 induction f with
 |zero=>intro t x v cs _ _ h;simp[eu]at h
 |succ f ad=>
  intro t x v cs Y ab h
  by_cases ah:∃i,t=.st i
  ·obtain⟨i,rfl⟩:=ah
   simp only[eu]at h
   have aj:∀(ts:List Ty)(j:Nat)(cs:List (Ty×X))(b:(ay ts).den),(∀k t,ts[k]?=some t→(au.bC i)[j+k]?=some t)→(∀k,k<ts.length→bX ts b k=bX (au.bC i) (au.un i v) (j+k)) →
     mR (eu f) i x ts j=some cs→F2 (RC ρ) cs (cellsOf ts b):=by
    intro ts
    induction ts with
    |nil=>intro j cs b _ _ h;simp[mR]at h;subst h;exact .nil
    |cons t ts ai=>
     intro j cs b aa Z h
     simp only[mR]at h
     cases B:eu f t (pj i j x)with
     |none=>simp[B]at h
     |some a=>
      cases F:mR (eu f) i x ts (j+1)with
      |none=>simp[B,F]at h
      |some r=>
       simp only[B,F]at h
       injection h with h;subst h
       have U:(au.bC i)[j]?=some t:=by simpa using aa 0 t rfl
       have af:=(List.getElem?_eq_some_iff.1 U).1
       have M:=OL (j:=j) ab af
       have G:=Z 0 (by simp)
       cases ts with
       |nil=>
        simp only[bX,Nat.add_zero]at G
        rw[←G]at M
        simp[mR]at F
        subst F
        rw[List.append_nil]
        exact ad (bV.val i t (List.mem_of_getElem? U)) M B
       |cons u ts=>
        simp only[bX,Nat.add_zero]at G
        rw[←G]at M
        refine F2.app (ad (bV.val i t (List.mem_of_getElem? U)) M B) ?_
        refine ai (j+1) r b.2 (λk w O=>?_) (λk O=>?_) F
        ·have:=aa (k+1) w (by simpa using O)
         rwa [Nat.add_assoc,Nat.add_comm 1 k]
        have:=Z (k+1) (by simpa using O)
        simp only[bX]at this
        rwa [Nat.add_assoc,Nat.add_comm 1 k]
   have:=aj (au.bC i) 0 cs (au.un i v) (λk t h=>by simpa using h) (λk _=>by simp) h
   have e:((Ty.st i).enc v).cells=cellsOf (au.bC i) (au.un i v):=bB.cells i v
   rw[e];exact this
  have ag:bE t=false:=by cases t<;>simp_all [bE]
  have ae:eu (f+1) t x=some [(t,x)]:=by cases t<;>simp_all [eu]
  rw[ae]at h
  injection h with h;subst h
  rw[(gV ag Y.1 Y.2 v).1]
  exact .cons ⟨Y,v,ab,rfl⟩ .nil
theorem CA{g:Nat}:∀{fs:List Nat}{q k:Nat},oN g fs q=some k→∃j,k=q+j∧fs[j]?=some g
 | [],q,k,h=>by cases h
 |f::r,q,k,h=>by
  simp only[oN]at h
  cases B:Nat.beq f g with
  |true=>
   simp only[B,cond_true,Option.some.injEq]at h
   exact⟨0,by omega,by simp[Nat.eq_of_beq_eq_true B]⟩
  |false=>
   simp only[B,cond_false]at h
   obtain⟨j,G,F⟩:=CA h
   exact⟨j+1,by omega,by simpa using F⟩
theorem Bt{ρ:az}{t u:Ty}{y:X}(h:p8 t u=some y)(v:u.den):∃w:t.den,y.den ρ=some ⟨t,w⟩∧t.enc w=u.enc v:=by
 unfold p8 at h
 split at h
 ·rename_i fs g
  simp only[Option.map_eq_some_iff]at h
  obtain⟨k,F,rfl⟩:=h
  obtain⟨j,G,B⟩:=CA F
  refine⟨(k+1:Nat),rfl,?_⟩
  have:k=j:=by omega
  subst this
  show dV fs (k+1)=D.fn g
  simp only[dV,B]
 cases h
theorem Od[bB][bV]{ρ:az}:∀(f:Nat){t:Ty}{cs r:List (Ty×X)}{x:X}{ds:List D},isVal t→iU f t cs=some (x,r)→F2 (RC ρ) cs ds →
  ∃v k,x.den ρ=some ⟨t,v⟩∧ds=(t.enc v).cells++k∧F2 (RC ρ) r k:=by
 intro f
 induction f with
 |zero=>intro t cs r x ds _ h;simp[iU]at h
 |succ f av=>
  intro t cs r x ds aa h M
  by_cases ar:∃i,t=.st i
  ·obtain⟨i,rfl⟩:=ar
   simp only[iU]at h
   cases O:nB (iU f) (au.bC i) cs with
   |none=>simp[O]at h
   |some p=>
    obtain⟨xs,aA⟩:=p
    simp only[O]at h
    injection h with h;injection h with B F;subst B;subst F
    have ax:∀(ts:List Ty)(cs:List (Ty×X))(ds:List D)(xs:List X)(r:List (Ty×X)),(∀t∈ts,isVal t)→nB (iU f) ts cs=some (xs,r)→F2 (RC ρ) cs ds →
      ∃(a:(ay ts).den)(k:List D),gK ρ ts xs a∧ds=cellsOf ts a++k∧F2 (RC ρ) r k:=by
     intro ts
     induction ts with
     |nil=>intro cs ds xs r _ h M;simp[nB]at h;obtain⟨rfl,rfl⟩:=h;exact⟨(),ds,⟨rfl,λj t h=>by simp at h⟩,rfl,M⟩
     |cons t ts aw=>
      intro cs ds xs r Y h M
      simp only[nB]at h
      cases B:iU f t cs with
      |none=>simp[B]at h
      |some p=>
       obtain⟨x,c1⟩:=p
       simp only[B]at h
       cases F:nB (iU f) ts c1 with
       |none=>simp[F]at h
       |some p=>
        obtain⟨ys,c2⟩:=p
        simp only[F]at h
        injection h with h;injection h with ak al;subst ak;subst al
        obtain⟨v,aj,ai,rfl,an⟩:=av (Y t (by simp)) B M
        obtain⟨a,ae,U,rfl,ag⟩:=aw c1 aj ys c2 (λt ab=>Y t (by simp[ab])) F an
        cases ts with
        |nil=>
         obtain⟨aq,_⟩:=U
         have:ys=[]:=by simpa using aq
         subst this
         refine⟨v,ae,⟨rfl,λj w G=>?_⟩,?_,ag⟩
         ·cases j with
          |zero=>simp at G;subst G;exact⟨x,rfl,ai⟩
          |succ j=>simp at G
         simp[cellsOf]
        |cons u ts=>
         refine⟨(v,a),ae,⟨by simp[U.1],λj w G=>?_⟩,by simp[cellsOf],ag⟩
         cases j with
         |zero=>simp at G;subst G;exact⟨x,rfl,by simpa [bX]using ai⟩
         |succ j=>
          obtain⟨y,ad,ao⟩:=U.2 j w (by simpa using G)
          exact⟨y,by simpa using ad,by simpa [bX]using ao⟩
    obtain⟨a,k,U,rfl,Z⟩:=ax (au.bC i) cs ds xs aA (λt ab=>bV.val i t ab) O M
    refine⟨au.du i a,k,s7 U,?_,Z⟩
    have e:((Ty.st i).enc (au.du i a)).cells=cellsOf (au.bC i) (au.un i (au.du i a)):=bB.cells i (au.du i a)
    rw[e,au.lF]
  have ah:bE t=false:=by cases t<;>simp_all [bE]
  cases M with
  |nil=>exfalso;cases t<;>simp_all [iU]
  |cons af Z=>
   rename_i p d ps ds
   obtain⟨u,y⟩:=p
   have O:iU (f+1) t ((u,y)::ps)=if t=u then some (y,ps)else(p8 t u).map λy=>(y,ps):=by cases t<;>simp_all [iU]
   rw[O]at h
   split at h
   ·rename_i e;subst e
    injection h with h;injection h with B F;subst B;subst F
    obtain⟨_,v,Y,rfl⟩:=af
    exact⟨v,ds,Y,by rw[(gV ah aa.1 aa.2 v).1];rfl,Z⟩
   simp only[Option.map_eq_some_iff,Prod.mk.injEq]at h
   obtain⟨aD,ad,rfl,rfl⟩:=h
   obtain⟨_,v,Y,rfl⟩:=af
   obtain⟨w',aB,aC⟩:=Bt (ρ:=ρ) ad v
   exact⟨w',ds,aB,by rw[(gV ah aa.1 aa.2 w').1,aC];rfl,Z⟩
theorem x2[bB][bV]{ρ:az}{t:Ty}{cs:List (Ty×X)}{x:X}{ds:List D}(G:isVal t)(h:qz t cs=some x)(F:F2 (RC ρ) cs ds):∃v,x.den ρ=some ⟨t,v⟩∧ds=(t.enc v).cells:=by
 unfold qz at h
 split at h
 ·rename_i y M
  injection h with h;subst h
  obtain⟨v,O,j,k,B⟩:=Od _ G M F
  cases B
  exact⟨v,j,by simpa using k⟩
 cases h
end Go.Sy
namespace Go.af
open Go dK
variable {α:Type}
def xY(n:Int)(x:List (Int×α)):Option Nat:=x.findIdx? λp=>decide (n=p.1)
def o6(x:List (Int×α))(n:Int)(v:α):List (Int×α):=match xY n x with
 |some j=>x.set j (n,v)
 |none=>x++[(n,v)]
def tU(x:List (Int×α))(n:Int):List (Int×α):=match xY n x with
 |some j=>x.eraseIdx j
 |none=>x
def qy(x:List (Int×α))(n:Int):Bool:=(xY n x).isSome
structure JD(k:IntKind) where
 n:Int
 deriving DecidableEq
instance {k:IntKind}:dK (JD k):=⟨λr=>.int k r.n,λd=>match d with |.int _ n=>⟨n⟩|_=>⟨0⟩,1,λ_=>rfl,λ_=>rfl,by simp[D.cells,D.one]⟩
end Go.af
namespace Go.af
open Go Go.RowKit
variable [aL][bu]
def oy:T→Option (FuncId×List T)
 |.ar g ts=>some (g,ts)
 |.d (.fn g)=>some (g,[])
 |.d (.ar g ds)=>some (g,ds.map .d)
 |_=>none
theorem Bs{I:aq}{m:Nat→Value}{l:List AO}{v:Value}{t:T}{g:FuncId}{ts:List T}(h:ah I m l v t)(j:oy t=some (g,ts)) :
  ∃vs:Array Value,v=.func (.func g) #[] vs∧vs.size=ts.length∧∀(i:Nat) u x,vs[i]?=some u→ts[i]?=some x→ah I m l u x:=by
 unfold oy at j
 split at j
 ·injection j with j;injection j with B F;subst B;subst F
  cases h with
  |ar _ vs _ M O=>exact⟨vs,rfl,M,O⟩
 ·injection j with j;injection j with B F;subst B;subst F
  have:=bn h;cases this
  exact⟨#[],rfl,rfl,by simp⟩
 ·injection j with j;injection j with B F;subst B;subst F
  have:=bn h
  cases this with
  |ar _ vs _ M O=>
   refine⟨vs,rfl,by simpa using M,λi u x U k=>?_⟩
   rw[List.getElem?_map]at k
   rename_i ds
   cases G:ds[i]? with
   |none=>rw[G]at k;cases k
   |some d=>rw[G]at k;simp at k;subst k;exact .d _ _ (O i u d U G)
 cases j
section
variable {P:Program}{V:Env}{w0 w:World}{I0 I:aq}{m:Nat→Value}{l:List AO}{n:Nat}{Q:Exit→St→Prop}{s:St}{x y:Code}
theorem av.frame(O:av w0 I0 w I m l){vals:Nat→Value}{ft:Tm}(al:∀k,ah I m l (vals k) (get ft k)) :
  av w0 I0 w I (aC m l.length (.bool false)) (l++[.frame l.length vals ft])∧Le I m l I (aC m l.length (.bool false)) (l++[.frame l.length vals ft]):=by
 have G:∀k,k<l.length→(l++[AO.frame l.length vals ft])[k]?=l[k]?:=λk ag=>List.getElem?_append_left ag
 have ar:(l++[AO.frame l.length vals ft])[l.length]?=some (.frame l.length vals ft):=by simp
 have ai:Le I m l I (aC m l.length (.bool false)) (l++[.frame l.length vals ft]):=by
  refine⟨.refl I,by simp,λid F aa=>⟨?_,bq m _ (by omega)⟩,λid F M=>⟨?_,bq m _ (by omega)⟩,λid aj s' els' F Z=>⟨els',?_⟩⟩
  ·unfold isVar at aa⊢;rw[G id F];exact aa
  ·unfold isRow at M⊢;rw[G id F]at M;exact M
  rw[G id F]at Z;exact Z
 have af:∀k,k≠l.length→alive (l++[AO.frame l.length vals ft]) k=true→alive l k=true:=by
  intro k ag ak
  obtain⟨o,B,ae⟩:=bg.1 ak
  have aq:k<l.length:=by have:=(List.getElem?_eq_some_iff.1 B).1;simp at this;omega
  rw[G k aq]at B
  exact bg.2 ⟨o,B,ae⟩
 refine⟨⟨O.below,O.sat,O.ext,λid o B=>?_,λi j b an hi ao U Y=>?_⟩,ai⟩
 ·by_cases F:id<l.length
  ·rw[G id F]at B;rw[bq m _ (by omega)]
   by_cases ae:o=.dead
   ·subst ae;trivial
   exact(O.obj id o B).dD ai (λ_ _=>rfl) (λ_ _=>⟨rfl,rfl⟩) (.push (λ_ _ _=>rfl) rfl)
  have:id=l.length:=by
   have:=(List.getElem?_eq_some_iff.1 B).1;simp at this;omega
  subst this
  rw[ar]at B;injection B with B;subst B
  rw[cD]
  refine⟨rfl,by simp,λk=>?_⟩
  have e:(l++[AO.frame l.length vals ft]).take l.length=l:=by simp
  rw[e]
  refine(al k).mono ⟨.refl I,Nat.le_refl _,λid F aa=>⟨aa,bq m _ (by omega)⟩,λid F M=>⟨M,bq m _ (by omega)⟩,λid aj s' els' F Z=>⟨els',Z⟩⟩
 by_cases ab:i=l.length
 ·subst ab;rw[cD]at U;cases U
 by_cases ad:j=l.length
 ·subst ad;rw[cD]at Y;cases Y
 rw[bq m _ ab]at U;rw[bq m _ ad]at Y
 exact O.sep i j b an (af i ab hi) (af j ad ao) U Y
theorem av.JL(h:av w0 I0 w I m l):∃J:aq,av w0 I0 (w.alloc (.deferred (some []))) J m l∧Le I m l J m l∧J.df w.heap.size∧¬I.df w.heap.size:=by
 let J:aq:=⟨I.cell,I.mp,λb=>I.df b∨b=w.heap.size⟩
 have B:I.le J:=⟨λ_ _ _ h=>h,λ_ _ h=>h,λ_ h=>.inl h⟩
 have M:(w.alloc (.deferred (some []))).heap[w.heap.size]?=some (.deferred (some [])):=World.alloc_heap_new w _
 obtain⟨O,U⟩:=h.call (J:=J) (cm.alloc (cm.refl _ _) (Nat.le_refl _) (.deferred (some []))) (.of B (λ_ _=>rfl) (λ_ _=>rfl))
  ⟨λb o v k=>by rw[World.cell?_alloc_lt w _ _ (h.sat.lt k)];exact h.sat.cell b o v k,λb F k=>MapAt.to (Below.heap_alloc w _ b (h.sat.jv k)) (h.sat.mp b F k),
   λb j=>by
   rcases j with j|rfl
   ·exact(Below.heap_alloc w _ b (h.sat.gE j)).trans (h.sat.df b j)
   exact M,λg d G=>(h.sat.c9 g d G).mono B⟩
 exact⟨J,O,U,.inr rfl,λj=>absurd (h.sat.gE j) (Nat.lt_irrefl _)⟩
def se(P:Program)(w0:World)(I0:aq)(n:Nat)(Q:Exit→St→Prop)(s:St)(id:Nat)(l':List AO):Prop:=
 ∃base k ps aP body tm st cP,l'[id]?=some (.loop base k ps aP body tm st cP)∧st ≠ .busy ∧
  match cP with
  |none=>Q .normal ⟨s.t,l'.set id (.loop base k ps aP body tm .exhausted cP)⟩
  |some c=>bH P w0 I0 n c ⟨s.t,l'.set id (.loop base k ps aP body tm .exhausted cP)⟩ Q
theorem Lh{w:World}{b:Nat}{r:Loop}{o:Obj}(h:w.heap[b]?=some (.loop r)):(w.putObj b o).heap[b]?=some o:=World.putObj_heap_same (Array.getElem?_eq_some_iff.1 h).1
theorem av.rS(U:av w0 I0 w I m l){id b base k:Nat}{ps:Array Tmp}{aP body:Code}{tm:Tm}{st st':LoopState}{cP pend':Option Code}(O:l[id]?=some (.loop base k ps aP body tm st cP))(M:m id=.func (.yield b) #[] #[]) :
  ∃r,w.heap[b]?=some (.loop r)∧(r.state=st∧r.pending=cP∧r.params=ps∧r.assign=aP∧r.body=body∧r.tmps.size=k)∧base≤l.length∧(∀j,ah I m (l.take base) (r.tmps.getD j undef) (get tm j)) ∧
   Le I m l I m (l.set id (.loop base k ps aP body tm st' pend'))∧av w0 I0 (w.putObj b (.loop {r with state:=st',pending:=pend' })) I m (l.set id (.loop base k ps aP body tm st' pend')):=by
 obtain⟨af,r,B,ae,Y,F,Z,aa,ab⟩:=U.obj id _ O
 rw[M]at B;injection B with B;injection B with B;subst B
 have G:Le I m l I m (l.set id (.loop base k ps aP body tm st' pend')):=Le.setKind O rfl rfl (λe size els h=>by rcases h with h|h<;>cases h)
 refine⟨r,Y,F,Z,aa,G,?_⟩
 refine U.je (w':=w.putObj b (.loop {r with state:=st',pending:=pend' })) O (by simp) (by rw[M];rfl) ab rfl rfl G rfl rfl rfl (Nat.le_refl _) (by simp) (λj ad=>World.putObj_heap_other ad) ?_
 exact⟨b,_,M,ae,Lh Y,⟨rfl,rfl,F.2.2.1,F.2.2.2.1,F.2.2.2.2.1,F.2.2.2.2.2⟩,by simpa using Z,λj=>(aa j).mono (G.take base),ab⟩
theorem xl(t:Tm):∃N,get t N=.undef:=by
 have:∃j,∀k,j≤k→get t k=.undef:=by
  induction t with
  |nil=>exact⟨0,λ_ _=>rfl⟩
  |cons p r F=>
   obtain⟨i,t⟩:=p
   obtain⟨j,B⟩:=F
   exact⟨j+i+1,λk G=>by simp only[get];rw[if_neg (by omega)];exact B k (by omega)⟩
 obtain⟨j,B⟩:=this
 exact⟨j,B j (Nat.le_refl _)⟩
def mF(E:bN)(ρ:Operand→T)(o:Oper):Option (Nat×List T):=match o.op with
 |.call c=>(match c.callee with
  |.value f=>(match ρ f with
   |.aK id=>some (id,dZ E c.argTypes.toList (c.args.toList.map ρ))
   |_=>none)
  |_=>none)
 |_=>none
theorem UO{E:bN}{ρT:Operand→T}{o:Oper}{x:Nat×List T}(h:mF E ρT o=some x):∀c,o.op ≠ .defer c:=by
 intro c j
 unfold mF at h
 rw[j]at h;cases h
theorem UP{E:bN}{o:Oper}{ρ:Operand→Value}{ρT:Operand→T}{id:Nat}{ts:List T}(aa:∀x∈o.op.operands,ah I m l (ρ x) (ρT x))(h:mF E ρT o=some (id,ts)) :
  ∃(b:Nat)(B:Array Value)(f:Operand),f∈o.op.operands∧ρ f=.func (.yield b) #[] #[]∧ρT f=.aK id∧m id=.func (.yield b) #[] #[]∧(execOp ρ o).run P w=(Instr.yield b B).run P w∧B.size=ts.length∧∀(i:Nat) v x,B[i]?=some v→ts[i]?=some x→ah I m l v x:=by
 unfold mF at h
 split at h
 ·rename_i c O
  split at h
  ·rename_i f G
   have Z:f∈o.op.operands:=by simp[O,Op.operands,Call.operands,G]
   have M:=aa f Z
   have ae:∀(i:Nat) v x,(c.args.toList.map ρ)[i]?=some v→(c.args.toList.map ρT)[i]?=some x→ah I m l v x:=by
    intro i v x j k
    rw[List.getElem?_map]at j k
    cases F:c.args.toList[i]? with
    |none=>simp[F]at j
    |some a=>
     simp[F]at j k
     subst j;subst k
     refine aa a ?_
     simp only[O,Op.operands,Call.operands,G]
     have:=List.mem_of_getElem? F
     simp at this⊢
     exact .inr this
   obtain⟨ag,af⟩:=vE (E:=E) c.argTypes.toList _ _ ae
   generalize ab:ρ f=al at M
   split at h
   ·rename_i aj Y
    rw[Y]at M
    injection h with h;injection h with ad U;subst ad
    cases M with
    |aK _ b ak ai=>
     refine⟨b,c.args.map ρ,f,Z,ab,Y,ai,?_,?_,λi v x j k=>?_⟩
     ·unfold execOp
      simp only[O,resolve,G,ab,Deferred.ofValue,Sem.run_bind,Sem.run_pure,Result.andThen_ok,invoke]
      simp
     ·rw[←U];simp[ag]
     rw[←U]at k
     exact af i v x (by simpa using j) k
   cases h
  cases h
 cases h
def mi(ps:List Tmp)(ts:List T)(tm:Tm):Tm:=(ps.zip ts).foldl (λs p=>(p.1,p.2)::s) tm
theorem HZ:∀(ps:List Tmp)(B:List Value)(ts:List T)(j:Array Value)(tm:Tm),B.length=ts.length→(∀(i:Nat) v x,B[i]?=some v→ts[i]?=some x→ah I m l v x)→(∀p∈ps,p<j.size)→(∀k,ah I m l (j.getD k undef) (get tm k)) →
  ((ps.zip B).foldl (λt(p:Tmp×Value)=>t.setIfInBounds p.1 p.2) j).size=j.size∧∀k,ah I m l (((ps.zip B).foldl (λt(p:Tmp×Value)=>t.setIfInBounds p.1 p.2) j).getD k undef) (get (mi ps ts tm) k)
 | [],B,ts,j,tm,_,_,_,h=>⟨rfl,by simpa [mi]using h⟩
 |p::ps,[],[],j,tm,_,_,_,h=>⟨by simp,by simpa [mi]using h⟩
 |p::ps,v::B,t::ts,j,tm,F,O,M,h=>by
  have Z:p<j.size:=M p (by simp)
  obtain⟨U,Y⟩:=HZ ps B ts (j.setIfInBounds p v) ((p,t)::tm) (by simpa using F) (λi u x ab ad=>O (i+1) u x (by simpa using ab) (by simpa using ad)) (λq aa=>by simpa using M q (by simp[aa])) (λk=>by
   simp only[get]
   by_cases G:p=k
   ·subst G
    rw[if_pos rfl,Array.getD_eq_getD_getElem?,Array.getElem?_setIfInBounds_self_of_lt Z]
    exact O 0 v t rfl rfl
   rw[if_neg G,Array.getD_eq_getD_getElem?,Array.getElem?_setIfInBounds_ne G,←Array.getD_eq_getD_getElem?]
   exact h k)
  refine⟨by simpa using U,?_⟩
  simpa [mi]using Y
 |p::ps,[],_::_,_,_,F,_,_,_=>by simp at F
 |p::ps,_::_,[],_,_,F,_,_,_=>by simp at F
def tG:Exit→Option (Option Code)
 |.normal=>some none
 |.ret=>some (some .ret)
 |.exit id=>some (some (.exit id))
 |.goto t=>some (some (.goto t))
 |_=>none
def DE(K:St→Prop):Exit→St→Prop
 |.normal,s=>K s
 |_,_=>False
def AB(F:St)(at_:Nat)(vals:Nat→Value)(ft:Tm)(id base k:Nat)(ps:Array Tmp)(aP body:Code)(tm:Tm)(B:Option Code)(K:List AO→Prop):Prop:=
 ∃j,Sub F j∧j.l[at_]?=some (.frame at_ vals ft)∧j.l[id]?=some (.loop base k ps aP body tm .busy none)∧K (j.l.set id (.loop base k ps aP body tm (if B.isNone then .ready else .done) B))
end
end Go.af
namespace Go.af
open Go Go.RowKit dK
variable [aL]
structure Bx(α:Type) where
 v:α
instance {α:Type} [dK α]:dK (Bx α):=⟨λb=>.box (enc b.v),λd=>match d with |.box d=>⟨dec d⟩|d=>⟨dec d⟩,1,λb=>by simp only[BD],λ_=>rfl,by simp[D.cells,D.one]⟩
section
variable [bu]{P:Program}{g:FuncId}
end
section
variable {w0 w:World}{I0 I:aq}{m:Nat→Value}{l:List AO}
theorem av.S4(h:av w0 I0 w I m l){g:Nat}{cur:Array Value}{e:TypeId}{ab:Nat×Nat}(aj:w0.heap.size≤g)(af:w.heap[g]?=some (.cells cur e ab))(G:I.cM g)(ae:∀id,alive l id=true→own (m id)≠some g) :
  av w0 I0 w (I.dq g cur.toList) m l∧Le I m l (I.dq g cur.toList) m l:=by
 let J:=I.dq g cur.toList
 have B:∀b,b≠g→J.cell b=I.cell b:=λb j=>by funext o;simp[J,aq.dq,j]
 have F:I.le J:=⟨λb o v k=>by
  have j:b≠g:=by rintro rfl;rw[G.1 o]at k;cases k
  rw[B b j];exact k,λ_ _ h=>h,λ_ h=>h⟩
 have O:Le I m l J m l:=⟨F,Nat.le_refl _,λ_ _ h=>⟨h,rfl⟩,λ_ _ h=>⟨h,rfl⟩,λ_ _ _ els _ h=>⟨els,h⟩⟩
 have ai:cw w J:=⟨λb o v k=>by
  by_cases j:b=g
  ·subst j
   simp only[J,aq.dq,if_true]at k
   cases M:cur[o]? with
   |none=>simp[M,G.1 o]at k
   |some x=>simp[M]at k;subst k;simp[World.cell?,af,M]
  rw[B b j]at k;exact h.sat.cell b o v k,h.sat.mp,h.sat.df,λg d ad=>(h.sat.c9 g d ad).mono F⟩
 refine⟨⟨h.below,ai,⟨λb o v k=>F.cell b o v (h.ext.lc b o v k),h.ext.lm,h.ext.ld,λb j=>(B b (by omega)).trans (h.ext.cell b j),h.ext.mp⟩,λid o U=>?_,h.sep⟩,O⟩
 have Y:=h.obj id o U
 have aa:(∀b,own (m id)=some b→b≠g)→dh w0.heap.size w J m l (m id) o:=λag=>Y.dD O (λ_ _=>rfl) (λb j=>⟨B b (ag b j),rfl⟩) ⟨λb u Z _=>⟨rfl,B b (λe=>by subst e;rw[G.1]at Z;cases Z),rfl⟩,λq b ah j=>.inl ⟨q,ah,j⟩⟩
 cases o with
 |dead=>trivial
 |frame base vals t=>exact aa λb j=>by rw[Y.1]at j;cases j
 |_=>exact aa λb j e=>ae id (bg.2 ⟨_,U,by simp[AO.isVar,AO.isRow]⟩) (e▸j)
variable [bu]{s:St}
end
end Go.af
namespace Go.Sy
open Go Go.af
mutual
def bU:T→List Nat
 |.ptr id _=>[id]
 |.row id=>[id]
 |.aO id _ _=>[id]
 |.map id=>[id]
 |.aK id=>[id]
 |.bj id _=>[id]
 |.sub id _ _=>[id]
 |.aQ id _=>[id]
 |.aw ts=>ji ts
 |.cond _ t=>bU t
 |.ar _ ts=>ji ts
 |.agg ts=>ji ts
 |_=>[]
def ji:List T→List Nat
 | []=>[]
 |t::ts=>bU t++ji ts
end
theorem sd:∀{ts:List T}{i:Nat}{t:T}{r:Nat},ts[i]?=some t→r∈bU t→r∈ji ts
 | [],i,t,r,h,_=>by simp at h
 |u::ts,i,t,r,h,j=>by
  simp only[ji,List.mem_append]
  cases i with
  |zero=>simp at h;subst h;exact .inl j
  |succ i=>exact .inr (sd (by simpa using h) j)
variable [aL][bu]
structure JE(m:Nat→Value)(l:List AO)(m':Nat→Value)(l':List AO)(r:Nat):Prop where
 lt:r<l'.length
 var:af.isVar l r=true→af.isVar l' r=true
 row:af.isRow l' r=true→af.isRow l r=true
 rows:∀e size els,(l'[r]?=some (.row e size els)∨l'[r]?=some (.aM e size els))→∃els',(l[r]?=some (.row e size els')∨l[r]?=some (.aM e size els'))
 val:m' r=m r
theorem ah.loc{I:aq}{m m':Nat→Value}{l l':List AO}{v:Value}{t:T}(h:ah I m l v t)(F:∀r∈bU t,JE m l m' l' r):ah I m' l' v t:=by
 induction h with
 |undef v=>exact .undef v
 |d v x r=>exact .d v x r
 |aX s=>exact .aX s
 |ptr id b off B j=>
  have k:=F id (by simp[bU])
  exact .ptr id b off (k.var B) (k.val.trans j)
 |aS b o size els k off val B j U aa=>exact .aS b o size els k off val B j U aa
 |row A n c id B j=>
  have k:=F id (by simp[bU])
  exact .row A n c id k.lt λG=>k.val.trans (j (k.row G))
 |aO a id q off B j=>
  have k:=F id (by simp[bU])
  refine .aO a id q off k.lt λe size els G=>?_
  obtain⟨els',Z⟩:=k.rows e size els G
  obtain⟨b,n,c,ab,ad⟩:=j e size els' Z
  exact⟨b,n,c,k.val.trans ab,ad⟩
 |sub A n c id lo hi B j=>
  have k:=F id (by simp[bU])
  refine .sub A n c id lo hi k.lt λe size els G=>?_
  obtain⟨els',Z⟩:=k.rows e size els G
  obtain⟨A0,n0,c0,ab,ad⟩:=j e size els' Z
  exact⟨A0,n0,c0,k.val.trans ab,ad⟩
 |aQ A n c id x B j U=>
  have k:=F id (by simp[bU])
  exact .aQ A n c id x k.lt (λG=>k.val.trans (j (k.row G))) U
 |map r id B j=>
  have k:=F id (by simp[bU])
  exact .map r id k.lt λG=>k.val.trans (j (k.row G))
 |aw vs ts B _ O=>exact .aw vs ts B λi v t Y M=>O i v t Y M λr h=>F r (by simp only[bU];exact sd M h)
 |cond v pc t _ ae O=>exact .cond v pc t (λaf=>O af λr h=>F r (by simpa [bU]using h)) ae
 |ar g vs ts B _ O=>exact .ar g vs ts B λi v t Y M=>O i v t Y M λr h=>F r (by simp only[bU];exact sd M h)
 |aK id b B j=>
  have k:=F id (by simp[bU])
  exact .aK id b (k.var B) (k.val.trans j)
 |bj id b n c B j U aa=>
  have k:=F id (by simp[bU])
  exact .bj id b n c (k.var B) (k.val.trans j) U aa
 |agg vs ts B j _ O=>exact .agg vs ts B j λi v t Y M=>O i v t Y M λr h=>F r (by simp only[bU];exact sd M h)
def Ck:AO→Option (Nat×Tm)
 |.frame b _ t=>some (b,t)
 |.loop b _ _ _ _ t _ _=>some (b,t)
 |_=>none
def oh(ids:List Nat)(l:List AO):Prop:=∀id∈ids,∀o b t,l[id]?=some o→Ck o=some (b,t)→b≤ids.length∧∀k,∀r∈bU (get t k),r<b∧ids[r]?=some r
theorem HT{w0 w:World}{I0 I:aq}{m:Nat→Value}{l:List AO}{ids:List Nat}(h:av w0 I0 w I m l)(aG:ids.Nodup)(aE:oh ids l):av w0 I0 w I (λk=>m ((ids[k]?).getD 0)) (dx ids l):=by
 have aj:∀(k id:Nat),ids[k]?=some id→(λk:Nat=>m ((ids[k]?).getD 0)) k=m id:=λk id U=>by simp[U]
 have al:∀{k:Nat}{o:AO},(dx ids l)[k]?=some o→∃id,ids[k]?=some id:=λ{k o} U=>by
  cases hi:ids[k]? with
  |none=>simp[dx,hi]at U
  |some id=>exact⟨id,rfl⟩
 have aw:∀{k id:Nat},ids[k]?=some id→alive (dx ids l) k=alive l id:=λU=>by unfold alive;rw[ky U,mh U]
 refine⟨h.below,h.sat,h.ext,λk o ay=>?_,λi j b aF hi an=>?_⟩
 ·obtain⟨id,U⟩:=al ay
  have Y:=rz (l:=l) U
  rw[ay]at Y
  cases ai:l[id]? with
  |none=>rw[ai]at Y;simp[AO.cQ]at Y;subst Y;trivial
  |some o'=>
   rw[ai]at Y;simp only[Option.getD_some,Option.some.injEq]at Y
   have M:=h.obj id o' ai
   show dh _ _ _ _ _ (m ((ids[k]?).getD 0)) o
   rw[U,Y];simp only[Option.getD_some]
   have pre:∀(b:Nat)(t:Tm),Ck o'=some (b,t)→b≤(dx ids l).length∧∀(v:Value)(j:Nat),ah I m (l.take b) v (get t j)→ah I (λk=>m ((ids[k]?).getD 0)) ((dx ids l).take b) v (get t j):=λb t aC=>by
    obtain⟨ab,ad⟩:=aE id (List.mem_of_getElem? U) o' b t ai aC
    refine⟨by simpa [dx]using ab,λv j aJ=>ah.loc aJ λr aK=>?_⟩
    obtain⟨O,G⟩:=ad j r aK
    refine⟨by simp[dx];omega,λaa=>?_,λaa=>?_,λe size els ax=>⟨els,?_⟩,aj r r G⟩
    ·rw[tE O]at aa⊢;exact(ky G).trans aa
    ·rw[xx O]at aa⊢;exact(mh G).symm.trans aa
    rw[List.getElem?_take,if_pos O]at ax⊢;exact zA G ax
   cases o' with
   |dead=>trivial
   |var ty cs=>
    obtain⟨b,vs,O,G,ae,ak,Z,af⟩:=M
    refine⟨b,vs,O,G,ae,by simp[ak],λi x t az F=>?_,af⟩
    rw[List.getElem?_map]at F
    cases B:cs[i]? with
    |none=>rw[B]at F;simp at F
    |some t0=>
     rw[B]at F;simp at F;subst F
     exact⟨(Z i x t0 az B).1.cQ aj,(Z i x t0 az B).2⟩
   |row e size els=>exact M
   |aM e size els=>exact M
   |map ks vs=>exact M
   |cU ks vs=>exact M
   |aU e size ks vs op=>exact dh.gm (λq aI=>Sv (m':=λk=>m ((ids[k]?).getD 0)) aj aI) M
   |iter ks vs done=>exact M
   |bD ks ts=>
    obtain⟨b,aB,ao,O,G,ae,ak,Z,af,aL⟩:=M
    refine⟨b,aB,ao,O,G,ae,by simp[ak],Z,λi e t aD F=>?_,aL⟩
    rw[List.getElem?_map]at F
    cases B:ts[i]? with
    |none=>rw[B]at F;simp at F
    |some t0=>
     rw[B]at F;simp at F;subst F
     exact(af i e t0 aD B).cQ aj
   |frame b vals t=>
    obtain⟨ab,ad⟩:=pre b t rfl
    exact⟨M.1,ab,λj=>ad _ j (M.2.2 j)⟩
   |loop b n ps aP body t st cP=>
    obtain⟨aA,r,ao,O,G,ae,ak,Z,af⟩:=M
    obtain⟨ab,ad⟩:=pre b t rfl
    exact⟨aA,r,ao,O,G,ae,ab,λj=>ad _ j (Z j),af⟩
 obtain⟨aQ,O,_⟩:=bg.1 hi
 obtain⟨aR,G,_⟩:=bg.1 an
 obtain⟨a,ag⟩:=al O
 obtain⟨c,B⟩:=al G
 rw[aw ag]at hi;rw[aw B]at an
 have aH:a≠c:=λe=>by
  subst e
  have ar:=List.getElem?_eq_some_iff.1 ag
  have au:=List.getElem?_eq_some_iff.1 B
  obtain⟨ar,aN⟩:=ar;obtain⟨au,aO⟩:=au
  exact aF (Ov aG ag B)
 simp only[ag,B,Option.getD_some]
 exact h.sep a c b aH hi an
section
variable {P:Program}{V:Env}{s:St}
theorem TF(ids:List Nat){t':Tm}{l':List AO}(aa:ids.Nodup)(U:oh ids s.l)(Z:dx ids s.l=l')(O:na ids s.t t'):Sub s ⟨t',l'⟩:=by
 subst Z
 intro w0 I0 n a w ab
 obtain⟨B,I,m,G,F,M⟩:=ab
 refine⟨B,I,_,HT G aa U,F,λj=>?_⟩
 rcases w9 O j with h|h
 ·rw[h];exact .undef _
 rw[h];exact(M j).cQ λk id Y=>by simp[Y]
theorem IL(j id:Nat)(Z:D)(ts:List T)(ids:List Nat){ty:TypeId}{t':Tm}{l':List AO}(au:get s.t j=.ptr id 0)(ab:s.l[id]?=some (.var ty ts))(ar:id∉ids)(ax:ids.Nodup)(an:oh ids s.l)(aw:dx ids s.l=l')(al:na ids s.t t')(aB:∀(I J:aq)(m:Nat→Value)(b:Nat)(vs:Array Value),I.le J→m id=.pointer (some ⟨b,0,none⟩)→vs.size=ts.length→(∀(i:Nat) x t,vs[i]?=some x→ts[i]?=some t→ah I m s.l x t)→(∀k,k<vs.size→J.cell b k=vs[k]?)→Rd J (.pointer (some ⟨b,0,none⟩)) Z) :
  Sub s ⟨(j,.d Z)::t',l'⟩:=by
 subst aw
 intro w0 I0 n a w aA
 obtain⟨ag,I,m,M,ai,aa⟩:=aA
 obtain⟨b,vs,F,aF,aG,aH,aI,aJ⟩:=M.obj id _ ab
 have aC:=HT M ax an
 have ak:alive s.l id=true:=bg.2 ⟨_,ab,by simp⟩
 have ao:∀k,alive (dx ids s.l) k=true→own (m ((ids[k]?).getD 0))≠some b:=by
  intro k B
  obtain⟨o,az,_⟩:=bg.1 B
  have G:=(List.getElem?_eq_some_iff.1 az).1
  have G:k<ids.length:=by simpa [dx]using G
  have O:ids[k]?=some ids[k]:=List.getElem?_eq_getElem G
  have ay:ids[k]≠id:=λe=>ar (e▸List.getElem_mem G)
  have aj:alive s.l ids[k]=true:=by
   unfold alive at B⊢;rw[ky O,mh O]at B;exact B
  rw[O]
  exact M.sep id ids[k] b (Ne.symm ay) ak aj (by rw[F];rfl)
 obtain⟨aK,Y⟩:=aC.S4 aF aG aJ ao
 refine⟨ag,_,_,aK,ai.mono Y.cB,λk=>?_⟩
 simp only[af.get]
 by_cases B:j=k
 ·subst B
  rw[if_pos rfl]
  have U:=aa j
  rw[au]at U
  generalize a.tmps.getD j undef=v at U
  cases U with
  |ptr _ ae _ aL ad=>
   rw[ad]at F;injection F with F;injection F with F;injection F with F;subst F
   exact .d _ _ (aB I _ m ae vs Y.cB ad aH (λi x t aE aD=>(aI i x t aE aD).1) λk av=>by simp[aq.dq,av])
 rw[if_neg B]
 rcases w9 al k with h|h
 ·rw[h];exact .undef _
 rw[h];exact((aa k).cQ λk id B=>by simp[B]).mono Y
theorem TB(j id:Nat)(d:D)(ids:List Nat){ty:TypeId}{t':Tm}{l':List AO}(ab:get s.t j=.ptr id 0)(ah:s.l[id]?=some (.var ty (d.cells.map .d)))(U:∀x∈d.cells,x.one=true)(aa:id∉ids)(ag:ids.Nodup)(Z:oh ids s.l)(ae:dx ids s.l=l')(Y:na ids s.t t') :
  Sub s ⟨(j,.d (.box d))::t',l'⟩:=by
 refine IL j id _ _ ids ab ah aa ag Z ae Y λI J m b vs af aj F ai O=>.box _ _ (λk=>(vs[k]?).getD undef) U (λk ad=>?_) λk x M=>?_
 ·have B:k<vs.size:=by rw[F];simpa using ad
  rw[O k B];simp[B]
 have B:k<vs.size:=by rw[F];simpa using (List.getElem?_eq_some_iff.1 M).1
 have G:vs[k]?=some vs[k]:=Array.getElem?_eq_getElem B
 rw[G]
 exact(bn (ai k _ (.d x) G (by simp[M]))).mono af
theorem SY{id f:Nat}{I J:aq}{m:Nat→Value}{b:Nat}{vs:Array Value}{l:List AO}(j:m id=.pointer (some ⟨b,0,none⟩))(O:vs.size=[T.ar f [.ptr id 0]].length)(Z:∀(i:Nat) x t,vs[i]?=some x→[T.ar f [.ptr id 0]][i]?=some t→ah I m l x t)(M:∀k,k<vs.size→J.cell b k=vs[k]?):Rd J (.pointer (some ⟨b,0,none⟩)) (.self f):=by
 refine .self b f ?_
 have af:vs.size=1:=O
 have G:vs[0]?=some (vs[0]'(by omega)):=Array.getElem?_eq_getElem _
 rw[M 0 (by omega),G]
 have F:=Z 0 _ _ G rfl
 generalize vs[0]'(by omega)=v at F
 cases F with
 |ar _ ws _ ab ad=>
  have U:ws.size=1:=ab
  have Y:ws[0]?=some (ws[0]'(by omega)):=Array.getElem?_eq_getElem _
  have B:=ad 0 _ _ Y rfl
  have e:ws = #[ws[0]'(by omega)]:=by
   apply Array.ext
   ·simp[U]
   intro i F B;simp at B;subst B;rfl
  generalize ws[0]'(by omega)=ag at B e
  subst e
  cases B with
  |ptr _ ae _ _ aa=>
   rw[aa]at j;injection j with j;injection j with j;injection j with j;subst j
   simp
theorem TA{s:St}{t':Tm}(h:∀k,get t' k=.undef∨get t' k=get s.t k):Sub s ⟨t',s.l⟩:=by
 intro w0 I0 n a w M
 obtain⟨j,I,m,F,B,G⟩:=M
 refine⟨j,I,m,F,B,λk=>?_⟩
 rcases h k with e|e
 ·show ah I m s.l _ (get t' k);rw[e];exact .undef _
 show ah I m s.l _ (get t' k);rw[e];exact G k
end
end Go.Sy
namespace Go.Sy
open Go Go.af
variable [au]
inductive RX(ρ:az):TX→T→Prop
 |undef (t):RX ρ .undef t
 |gone:RX ρ .gone af.gone
 |d (t x) (v:t.den):isVal t→x.den ρ=some ⟨t,v⟩→RX ρ (.d t x) (.d (t.enc v))
 |aX (s):RX ρ (.aX s) (.aX s)
 |cV:RX ρ .cV (.d (.map [] []))
 |ptr (id off):RX ρ (.ptr id off) (.ptr id off)
 |aS (t e b off size els k) (v:t.den):isVal t→e.den ρ=some ⟨t,v⟩→k<els.length→((dS els k).cells.drop b).take t.size=(t.enc v).cells→b+t.size≤size→(b=0→size=t.size→dS els k=t.enc v) →
   RX ρ (.aS t e off) (.aS size els k (b+off))
 |row (id):RX ρ (.row id) (.row id)
 |aO (id k off kk) (n:Int):k.den ρ=some ⟨.int kk,n⟩→RX ρ (.aO id k off) (.aO id n.toNat off)
 |map (id):RX ρ (.map id) (.map id)
 |aK (id):RX ρ (.aK id) (.aK id)
 |bj (id n):RX ρ (.bj id n) (.bj id n)
 |aQ (id t x) (xs:List t.den):x.den ρ=some ⟨.list t,xs⟩→RX ρ (.aQ id t x) (.aQ id (.slice t.size (xs.map t.enc)))
 |sub (id lo hi) (k1 k2:IntKind) (n h:Int):0≤n→lo.den ρ=some ⟨.int k1,n⟩→hi.den ρ=some ⟨.int k2,h⟩→RX ρ (.sub id lo hi) (.sub id n.toNat h.toNat)
 |agg (cs ts):cs.length=ts.length→(∀(i:Nat) c t,cs[i]?=some c→ts[i]?=some t→RX ρ c t)→RX ρ (.agg cs) (.agg ts)
 |fA (cs) (ds:List D):cs.length=ds.length→(∀(i:Nat) c d,cs[i]?=some c→ds[i]?=some d→RX ρ c (.d d))→RX ρ (.agg cs) (.d (.agg ds))
 |aw (cs ts):cs.length=ts.length→(∀(i:Nat) c t,cs[i]?=some c→ts[i]?=some t→RX ρ c t)→RX ρ (.aw cs) (.aw ts)
 |eY (cs) (ds:List D):cs.length=ds.length→(∀(i:Nat) c d,cs[i]?=some c→ds[i]?=some d→RX ρ c (.d d))→RX ρ (.aw cs) (.d (.aw ds))
 |e8 (f cs) (ds:List D):cs.length=ds.length→(∀(i:Nat) c d,cs[i]?=some c→ds[i]?=some d→RX ρ c (.d d))→RX ρ (.ar f cs) (.d (.ar f ds))
 |ar (f cs ts):cs.length=ts.length→(∀(i:Nat) c t,cs[i]?=some c→ts[i]?=some t→RX ρ c t)→RX ρ (.ar f cs) (.ar f ts)
theorem RX.mono{ρ ae:az}(h:Ext ρ ae){c:TX}{t:T}(k:RX ρ c t):RX ae c t:=by
 induction k with
 |undef t=>exact .undef t
 |gone=>exact .gone
 |d t x v j F=>exact .d t x v j (X.cG h F)
 |aX s=>exact .aX s
 |cV=>exact .cV
 |ptr i o=>exact .ptr i o
 |aS t e b off size els k v j F M O U Y=>exact .aS t e b off size els k v j (X.cG h F) M O U Y
 |row i=>exact .row i
 |aO id k off kk n j=>exact .aO id k off kk n (X.cG h j)
 |map i=>exact .map i
 |aK i=>exact .aK i
 |bj i n=>exact .bj i n
 |aQ id t x xs j=>exact .aQ id t x xs (X.cG h j)
 |sub id lo hi k1 k2 n m G j F=>exact .sub id lo hi k1 k2 n m G (X.cG h j) (X.cG h F)
 |agg cs ts j _ B=>exact .agg cs ts j B
 |fA cs ds j _ B=>exact .fA cs ds j B
 |aw cs ts j _ B=>exact .aw cs ts j B
 |eY cs ds j _ B=>exact .eY cs ds j B
 |e8 f cs ds j _ B=>exact .e8 f cs ds j B
 |ar f cs ts j _ B=>exact .ar f cs ts j B
inductive LF where
 |frame (b:Nat) (vals:Nat→Value) (ft:Tm)
 |loop (b k:Nat) (ps:Array Tmp) (aP body:Code) (tm:Tm)
class bK where
 lam:Nat→Option LF
instance (priority:=low) NA:bK:=⟨λ_=>none⟩
def Bu:Ex→Code
 |.ret=>.ret
 |.exit i=>.exit i
 |_=>.skip
def l4:Ls→LoopState
 |.ready=>.ready
 |.busy=>.busy
 |.done _=>.done
def ny:Ls→Option Code
 |.done e=>some (Bu e)
 |_=>none
def gS(ft:Tm)(rs:List Nat):Prop:=∀k,∀r∈bU (get ft k),r∈rs
def CG:AO→Bool
 |.frame .. =>true
 |.loop .. =>true
 |_=>false
variable [bK]
inductive bd(ρ:az):AX→AO→Prop
 |dead:bd ρ .dead .dead
 |var (ty cs ts):F2 (RX ρ) cs ts→bd ρ (.var ty cs) (.var ty ts)
 |row (e t x) (xs:List t.den):isVal t→x.den ρ=some ⟨.list t,xs⟩→bd ρ (.row false e t x) (.row e t.size (xs.map t.enc))
 |aM (e t x) (xs:List t.den):isVal t→x.den ρ=some ⟨.list t,xs⟩→bd ρ (.row true e t x) (.aM e t.size (xs.map t.enc))
 |map (k v x) (m:List (k.den×v.den)):isVal k→isVal v→x.den ρ=some ⟨.map k v,m⟩→bd ρ (.map false k v x) (.map (m.map λp=>k.enc p.1) (m.map λp=>v.enc p.2))
 |cU (k v x) (m:List (k.den×v.den)):isVal k→isVal v→x.den ρ=some ⟨.map k v,m⟩→bd ρ (.map true k v x) (.cU (m.map λp=>k.enc p.1) (m.map λp=>v.enc p.2))
 |aU (e kk t x) (m:List (kk.den×List t.den)):isVal kk→isVal t→0<t.size→x.den ρ=some ⟨.map kk (.list t),m⟩→bd ρ (.aU e kk t x) (.aU e t.size (m.map λp=>kk.enc p.1) (m.map λp=>(Ty.list t).enc p.2) none)
 |eg (e kk t x k) (m:List (kk.den×List t.den)) (n:kk.den):isVal kk→isVal t→0<t.size→x.den ρ=some ⟨.map kk (.list t),m⟩→k.den ρ=some ⟨kk,n⟩→bd ρ (.eg e kk t x k) (.aU e t.size (m.map λp=>kk.enc p.1) (m.map λp=>(Ty.list t).enc p.2) (some ((bW (kk.enc n) (m.map λp=>kk.enc p.1) 0).getD (m.map λp=>kk.enc p.1).length)))
 |bD (kk ks ts us):F2 (RX ρ) ts us→bd ρ (.bD kk ks ts) (.bD (ks.map (.int kk)) us)
 |hZ (kk):bd ρ (.bD kk [] []) (.map [] [])
 |cr (j b rs vals ft):bK.lam j=some (.frame b vals ft)→gS ft rs→bd ρ (.cr j b rs) (.frame b vals ft)
 |lp (j b rs st k ps aP body tm):bK.lam j=some (.loop b k ps aP body tm)→gS tm rs→bd ρ (.lp j b rs st) (.loop b k ps aP body tm (l4 st) (ny st))
 |cO (o):CG o=true→bd ρ .cO o
theorem bd.mono{ρ ae:az}(h:Ext ρ ae){a:AX}{o:AO}(k:bd ρ a o):bd ae a o:=by
 cases k with
 |dead=>exact .dead
 |var ty cs ts B=>exact .var ty cs ts (B.mono λ_ _=>RX.mono h)
 |row e t x xs F B=>exact .row e t x xs F (X.cG h B)
 |aM e t x xs F B=>exact .aM e t x xs F (X.cG h B)
 |map k v x m F G B=>exact .map k v x m F G (X.cG h B)
 |cU k v x m F G B=>exact .cU k v x m F G (X.cG h B)
 |aU e kk t x m M F G B=>exact .aU e kk t x m M F G (X.cG h B)
 |eg e kk t x k m n M F G B O=>exact .eg e kk t x k m n M F G (X.cG h B) (X.cG h O)
 |bD kk ks ts U B=>exact .bD kk ks ts U (B.mono λ_ _=>RX.mono h)
 |hZ kk=>exact .hZ kk
 |cr j b rs vals ft B G=>exact .cr j b rs vals ft B G
 |lp j b rs st k ps aP body tm B G=>exact .lp j b rs st k ps aP body tm B G
 |cO o h=>exact .cO o h
abbrev RL(ρ:az):List AX→List AO→Prop:=F2 (bd ρ)
theorem RL.mono{ρ ae:az}(h:Ext ρ ae){l:List AX}{m:List AO}(k:RL ρ l m):RL ae l m:=F2.mono (λ_ _=>bd.mono h) k
structure aH(ρ:az)(σ:Sk)(s:St):Prop where
 di:c7 σ.n ρ
 t:∀k,RX ρ (aD σ.t k) (get s.t k)
 l:RL ρ σ.l s.l
theorem sV(t:Ty)(xs:List t.den):Ty.enc (.list t) xs=.slice t.size (xs.map t.enc):=rfl
theorem Bz{t:TX}{p:Ty×X}(h:oz t=some p):t=.d p.1 p.2:=by
 cases t<;>simp[oz]at h
 subst h;rfl
theorem SR{ρ:az}{cs:List (Ty×X)}{ds:List D}(h:F2 (RC ρ) cs ds):F2 (RX ρ) (cs.map λp=>.d p.1 p.2) (ds.map .d):=by
 induction h with
 |nil=>exact .nil
 |cons j _ F=>
  obtain⟨k,v,B,rfl⟩:=j
  exact .cons (.d _ _ v k B) F
theorem HI{ρ:az}:∀{cs:List TX}{ts:List T}{ps:List (Ty×X)},F2 (RX ρ) cs ts→cs.mapM oz=some ps→∃ds,ts=ds.map .d∧F2 (RC ρ) ps ds
 | [],[],ps,_,h=>by simp at h;subst h;exact⟨[],rfl,.nil⟩
 |c::cs,t::ts,ps,.cons j k,h=>by
  simp only[List.mapM_cons,Option.bind_eq_bind,Option.bind_eq_some_iff,Option.pure_def,Option.some.injEq]at h
  obtain⟨p,B,U,F,rfl⟩:=h
  have:=Bz B
  subst this
  obtain⟨ds,rfl,O⟩:=HI k F
  cases j with
  |d t x v G M=>exact⟨_::ds,rfl,.cons ⟨G,v,M,rfl⟩ O⟩
theorem dN{ρ:az}{t:Ty}{x:X}{u:T}(h:RX ρ (.d t x) u):isVal t∧∃v:t.den,x.den ρ=some ⟨t,v⟩∧u=.d (t.enc v):=by
 cases h with
 |d t x v j k=>exact⟨j,v,k,rfl⟩
theorem Lj(t:Ty)(v:t.den):bh (.d (t.enc v))=(t.enc v).cells.map .d:=rfl
theorem oB[bB]{t:Ty}(B:isVal t)(v:t.den):∀d∈(t.enc v).cells,d.one=true:=by
 by_cases k:bE t=true
 ·cases t<;>simp[bE]at k
  exact bB.uf _ v
 have:=gV (by simpa using k) B.1 B.2 v
 rw[this.1];intro d j;simp at j;subst j;exact this.2
theorem gy[bB]{t:Ty}(k:isVal t)(v:t.den):(t.enc v).cells.length=t.size:=by
 by_cases j:bE t=true
 ·cases t<;>simp[bE]at j
  exact bB.len _ v
 rw[(gV (by simpa using j) k.1 k.2 v).1]
 cases t<;>simp_all [bE,Ty.size]
theorem OC[bB]{ρ:az}{x:TX}{u:T}(h:RX ρ x u)(j:qK x=true):u.fh=true:=by
 cases h<;>simp[qK]at j<;>try rfl
 rename_i t x v k B
 exact(gV (by simpa using j) k.1 k.2 v).2
theorem OD[bB]{ρ:az}{xs:List TX}{k:List T}(h:F2 (RX ρ) xs k)(j:xs.all qK=true):k.all T.fh=true:=by
 induction h with
 |nil=>rfl
 |cons B _ F=>
  simp only[List.all_cons,Bool.and_eq_true]at j⊢
  exact⟨OC B j.1,F j.2⟩
theorem Li[bB][bV]{ρ:az}{x:TX}{u:T}{cs:List TX}(h:RX ρ x u)(j:fP x=some cs):F2 (RX ρ) cs (bh u):=by
 cases h with
 |undef t=>simp[fP]at j
 |gone=>simp[fP]at j
 |d t x v B F=>
  simp only[fP,Option.map_eq_some_iff]at j
  obtain⟨ps,ab,rfl⟩:=j
  exact SR (mQ _ B F ab)
 |agg G ts B F=>
  simp only[fP,Option.some.injEq]at j
  subst j
  exact F2.of B F
 |fA G ds B F=>
  simp only[fP,Option.some.injEq]at j
  subst j
  exact F2.of (by simpa [bh,D.cells]using B) λi c t j M=>by
   simp only[bh,D.cells,List.getElem?_map,Option.map_eq_some_iff]at M
   obtain⟨d,aa,rfl⟩:=M
   exact F i c d j aa
 |aw G ts B F=>simp[fP]at j
 |eY G ts B F=>simp[fP]at j
 |cV=>simp only[fP,Option.some.injEq]at j;subst j;exact .cons .cV .nil
 |aS t e b off size els k v B F O U Y Z=>simp only[fP,Option.some.injEq]at j;subst j;exact .cons (.aS t e b off size els k v B F O U Y Z) .nil
 |aO id k off kk n B=>simp only[fP,Option.some.injEq]at j;subst j;exact .cons (.aO id k off kk n B) .nil
 |aQ id t x xs B=>simp only[fP,Option.some.injEq]at j;subst j;exact .cons (.aQ id t x xs B) .nil
 |e8 f G ds B F=>simp only[fP,Option.some.injEq]at j;subst j;exact .cons (.e8 f G ds B F) .nil
 |ar f G ts B F=>simp only[fP,Option.some.injEq]at j;subst j;exact .cons (.ar f G ts B F) .nil
 |_=>simp only[fP,Option.some.injEq]at j;subst j;exact .cons (by constructor<;>assumption) .nil
theorem sK[bB][bV]{ρ:az}{x:TX}{u:T}{cs:List TX}(h:RX ρ x u)(j:mP x=some cs):F2 (RX ρ) cs (bh u)∧(bh u).all T.fh=true:=by
 unfold mP at j
 split at j
 ·rename_i B F
  cases k:B.all qK with
  |true=>
   simp only[k,cond_true,Option.some.injEq]at j
   subst j
   have:=Li h F
   exact⟨this,OD this k⟩
  |false=>simp[k]at j
 cases j
theorem xW:∀{ts:List T}{ds:List D},ts.mapM dQ=some ds→ts=ds.map .d
 | [],ds,h=>by simp at h;subst h;rfl
 |t::ts,ds,h=>by
  simp only[List.mapM_cons,Option.bind_eq_bind,Option.bind_eq_some_iff,Option.pure_def,Option.some.injEq]at h
  obtain⟨x,j,xs,k,rfl⟩:=h
  rw[xW k]
  cases t<;>simp[dQ]at j
  subst j;rfl
theorem C7:∀{ts:List T}{ds:List D},ts.mapM dQ=some ds→ts=ds.map T.d
 | [],ds,h=>by
  simp at h;subst h;rfl
 |t::ts,ds,h=>by
  simp only[List.mapM_cons,Option.bind_eq_bind,Option.bind_eq_some_iff]at h
  obtain⟨d,j,F,B,k⟩:=h
  have:=C7 B
  simp at k
  subst k
  cases t<;>simp[dQ]at j
  subst j
  rw[this];rfl
theorem Ij{ρ:az}{cs:List TX}{ts:List T}(h:F2 (RX ρ) cs ts):RX ρ (.agg cs) (eA true ts):=by
 unfold eA
 rw[if_pos rfl]
 split
 ·rename_i ds M
  have:=C7 M
  subst this
  refine .fA cs ds (by have:=h.len;simpa using this) λi c d B G=>?_
  obtain⟨t,j,F⟩:=F2.left h B
  rw[List.getElem?_map,G]at j
  simp at j
  subst j
  exact F
 refine .agg cs ts h.len λi c t B j=>?_
 obtain⟨t',k,F⟩:=F2.left h B
 rw[j]at k
 injection k with k
 subst k
 exact F
theorem tY[bB][bV]{ρ:az}{t:Ty}(U:isVal t){cs:List TX}{ts:List T}{x:TX}(h:F2 (RX ρ) cs ts)(j:nC t cs=some x):RX ρ x (eA (bE t) ts):=by
 unfold nC at j
 cases O:bE t with
 |true=>
  simp only[O,cond_true]at j
  obtain⟨i,rfl⟩:∃i,t=.st i:=by cases t<;>simp_all [bE]
  split at j
  ·rename_i ps G
   obtain⟨ds,rfl,M⟩:=HI h G
   simp only[Option.map_eq_some_iff]at j
   obtain⟨y,Y,rfl⟩:=j
   obtain⟨v,B,k⟩:=x2 U Y M
   have e:(ds.map T.d).mapM dQ=some ds:=by
    clear G h M Y k
    induction ds with
    |nil=>rfl
    |cons d ds ad=>simp[dQ,ad]
   simp only[eA,e,if_true]
   have Z:D.agg ds=Ty.enc (.st i) v:=by rw[k];rfl
   rw[Z]
   exact .d _ _ v U B
  simp only[Option.some.injEq]at j
  subst j
  simp only[eA,if_true]
  cases e:ts.mapM dQ with
  |none=>exact .agg cs ts h.len λi c t F ab=>h.get F ab
  |some ds=>
   have:=xW e
   subst this
   refine .fA cs ds (by simpa using h.len) λi c d F aa=>h.get F (by simp[aa])
 |false=>
  simp only[O,cond_false]at j
  split at j
  ·rename_i c
   simp only[Option.some.injEq]at j
   subst j
   cases h with
   |cons B k=>cases k;simpa [eA]using B
  cases j
theorem l3{t:Ty}(j:bE t=true)(v:t.den):t.enc v=.agg (t.enc v).cells:=by
 cases t<;>simp[bE]at j
 rfl
theorem DL[bB][bV]{ρ:az}{u t:Ty}{e:X}{v:u.den}{off:Nat}{x:TX}(k:isVal u)(O:isVal t)(Z:e.den ρ=some ⟨u,v⟩)(h:mc u e off t=some x) :
  ∃(y:X)(w:t.den),x=.d t y∧y.den ρ=some ⟨t,w⟩∧(t.enc w).cells=((u.enc v).cells.drop off).take t.size∧off+t.size≤u.size∧(off=0→t.size=u.size→t.enc w=u.enc v):=by
 unfold mc at h
 cases F:(Nat.beq off 0&&decide (t=u))with
 |true=>
  simp only[F,cond_true,Option.some.injEq]at h
  simp only[Bool.and_eq_true,decide_eq_true_eq]at F
  obtain⟨j,rfl⟩:=F
  have:=Nat.eq_of_beq_eq_true j
  subst this
  exact⟨e,v,h.symm,Z,by rw[List.drop_zero,List.take_of_length_le (by rw[gy k];exact Nat.le_refl _)],by omega,λ_ _=>rfl⟩
 |false=>
  simp only[F,cond_false]at h
  cases j:(Nat.beq off 0&&Nat.beq t.size u.size&&(bE t != bE u))with
  |true=>simp[j]at h
  |false=>
   simp only[j,cond_false]at h
   split at h
   ·rename_i cs ae
    have Y:=mQ _ k Z ae
    cases M:Nat.ble (off+t.size) cs.length with
    |false=>simp[M]at h
    |true=>
     simp only[M,cond_true,Option.map_eq_some_iff]at h
     obtain⟨y,af,rfl⟩:=h
     have ag:=Nat.le_of_ble_eq_true M
     have ah:cs.length=u.size:=by rw[Y.len,gy k]
     obtain⟨w,ad,B⟩:=x2 O af ((Y.drop off).take t.size)
     refine⟨y,w,rfl,ad,B.symm,by omega,λab U=>?_⟩
     subst ab
     rw[List.drop_zero,List.take_of_length_le (by rw[gy k,U];exact Nat.le_refl _)]at B
     simp only[Nat.beq_refl,Bool.true_and,U]at j
     have aa:bE t=bE u:=by simpa using j
     cases G:bE u with
     |true=>rw[l3 G v,l3 (aa.trans G) w,B]
     |false=>
      have k1:=(gV G k.1 k.2 v).1
      have k2:=(gV (aa.trans G) O.1 O.2 w).1
      rw[k1,k2]at B
      simpa using B.symm
   cases h
end Go.Sy
namespace Go.Sy
open Go Go.af
variable [au][bK]
def k9{α:Type}(step:(α→Prop)→α→Prop):Nat→α→Prop
 |0,_=>False
 |n+1,z=>step (k9 step n) z
abbrev LJ:=Nat→Sy.V→Prop
abbrev LQ:=Ex→Sk→az→LJ→Prop
def ee(p:Sy.V→Prop)(J:LJ):LJ
 |0=>p
 |k+1=>J k
def Tr.wp(cs:List Callee):Tr→az→LQ→LJ→Prop
 |.leaf e σ,ρ,Q,J=>Q e σ ρ J
 |.out k x,ρ,_,J=>∃v,x.den ρ=some v∧J k v
 |.aW x t,ρ,Q,J=>x.den ρ=some ⟨.bool,true⟩∧Tr.wp cs t ρ Q J
 |.get v xs k t,ρ,Q,J=>∃(u:Ty)(l:List u.den)(kk:IntKind)(i:Int)(e:u.den),xs.den ρ=some ⟨.list u,l⟩∧k.den ρ=some ⟨.int kk,i⟩∧aA l i=some e∧Tr.wp cs t ((v,⟨u,e⟩)::ρ) Q J
 |.call v c x t,ρ,Q,J=>∃(C:Callee)(a:(ay C.args).den)(y:(ay C.res).den),cs[c]?=some C∧x.den ρ=some ⟨ay C.args,a⟩∧C.fn a=some y∧Tr.wp cs t ((v,⟨ay C.res,y⟩)::ρ) Q J
 |.cK c a b,ρ,Q,J=>∃b0:Bool,c.den ρ=some ⟨.bool,b0⟩∧(b0=true→Tr.wp cs a ρ Q J)∧(b0=false→Tr.wp cs b ρ Q J)
 |.dw c a b,ρ,Q,J=>∃(u:Ty)(xs:List u.den),c.den ρ=some ⟨.list u,xs⟩∧(xs=[]→Tr.wp cs a ρ Q J)∧Tr.wp cs b ρ Q J
 |.join ty v a b,ρ,Q,J=>Tr.wp cs a ρ Q (ee (λz=>∃y:ty.den,z=⟨ty,y⟩∧Tr.wp cs b ((v,⟨ty,y⟩)::ρ) Q J) J)
 |.loop ty v init body,ρ,Q,J=>∃j:ty.den,init.den ρ=some ⟨ty,j⟩∧∃n,k9 (λagain z=>Tr.wp cs body ((v,⟨ty,z⟩)::ρ) Q (ee (λB=>∃y:ty.den,B=⟨ty,y⟩∧again y) J)) n j
 |.bad _,_,_,_=>False
def gH:LQ:=λ_ _ _ _=>False
inductive bp(cs:List Callee):Nat→az→List Ins→az→Prop
 |nil (n ρ):bp cs n ρ [] ρ
 |aW (n ρ x r ae):x.den ρ=some ⟨.bool,true⟩→bp cs n ρ r ae→bp cs n ρ (.aW x::r) ae
 |get (n ρ xs k r ae) (t:Ty) (l:List t.den) (kk:IntKind) (i:Int) (e:t.den):xs.den ρ=some ⟨.list t,l⟩→k.den ρ=some ⟨.int kk,i⟩→aA l i=some e→bp cs (n+1) ((n,⟨t,e⟩)::ρ) r ae→bp cs n ρ (.get xs k::r) ae
 |call (n ρ c x r ae) (C:Callee) (a:(ay C.args).den) (y:(ay C.res).den):cs[c]?=some C→x.den ρ=some ⟨ay C.args,a⟩→C.fn a=some y→bp cs (n+1) ((n,⟨ay C.res,y⟩)::ρ) r ae→bp cs n ρ (.call c x::r) ae
 |prog (n ρ ty T r ae) (z:ty.den):Tr.wp cs T ρ gH (λk v=>k=0∧v=⟨ty,z⟩)→bp cs (n+1) ((n,⟨ty,z⟩)::ρ) r ae→bp cs n ρ (.prog ty T::r) ae
theorem bp.ext{cs:List Callee}{n:Nat}{ρ ae:az}{is:List Ins}(h:bp cs n ρ is ae):c7 n ρ→Ext ρ ae∧c7 (gB n is) ae:=by
 induction h with
 |nil n ρ=>intro j;exact⟨.refl ρ,j⟩
 |aW n ρ x r ae _ _ B=>intro j;exact B j
 |get n ρ xs k r ae t l kk i e _ _ _ _ B=>
  intro j
  obtain⟨F,G⟩:=B (j.push (Nat.lt_succ_self n) _)
  exact⟨(Ext.push j _).trans F,G⟩
 |call n ρ c x r ae C a y _ _ _ _ B=>
  intro j
  obtain⟨F,G⟩:=B (j.push (Nat.lt_succ_self n) _)
  exact⟨(Ext.push j _).trans F,G⟩
 |prog n ρ ty T r ae z _ _ B=>
  intro j
  obtain⟨F,G⟩:=B (j.push (Nat.lt_succ_self n) _)
  exact⟨(Ext.push j _).trans F,G⟩
def cp:(ts:List Ty)→(ay ts).den→List D
 | [],_=>[]
 | [t],x=>[t.enc x]
 |t::u::ts,x=>t.enc x.1::cp (u::ts) x.2
variable [aL]
structure eD(P:Program)(C:Callee):Prop where
 enters:Enters P C.f
 jX:∀a r,C.fn a=some r→jh P C.f (cp C.args a) ((ay C.res).enc r)
 args:∀t∈C.args,isVal t
 res:∀t∈C.res,isVal t
def gI:List NS→List D→List T
 |.eH _::r,d::ds=>.d d::gI r ds
 |.nil s::r,ds=>.aX s::gI r ds
 |_,_=>[]
def JG(P:Program)(f:FuncId)(ds:List D)(t:T):Prop:=
 ∀(w:World)(I:aq)(vs:Array Value),cw w I→vs.size=ds.length→(∀(i:Nat) v d,vs[i]?=some v→ds[i]?=some d→Rd I v d) →
  Calls P f vs w λe w'=>∃v J,e=.returned v∧cm w.heap.size w w'∧eE w.heap.size I J∧cw w' J∧ah J (λ_=>undef) [] v t
structure JF(P:Program)(f:FuncId)(args:List Ty)(sh:List NS)(fn:(ay args).den→Option (ay (eW sh)).den):Prop where
 enters:Enters P f
 jX:∀a r,fn a=some r→JG P f (cp args a) (.agg (gI sh (cp (eW sh) r)))
 res:∀t∈eW sh,isVal t
structure gu(P:Program)(f:FuncId)(t:Ty)(args:List Ty)(fn:(ay (.list t::args)).den→Option (List t.den)):Prop where
 enters:Enters P f
 val:isVal t
 jX:∀(a:(ay (.list t::args)).den)(r:List t.den),fn a=some r→∀(l:List AO)(id e:Nat)(els ds:List D),cp (.list t::args) a=.slice t.size els::ds→l[id]?=some (.row e t.size els)→mJ P f (.row id::ds.map .d) l (.d (.aw [])) (l.set id (.row e t.size (r.map t.enc)))
structure eF where
 f:FuncId
 t:Ty
 args:List Ty
 fn:(ay (.list t::args)).den→Option (List t.den)
def eF.gT(c:eF):Callee:=⟨c.f,.list c.t::c.args,[.list c.t],c.fn⟩
def br(P:Program)(o:Oper)(ρT:Operand→T)(l:List AO)(t:T)(l':List AO):Prop:=
 (
  ∀c,o.op ≠ .defer c)∧∀(w0:World)(I0:aq)(w:World)(I:aq)(m:Nat→Value)(ρ:Operand→Value),av w0 I0 w I m l→(∀x∈o.op.operands,ah I m l (ρ x) (ρT x)) →
  bI P ((execOp ρ o).run P w) λv w'=>∃J m',Le I m l J m' l'∧av w0 I0 w' J m' l'∧ah J m' l' v t
section
variable {P:Program}{V:Env}{o:Oper}{ρT:Operand→T}{l:List AO}{nid:Nat}
theorem br.none(M:ga P V){r:R}(U:evalOp V ρT l nid o=r)(k:r.ob)(O:r.bM=.none):br P o ρT l r.t l:=by
 subst U
 refine⟨s8 k,λw0 I0 w I m ρ Y Z=>?_⟩
 have j:=s9 M Y (ep.refl _) Z k
 unfold bA at j
 rw[O]at j
 exact j.mono λv w' ⟨J,B,F,G⟩=>⟨J,m,B,F,G⟩
theorem br.aC(M:ga P V){r:R}(Y:evalOp V ρT l nid o=r)(k:r.ob){l':List AO}(O:r.bM=.aC l')(U:nid=l.length):br P o ρT l r.t l':=by
 subst Y
 refine⟨s8 k,λw0 I0 w I m ρ Z aa=>?_⟩
 have j:=s9 M Z (ep.refl _) aa k
 unfold bA at j
 rw[O]at j
 exact(j rfl U).mono λv w' ⟨J,m',B,F,G⟩=>⟨J,m',B,F,G⟩
theorem br.set(M:ga P V){r:R}(Y:evalOp V ρT l nid o=r)(k:r.ob){a:AO}(O:r.bM=.new a)(U:l[nid]?=some .dead):br P o ρT l r.t (l.set nid a):=by
 subst Y
 refine⟨s8 k,λw0 I0 w I m ρ Z aa=>?_⟩
 have j:=s9 M Z (ep.refl _) aa k
 unfold bA at j
 rw[O]at j
 exact(j U).mono λv w' ⟨m',B,F,G⟩=>⟨I,m',B,F,G⟩
theorem br.new(O:ga P V){r:R}(aa:evalOp V ρT l nid o=r)(B:r.ob){a:AO}(U:r.bM=.new a)(Z:nid=l.length):br P o ρT l r.t (l++[a]):=by
 subst aa;subst Z
 refine⟨s8 B,λw0 I0 w I m ρ ab af=>?_⟩
 obtain⟨ae,k⟩:=ab.push
 have j:=s9 (nid:=l.length) O ae (L:=l++[.dead]) (λid Y=>List.getElem?_append_left Y) (λx h=>(af x h).mono k) B
 unfold bA at j
 rw[U]at j
 have ad:(l++[AO.dead]).set l.length a=l++[a]:=by simp
 dsimp only at j
 rw[ad]at j
 exact(j (by simp)).mono λv w' ⟨m',F,G,M⟩=>⟨I,m',k.trans F,G,M⟩
end
def bm(P:Program)(o:Oper)(ρT:Operand→T)(l:List AO)(nid:Nat)(ae:az)(q:bL):Prop:=∃t,RX ae q.t t∧match q.bM with
 |.none=>br P o ρT l t l
 |.new a=>∃j,bd ae a j∧(nid=l.length→br P o ρT l t (l++[j]))∧(l[nid]?=some .dead→br P o ρT l t (l.set nid j))
 |.aC k=>∃l',RL ae k l'∧(nid=l.length→br P o ρT l t l')
theorem bx{t:Ty}(h:cF t=true):isVal t:=by
 cases t<;>simp_all [cF,isVal]
def pL(p:Ty×X)(d:D):Bool:=match p.1,p.2,d with
 |.int k,.int j n,.int F m=>decide (k=j)&&decide (j=F)&&decide (n=m)
 |.bool,.bool b,.bool c=>b == c
 |.str,.str [],.str s=>s.data.toList.isEmpty
 |.list t,.nil u,.slice s []=>decide (t=u)&&Nat.beq s t.size
 |.map k v,.gG j G,.map [] []=>decide (k=j)&&decide (v=G)
 |.cI c t,.u1 (.qD B t') .unit,.fH=>decide (c=B)&&decide (t=t')
 |.fns fs,.oG gs 0,.eV=>decide (fs=gs)
 |_,_,_=>false
def iC:List (Ty×X)→List D→Bool
 | [],[]=>true
 |x::xs,d::ds=>pL x d&&iC xs ds
 |_,_=>false
def mG(t:Ty)(ds:List D):Bool:=match iD eP t with
 |some x=>match eu eP t x with
  |some ps=>iC ps ds
  |none=>false
 |none=>false
def lR(C:Cx)(t:Ty)(d:TD):Bool:=match t,d with
 |.int k,.cA B=>decide (k=B)
 |.str,.string=>true
 |.bool,.fI=>true
 |.list u,.slice e=>decide (C.ty e=some u)&&cF u&&Nat.ble 1 u.size&&(C.E e).isSome
 |.map k v,.map kt j=>decide (C.ty kt=some k)&&decide (C.ty j=some v)&&cF k&&cF v&&(C.E kt).isSome&&(C.E j).isSome
 |.st _,.struct fs=>fs.all λf=>(C.E f.2).isSome
 |.cI _ _,.iface=>true
 |.fns _,.fI=>true
 |_,_=>false
def nW(C:Cx)(ty:TypeId)(t:Ty):Bool:=match C.E ty with
 |some i=>Nat.beq i.size t.size&&(i.desc.agg == bE t)&&cF t&&lR C t i.desc&&mG t i.zero
 |none=>false
structure bb(P:Program)(V:Env)(C:Cx):Prop where
 ok:ga P V
 E:V.E=C.E
 eq:V.gJ=C.eqs
 sub:V.sub=false
 ty:∀ty t,C.ty ty=some t→nW C ty t=true
theorem UT{ρ:az}{p:Ty×X}{d:D}(h:pL p d=true):RX ρ (rW p) (fX d):=by
 obtain⟨t,x⟩:=p
 unfold pL at h
 split at h
 ·rename_i j B;simp only at j B;subst j;subst B
  simp only[Bool.and_eq_true,decide_eq_true_eq]at h
  obtain⟨⟨rfl,rfl⟩,rfl⟩:=h
  exact .d (.int _) _ _ (bx rfl) rfl
 ·rename_i j B;simp only at j B;subst j;subst B
  simp only[beq_iff_eq]at h;subst h
  exact .d .bool _ _ (bx rfl) rfl
 ·rename_i s j B;simp only at j B;subst j;subst B
  have:s=⟨⟨[]⟩⟩:=by
   cases s with|mk d=>cases d with|mk l=>simp at h;subst h;rfl
  subst this
  exact .d .str _ _ (bx rfl) rfl
 ·rename_i j B;simp only at j B;subst j;subst B
  simp only[Bool.and_eq_true,decide_eq_true_eq]at h
  obtain⟨rfl,F⟩:=h
  have:=Nat.eq_of_beq_eq_true F
  subst this
  simp only[rW,if_true]
  exact .aX _
 ·rename_i k v O U j B;simp only at j B;subst j;subst B
  simp only[Bool.and_eq_true,decide_eq_true_eq]at h
  obtain⟨rfl,rfl⟩:=h
  exact .d (.map k v) (.gG k v) ([]:List (k.den×v.den)) (bx rfl) rfl
 ·rename_i c t G t' j B;simp only at j B;subst j;subst B
  simp only[Bool.and_eq_true,decide_eq_true_eq]at h
  obtain⟨rfl,rfl⟩:=h
  exact .d (.cI c t) _ (none:Option t.den) (bx rfl) rfl
 ·rename_i fs M j B;simp only at j B;subst j;subst B
  simp only[decide_eq_true_eq]at h
  subst h
  exact .d (.fns fs) _ (0:Nat) (bx rfl) rfl
 cases h
theorem UR{ρ:az}{p:Ty×X}{d e:D}(h:pL p e=true)(M:RC ρ p d):e=d:=by
 obtain⟨t,x⟩:=p
 obtain⟨_,v,F,rfl⟩:=M
 simp only at v F⊢
 unfold pL at h
 split at h
 ·rename_i j B;simp only at j B;subst j;subst B
  simp only[Bool.and_eq_true,decide_eq_true_eq]at h
  obtain⟨⟨rfl,rfl⟩,rfl⟩:=h
  simp only[X.den,Option.some.injEq]at F;cases F;rfl
 ·rename_i j B;simp only at j B;subst j;subst B
  simp only[beq_iff_eq]at h;subst h
  simp only[X.den,Option.some.injEq]at F;cases F;rfl
 ·rename_i s j B;simp only at j B;subst j;subst B
  have:s=⟨⟨[]⟩⟩:=by
   cases s with|mk d=>cases d with|mk l=>simp at h;subst h;rfl
  subst this
  simp only[X.den,Option.some.injEq]at F;cases F;rfl
 ·rename_i j B;simp only at j B;subst j;subst B
  simp only[Bool.and_eq_true,decide_eq_true_eq]at h
  obtain⟨rfl,G⟩:=h
  have:=Nat.eq_of_beq_eq_true G
  subst this
  simp only[X.den,Option.some.injEq]at F;cases F;rfl
 ·rename_i k v Y Z j B;simp only at j B;subst j;subst B
  simp only[Bool.and_eq_true,decide_eq_true_eq]at h
  obtain⟨rfl,rfl⟩:=h
  simp only[X.den,Option.some.injEq]at F;cases F;rfl
 ·rename_i c t O t' j B;simp only at j B;subst j;subst B
  simp only[Bool.and_eq_true,decide_eq_true_eq]at h
  obtain⟨rfl,rfl⟩:=h
  simp only[X.den,dp,Option.some.injEq]at F;cases F;rfl
 ·rename_i fs U j B;simp only at j B;subst j;subst B
  simp only[decide_eq_true_eq]at h
  subst h
  simp only[X.den,Option.some.injEq]at F;cases F;rfl
 cases h
theorem Jz{ρ:az}:∀{ps:List (Ty×X)}{ds:List D},iC ps ds=true→F2 (RX ρ) (ps.map rW) (ds.map fX)
 | [],[],_=>.nil
 |p::ps,d::ds,h=>by
  simp only[iC,Bool.and_eq_true]at h
  exact .cons (UT h.1) (Jz h.2)
 | [],_::_,h=>by simp[iC]at h
 |_::_,[],h=>by simp[iC]at h
theorem Jy{ρ:az}:∀{ps:List (Ty×X)}{ds j:List D},iC ps j=true→F2 (RC ρ) ps ds→j=ds
 | [],[],[],_,_=>rfl
 |p::ps,d::ds,e::j,h,.cons h1 k=>by
  simp only[iC,Bool.and_eq_true]at h
  rw[UR h.1 h1,Jy h.2 k]
 | [],[],_::_,h,_=>by simp[iC]at h
 |_::_,_::_,[],h,_=>by simp[iC]at h
 | [],_::_,_,_,h=>by cases h
 |_::_,[],_,_,h=>by cases h
theorem Jw{ρ:az}{t:Ty}{ds:List D}(h:mG t ds=true):∃z,zeroCells t=some z∧F2 (RX ρ) z (ds.map fX):=by
 unfold mG at h
 split at h
 ·rename_i x k
  split at h
  ·rename_i ps j
   exact⟨ps.map rW,by simp[zeroCells,k,j],Jz h⟩
  cases h
 cases h
section
variable {P:Program}{V:Env}{C:Cx}
theorem bb.info(h:bb P V C){ty:TypeId}{t:Ty}(j:C.ty ty=some t):∃i,V.E ty=some i∧i.size=t.size∧i.desc.agg=bE t∧isVal t∧lR C t i.desc=true∧mG t i.zero=true:=by
 have k:=h.ty ty t j
 unfold nW at k
 split at k
 ·rename_i i hi
  simp only[Bool.and_eq_true,beq_iff_eq]at k
  obtain⟨⟨⟨⟨k1,k2⟩,B⟩,F⟩,G⟩:=k
  exact⟨i,by rw[h.E];exact hi,Nat.eq_of_beq_eq_true k1,k2,bx B,F,G⟩
 cases k
end
end Go.Sy
namespace Go.Sy
open Go Go.af
variable [au][bK][bB][bV][aL]
section
variable {P:Program}{V:Env}{C:Cx}{o:Oper}{ρX:Operand→TX}{ρT:Operand→T}{lX:List AX}{l:List AO}{n nid:Nat}{cs:List Callee}{ρ ae:az}{q:bL}
theorem Ui{u:Ty}{x:X}(v:u.den)(j:x.den ρ=some ⟨.box u,v⟩):RX ρ (fy (.d (.box u) x)) (unbox (.d (Ty.enc (.box u) v))):=by
 cases k:cF u with
 |false=>
  have:fy (.d (.box u) x)=.undef:=by simp[fy,k]
  rw[this];exact .undef _
 |true=>
  have F:=bx k
  have M:∀e:X,e.den ρ=some ⟨u,v⟩→RX ρ (.aS u e 0) (unbox (.d (Ty.enc (.box u) v))):=λe B=>by
   have:unbox (.d (Ty.enc (.box u) v))=.aS (u.enc v).cells.length [u.enc v] 0 (0+0):=rfl
   rw[this,gy F]
   exact .aS u e 0 0 u.size [u.enc v] 0 v F B (by simp) (by simp only[dS,List.getElem?_cons_zero,Option.getD_some,List.drop_zero];rw[List.take_of_length_le (by rw[gy F];exact Nat.le_refl _)]) (by omega) (λ_ _=>rfl)
  by_cases G:∃e,x=.box e
  ·obtain⟨e,rfl⟩:=G
   have:fy (.d (.box u) (.box e))=.aS u e 0:=by simp[fy,k]
   rw[this]
   refine M e ?_
   simp only[X.den]at j
   cases B:X.den ρ e with
   |none=>simp[B]at j
   |some w=>simp only[B,Option.some.injEq]at j;cases j;rfl
  have:fy (.d (.box u) x)=.aS u (.u1 .unbox x) 0:=by
   cases x<;>simp[fy,k]
   exact absurd ⟨_,rfl⟩ G
  rw[this]
  exact M _ (by simp only[X.den,j];rfl)
theorem Ag{x:TX}{t:T}(h:RX ρ x t):RX ρ (fy x) (unbox t):=by
 cases h with
 |d t x v G F=>
  cases t with
  |box u=>exact Ui (u:=u) v F
  |self f=>exact .aS (.ar f (.self f)) _ 0 0 1 [.ar f [.self f]] 0 () (bx rfl) rfl (by simp) rfl (Nat.le_refl _) (λ_ _=>rfl)
  |cI c u=>
   have:unbox (.d ((Ty.cI c u).enc v))=.d ((Ty.cI c u).enc v):=by
    cases (show Option u.den from v)<;>rfl
   rw[this]
   exact .d _ x v G F
  |fns fs=>
   have:unbox (.d ((Ty.fns fs).enc v))=.d ((Ty.fns fs).enc v):=by
    show unbox (.d (dV fs v))=.d (dV fs v)
    unfold dV
    split
    ·rfl
    split<;>rfl
   rw[this]
   exact .d _ x v G F
  |_=>exact .d _ x v G F
 |cV=>exact .cV
 |fA cs ds j B=>exact .fA cs ds j B
 |eY cs ds j B=>exact .eY cs ds j B
 |undef t=>exact .undef _
 |aS t e b off size els k v j B M O U Y=>exact .aS t e b off size els k v j B M O U Y
 |aO id k off kk n j=>exact .aO id k off kk n j
 |aQ id t x xs j=>exact .aQ id t x xs j
 |agg cs ts j B=>exact .agg cs ts j B
 |aw cs ts j B=>exact .aw cs ts j B
 |e8 f cs ts j B=>exact .e8 f cs ts j B
 |ar f cs ts j B=>exact .ar f cs ts j B
 |gone=>exact .gone
 |_=>constructor<;>assumption
theorem x4{t:Ty}(k:isVal t)(w:t.den):dY (bE t) (t.enc w).cells=t.enc w:=by
 cases j:bE t with
 |true=>exact(l3 j w).symm
 |false=>rw[(gV j k.1 k.2 w).1];rfl
theorem Nd{t:Ty}(k:isVal t)(w:t.den):qj (t.enc w)=bE t:=by
 cases j:bE t with
 |true=>rw[l3 j w];rfl
 |false=>
  have:=(gV j k.1 k.2 w).2
  cases h:t.enc w<;>simp_all [qj,D.one]
theorem xO{u t:Ty}{e:X}{b off size k:Nat}{els:List D}{v:u.den}{x:TX}{i:TI}(ai:isVal u)(j:isVal t)(af:e.den ρ=some ⟨u,v⟩)(O:k<els.length)(aa:((dS els k).cells.drop b).take u.size=(u.enc v).cells)(aj:b+u.size≤size)(ab:b=0→size=u.size→dS els k=u.enc v)(ah:mc u e off t=some x)(ag:i.size=t.size)(M:i.desc.agg=bE t) :
  ∃r,hY i size els k (b+off)=r∧r.ob∧r.bM=.none∧RX ρ x r.t:=by
 obtain⟨y,w,rfl,Z,ae,ak,F⟩:=DL ai j af ah
 unfold hY
 by_cases G:size=i.size∧b+off=0
 ·rw[if_pos G]
  have ad:b=0:=by omega
  have U:off=0:=by omega
  have Y:t.size=u.size:=by omega
  have B:=ab ad (by omega)
  refine⟨_,rfl,⟨O,?_⟩,rfl,?_⟩
  ·rw[B,←F U Y,Nd j,M]
  rw[B,←F U Y];exact .d t y w j Z
 rw[if_neg G]
 refine⟨_,rfl,⟨O,by omega⟩,rfl,?_⟩
 have:((dS els k).cells.drop (b+off)).take i.size=(t.enc w).cells:=by
  rw[ag,ae,←aa,List.drop_take,List.take_take,List.drop_drop]
  congr 1;omega
 rw[this,M,x4 j]
 exact .d t y w j Z
theorem pR{α:Type}{l:List α}{i:Int}{e:α}(h:aA l i=some e):0≤i∧i.toNat<l.length∧l[i.toNat]?=some e:=by
 unfold aA at h
 split at h
 ·rename_i j
  exact⟨j,(List.getElem?_eq_some_iff.1 h).1,h⟩
 cases h
theorem wE{t:Ty}{xs:List t.den}{k:Nat}{e:t.den}(h:xs[k]?=some e):dS (xs.map t.enc) k=t.enc e:=by
 simp[dS,h]
theorem NM(M:bb P V C){ty:TypeId}{a:Operand}(aN:o.op=.load ty a)(ay:RL ρ lX l)(aK:RX ρ (ρX a) (ρT a))(h:xP C ty lX n (fy (ρX a))=some q)(hi:bp cs n ρ q.ins ae)(aW:Ext ρ ae):bm P o ρT l nid ae q:=by
 have j:evalOp V ρT l nid o=eT V.E ty l (unbox (ρT a)):=by simp only[evalOp,aN]
 have U:=Ag aK
 unfold xP at h
 cases az:C.ty ty with
 |none=>
  simp only[az]at h
  generalize fy (ρX a)=A at h U
  generalize unbox (ρT a)=aF at j U
  split at h
  ·rename_i u e off i hE
   cases B:(Nat.beq i.size u.size&&(i.desc.agg == bE u)&&cF u)with
   |false=>rw[B]at h;cases h
   |true=>
    rw[B]at h
    simp only[cond_true,Option.map_eq_some_iff]at h
    obtain⟨x,F,rfl⟩:=h
    cases hi
    rw[Bool.and_eq_true,Bool.and_eq_true]at B
    cases U with
    |aS _ _ b _ size els k v O aq ar au av aw=>
     simp only[eT,M.E,hE]at j
     obtain⟨r,k1,k2,ag,ah⟩:=xO O (bx B.2) aq ar au av aw F (Nat.eq_of_beq_eq_true B.1.1) (by simpa using B.1.2)
     exact⟨_,ah,br.none M.ok (j.trans k1) k2 ag⟩
  ·rename_i id off i hE
   cases U
   split at h
   ·rename_i aU aV G
    obtain⟨aA,Y,Z⟩:=F2.left ay G
    cases Z with
    |var _ _ ts F=>
     cases B:Nat.beq i.size 1 with
     |false=>rw[B]at h;cases h
     |true=>
      rw[B]at h
      simp only[cond_true,Option.map_eq_some_iff]at h
      obtain⟨v,ad,rfl⟩:=h
      cases hi
      have O:=Nat.eq_of_beq_eq_true B
      obtain⟨u,ab,aD⟩:=F.left ad
      have aX:=(List.getElem?_eq_some_iff.1 ab).1
      have ai:(ts.drop off).take 1=[u]:=by
       rw[List.take_one,List.head?_drop,ab];rfl
      simp only[eT,M.E,hE,Y,O]at j
      rw[if_pos (by omega),ai]at j
      have aP:RX ρ (bif i.desc.agg then .agg [v]else v) (eA i.desc.agg [u]):=by
       cases i.desc.agg with
       |true=>exact Ij (.cons aD .nil)
       |false=>exact aD
      exact⟨_,aP,br.none M.ok j trivial rfl⟩
   cases h
  cases h
 |some t=>
  obtain⟨i,al,an,ax,ad,_⟩:=M.info az
  simp only[az]at h
  generalize fy (ρX a)=A at h U
  generalize unbox (ρT a)=aF at j U
  cases U with
  |ptr id off=>
   simp only at h
   cases G:lX[id]? with
   |none=>simp[G]at h
   |some aG=>
    obtain⟨aA,Y,Z⟩:=F2.left ay G
    simp only[G]at h
    cases Z with
    |var aU xs ts F=>
     simp only at h
     cases aa:Nat.ble (off+t.size) xs.length with
     |false=>simp[aa]at h
     |true=>
      simp only[aa,cond_true,Option.map_eq_some_iff]at h
      obtain⟨v,aQ,rfl⟩:=h
      have aa:=Nat.le_of_ble_eq_true aa
      cases hi
      have aL:=tY ad ((F.drop off).take t.size) aQ
      simp only[eT,al,Y]at j
      rw[if_pos (by rw[an,←F.len];exact aa),an,ax]at j
      exact⟨_,aL,br.none M.ok j trivial rfl⟩
    |_=>simp at h
  |aS u e b off size els k v O aq ar au av aw=>
   simp only[Option.map_eq_some_iff]at h
   obtain⟨x,F,rfl⟩:=h
   cases hi
   simp only[eT,al]at j
   obtain⟨r,k1,k2,ag,ah⟩:=xO O ad aq ar au av aw F an ax
   exact⟨_,ah,br.none M.ok (j.trans k1) k2 ag⟩
  |aO id k off kk m O=>
   simp only at h
   cases G:lX[id]? with
   |none=>simp[G]at h
   |some aG=>
    obtain⟨aA,Y,Z⟩:=F2.left ay G
    simp only[G]at h
    have aE:∀(u:Ty)(y:X)(zs:List u.den),isVal u→y.den ρ=some ⟨.list u,zs⟩→(mc u (.var n) off t).map (λv=>(⟨[.get y k],v,.none⟩:bL))=some q→eT V.E ty l (.aO id m.toNat off)=hY i u.size (zs.map u.enc) m.toNat off→bm P o ρT l nid ae q:=by
     intro u y zs ab af aC aJ
     simp only[Option.map_eq_some_iff]at aC
     obtain⟨x,F,rfl⟩:=aC
     cases hi with
     |get _ _ _ _ _ _ t2 a1 aZ aY ai aj ak aH aI=>
      cases aI
      rw[af]at aj;injection aj with aj;cases aj
      rw[O]at ak;injection ak with ak;cases ak
      obtain⟨a6,aR,aT⟩:=pR aH
      have aB:=wE aT
      obtain⟨r,k1,k2,ag,ah⟩:=xO (ρ:=(n,⟨u,ai⟩)::ρ) (b:=0) (off:=off) (size:=u.size) (k:=m.toNat) (els:=zs.map u.enc) ab ad (show(X.var n).den _=_ from fg n ⟨u,ai⟩ ρ) (by simpa using aR) (by rw[aB,List.drop_zero,List.take_of_length_le (by rw[gy ab];exact Nat.le_refl _)]) (by omega) (λ_ _=>aB) F an ax
      rw[Nat.zero_add]at k1
      exact⟨_,ah,br.none M.ok (j.trans (aJ.trans k1)) k2 ag⟩
    cases Z with
    |row e u y zs ao af=>exact aE u y zs ao af h (by simp only[eT,al,Y])
    |aM e u y zs ao af=>exact aE u y zs ao af h (by simp only[eT,al,Y])
    |_=>simp at h
  |_=>simp at h
theorem zN{xs ys:List TX}{ts j:List T}{off:Nat}(h:F2 (RX ρ) xs ts)(k:F2 (RX ρ) ys j):F2 (RX ρ) (rH xs off ys) (setAt ts off j):=by
 unfold rH setAt
 rw[k.len]
 exact((h.take off).app k).app (h.drop _)
theorem S1{xs ys:List (Ty×X)}{ts j:List D}{off:Nat}(h:F2 (RC ρ) xs ts)(k:F2 (RC ρ) ys j):F2 (RC ρ) (xs.take off++ys++xs.drop (off+ys.length)) (setAt ts off j):=by
 unfold setAt
 rw[k.len]
 exact((h.take off).app k).app (h.drop _)
theorem S6{u:Ty}(h:1<u.size):bE u=true:=by
 cases u<;>simp_all [Ty.size,bE]
theorem zS(
         aa:bb P V C){ty:TypeId}{a x:Operand}(aU:o.op=.store ty a x)(ab:RL ρ lX l)(aj:RX ρ (ρX a) (ρT a))(az:RX ρ (ρX x) (ρT x))(h:zR C ty lX n (ρX a) (ρX x)=some q)(hi:bp cs n ρ q.ins ae)(bf:Ext ρ ae):bm P o ρT l nid ae q:=by
 have G:=bf
 unfold zR at h
 cases ad:C.ty ty with
 |none=>
  cases B:mP (ρX x)with
  |none=>simp[ad,B]at h
  |some vs=>
   obtain⟨ai,aG⟩:=sK az B
   match vs with
   | []=>simp[ad,B]at h
   |_::_::_=>simp[ad,B]at h
   | [y]=>
    simp only[ad,B]at h
    generalize bt:ρX a=A at h aj
    generalize bd:ρT a=bc at aj
    cases aj with
    |ptr id off=>
     simp only at h
     cases O:lX[id]? with
     |none=>simp[O]at h
     |some aP=>
      obtain⟨aN,ah,aq⟩:=F2.left ab O
      simp only[O]at h
      cases aq with
      |var aL xs ts av=>
       simp only at h
       cases M:(Nat.beq (aE C.E ty) 1&&Nat.ble (off+1) xs.length)with
       |false=>simp[M]at h
       |true=>
        simp only[M,cond_true,Option.some.injEq]at h
        simp only[Bool.and_eq_true]at M
        subst h
        have aw:=Nat.eq_of_beq_eq_true M.1;have aQ:=Nat.le_of_ble_eq_true M.2
        have ay:(bh (ρT x)).length=1:=by rw[←ai.len];rfl
        have j:evalOp V ρT l nid o=lC l (ρT a) (ρT x):=by
         simp only[evalOp,aU]
         rw[if_pos ⟨by rw[aa.E,ay,aw],by rw[aa.E,aw];omega⟩]
        cases hi
        rw[bd]at j
        simp only[lC,ah]at j
        rw[if_pos (by rw[ay,←av.len];exact aQ)]at j
        exact⟨_,.undef _,_,F2.set ab (.var aL _ _ (zN av ai)) id,λU=>br.aC aa.ok j aG rfl U⟩
      |_=>simp at h
    |_=>simp at h
 |some t=>
  obtain⟨i,bg,bj,bu,bz,_⟩:=aa.info ad
  cases B:mP (ρX x)with
  |none=>simp[ad,B]at h
  |some vs=>
   obtain⟨ai,aG⟩:=sK az B
   cases M:(Nat.beq vs.length t.size&&Nat.ble 1 vs.length)with
   |false=>simp[ad,B,M]at h
   |true=>
    simp only[ad,B,M,cond_true]at h
    simp only[Bool.and_eq_true]at M
    have aw:=Nat.eq_of_beq_eq_true M.1;have aQ:=Nat.le_of_ble_eq_true M.2
    have aV:aE V.E ty=t.size:=by simp[aE,bg,bj]
    have j:evalOp V ρT l nid o=lC l (ρT a) (ρT x):=by
     simp only[evalOp,aU]
     rw[if_pos ⟨by rw[aV,←ai.len,aw],by rw[aV];omega⟩]
    generalize ρX a=A at h aj
    generalize ρT a=bc at j aj
    cases aj with
    |ptr id off=>
     simp only at h
     cases O:lX[id]? with
     |none=>simp[O]at h
     |some aP=>
      obtain⟨aN,ah,aq⟩:=F2.left ab O
      simp only[O]at h
      cases aq with
      |var aL xs ts av=>
       simp only at h
       cases F:Nat.ble (off+vs.length) xs.length with
       |false=>simp[F]at h
       |true=>
        simp only[F,cond_true,Option.some.injEq]at h
        subst h
        have F:=Nat.le_of_ble_eq_true F
        cases hi
        simp only[lC,ah]at j
        rw[if_pos (by rw[←ai.len,←av.len];exact F)]at j
        exact⟨_,.undef _,_,F2.set ab (.var aL _ _ (zN av ai)) id,λU=>br.aC aa.ok j aG rfl U⟩
      |_=>simp at h
    |aO id k off kk m ao=>
     cases O:lX[id]? with
     |none=>simp[O]at h
     |some aP=>
      obtain⟨aN,ah,aq⟩:=F2.left ab O
      simp only[O]at h
      cases aq with
      |row e u y zs ag al=>
       cases aZ:ρX x with
       |d an ba=>
        rw[aZ]at az h
        obtain⟨ak,w0,aW,aR⟩:=dN az
        rw[aR]at j
        simp only at h
        by_cases aI:off=0∧an=u
        ·rw[if_pos aI]at h
         obtain⟨rfl,aB⟩:=aI
         subst aB
         simp only[Option.some.injEq]at h
         subst h
         cases hi with
         |get _ _ _ _ _ _ t2 bq bo bn af Y Z aJ aK=>
          cases aK
          rw[al]at Y;injection Y with Y;cases Y
          rw[ao]at Z;injection Z with Z;cases Z
          obtain⟨bs,aA,a1⟩:=pR aJ
          simp only[lC,ah]at j
          rw[if_pos (gy ak w0)]at j
          refine⟨_,.undef _,_,F2.set (RL.mono G ab) (a:=.row false e an (.u3 .set y k ba)) (b:=.row e an.size ((zs.set m.toNat w0).map an.enc)) (.row e an _ (zs.set m.toNat w0) ag ?_) id,λU=>br.aC aa.ok j ⟨?_,?_,by simpa using aA⟩ (by rw[List.map_set]) U⟩
          ·simp only[X.den,X.cG G al,X.cG G ao,X.cG G aW,mC,eG]
          ·exact gy ak w0
          rw[List.all_eq_true];exact λd au=>oB ak w0 d au
        rw[if_neg aI]at h
        cases ar:eu eP u (.var n)with
        |none=>simp[ar]at h
        |some c1=>
         cases ax:eu eP an ba with
         |none=>simp[ar,ax]at h
         |some c2=>
          cases F:(Nat.ble (off+c2.length) c1.length && !(Nat.beq off 0&&Nat.beq c2.length c1.length))with
          |false=>simp only[ar,ax,F,cond_false,reduceCtorEq]at h
          |true=>
           simp only[ar,ax,F,cond_true,Option.map_eq_some_iff]at h
           obtain⟨a8,bl,rfl⟩:=h
           rw[Bool.and_eq_true]at F
           have aT:=F.2
           have F:=Nat.le_of_ble_eq_true F.1
           cases hi with
           |get _ _ _ _ _ _ t2 bq bo bn af Y Z aJ aK=>
            cases aK
            rw[al]at Y;injection Y with Y;cases Y
            rw[ao]at Z;injection Z with Z;cases Z
            obtain⟨bs,aA,a1⟩:=pR aJ
            have hE:(X.var n).den ((n,⟨u,af⟩)::ρ)=some ⟨u,af⟩:=fg n ⟨u,af⟩ ρ
            have a6:=mQ _ ag hE ar
            have a7:=mQ _ ak (X.cG G aW) ax
            have ay:=a6.len;have aF:=a7.len
            rw[gy ag]at ay
            obtain⟨w,aX,aY⟩:=x2 ag bl (S1 a6 a7 (off:=off))
            have bx:0<c2.length:=by
             have aS:=ai.len
             rw[aR,Lj]at aS
             simp only[List.length_map]at aS
             omega
            have bw:off≠0∨c2.length≠c1.length:=by
             apply Classical.byContradiction;intro B
             have aB:off=0:=Classical.byContradiction λh=>B (.inl h)
             have af:c2.length=c1.length:=Classical.byContradiction λh=>B (.inr h)
             rw[aB,af]at aT;simp at aT
            have aH:bE u=true:=S6 (by omega)
            have aD:=wE a1
            rw[l3 aH af]at aD
            cases off with
            |zero=>
             simp only[lC,ah,aD]at j
             rw[if_neg (by rw[←aF];omega)]at j
             refine⟨_,.undef _,_,F2.set (RL.mono G ab) (a:=.row false e u (.u3 .set y k a8)) (b:=.row e u.size ((zs.set m.toNat w).map u.enc)) (.row e u _ (zs.set m.toNat w) ag ?_) id,λU=>br.aC aa.ok j ⟨?_,?_,by simpa using aA⟩ ?_ U⟩
             ·simp only[X.den,X.cG G al,X.cG G ao,aX,mC,eG]
             ·rw[←aF];omega
             ·rw[List.all_eq_true];exact λd au=>oB ak w0 d au
             rw[List.map_set,l3 aH w,←aY]
            |succ off=>
             simp only[lC,ah,aD]at j
             refine⟨_,.undef _,_,F2.set (RL.mono G ab) (a:=.row false e u (.u3 .set y k a8)) (b:=.row e u.size ((zs.set m.toNat w).map u.enc)) (.row e u _ (zs.set m.toNat w) ag ?_) id,λU=>br.aC aa.ok j ⟨?_,?_,by simpa using aA⟩ ?_ U⟩
             ·simp only[X.den,X.cG G al,X.cG G ao,aX,mC,eG]
             ·rw[←aF];omega
             ·rw[List.all_eq_true];exact λd au=>oB ak w0 d au
             rw[List.map_set,l3 aH w,←aY]
       |_=>rw[aZ]at h;simp at h
      |aM e u y zs ag al=>simp at h
      |_=>simp at h
    |_=>simp at h
end
end Go.Sy
namespace Go.Sy
open Go Go.af
variable [au][bK][bB][bV][aL]
section
variable {P:Program}{V:Env}{C:Cx}{o:Oper}{ρX:Operand→TX}{ρT:Operand→T}{lX:List AX}{l:List AO}{n nid:Nat}{cs:List Callee}{ρ ae:az}{q:bL}
theorem bm.val(j:ga P V){x:TX}{r:R}(k:evalOp V ρT l nid o=r)(F:r.ob)(B:r.bM=.none)(G:RX ae x r.t){is:List Ins}:bm P o ρT l nid ae ⟨is,x,.none⟩:=⟨_,G,br.none j k F B⟩
theorem vF(Y:bb P V C){x:TX}{t:T}(h:RX ρ x t)(ty:TypeId):RX ρ (nX C.E ty x) (typed V.E ty t):=by
 rw[Y.E]
 cases h with
 |aX s=>exact .aX _
 |undef t=>exact .undef _
 |d t x v j B=>
  have:typed C.E ty (.d (t.enc v))=.d (t.enc v):=rfl
  rw[this];exact .d t x v j B
 |gone=>exact .gone
 |cV=>exact .cV
 |ptr=>exact .ptr _ _
 |aS t e b off size els k v j B G M O U=>exact .aS t e b off size els k v j B G M O U
 |row=>exact .row _
 |aO id k off kk n j=>exact .aO id k off kk n j
 |map=>exact .map _
 |aK=>exact .aK _
 |bj=>exact .bj _ _
 |aQ id t x xs j=>exact .aQ id t x xs j
 |sub id lo hi k1 k2 n m F j B=>exact .sub id lo hi k1 k2 n m F j B
 |agg cs ts j B=>exact .agg cs ts j B
 |fA cs ts j B=>exact .fA cs ts j B
 |aw cs ts j B=>exact .aw cs ts j B
 |eY cs ts j B=>exact .eY cs ts j B
 |e8 f cs ts j B=>exact .e8 f cs ts j B
 |ar f cs ts j B=>exact .ar f cs ts j B
theorem eh{t:TX}(h:c6 t=some q):q=⟨[],t,.none⟩:=by
 simp only[c6,Option.some.injEq]at h;exact h.symm
theorem Du(j:bb P V C){x:Operand}(ho:o.op=.move x∨o.op=.assign x)(B:RX ρ (ρX x) (ρT x))(h:c6 (nX C.E o.type (ρX x))=some q)(hi:bp cs n ρ q.ins ae):bm P o ρT l nid ae q:=by
 have:=eh h;subst this
 cases hi
 have k:evalOp V ρT l nid o=.ok (typed V.E o.type (ρT x)):=by rcases ho with ho|ho<;>simp only[evalOp,ho]
 exact .val j.ok k trivial rfl (vF j B _)
theorem fO{x:X}{u:T}(h:RX ρ (.d .bool x) u):∃b:Bool,x.den ρ=some ⟨.bool,b⟩∧u=.d (.bool b):=by
 obtain⟨_,v,j,k⟩:=dN h
 exact⟨v,j,k⟩
theorem eI{k:IntKind}{x:X}{u:T}(h:RX ρ (.d (.int k) x) u):∃n:Int,x.den ρ=some ⟨.int k,n⟩∧u=.d (.int k n):=by
 obtain⟨_,v,j,B⟩:=dN h
 exact⟨v,j,B⟩
theorem vu{x:X}{u:T}(h:RX ρ (.d .str x) u):∃s:ByteArray,x.den ρ=some ⟨.str,s⟩∧u=.d (.str s):=by
 obtain⟨_,v,j,k⟩:=dN h
 exact⟨v,j,k⟩
theorem xK{t:Ty}{x:X}{u:T}(h:RX ρ (.d (.list t) x) u):∃xs:List t.den,x.den ρ=some ⟨.list t,xs⟩∧u=.d (.slice t.size (xs.map t.enc)):=by
 obtain⟨_,v,j,k⟩:=dN h
 exact⟨v,j,k⟩
theorem NZ{k v:Ty}{x:X}{u:T}(h:RX ρ (.d (.map k v) x) u):∃m:List (k.den×v.den),x.den ρ=some ⟨.map k v,m⟩∧u=.d (.map (m.map λp=>k.enc p.1) (m.map λp=>v.enc p.2)):=by
 obtain⟨_,m,j,B⟩:=dN h
 exact⟨m,j,B⟩
theorem dI{x:X}{b:Bool}(h:x.den ρ=some ⟨.bool,b⟩):RX ρ (.d .bool x) (.d (.bool b)):=.d .bool x b (bx rfl) h
theorem fx{k:IntKind}{x:X}{n:Int}(h:x.den ρ=some ⟨.int k,n⟩):RX ρ (.d (.int k) x) (.d (.int k n)):=.d (.int k) x n (bx rfl) h
theorem SS{x:X}{s:ByteArray}(h:x.den ρ=some ⟨.str,s⟩):RX ρ (.d .str x) (.d (.str s)):=.d .str x s (bx rfl) h
theorem ml{t:Ty}{x:X}{xs:List t.den}(h:x.den ρ=some ⟨.list t,xs⟩):RX ρ (.d (.list t) x) (.d (.slice t.size (xs.map t.enc))):=.d (.list t) x xs (bx rfl) h
theorem xn{u:T}(h:RX ρ .gone u):u=af.gone:=by cases h;rfl
theorem Nh{t:TX}{b:Bool}(h:isLit t=some b):t=.d .bool (.bool b):=by
 unfold isLit at h
 split at h
 ·simp only[Option.some.injEq]at h;subst h;rfl
 cases h
theorem yt(aa:bb P V C){c a b:Operand}(U:o.op=.pick c a b)(ah:∀x∈o.op.operands,RX ρ (ρX x) (ρT x))(h:cq C ρX lX n nid o=some q)(hi:bp cs n ρ q.ins ae):bm P o ρT l nid ae q:=by
 have ak:=ah c (by simp[U,Op.operands]);have M:=ah a (by simp[U,Op.operands]);have O:=ah b (by simp[U,Op.operands])
 have j:evalOp V ρT l nid o=qU (ρT c) (ρT a) (ρT b):=by simp only[evalOp,U]
 simp only[cq,U]at h
 have ag:∀(G:Bool)(x:X),isLit (ρX c)=some G→(if G then ρX a else ρX b)=.d .bool x→c6 (.d .bool x)=some q→((∃y,(if G then ρX b else ρX a)=.d .bool y)∨(if G then ρX b else ρX a)=.gone)→bm P o ρT l nid ae q:=by
  intro G x F af an ad
  have:=eh an;subst this
  cases hi
  rw[Nh F]at ak
  obtain⟨aj,al,ab⟩:=fO ak
  simp only[X.den,Option.some.injEq]at al
  have:aj=G:=by cases al;rfl
  subst this
  cases aj with
  |true=>
   simp only[if_true]at af ad
   rw[af]at M
   obtain⟨v,Y,Z⟩:=fO M
   rcases ad with ⟨y,hy⟩|hy<;>rw[hy]at O
   ·obtain⟨u,ao,ai⟩:=fO O
    rw[ab,Z,ai]at j
    exact .val aa.ok j ⟨trivial,trivial⟩ rfl (dI Y)
   rw[ab,Z,xn O]at j
   exact .val aa.ok j ⟨rfl,trivial⟩ rfl (dI Y)
  |false=>
   simp only[Bool.false_eq_true,if_false]at af ad
   rw[af]at O
   obtain⟨v,Y,Z⟩:=fO O
   rcases ad with ⟨y,hy⟩|hy<;>rw[hy]at M
   ·obtain⟨u,ao,ai⟩:=fO M
    rw[ab,Z,ai]at j
    exact .val aa.ok j ⟨trivial,trivial⟩ rfl (dI Y)
   rw[ab,Z,xn M]at j
   exact .val aa.ok j ⟨rfl,trivial⟩ rfl (dI Y)
 split at h
 ·rename_i F
  split at h
  ·rename_i x y k B
   exact ag true x F (by simpa using k) h (.inl ⟨y,by simpa using B⟩)
  ·rename_i x k B
   exact ag true x F (by simpa using k) h (.inr (by simpa using B))
  cases h
 ·rename_i F
  split at h
  ·rename_i x y k B
   exact ag false x F (by simpa using k) h (.inl ⟨y,by simpa using B⟩)
  ·rename_i x k B
   exact ag false x F (by simpa using k) h (.inr (by simpa using B))
  cases h
 cases h
theorem KJ(B:bb P V C){e:TypeId}{x:Operand}(G:o.op=.box e x)(U:RX ρ (ρX x) (ρT x))(h:cq C ρX lX n nid o=some q)(hi:bp cs n ρ q.ins ae):bm P o ρT l nid ae q:=by
 have F:evalOp V ρT l nid o=⟨.ptr nid 0,.new (.var e (bh (ρT x))),((bh (ρT x)).all T.fh)=true⟩:=by simp only[evalOp,G]
 simp only[cq,G,Option.map_eq_some_iff]at h
 obtain⟨ds,O,rfl⟩:=h
 cases hi
 obtain⟨M,k⟩:=sK U O
 exact⟨_,.ptr nid 0,_,.var e _ _ M,λj=>br.new B.ok F k rfl j,λj=>br.set B.ok F k rfl j⟩
theorem JN(k:bb P V C){e:TypeId}(F:o.op=.alloc e)(h:cq C ρX lX n nid o=some q)(hi:bp cs n ρ q.ins ae):bm P o ρT l nid ae q:=by
 simp only[cq,F]at h
 cases G:C.ty e with
 |none=>
  simp only[G]at h
  split at h
  ·rename_i a b z d hE
   simp only[Option.some.injEq]at h
   subst h
   cases hi
   rw[←k.E]at hE
   have B:evalOp V ρT l nid o=⟨.ptr nid 0,.new (.var e ([z].map fX)),True⟩:=by simp only[evalOp,F,hE]
   exact⟨_,.ptr nid 0,_,.var e _ _ (.cons (.undef _) .nil),λj=>br.new k.ok B trivial rfl j,λj=>br.set k.ok B trivial rfl j⟩
  cases h
 |some t=>
  obtain⟨i,M,Z,aa,ab,_,O⟩:=k.info G
  obtain⟨z,U,Y⟩:=Jw (ρ:=ρ) O
  simp only[G,U,Option.map_some,Option.some.injEq]at h
  subst h
  cases hi
  have B:evalOp V ρT l nid o=⟨.ptr nid 0,.new (.var e (i.zero.map fX)),True⟩:=by simp only[evalOp,F,M]
  exact⟨_,.ptr nid 0,_,.var e _ _ Y,λj=>br.new k.ok B trivial rfl j,λj=>br.set k.ok B trivial rfl j⟩
theorem Mb(F:bb P V C){s:TypeId}{x:Operand}{f:Nat}(af:o.op=.fieldAddr s x f)(ag:RX ρ (ρX x) (ρT x))(h:wR C s f (fy (ρX x))=some q)(hi:bp cs n ρ q.ins ae):bm P o ρT l nid ae q:=by
 have j:evalOp V ρT l nid o=jq V.E s f (unbox (ρT x)):=by simp only[evalOp,af]
 have M:=Ag ag
 unfold wR at h
 rw[F.E]at j
 generalize fy (ρX x)=A at h M
 generalize unbox (ρT x)=ah at j M
 split at h
 ·rename_i s1 ai aj fs hE
  cases B:fs[f]? with
  |none=>simp[B]at h
  |some p=>
   simp only[B]at h
   cases O:Nat.ble 1 (aE C.E p.2)with
   |false=>simp[O]at h
   |true=>
    simp only[O,cond_true]at h
    have U:0<aE C.E p.2:=Nat.le_of_ble_eq_true O
    cases M with
    |ptr id off=>
     have:=eh h;subst this;cases hi
     simp only[jq,hE,B,if_pos U]at j
     exact .val F.ok j trivial rfl (.ptr _ _)
    |aS u e b off size els k v G Y Z aa ab ad=>
     have:=eh h;subst this;cases hi
     simp only[jq,hE,B,if_pos U]at j
     rw[Nat.add_assoc]at j
     exact .val F.ok j trivial rfl (.aS u e b (off+p.1) size els k v G Y Z aa ab ad)
    |aO id k off kk m G=>
     have:=eh h;subst this;cases hi
     simp only[jq,hE,B,if_pos U]at j
     exact .val F.ok j trivial rfl (.aO id k (off+p.1) kk m G)
    |_=>simp at h
 cases h
theorem Md(B:bb P V C){s:TypeId}{x:Operand}{f:Nat}(ah:o.op=.field s x f)(Y:RX ρ (ρX x) (ρT x))(h:wS C s f (ρX x)=some q)(hi:bp cs n ρ q.ins ae):bm P o ρT l nid ae q:=by
 have j:evalOp V ρT l nid o=mX V.E s f (ρT x):=by simp only[evalOp,ah]
 unfold wS at h
 split at h
 ·rename_i s1 ao aq fs u e hE Z
  rw[Z]at Y
  obtain⟨U,v,ai,aj⟩:=dN Y
  rw[aj]at j
  cases F:fs[f]? with
  |none=>simp[F]at h
  |some p=>
   cases G:C.ty p.2 with
   |none=>simp[F,G]at h
   |some t=>
    obtain⟨i,ab,O,af,M,_⟩:=B.info G
    simp only[F,G]at h
    cases k:(bE u&&Nat.ble 1 t.size)with
    |false=>simp[k]at h
    |true=>
     simp only[k,cond_true,Option.map_eq_some_iff]at h
     obtain⟨w,ak,rfl⟩:=h
     cases hi
     simp only[Bool.and_eq_true]at k
     have an:=Nat.le_of_ble_eq_true k.2
     obtain⟨y,b,rfl,al,aa,ag,_⟩:=DL U M ai ak
     rw[l3 k.1 v]at j
     rw[B.E]at j
     have ad:C.E p.2=some i:=by rw[←B.E];exact ab
     simp only[mX,hE,F,ad]at j
     rw[if_pos ⟨by rw[gy U,O];exact ag,by omega⟩,O,←aa,af,x4 M]at j
     exact .val B.ok j trivial rfl (.d t y b M al)
 cases h
end
end Go.Sy
