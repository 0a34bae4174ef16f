import Derived.Test.YthhlipkkjippfaaGreatDoorX2
import Derived.RangeFuncIn
set_option linter.all false
namespace Go.ak
open Go Go.RowKit
variable [bm][bS]
def sS(ops:List Oper)(k:Array Bool):Prop:=∀(i:Nat) o,ops[i]?=some o->k.getD i false=true->∀j∈waits o,k.getD j false=true
theorem sS.step{ops:List Oper}{G M:Array Bool}(Y:sS ops G){i:Nat}{o:Oper}(Z:ops[i]?=some o)(aa:∀j∈waits o,G.getD j false=true)(U:∀k,M.getD k false=if k=i then true else G.getD k false):sS ops M:=by
 intro k q F B j N;rw[U]at B⊢;split
 ·rfl
 by_cases O:k=i
 ·subst O;rw[Z]at F;cases F;exact aa j N
 rw[if_neg O]at B;exact Y k q F B j N
section
variable {P:Program}{V:Env}{w0:World}{I0:aD}{n:Nat}{md:Way}{ops:List Oper}{Q:Exit->Act->World->Prop}{K:St->Prop}
def En{s s':Tm}{x:Operand}(h:∀t,x=.tmp t->get s t=get s' t):cg s x=cg s' x:=by
 cases x with
 |tmp t=>exact h t rfl
 |_=>rfl
def E5{s s':Tm}{o:Oper}(h:∀t∈mO ops o,get s t=get s' t):dL ops s o.guard=dL ops s' o.guard:=by
 cases B:o.guard with
 |none=>rfl
 |some F=>
  obtain⟨j,b⟩:=F;simp only[dL];cases k:(ops[j]?).bind (·.dst)with
  |none=>rfl
  |some d=>
   simp only;rw[h d (List.mem_append_right _ (by rw[B];simp only;rw[k];simp))]
def Zj{V:Env}{pc:PC}{s s':St}{o:Oper}(hl:s.l=s'.l)(h:∀t∈mO ops o,get s.t t=get s'.t t):gr V pc s o=gr V pc s' o:=by
 have j:∀x∈o.op.operands,cg s.t x=cg s'.t x:=λx j=>En λt ht=>h t (sk _ (vb.2 ⟨x,by simpa using j,by rw[ht]⟩));cases pc with
 |nil=>simp only[gr,hl];exact K7 j
 |cons y pc=>
  simp only[gr,hl];have B:=K7 (V:=V) (ρ:=λx=>(strip (y::pc) (cg s.t x)).1) (ρ':=λx=>(strip (y::pc) (cg s'.t x)).1) (l:=s'.l) (nid:=s'.l.length) (o:=o) (λx k=>by simp only[j x k]);have F:o.op.operands.toList.map (λx=>(strip (y::pc) (cg s.t x)).2)=o.op.operands.toList.map (λx=>(strip (y::pc) (cg s'.t x)).2):=hN λx k=>by rw[j x (by simpa using k)]
  rw[B,F]
def IZ{s s':St}{j:Option Nat}{pc:PC}{t:T}{k:qS}(h:after s j pc ⟨t,k,True⟩=some s'):∃u l',s'=⟨bH s.t j u,l'⟩/\∀st:St,st.l=s.l->after st j pc ⟨t,k,True⟩=some ⟨bH st.t j u,l'⟩:=by
 unfold after at h;simp only at h;split at h
 ·injection h with h;exact⟨_,_,h.symm,λst e=>by unfold after;simp only[e]⟩
 ·injection h with h;exact⟨_,_,h.symm,λst e=>by unfold after;simp only[e]⟩
 ·injection h with h;exact⟨_,_,h.symm,λst e=>by unfold after;simp only⟩
 ·rename_i B;injection h with h;cases pc with
  |nil=>exact absurd rfl B
  |cons y r=>exact⟨_,_,h.symm,λst e=>by unfold after;simp only[e]⟩
 cases h
def Wc{md:Way}{o:Oper}{r:List Oper}{s st:St}{K:St->Prop}(h:eg V n ops md (o::r) s K)(hl:st.l=s.l)(O:∀t∈mO ops o,get st.t t=get s.t t) :
  ∃u l',eg V n ops md [o] st (λq=>q=⟨bH st.t o.dst u,l'⟩)/\eg V n ops md r ⟨bH s.t o.dst u,l'⟩ K:=by
 simp only[eg]at h;split at h
 ·exact h.elim
 rename_i pc Y;have k:dL ops st.t o.guard=some pc:=(E5 O).trans Y;have U:∀N,gr V N st o=gr V N s o:=λN=>Zj hl O;cases md with
 |none=>
  simp only at h;obtain⟨B,j,h⟩:=h;split at h
  ·rename_i s' F;obtain⟨u,l',rfl,G⟩:=IZ F;refine⟨u,l',?_,h⟩;simp only[eg,k,U];refine⟨B,j,?_⟩;rw[G st hl];first|done|rfl
  exact h.elim
 |some ab=>
  simp only at h;split at h
  ·rename_i M;obtain⟨Z,j,h⟩:=h;refine⟨gone,s.l,?_,h⟩;simp only[eg,k,if_pos M];exact⟨Z,j,by rw[hl]⟩
  rename_i M;obtain⟨aa,B,j,h⟩:=h;split at h
  ·rename_i s' F;obtain⟨u,l',rfl,G⟩:=IZ F;refine⟨u,l',?_,h⟩;simp only[eg,k,if_neg M,U];refine⟨aa,B,j,?_⟩;rw[G st hl];first|done|rfl
  exact h.elim
def I2{V:Env}{ρ:Operand->T}{s:St}{o:Oper}{pc:PC}{t:T}{k:qS}{t':Tm}{l':List AO}(h:rL o=true)(G:(evalOp V ρ s.l s.l.length o).bE=k)(j:after s o.dst pc ⟨t,k,True⟩=some ⟨t',l'⟩):ga s.l l':=by
 obtain⟨B,F⟩:=XG (V:=V) (ρ:=ρ) (l:=s.l) (nid:=s.l.length) h;rw[G]at B F;unfold after at j;simp only at j;split at j
 ·injection j with j;injection j with _ j;rw[<-j];exact .refl _
 ·exact absurd rfl (F _)
 ·injection j with j;injection j with _ j;rw[<-j];exact B _ rfl
 ·injection j with j;injection j with _ j;rw[<-j];exact .refl _
 cases j
theorem NT{V:Env}{pc:PC}{s:St}{o:Oper}:∃ρ,(gr V pc s o).bE=(evalOp V ρ s.l s.l.length o).bE:=by
 cases pc with
 |nil=>exact⟨_,rfl⟩
 |cons y r=>exact⟨_,rfl⟩
def Wd{md:Way}{o:Oper}{st:St}{t':Tm}{l':List AO}(B:rL o=true)(h:eg V n ops md [o] st (λq=>q=⟨t',l'⟩)):ga st.l l':=by
 simp only[eg]at h;split at h
 ·exact h.elim
 rename_i pc F;cases md with
 |none=>
  simp only at h;obtain⟨_,_,h⟩:=h;split at h
  ·rename_i s' j;subst h;obtain⟨ρ,k⟩:=NT (V:=V) (pc:=pc) (s:=st) (o:=o);exact I2 B k.symm j
  exact h.elim
 |some G=>
  simp only at h;split at h
  ·obtain⟨_,_,h⟩:=h;injection h with _ h;rw[<-h];exact .refl _
  obtain⟨_,_,_,h⟩:=h;split at h
  ·rename_i s' j;subst h;obtain⟨ρ,k⟩:=NT (V:=V) (pc:=[]) (s:=st) (o:=o);exact I2 B k.symm j
  exact h.elim
def pR(P:Program)(n:Nat)(ops:List Oper)(o:Oper)(s:St)(K:T->List AO->Prop):Prop:=
 ∀(st:St),st.l=s.l->(∀t∈mO ops o,get st.t t=get s.t t)->∀(w0:World)(I0:aD)(a:Act)(w:World)(Q:Exit->Act->World->Prop)(j:Act->World->Prop),Rel w0 I0 n st a w ->
  (∀u l' k w',K u l'->(rL o=true->ga s.l l')->Rel w0 I0 n ⟨bH st.t o.dst u,l'⟩ k w'->j k w') ->
  if Region.wanted o (yielded ops.toArray a.tmps)=true then o.wpIn dS 0 P a w j Q else(∀f,o.about P w a.eval=some f->dS.fn f)/\j (a.put o.dst undef) w
def eu(P:Program)(n:Nat)(ops:List Oper):List Oper->St->(St->Prop)->Prop
 | [],s,K=>K s
 |o::r,s,K=>pR P n ops o s λu l'=>eu P n ops r ⟨bH s.t o.dst u,l'⟩ K
theorem pR.mono{o:Oper}{s:St}{K j:T->List AO->Prop}(h:pR P n ops o s K)(N:∀u l',K u l'->j u l'):pR P n ops o s j:=
 λst hl M w0 I0 a w Q B O G=>h st hl M w0 I0 a w Q B O λu l' F w' k=>G u l' F w' (N u l' k)
def step_seq(M:c6 P V){o:Oper}{r:List Oper}{s:St}(h:eg V n ops md (o::r) s K):pR P n ops o s λu l'=>eg V n ops md r ⟨bH s.t o.dst u,l'⟩ K:=by
 intro st hl N w0 I0 a w Q Z Y G;obtain⟨u,l',k,F⟩:=Wc (st:=st) h hl N;refine K8 M Y k λq B w' j U=>?_;simp only[eg]at j;subst j;exact G u l' B w' F (λO=>hl▸Wd (st:=st) O k) U
theorem eu.seq(j:c6 P V){post:List Oper}:∀{r:List Oper}{s:St},eg V n ops md r s (λs'=>eu P n ops post s' K)->eu P n ops (r++post) s K
 | [],_,h=>h
 |_::_,_,h=>(step_seq j h).mono λ_ _ k=>eu.seq j k
theorem eu.of(j:c6 P V){r:List Oper}{s:St}(h:eg V n ops md r s K):eu P n ops r s K:=by
 have:=eu.seq (P:=P) (post:=[]) j (K:=K) (s:=s) (r:=r) h;simpa using this
theorem eu.call(av:c6 P V){o:Oper}{r:List Oper}{s:St}{g:FuncId}{ts:List T}{pc:PC}(ae:dL ops s.t o.guard=some pc)(ah:holds pc)(Z:eE n o.dst=true)(j:eD V.E (cg s.t) o=some (g,ts))(h:jV P g ts s.l λu l'=>eu P n ops r ⟨bH s.t o.dst u,l'⟩ K):eu P n ops (o::r) s K:=by
 intro st hl G w0 I0 a w Q au ai U;have F:∀x∈o.op.operands,cg st.t x=cg s.t x:=λx F=>En λt ht=>G t (sk _ (vb.2 ⟨x,by simpa using F,by rw[ht]⟩));obtain⟨M,I,m,N,aa,ht⟩:=ai;have ak:=(pJ (ops:=ops) (a:=a) ht ((E5 G).trans ae)).2 ah;rw[if_pos ak];refine cr.wpIn (tz j) ?_;obtain⟨O,aj,af,Y⟩:=pY (P:=P) (w:=w) (ρ:=a.eval) h.1 (λx _=>nw N.sat.dK ht x) ((Vh F).trans j);rw[aj];simp only[cr];refine(h.2 w0 I0 w I m O (λk=>a.tmps.getD k undef) st.t (by rw[<-hl];exact N) af (by rw[<-hl];exact Y) (by rw[<-hl];exact ht)).mono ?_;rintro e w' ⟨v,ab,t,l',J,m',al,an,ao,ar,aq⟩;refine⟨v,ab,U t l' _ w' al (λB=>?_) ⟨by cases o.dst<;>simp[Act.put,M],J,m',an,aa.yb ar,jk M Z aq ao⟩⟩;exfalso;unfold eD at j;unfold rL Ac at B;split at j
 ·rename_i c ag;rw[ag]at B;simp only[lB]at B;split at j
  ·rename_i f ad;rw[ad]at B;simp at B
  cases j
 cases j
theorem eu.wp(G:c6 P V)(k:∀s a w,K s->Rel w0 I0 n s a w->Q .normal a w):∀(r:List Oper)(s:St)(a:Act)(w:World),Rel w0 I0 n s a w->eu P n ops r s K->wpListIn dS 0 P ops.toArray Q r a w
 | [],s,a,w,j,h=>k s a w h j
 |o::r,s,a,w,j,h=>by
  unfold wpListIn;exact h s rfl (λ_ _=>rfl) w0 I0 a w Q _ j λu l' B w' F _ M=>eu.wp G k r _ B w' M F
end
abbrev Spec:=List D->Option (D×Prop)
def tu:List (FuncId×Spec)->yJ
 | [],_,_=>none
 | (g,S)::r,f,ds=>if g=f then S ds else tu r f ds
structure QZ(P:Program)(f:FuncId)(S:Spec):Prop where
 enters:Enters P f
 kF:∀ds r ob,S ds=some (r,ob)->ob->gA P f ds r
def sY(P:Program):List (FuncId×Spec)->Prop
 | []=>True
 | (f,S)::r=>QZ P f S/\sY P r
theorem sY.ok{P:Program}:∀{j:List (FuncId×Spec)},sY P j->IP P (tu j)
 | [],_,f,ds,r,ob,h,_=>by simp[tu]at h
 | (g,S)::j,M,f,ds,r,ob,h,B=>by
  obtain⟨k,F⟩:=M;simp only[tu]at h;split at h
  ·rename_i G;subst G;exact⟨k.enters,k.kF ds r ob h B⟩
  exact sY.ok F f ds r ob h B
def MS(j:List (Nat×List Lf)):TypeId->Option (List Lf):=λt=>(j.find? λp=>p.1 == t).map (·.2)
def idx(id:Nat):List Nat->Nat->Option Nat
 | [],_=>none
 |x::xs,k=>if x=id then some k else idx id xs (k+1)
def mD{id:Nat}:∀{xs:List Nat}{k j:Nat},idx id xs k=some j->k<=j/\xs[j-k]?=some id
 | [],k,j,h=>by simp[idx]at h
 |x::xs,k,j,h=>by
  simp only[idx]at h;split at h
  ·rename_i F;cases h;simp[F]
  obtain⟨G,B⟩:=mD h;refine⟨by omega,?_⟩;rw[show j-k=(j-(k+1))+1 by omega];simpa using B
def T.data:T->Bool
 |.d _=>true
 |_=>false
def T.flat:T->Bool
 |.d _=>true
 |.ptr _ _=>true
 |.bj _=>true
 |_=>false
def T.sy(ids:List Nat):T->T
 |.ptr id off=>match idx id ids 0 with|some k=>.ptr k off|none=>.undef
 |.bj id=>match idx id ids 0 with|some k=>.bj k|none=>.undef
 |t=>t
def T.cY(ids:List Nat):T->T
 |.ptr id off=>match idx id ids 0 with|some k=>.ptr k off|none=>.undef
 |.row id=>match idx id ids 0 with|some k=>.row k|none=>.undef
 |.bx id k off=>match idx id ids 0 with|some j=>.bx j k off|none=>.undef
 |.map id=>match idx id ids 0 with|some k=>.map k|none=>.undef
 |.bj id=>match idx id ids 0 with|some k=>.bj k|none=>.undef
 |.sub id lo hi=>match idx id ids 0 with|some k=>.sub k lo hi|none=>.undef
 |.cC id n=>match idx id ids 0 with|some k=>.cC k n|none=>.undef
 |.bI id x=>match idx id ids 0 with|some k=>.bI k x|none=>.d x
 |.aH g ts=>if ts.all T.flat then .aH g (ts.map (T.sy ids))else .undef
 |.aL _=>.undef
 |.cond _ _=>.undef
 |.agg _=>.undef
 |t=>t
def T.bV(ids:List Nat):T->T
 |.aL ts=>if ts.all T.data then .aL ts else .undef
 |.cond pc t=>if t.data then .cond pc t else .undef
 |.agg ts=>.agg (ts.map (T.cY ids))
 |t=>t.cY ids
def AO.bV(ids:List Nat):AO->AO
 |.var ty cs=>.var ty (cs.map (T.bV ids))
 |o=>o
def cN(ids:List Nat)(l:List AO):List AO:=ids.map λid=>((l[id]?).getD .dead).bV ids
theorem vl{ids:List Nat}{l:List AO}{k id:Nat}(h:ids[k]?=some id):(cN ids l)[k]?=some (((l[id]?).getD .dead).bV ids):=by simp[cN,h]
def AO.l9(ids:List Nat)(o:AO):(o.bV ids).isVar=o.isVar:=by cases o<;>rfl
def AO.od(ids:List Nat)(o:AO):(o.bV ids).isRow=o.isRow:=by cases o<;>rfl
theorem Gc{ids:List Nat}(h:ids.Nodup):∀{i j a:Nat},ids[i]?=some a->ids[j]?=some a->i=j:=by
 induction ids with
 |nil=>intro i j a hi;simp at hi
 |cons x xs B=>
  intro i j a hi k;rw[h5]at h;rcases i with _|i<;>rcases j with _|j
  ·rfl
  ·simp at hi k;subst hi;exact absurd (dd k) h.1
  ·simp at hi k;subst k;exact absurd (dd hi) h.1
  simp at hi k;rw[B h.2 hi k]
section
variable {P:Program}{V:Env}{w0:World}{I0:aD}{n:Nat}{Q:Exit->St->Prop}{s:St}
def KO{I:aD}{m m':Nat->Value}{l l':List AO}{v:Value}{t:T}(h:az I m l v t)(j:t.data=true):az I m' l' v t:=by
 cases h<;>simp[T.data]at j
 exact .d _ _ (by assumption)
def l9{ids:List Nat}{l:List AO}{k id:Nat}(h:ids[k]?=some id):isVar (cN ids l) k=isVar l id:=by
 unfold isVar;rw[vl h];simp only[Option.map_some,Option.getD_some,AO.l9];cases l[id]?<;>rfl
def od{ids:List Nat}{l:List AO}{k id:Nat}(h:ids[k]?=some id):isRow (cN ids l) k=isRow l id:=by
 unfold isRow;rw[vl h];simp only[Option.map_some,Option.getD_some,AO.od];cases l[id]?<;>rfl
def O1{ids:List Nat}{l:List AO}{m m':Nat->Value}{q:Nat}(B:∀(k id:Nat),ids[k]?=some id->m' k=m id)(h:cA (cN ids l) q=true):∃j,cA l j=true/\own (m j)=own (m' q):=by
 unfold cA at h;cases hi:ids[q]? with
 |none=>simp[cN,hi]at h
 |some id=>
  rw[vl hi]at h;refine⟨id,?_,by rw[B q id hi]⟩;unfold cA;cases hl:l[id]? with
  |none=>rw[hl]at h;simp[AO.bV,AO.cA]at h
  |some o=>rw[hl]at h;cases o<;>simp_all [AO.bV,AO.cA]
def CE{ids:List Nat}{l:List AO}{k id e size:Nat}{els:List D}(h:ids[k]?=some id)(j:(cN ids l)[k]?=some (.row e size els)\/(cN ids l)[k]?=some (.bn e size els)):l[id]?=some (.row e size els)\/l[id]?=some (.bn e size els):=by
 rw[vl h]at j;cases hl:l[id]? with
 |none=>rw[hl]at j;simp[AO.bV]at j
 |some o=>rw[hl]at j;cases o<;>simp_all [AO.bV]
def az.cY{I:aD}{m m':Nat->Value}{l:List AO}{ids:List Nat}(G:∀k id,ids[k]?=some id->m' k=m id){v:Value}{t:T}(h:az I m l v t):az I m' (cN ids l) v (t.cY ids):=by
 have U:∀{k id:Nat},ids[k]?=some id->k<(cN ids l).length:=λh=>by rw[show(cN ids l).length=ids.length by simp[cN]];exact(db.1 h).1
 cases h with
 |undef=>exact .undef _
 |d v x aa=>exact .d _ _ aa
 |bq s=>exact .bq _
 |ptr id b off F B=>
  simp only[T.cY];split
  ·rename_i k j;have j:=(mD j).2;simp only[Nat.sub_zero]at j;exact .ptr k b off ((l9 j).trans F) ((G k id j).trans B)
  exact .undef _
 |bj id b F B=>
  simp only[T.cY];split
  ·rename_i k j;have j:=(mD j).2;simp only[Nat.sub_zero]at j;exact .bj k b ((l9 j).trans F) ((G k id j).trans B)
  exact .undef _
 |cC id b n c F B M Z=>
  simp only[T.cY];split
  ·rename_i k j;have j:=(mD j).2;simp only[Nat.sub_zero]at j;exact .cC k b n c ((l9 j).trans F) ((G k id j).trans B) M Z
  exact .undef _
 |bu b o size els q off val F B M Z=>exact .bu b o size els q off val F B M Z
 |row A n c id F B=>
  simp only[T.cY];split
  ·rename_i k j;have j:=(mD j).2;simp only[Nat.sub_zero]at j;exact .row A n c k (U j) λhl=>(G k id j).trans (B ((od j).symm.trans hl))
  exact .undef _
 |bI A n c id x F B M=>
  simp only[T.cY];split
  ·rename_i k j;have j:=(mD j).2;simp only[Nat.sub_zero]at j;exact .bI A n c k x (U j) (λhl=>(G k id j).trans (B ((od j).symm.trans hl))) M
  exact .d _ _ M
 |bx a id q off F B=>
  simp only[T.cY];split
  ·rename_i k j;have j:=(mD j).2;simp only[Nat.sub_zero]at j;refine .bx a k q off (U j) λe size els hl=>?_;obtain⟨b,n,c,N,O⟩:=B e size els (CE j hl);exact⟨b,n,c,(G k id j).trans N,O⟩
  exact .undef _
 |sub A n c id lo hi F B=>
  simp only[T.cY];split
  ·rename_i k j;have j:=(mD j).2;simp only[Nat.sub_zero]at j;refine .sub A n c k lo hi (U j) λe size els hl=>?_;obtain⟨ab,n0,ad,N,O⟩:=B e size els (CE j hl);exact⟨ab,n0,ad,(G k id j).trans N,O⟩
  exact .undef _
 |map r id F B=>
  simp only[T.cY];split
  ·rename_i k j;have j:=(mD j).2;simp only[Nat.sub_zero]at j;exact .map r k (U j) λhl=>(G k id j).trans (B ((od j).symm.trans hl))
  exact .undef _
 |aL vs ts F B=>exact .undef _
 |cond v pc t F B=>exact .undef _
 |agg vs ts F B M=>exact .undef _
 |aH g vs ts F B=>
  simp only[T.cY];split
  ·rename_i ae;refine .aH g vs _ (by simpa using F) λi v t hv ht=>?_;rw[e3]at ht;cases Y:ts[i]? with
   |none=>rw[Y]at ht;cases ht
   |some t0=>
    rw[Y]at ht;simp at ht;subst ht;have h0:=B i v t0 hv Y;have af:=ek.1 ae t0 (dd Y);cases h0 with
    |d v x aa=>exact .d _ _ aa
    |ptr id b off N O=>
     simp only[T.sy];split
     ·rename_i k j;have j:=(mD j).2;simp only[Nat.sub_zero]at j;exact .ptr k b off ((l9 j).trans N) ((G k id j).trans O)
     exact .undef _
    |bj id b N O=>
     simp only[T.sy];split
     ·rename_i k j;have j:=(mD j).2;simp only[Nat.sub_zero]at j;exact .bj k b ((l9 j).trans N) ((G k id j).trans O)
     exact .undef _
    |_=>simp[T.flat]at af
  exact .undef _
def az.bV{I:aD}{m m':Nat->Value}{l:List AO}{ids:List Nat}(F:∀k id,ids[k]?=some id->m' k=m id){v:Value}{t:T}(h:az I m l v t):az I m' (cN ids l) v (t.bV ids):=by
 cases h with
 |aL vs ts G M=>
  simp only[T.bV];split
  ·rename_i O;exact .aL vs ts G λi v t hv ht=>KO (M i v t hv ht) (ek.1 O t (dd ht))
  exact .undef _
 |cond v pc t G M=>
  simp only[T.bV];split
  ·rename_i O;exact .cond v pc t (λaa=>KO (G aa) O) M
  exact .undef _
 |agg vs ts G M Z=>
  refine .agg vs _ (by simpa using G) M λi v t hv ht=>?_;rw[e3]at ht;cases U:ts[i]? with
  |none=>rw[U]at ht;cases ht
  |some t0=>
   rw[U]at ht;simp at ht;subst ht;exact(Z i v t0 hv U).cY F
 |undef=>exact .undef _
 |d v x ab=>exact .d _ _ ab
 |bq s=>exact .bq _
 |ptr id b off j B=>exact az.cY F (.ptr id b off j B)
 |bu b o size els q off val j B N Y=>exact az.cY F (.bu b o size els q off val j B N Y)
 |row A n c id j B=>exact az.cY F (.row A n c id j B)
 |bI A n c id x j B N=>exact az.cY F (.bI A n c id x j B N)
 |bx a id q off j B=>exact az.cY F (.bx a id q off j B)
 |map r id j B=>exact az.cY F (.map r id j B)
 |bj id b j B=>exact az.cY F (.bj id b j B)
 |cC id b n c j B N Y=>exact az.cY F (.cC id b n c j B N Y)
 |sub A n c id lo hi j B=>exact az.cY F (.sub A n c id lo hi j B)
 |aH g vs ts j B=>exact az.cY F (.aH g vs ts j B)
def oM(ids:List Nat)(l:List AO):Bool:=ids.all λid=>match l[id]? with
 |some (.frame b _ _)|some (.loop b _ _ _ _ _ _ _)=>(List.range b).all λj=>ids[j]? == some j
 |_=>true
def aJ.bV{w0 w:World}{I0 I:aD}{m:Nat->Value}{l:List AO}{ids:List Nat}(h:aJ w0 I0 w I m l)(aB:ids.Nodup)(az:oM ids l=true):aJ w0 I0 w I (λk=>m ((ids[k]?).getD 0)) (cN ids l):=by
 have ab:∀(k id:Nat),ids[k]?=some id->(λk:Nat=>m ((ids[k]?).getD 0)) k=m id:=λk id F=>by simp[F]
 have ae:∀{k:Nat}{o:AO},(cN ids l)[k]?=some o->∃id,ids[k]?=some id:=λ{k o} F=>by
  cases hi:ids[k]? with
  |none=>simp[cN,hi]at F
  |some id=>exact⟨id,rfl⟩
 have ao:∀{k id:Nat},ids[k]?=some id->alive (cN ids l) k=alive l id:=λF=>by unfold alive;rw[l9 F,od F]
 refine⟨h.below,h.sat,h.ext,λk o au=>?_,λi j b aA hi U=>?_⟩
 ·obtain⟨id,F⟩:=ae au;have M:=vl (l:=l) F;rw[au]at M;cases hl:l[id]? with
  |none=>rw[hl]at M;simp[AO.bV]at M;subst M;trivial
  |some o'=>
   rw[hl]at M;simp only[Option.getD_some,c4]at M;have B:=h.obj id o' hl;show dZ _ _ _ _ _ (m ((ids[k]?).getD 0)) o;rw[F,M];simp only[Option.getD_some];have pre:∀b:Nat,(match o' with |.frame b _ _ |.loop b _ _ _ _ _ _ _=>some b|_=>none)=some b->b<=l.length->b<=ids.length/\Le I m (l.take b) I (λk=>m ((ids[k]?).getD 0)) ((cN ids l).take b):=λb aq aI=>by
    have O:∀j,j<b->ids[j]?=some j:=λj U=>by
     have:=ek.1 az id (dd F);rw[hl]at this;have:=(by
      cases o'<;>simp at aq<;>subst aq<;>exact ek.1 this j (ib.2 U):(ids[j]? == some j)=true)
     simpa using this
    have ay:b<=ids.length:=by
     rcases s6 b with h0|h0
     ·omega
     have:=(db.1 (O (b-1) (by omega))).1;omega
    refine⟨ay,.refl I,by simp[cN];omega,λq N hv=>?_,λq N av=>?_,λq e size els N ar=>?_⟩
    ·rw[fb]at N;rw[Af (by omega)]at hv⊢;exact⟨(l9 (O q (by omega))).trans hv,ab q q (O q (by omega))⟩
    ·rw[fb]at N;rw[Ad (by omega)]at av⊢;exact⟨(od (O q (by omega))).symm.trans av,ab q q (O q (by omega))⟩
    rw[fb]at N;rw[hQ,if_pos (by omega)]at ar⊢;exact⟨els,CE (O q (by omega)) ar⟩
   cases o' with
   |dead=>trivial
   |var ty cs=>
    obtain⟨b,vs,Y,Z,ai,aj,ad,ak⟩:=B;refine⟨b,vs,Y,Z,ai,by simp[aj],λi x t aw ht=>?_,ak⟩;rw[e3]at ht;cases G:cs[i]? with
    |none=>rw[G]at ht;simp at ht
    |some t0=>
     rw[G]at ht;simp at ht;subst ht;exact⟨(ad i x t0 aw G).1.bV ab,(ad i x t0 aw G).2⟩
   |row e size els=>exact B
   |bn e size els=>exact B
   |map af vs=>exact B
   |dJ af vs=>exact B
   |bw e size af vs aM=>exact dZ.gm (λq N=>O1 (m':=λk=>m ((ids[k]?).getD 0)) ab N) B
   |iter af vs done=>exact B
   |frame b vals t=>
    obtain⟨ag,ah⟩:=pre b rfl B.2.1;exact⟨B.1,by simpa [cN]using ag,λj=>(B.2.2 j).mono ah⟩
   |loop b n ps bc aF t st aN=>
    obtain⟨ax,r,aE,Y,Z,ai,aj,ad,ak⟩:=B;obtain⟨ag,ah⟩:=pre b rfl aj;exact⟨ax,r,aE,Y,Z,ai,by simpa [cN]using ag,λj=>(ad j).mono ah,ak⟩
 obtain⟨aK,Y,_⟩:=bN.1 hi;obtain⟨aL,Z,_⟩:=bN.1 U;obtain⟨a,aa⟩:=ae Y;obtain⟨c,G⟩:=ae Z;rw[ao aa]at hi;rw[ao G]at U;have aC:a≠c:=λe=>by
  subst e;have al:=db.1 aa;have an:=db.1 G;obtain⟨al,aG⟩:=al;obtain⟨an,aH⟩:=an;exact aA (Gc aB aa G)
 simp only[aa,G,Option.getD_some];exact h.sep a c b aC hi U
def kL(ids:List Nat)(s:Tm):Tm->Prop
 | []=>True
 | (i,t)::r=>(get s i).bV ids=t/\kL ids s r
def zS{ids:List Nat}{s:Tm}:∀{r:Tm},kL ids s r->∀k,get r k=.undef\/get r k=(get s k).bV ids
 | [],_,k=>.inl rfl
 | (i,t)::r,h,k=>by
  simp only[get];by_cases hi:i=k
  ·subst hi;rw[if_pos rfl];exact .inr h.1.symm
  rw[if_neg hi];exact zS h.2 k
def Sub.bV(ids:List Nat){t':Tm}{l':List AO}(Y:ids.Nodup)(O:oM ids s.l=true)(hl:cN ids s.l=l')(N:kL ids s.t t'):Sub s ⟨t',l'⟩:=by
 subst hl;intro w0 I0 n a w Z;obtain⟨B,I,m,G,F,M⟩:=Z;refine⟨B,I,_,G.bV Y O,F,λj=>?_⟩;rcases zS N j with h|h
 ·rw[h];exact .undef _
 rw[h];exact(M j).bV λk id U=>by simp[U]
def aJ.O7{w0 w:World}{I0 I:aD}{m:Nat->Value}{l:List AO}(N:aJ w0 I0 w I m l)(e size:Nat):∃m',aJ w0 I0 w I m' (l++[.row e size []])/\Le I m l I m' (l++[.row e size []])/\m' l.length=.slice none 0 0:=by
 let m':Nat->Value:=λk=>if k=l.length then .slice none 0 0 else m k
 have M:∀k,k<l.length->m' k=m k:=λk aj=>by simp only[m'];rw[if_neg (by omega)]
 have ai:∀id,id<l.length->isVar (l++[.row e size []]) id=isVar l id:=λid hid=>by unfold isVar;rw[e1 hid]
 have ah:∀id,id<l.length->isRow (l++[.row e size []]) id=isRow l id:=λid hid=>by unfold isRow;rw[e1 hid]
 have G:Le I m l I m' (l++[.row e size []]):=by
  refine⟨.refl I,by simp,λid hid hv=>⟨(ai id hid).trans hv,M id hid⟩,λid hid hv=>⟨(ah id hid).symm.trans hv,M id hid⟩,λid an s' els hid hl=>⟨els,?_⟩⟩;rwa [e1 hid]at hl
 have U:m' l.length=.slice none 0 0:=by simp[m']
 refine⟨m',⟨N.below,N.sat,N.ext,λid o B=>?_,λi k b ao hi aj=>?_⟩,G,U⟩
 ·rcases p6 id l.length with hid|hid
  ·rw[e1 hid]at B;have:=N.obj id o B;rw[M id hid];cases o with
   |dead=>trivial
   |var ty cs=>
    obtain⟨b,vs,aa,ab,ad,ae,Y,af⟩:=this;exact⟨b,vs,aa,ab,ad,ae,λi x t ak ht=>⟨(Y i x t ak ht).1.mono G,(Y i x t ak ht).2⟩,af⟩
   |row e size els=>exact this
   |bn e size els=>exact this
   |map Z vs=>exact this
   |dJ Z vs=>exact this
   |bw an aw Z vs au=>exact dZ.gm (λq F=>(ub F).elim (λh=>⟨q,h.2,by rw[M q h.1]⟩) λh=>by cases h.2) this
   |iter Z vs done=>exact this
   |frame b vals t=>exact⟨this.1,hB this.2.1 G.len,λj=>(this.2.2 j).mono (G.take b)⟩
   |loop b n ps bc ar t st av=>
    obtain⟨al,r,aq,aa,ab,ad,ae,Y,af⟩:=this;exact⟨al,r,aq,aa,ab,ad,hB ae G.len,λj=>(Y j).mono (G.take b),af⟩
  rw[hI hid]at B;have h0:id-l.length=0:=by
   cases F:id-l.length with
   |zero=>rfl
   |succ q=>rw[F]at B;simp at B
  rw[h0]at B;simp at B;subst B;have:id=l.length:=by omega
  subst this;rw[U];exact⟨[],⟨by simp,.inl ⟨rfl,rfl⟩⟩,by simp,by simp,by simp[own]⟩
 intro O;have ag:∀q,alive (l++[.row e size []]) q=true->(q<l.length/\alive l q=true)\/q=l.length:=λq F=>by
  rcases p6 q l.length with h|h
  ·refine .inl ⟨h,?_⟩;unfold alive at F⊢;rwa [ai q h,ah q h]at F
  obtain⟨o,B,_⟩:=bN.1 F;have:=(db.1 B).1;simp at this;right;omega
 rcases ag i hi with ⟨i1,i2⟩|rfl
 ·rcases ag k aj with ⟨k1,k2⟩|rfl
  ·rw[M i i1]at O;rw[M k k1];exact N.sep i k b ao i2 k2 O
  rw[U];simp[own]
 rw[U]at O;simp[own]at O
def Sub.s7(j e size:Nat){z:Nat}(av:get s.t j=.bq z):Sub s ⟨(j,.row s.l.length)::s.t,s.l++[.row e size []]⟩:=by
 intro w0 I0 n a w aw;obtain⟨aq,I,m,N,ar,ai⟩:=aw;let m':Nat->Value:=λk=>if k=s.l.length then .slice none 0 0 else m k
 have M:∀k,k<s.l.length->m' k=m k:=λk O=>by simp only[m'];rw[if_neg (by omega)]
 have ak:∀id,id<s.l.length->isVar (s.l++[.row e size []]) id=isVar s.l id:=λid hid=>by unfold isVar;rw[e1 hid]
 have aj:∀id,id<s.l.length->isRow (s.l++[.row e size []]) id=isRow s.l id:=λid hid=>by unfold isRow;rw[e1 hid]
 have G:Le I m s.l I m' (s.l++[.row e size []]):=by
  refine⟨.refl I,by simp,λid hid hv=>⟨(ak id hid).trans hv,M id hid⟩,λid hid hv=>⟨(aj id hid).symm.trans hv,M id hid⟩,λid ao s' els hid hl=>⟨els,?_⟩⟩;rwa [e1 hid]at hl
 have Y:m' s.l.length=.slice none 0 0:=by simp[m']
 refine⟨aq,I,m',⟨N.below,N.sat,N.ext,λid o B=>?_,λi k b au hi O=>?_⟩,ar,λk=>?_⟩
 ·rcases p6 id s.l.length with hid|hid
  ·rw[e1 hid]at B;have:=N.obj id o B;rw[M id hid];cases o with
   |dead=>trivial
   |var ty cs=>
    obtain⟨b,vs,ab,ad,ae,af,Z,ag⟩:=this;exact⟨b,vs,ab,ad,ae,af,λi x t al ht=>⟨(Z i x t al ht).1.mono G,(Z i x t al ht).2⟩,ag⟩
   |row e size els=>exact this
   |bn e size els=>exact this
   |map aa vs=>exact this
   |dJ aa vs=>exact this
   |bw ao aB aa vs az=>exact dZ.gm (λq F=>(ub F).elim (λh=>⟨q,h.2,by rw[M q h.1]⟩) λh=>by cases h.2) this
   |iter aa vs done=>exact this
   |frame b vals t=>exact⟨this.1,hB this.2.1 G.len,λj=>(this.2.2 j).mono (G.take b)⟩
   |loop b n ps bc ay t st aA=>
    obtain⟨an,r,ax,ab,ad,ae,af,Z,ag⟩:=this;exact⟨an,r,ax,ab,ad,ae,hB af G.len,λj=>(Z j).mono (G.take b),ag⟩
  rw[hI hid]at B;have h0:id-s.l.length=0:=by
   cases F:id-s.l.length with
   |zero=>rfl
   |succ q=>rw[F]at B;simp at B
  rw[h0]at B;simp at B;subst B;have:id=s.l.length:=by omega
  subst this;rw[Y];exact⟨[],⟨by simp,.inl ⟨rfl,rfl⟩⟩,by simp,by simp,by simp[own]⟩
 ·intro U;have ah:∀q,alive (s.l++[.row e size []]) q=true->(q<s.l.length/\alive s.l q=true)\/q=s.l.length:=λq F=>by
   rcases p6 q s.l.length with h|h
   ·refine .inl ⟨h,?_⟩;unfold alive at F⊢;rwa [ak q h,aj q h]at F
   obtain⟨o,B,_⟩:=bN.1 F;have:=(db.1 B).1;simp at this;right;omega
  rcases ah i hi with ⟨i1,i2⟩|rfl
  ·rcases ah k O with ⟨k1,k2⟩|rfl
   ·rw[M i i1]at U;rw[M k k1];exact N.sep i k b au i2 k2 U
   rw[Y];simp[own]
  rw[Y]at U;simp[own]at U
 simp only[get];by_cases O:j=k
 ·subst O;rw[if_pos rfl];have:=ai j;rw[av]at this;generalize a.tmps.getD j undef=v at this;cases this;exact .row none 0 0 _ (by simp) λ_=>Y
 rw[if_neg O];exact(ai k).mono G
theorem Sub.IY(id k e size:Nat){ty:TypeId}{cs:List T}{z:Nat}(N:s.l[id]?=some (.var ty cs))(af:cs[k]?=some (.bq z)):Sub s ⟨s.t,(s.l++[AO.row e size []]).set id (.var ty (cs.set k (.row s.l.length)))⟩:=by
 intro w0 I0 n a w aj;obtain⟨Z,I,m,ab,aa,ad⟩:=aj;obtain⟨m',Y,ah,ai⟩:=ab.O7 e size;have ae:=(db.1 N).1;have F:(s.l++[AO.row e size []])[id]?=some (.var ty cs):=by rw[e1 ae];exact N
 have B:Le I m' (s.l++[AO.row e size []]) I m' ((s.l++[AO.row e size []]).set id (.var ty (cs.set k (.row s.l.length)))):=Le.setKind F rfl rfl (λe size els h=>by rcases h with h|h<;>cases h);obtain⟨b,vs,O,ak,al,an,M,U⟩:=Y.obj id _ F;refine⟨Z,I,m',Y.lD F (by simp) (b:=b) (by rw[O];rfl) U rfl rfl B rfl rfl rfl (ec _) (ec _) (λ_ _=>rfl) ⟨b,vs,O,ak,al,by simpa using an,λi x t G ht=>?_,U⟩,aa,λj=>((ad j).mono ah).mono B⟩;rw[e0]at ht;split at ht
 ·rename_i ag;subst ag;split at ht
  ·injection ht with ht;subst ht;have:=M k x _ G af;refine⟨?_,this.2⟩;have h0:=this.1;cases h0;exact .row none 0 0 _ (by simp) λ_=>ai
  cases ht
 exact⟨(M i x t G ht).1.mono B,(M i x t G ht).2⟩
end
end Go.ak
namespace Go.ak
open Go Go.RowKit
class cL(α:Type) where
 enc:α->D
 dec:D->α
 size:Nat
 KQ:∀a,dec (enc a)=a
 len:∀a,(enc a).cells.length=size
 AJ:∀a,∀x∈(enc a).cells,x.one=true
open cL
instance:cL Int:=⟨λn=>.int .i64 n,λd=>match d with |.int _ n=>n|_=>0,1,λ_=>rfl,λ_=>rfl,by simp[D.cells,D.one]⟩
instance:cL Bool:=⟨λn=>.bool n,λd=>match d with |.bool n=>n|_=>false,1,λ_=>rfl,λ_=>rfl,by simp[D.cells,D.one]⟩
instance:cL ByteArray:=⟨λn=>.str n,λd=>match d with |.str n=>n|_=>⟨#[]⟩,1,λ_=>rfl,λ_=>rfl,by simp[D.cells,D.one]⟩
def FV{α:Type}[cL α](xs:List α):(xs.map (enc:α->D)).map dec=xs:=by
 induction xs with
 |nil=>rfl
 |cons x xs j=>simp only[e7,j,KQ]
def Yd{α:Type}[cL α](xs:List α):xs.map ((dec:D->α) ∘ (enc:α->D))=xs:=by rw[<-k7,FV]
instance {α:Type} [cL α]:cL (List α):=⟨λxs=>.slice (size α) (xs.map enc),λd=>match d with |.slice _ els=>els.map dec|_=>[],1,FV,λ_=>rfl,by simp[D.cells,D.one]⟩
structure Fn where
 f:FuncId
instance:cL Fn:=⟨λn=>.fn n.f,λd=>match d with |.fn f=>⟨f⟩|_=>⟨0⟩,1,λ_=>rfl,λ_=>rfl,by simp[D.cells,D.one]⟩
theorem tG(n:Int):enc n=.int .i64 n:=rfl
theorem V2(b:Bool):enc b=.bool b:=rfl
theorem V6(b:ByteArray):enc b=.str b:=rfl
theorem V4(b:Fn):enc b=.fn b.f:=rfl
theorem wa{α:Type}[cL α](xs:List α):enc xs=.slice (size α) (xs.map enc):=rfl
theorem VI(k:IntKind)(n:Int):dec (.int k n)=n:=rfl
theorem VF(b:Bool):dec (.bool b)=b:=rfl
theorem VL(b:ByteArray):dec (.str b)=b:=rfl
theorem VH(f:FuncId):dec (.fn f)=Fn.mk f:=rfl
theorem VK{α:Type}[cL α](s:Nat)(els:List D):(dec (.slice s els):List α)=els.map dec:=rfl
theorem abS:size Int=1:=rfl
theorem abV:size ByteArray=1:=rfl
theorem aaL:List.range 1=[0]:=rfl
theorem aaM:List.range 2=[0,1]:=rfl
theorem aaN:List.range 3=[0,1,2]:=rfl
theorem aaO:List.range 4=[0,1,2,3]:=rfl
variable [bm][bS]
section
variable {P:Program}{w0:World}{I0:aD}{n:Nat}{Q:Exit->St->Prop}{s:St}{x y z:Code}
def cR(j:List Nat)(t:Tm):Tm:=j.map λk=>(k,get t k)
def O5(t:Tm)(k:Nat):∀(B:List Nat),get (cR B t) k=.undef\/get (cR B t) k=get t k
 | []=>.inl rfl
 |j::B=>by
  simp only[cR,e7,get];by_cases h:j=k
  ·rw[if_pos h,h];exact .inr rfl
  rw[if_neg h];exact O5 t k B
def Sub.cR(k:List Nat):Sub s ⟨cR k s.t,s.l⟩:=by
 intro w0 I0 n a w N;obtain⟨B,I,m,G,F,M⟩:=N;refine⟨B,I,m,G,F,λj=>?_⟩;rcases O5 s.t j k with h|h
 ·rw[h];exact .undef _
 rw[h];exact M j
def aX.Vo{s s':St}(h:s=s'):aX P w0 I0 n x s Q=aX P w0 I0 n x s' Q:=by rw[h]
end
end Go.ak
namespace Go.ak
open Go Go.RowKit cL
variable [bm][bS]
def aa{α β:Type}(o:Option α)(f:α->Option β):Option β:=match o with|some x=>f x|none=>none
def bQ{β:Type}(p:Prop)[Decidable p](o:Option β):Option β:=if p then o else none
def ab{β:Type}(c:Bool)(a b:Option β):Option β:=match c with|true=>a|false=>b
def ig(n:Int):Prop:= -9223372036854775808<=n/\n<=9223372036854775807
instance (n:Int):Decidable (ig n):=inferInstanceAs (Decidable (_/\_))
def an{α:Type}(l:List α)(i:Int):Option α:=if 0<=i then l[i.toNat]? else none
def rH{β:Type}(c:Bool)(a b:Option β):ab c a b=if c=true then a else b:=by cases c<;>rfl
theorem aY{α β:Type}{o:Option α}{f:α->Option β}{x:α}(h:o=some x):aa o f=f x:=by subst h;rfl
def tT{β:Type}{p:Prop}[Decidable p]{o:Option β}(h:p):bQ p o=o:=if_pos h
theorem af{α β:Type}(x:α)(f:α->Option β):aa (some x) f=f x:=rfl
theorem V0(d:D)(l:List D):eF (d::l) 0=d:=rfl
def kS{σ ρ:Type}(step:σ->Option (σ⊕ρ)):Nat->σ->Option ρ
 |0,_=>none
 |n+1,z=>match step z with
  |some (.inl z')=>kS step n z'
  |some (.inr r)=>some r
  |none=>none
def Fh{σ ρ:Type}{step:σ->Option (σ⊕ρ)}{r:ρ}:∀{n m:Nat}{z:σ},n<=m->kS step n z=some r->kS step m z=some r
 |0,_,_,_,h=>by cases h
 |n+1,0,_,hm,_=>by omega
 |n+1,m+1,z,hm,h=>by
  simp only[kS]at h⊢;split at h<;>try (first|exact h|cases h)
  exact Fh (by omega) h
open Classical in
noncomputable def aA{σ ρ:Type}(step:σ->Option (σ⊕ρ))(z:σ):Option ρ:=if h:∃n r,kS step n z=some r then some (Classical.choose (nb h))else none
theorem FK{σ ρ:Type}{step:σ->Option (σ⊕ρ)}{z:σ}{n:Nat}{r:ρ}(h:kS step n z=some r):aA step z=some r:=by
 have j:∃n r,kS step n z=some r:=⟨n,r,h⟩;unfold aA;rw[adK j];have B:=nb (nb j);have k:=Fh (Nat.le_max_left n (Classical.choose j)) h;have F:=Fh (Nat.le_max_right n (Classical.choose j)) B;rw[F]at k;exact k
def Ap{σ ρ:Type}{step:σ->Option (σ⊕ρ)}{z:σ}{r:ρ}(h:aA step z=some r):∃n,kS step n z=some r:=by
 unfold aA at h;split at h
 ·rename_i k;have j:=nb (nb k);cases h;exact⟨_,j⟩
 cases h
def M1{σ ρ:Type}(step:σ->Option (σ⊕ρ))(z:σ):aA step z=match step z with|some (.inl z')=>aA step z'|some (.inr r)=>some r|none=>none:=by
 cases k:step z with
 |none=>
  cases hl:aA step z with
  |none=>rfl
  |some r=>
   obtain⟨n,j⟩:=Ap hl;cases n with
   |zero=>cases j
   |succ n=>simp only[kS,k]at j;cases j
 |some x=>
  cases x with
  |inr r=>exact FK (n:=1) (by simp only[kS,k])
  |inl z'=>
   simp only;cases hl:aA step z' with
   |some r=>
    obtain⟨n,j⟩:=Ap hl;exact FK (n:=n+1) (by simp only[kS,k];exact j)
   |none=>
    cases B:aA step z with
    |none=>rfl
    |some r=>
     obtain⟨n,j⟩:=Ap B;cases n with
     |zero=>cases j
     |succ n=>
      simp only[kS,k]at j;rw[FK j]at hl;cases hl
def FJ{σ ρ:Type}{step:σ->Option (σ⊕ρ)}{z z':σ}(h:step z=some (.inl z')):aA step z=aA step z':=by rw[M1,h]
def uk{σ ρ:Type}{step:σ->Option (σ⊕ρ)}{z:σ}{r:ρ}(h:step z=some (.inr r)):aA step z=some r:=by rw[M1,h]
section
variable {P:Program}{V:Env}{w0:World}{I0:aD}{n:Nat}{Q:Exit->St->Prop}{s s':St}{x y:Code}
theorem iE{K:St->Prop}(h:s=s')(k:K s'):K s:=h▸k
def aX.abB(j:St->Prop)(h:∀J:St->Prop,(∀s',j s'->J s')->aX P w0 I0 n x s (qL J Q))(k:∀s',j s'->aX P w0 I0 n y s' Q):aX P w0 I0 n (x.seq y) s Q:=
 aX.seq (aX.mono (h j λ_ h=>h) λe s' B=>by cases e<;>first|exact k s' B|exact B)
def aX.Px(h:∀K:St->Prop,(∀s',aX P w0 I0 n y s' Q->K s')->aX P w0 I0 n x s (qL K Q)):aX P w0 I0 n (x.seq y) s Q:=
 aX.seq (h _ λ_ h=>h)
def aX.HD(G:c6 P V)(md:Way)(j:List Nat){id:Nat}{ops:List Oper}(h:∀K:St->Prop,(∀s',Q .normal s'->K s')->eg V n ops md ops s (λs'=>K ⟨ak.cR j s'.t,s'.l⟩)):aX P w0 I0 n (Code.region id ops.toArray false) s Q:=λa w M=>by
 refine F1 (Ep (Q:=λe k w'=>∃s',Q e s'/\Rel w0 I0 n s' k w') (K:=λs'=>Q .normal ⟨ak.cR j s'.t,s'.l⟩) G (λs a w B F=>?_) ops s a w M (h _ λ_ h=>h));exact⟨_,B,Sub.cR j _ _ _ _ _ F⟩
def aX.rS(k:c6 P V)(md:Way)(j:List Nat){id:Nat}{ops:List Oper}(h:∀K:St->Prop,(∀s',aX P w0 I0 n y s' Q->K s')->eg V n ops md ops s (λs'=>K ⟨ak.cR j s'.t,s'.l⟩)):aX P w0 I0 n ((Code.region id ops.toArray false).seq y) s Q:=
 aX.Px λ_ F=>aX.HD k md j λ_ G=>h _ λs' B=>G s' (F s' B)
def tC(ops:List Oper)(j:List Nat):List Oper->List Nat->Bool
 | [],W=>j.all λx=>W.contains x
 |o::r,W=>((mO ops o).all λx=>W.contains x)&&tC ops j r (match o.dst with|some d=>d::W|none=>W)
theorem Pf{ops:List Oper}{F:List Nat}{K:St->Prop}:∀{r:List Oper}{W:List Nat}{s1 s2:St},tC ops F r W=true->s1.l=s2.l->(∀x∈W,get s1.t x=get s2.t x) ->
  eu P n ops r s1 (λs'=>K ⟨ak.cR F s'.t,s'.l⟩)->eu P n ops r s2 (λs'=>K ⟨ak.cR F s'.t,s'.l⟩)
 | [],W,s1,s2,B,hl,hw,h=>by
  simp only[tC,ek,List.contains_iff_mem]at B;simp only[eu]at h⊢;have:ak.cR F s1.t=ak.cR F s2.t:=hN λx j=>by rw[hw x (B x j)]
  rw[<-this,<-hl];exact h
 |o::r,W,s1,s2,B,hl,hw,h=>by
  simp only[tC,dk,ek,List.contains_iff_mem]at B;have h:pR P n ops o s1 _:=h;show pR P n ops o s2 _;have U:pR P n ops o s2 λu l'=>eu P n ops r ⟨bH s1.t o.dst u,l'⟩ λs'=>K ⟨ak.cR F s'.t,s'.l⟩:=λst aa ab w0 I0 a w Q M Z Y=>
   h st (aa.trans hl.symm) (λx j=>(ab x j).trans (hw x (B.1 x j)).symm) w0 I0 a w Q M Z λu l' N w' k hv=>Y u l' N w' k λe=>by rw[<-hl];exact hv e
  refine U.mono λu l' O=>Pf (s1:=⟨bH s1.t o.dst u,l'⟩) (s2:=⟨bH s2.t o.dst u,l'⟩) B.2 rfl (λx j=>?_) O;cases G:o.dst with
  |none=>rw[G]at j;simp only[bH];exact hw x j
  |some d=>
   rw[G]at j;simp only[bH,get];by_cases e:d=x
   ·rw[if_pos e,if_pos e]
   rw[if_neg e,if_neg e];rcases fa.1 j with h3|h3
   ·exact absurd h3.symm e
   exact hw x h3
def aba(B:List Nat)(t:Tm){k:Nat}(h:k∈B):get (ak.cR B t) k=get t k:=by
 induction B with
 |nil=>cases h
 |cons j B F=>
  simp only[ak.cR,e7,get];by_cases e:j=k
  ·rw[if_pos e,e]
  rw[if_neg e];rcases fa.1 h with h1|h1
  ·exact absurd h1.symm e
  exact F h1
def ed(P:Program)(n:Nat)(ops:List Oper)(k:Nat)(j:List Nat)(s:St)(K:St->Prop):Prop:=eu P n ops (ops.drop k) s λs'=>K ⟨ak.cR j s'.t,s'.l⟩
theorem ed.cut{k:Nat}{ops:List Oper}{j:List Nat}{K:St->Prop}(L:List Nat)(B:tC ops j (ops.drop k) L=true)(h:ed P n ops k j ⟨ak.cR L s.t,s.l⟩ K):ed P n ops k j s K:=
 Pf (s1:=⟨ak.cR L s.t,s.l⟩) B rfl (λx F=>aba L s.t F) h
theorem ed.seq(G:c6 P V)(md:Way){k:Nat}(j:Nat)(L:List Nat){ops:List Oper}{B:List Nat}{K:St->Prop}(N:k<=j)(M:tC ops B (ops.drop j) L=true)(h:∀F:St->Prop,(∀s',ed P n ops j B s' K->F s')->eg V n ops md ((ops.take j).drop k) s (λs'=>F ⟨ak.cR L s'.t,s'.l⟩)):ed P n ops k B s K:=by
 unfold ed;have e:ops.drop k=(ops.take j).drop k++ops.drop j:=by
  conv=>lhs;rw[<-mx j ops]
  rw[za];congr 1;by_cases hl:j<=ops.length
  ·rw[fb,qd hl,Nat.sub_eq_zero_of_le N];rfl
  rw[mb (show ops.length<=j by omega)];simp
 rw[e];exact eu.seq G (h (λs'=>ed P n ops j B s' K) (λ_ h=>h) |> zK (λs' O=>ed.cut (s:=s') L M O) _ _)
theorem ed.fin(B:c6 P V)(md:Way){k:Nat}{ops:List Oper}{j:List Nat}{K:St->Prop}(h:eg V n ops md (ops.drop k) s (λs'=>K ⟨ak.cR j s'.t,s'.l⟩)):ed P n ops k j s K:=eu.of B h
theorem ed.call(G:c6 P V){k:Nat}{ops:List Oper}{F:List Nat}{K:St->Prop}{o:Oper}(g:FuncId)(ts:List T){pc:PC}(B:ops[k]?=some o)(O:dL ops s.t o.guard=some pc)(Y:holds pc)(N:eE n o.dst=true)(M:eD V.E (cg s.t) o=some (g,ts))(h:∀j:T->List AO->Prop,(∀u l',ed P n ops (k+1) F ⟨bH s.t o.dst u,l'⟩ K->j u l')->jV P g ts s.l j):ed P n ops k F s K:=by
 unfold ed;have U:=(db.1 B).1;rw[hS U,(db.1 B).2];exact eu.call G O Y N M (h _ λ_ _ h=>h)
def aX.aa3(G:c6 P V)(j:List Nat){id:Nat}{ops:List Oper}(h:∀K:St->Prop,(∀s',Q .normal s'->K s')->ed P n ops 0 j s K):aX P w0 I0 n (Code.region id ops.toArray false) s Q:=λa w M=>by
 refine F1 (eu.wp (Q:=λe k w'=>∃s',Q e s'/\Rel w0 I0 n s' k w') (K:=λs'=>Q .normal ⟨ak.cR j s'.t,s'.l⟩) G (λs a w B F=>?_) ops s a w M (h _ λ_ h=>h));exact⟨_,B,Sub.cR j _ _ _ _ _ F⟩
def aX.rC(k:c6 P V)(j:List Nat){id:Nat}{ops:List Oper}(h:∀K:St->Prop,(∀s',aX P w0 I0 n y s' Q->K s')->ed P n ops 0 j s K):aX P w0 I0 n ((Code.region id ops.toArray false).seq y) s Q:=
 aX.Px λ_ F=>aX.aa3 k j λ_ G=>h _ λs' B=>G s' (F s' B)
def gA.Zb{f:FuncId}{fn:Func}{c:Code}{ds:List D}{r:D}(F:c6 P V)(M:P.funcs[f]?=some fn)(G:fn.body=some c)(N:ds.length<=fn.ntmps)(h:∀(R:bS),R.r=none->∀w0 I0(Q:Exit->St->Prop),(∀e s,(e=.ret\/e=.normal)->CH V s fn.results.toList r->Q e s)->aX P w0 I0 fn.ntmps c ⟨kq 0 ds,[]⟩ Q):gA P f ds r:=
 gA.of F M G N λR B w0 I0=>h R B w0 I0 _ λ_ _ j k=>⟨j,k⟩
end
end Go.ak
namespace Go.Sy
open Go Go.ak
inductive Ty where
 |int (k:IntKind)
 |bool
 |str
 |st (i:Nat)
 |list (t:Ty)
 |map (k v:Ty)
 |fn (f:Nat)
 |aH (f:Nat) (t:Ty)
 |box (t:Ty)
 |self (f:Nat)
 |aL (a b:Ty)
 |unit
 deriving DecidableEq,Inhabited
class bT where
 cp:Nat->Type
def Ty.den[bT]:Ty->Type
 |.int _=>Int
 |.bool=>Bool
 |.str=>ByteArray
 |.st i=>bT.cp i
 |.list t=>List t.den
 |.map k v=>List (k.den×v.den)
 |.fn _=>Unit
 |.aH _ t=>t.den
 |.box t=>t.den
 |.self _=>Unit
 |.aL a b=>a.den×b.den
 |.unit=>Unit
def aP:List Ty->Ty
 | []=>.unit
 | [t]=>t
 |t::u::ts=>.aL t (aP (u::ts))
abbrev V[bT]:=(t:Ty)×t.den
abbrev aU[bT]:=List (Nat×V)
def lk[bT]:aU->Nat->Option V
 | [],_=>none
 | (j,v)::r,i=>bif Nat.beq j i then some v else lk r i
def dc[bT](t:Ty)(v:V):Option t.den:=if h:v.1=t then some (h▸v.2)else none
class aI extends bT where
 bW:Nat->List Ty
 sz:Nat->Nat
 un:∀i,cp i->(aP (bW i)).den
 eH:∀i,(aP (bW i)).den->cp i
 cells:∀i,cp i->List D
 pI:∀i x,un i (eH i x)=x
 Ga:∀i x,eH i (un i x)=x
 ez:Nat->Option (List Int)
variable [aI]
def Ty.size:Ty->Nat
 |.st i=>aI.sz i
 |_=>1
def Ty.eZ:(t:Ty)->t.den->D×List D
 |.int k,n=>(.int k n,[.int k n])
 |.bool,b=>(.bool b,[.bool b])
 |.str,s=>(.str s,[.str s])
 |.st i,x=>(.agg (aI.cells i x),[.agg (aI.cells i x)])
 |.list t,xs=>(.slice t.size (List.map (λx=>(t.eZ x).1) xs),[.slice t.size (List.map (λx=>(t.eZ x).1) xs)])
 |.map k v,m=>(.map (List.map (λp=>(k.eZ p.1).1) m) (List.map (λp=>(v.eZ p.2).1) m),[.map (List.map (λp=>(k.eZ p.1).1) m) (List.map (λp=>(v.eZ p.2).1) m)])
 |.fn f,_=>(.fn f,[.fn f])
 |.aH f t,x=>(.aH f (t.eZ x).2,[.aH f (t.eZ x).2])
 |.box t,x=>(.box (t.eZ x).1,[.box (t.eZ x).1])
 |.self f,_=>(.self f,[.self f])
 |.aL a b,x=>(.aL ((a.eZ x.1).1::(b.eZ x.2).2),(a.eZ x.1).1::(b.eZ x.2).2)
 |.unit,_=>(.aL [],[])
def Ty.enc(t:Ty)(x:t.den):D:=(t.eZ x).1
inductive U1 where
 |not
 |neg (k:IntKind)
 |len
 |MR
 |MQ
 |ig
 |conv (k:IntKind)
 |fit (b:Nat)
 |fst
 |snd
 |unbox
 |Iw
 deriving DecidableEq
inductive U2 where
 |add (k:IntKind)
 |sub (k:IntKind)
 |mul (k:IntKind)
 |quo (k:IntKind)
 |rem (k:IntKind)
 |lt
 |le
 |aC
 |Eh
 |Ei
 |Ej (i:Nat)
 |and
 |LG
 |cat
 |cons
 |app
 |take
 |drop
 |byte
 |max
 |min
 |oY
 |As
 |rep
 |vL (k:IntKind)
 |shr (k:IntKind)
 deriving DecidableEq
inductive U3 where
 |set
 |oZ
 |kf
 deriving DecidableEq
inductive X where
 |var (i:Nat)
 |hole (p:Nat)
 |int (k:IntKind) (n:Int)
 |bool (b:Bool)
 |str (s:List UInt8)
 |nil (t:Ty)
 |lf (k v:Ty)
 |unit
 |fn (f:Nat)
 |pair (a b:X)
 |aH (f:Nat) (x:X)
 |box (x:X)
 |self (f:Nat)
 |proj (i j:Nat) (x:X)
 |mk (i:Nat) (x:X)
 |u1 (o:U1) (x:X)
 |u2 (o:U2) (x y:X)
 |u3 (o:U3) (x y z:X)
 deriving Inhabited
def nm(k:IntKind)(n:Int):Int:=match k with
 |.i64=>n
 |k=>k.wrap n
abbrev aj(a b:Int):Bool:=decide (a<b)
abbrev leI(a b:Int):Bool:=decide (a<=b)
abbrev aC(a b:Int):Bool:=decide (a=b)
abbrev ai(a:Int):Bool:=decide (ak.ig a)
abbrev fk(a:Int):Int:=0-a
def gz:U1->V->Option V
 |.not,⟨.bool,b⟩=>some ⟨.bool,!b⟩
 |.neg k,⟨.int _,n⟩=>some ⟨.int k,nm k (fk n)⟩
 |.len,⟨.list _,xs⟩=>some ⟨.int .i64,(List.length xs:Int)⟩
 |.MR,⟨.str,s⟩=>some ⟨.int .i64,(ByteArray.size s:Int)⟩
 |.MQ,⟨.map _ _,m⟩=>some ⟨.int .i64,(List.length m:Int)⟩
 |.ig,⟨.int _,n⟩=>some ⟨.bool,ai n⟩
 |.conv k,⟨.int _,n⟩=>some ⟨.int k,k.wrap n⟩
 |.fit b,⟨.list _,xs⟩=>some ⟨.bool,decide (List.length xs*b<=140737488355328/\List.length xs<=9223372036854775807)⟩
 |.fst,⟨.aL a _,x⟩=>some ⟨a,x.1⟩
 |.snd,⟨.aL _ b,x⟩=>some ⟨b,x.2⟩
 |.unbox,⟨.box t,x⟩=>some ⟨t,x⟩
 |.Iw,⟨.aH _ t,x⟩=>some ⟨t,x⟩
 |_,_=>none
def UI(s:ByteArray)(n:Int):Int:=UH s n.toNat
def dU{α:Type}(m:List (Int×α))(k:Int):Bool:=m.any λp=>p.1 == k
def ar{α:Type}(m:List (Int×α))(k:Int)(d:α):α:=((m.find? λp=>p.1 == k).map (·.2)).getD d
def aM{α:Type}:List (Int×α)->Int->α->List (Int×α)
 | [],k,v=>[(k,v)]
 |p::m,k,v=>if p.1=k then(k,v)::m else p::aM m k v
def eG{α:Type}:List (Int×α)->Int->List (Int×α)
 | [],_=>[]
 |p::m,k=>if p.1=k then m else p::eG m k
def lP(i:Nat)(a b:bT.cp i):Bool:=c9 (aI.cells i a) (aI.cells i b)
def qu{α:Type}(i:Nat)(m:List (bT.cp i×α))(k:bT.cp i):Bool:=m.any λp=>lP i k p.1
def mI{α:Type}(i:Nat)(m:List (bT.cp i×α))(k:bT.cp i)(d:α):α:=((m.find? λp=>lP i k p.1).map (·.2)).getD d
def k9{α:Type}(i:Nat):List (bT.cp i×α)->bT.cp i->α->List (bT.cp i×α)
 | [],k,v=>[(k,v)]
 |p::m,k,v=>if lP i k p.1=true then(p.1,v)::m else p::k9 i m k v
def cG:U2->V->V->Option V
 |.add k,⟨.int _,a⟩,⟨.int _,b⟩=>some ⟨.int k,nm k (Int.add a b)⟩
 |.sub k,⟨.int _,a⟩,⟨.int _,b⟩=>some ⟨.int k,nm k (Int.sub a b)⟩
 |.mul k,⟨.int _,a⟩,⟨.int _,b⟩=>some ⟨.int k,nm k (Int.mul a b)⟩
 |.quo k,⟨.int _,a⟩,⟨.int _,b⟩=>some ⟨.int k,Int.tdiv a b⟩
 |.rem k,⟨.int _,a⟩,⟨.int _,b⟩=>some ⟨.int k,Int.tmod a b⟩
 |.lt,⟨.int _,a⟩,⟨.int _,b⟩=>some ⟨.bool,aj a b⟩
 |.le,⟨.int _,a⟩,⟨.int _,b⟩=>some ⟨.bool,leI a b⟩
 |.aC,⟨.int _,a⟩,⟨.int _,b⟩=>some ⟨.bool,aC a b⟩
 |.Eh,⟨.bool,a⟩,⟨.bool,b⟩=>some ⟨.bool,BEq.beq (α:=Bool) a b⟩
 |.Ei,⟨.str,a⟩,⟨.str,b⟩=>some ⟨.bool,BEq.beq (α:=ByteArray) a b⟩
 |.Ej i,u,v=>match dc (.st i) u,dc (.st i) v with
  |some a,some b=>some ⟨.bool,c9 (aI.cells i a) (aI.cells i b)⟩
  |_,_=>none
 |.and,⟨.bool,a⟩,⟨.bool,b⟩=>some ⟨.bool,and a b⟩
 |.LG,⟨.str,a⟩,⟨.str,b⟩=>some ⟨.bool,decide ((ByteArray.size a:Int)+(ByteArray.size b:Int)<=9223372036854775807)⟩
 |.cons,u,⟨.list t,xs⟩=>match dc t u with
  |some x=>some ⟨.list t,List.cons x xs⟩
  |none=>none
 |.cat,⟨.str,a⟩,⟨.str,b⟩=>some ⟨.str,ByteArray.append a b⟩
 |.app,⟨.list t,xs⟩,v=>match dc (.list t) v with
  |some ys=>some ⟨.list t,List.append xs ys⟩
  |none=>none
 |.take,⟨.list t,xs⟩,⟨.int _,n⟩=>some ⟨.list t,List.take (Int.toNat n) xs⟩
 |.drop,⟨.list t,xs⟩,⟨.int _,n⟩=>some ⟨.list t,List.drop (Int.toNat n) xs⟩
 |.byte,⟨.str,s⟩,⟨.int _,n⟩=>some ⟨.int .u8,UI s n⟩
 |.max,⟨.int k,a⟩,⟨.int _,b⟩=>some ⟨.int k,Max.max (α:=Int) a b⟩
 |.min,⟨.int k,a⟩,⟨.int _,b⟩=>some ⟨.int k,Min.min (α:=Int) a b⟩
 |.oY,⟨.map (.int _) _,m⟩,⟨.int _,n⟩=>some ⟨.bool,dU m n⟩
 |.As,⟨.map (.int k) v,m⟩,⟨.int _,n⟩=>some ⟨.map (.int k) v,eG m n⟩
 |.oY,⟨.map (.st i) _,m⟩,u=>match dc (.st i) u with
  |some k=>some ⟨.bool,qu i m k⟩
  |none=>none
 |.rep,⟨.int _,n⟩,⟨t,x⟩=>some ⟨.list t,List.replicate (Int.toNat n) x⟩
 |.vL k,⟨.int _,a⟩,⟨.int _,b⟩=>some ⟨.int k,vL k a b⟩
 |.shr k,⟨.int _,a⟩,⟨.int _,b⟩=>some ⟨.int k,vr k a b⟩
 |_,_,_=>none
def ov:U3->V->V->V->Option V
 |.set,⟨.list t,xs⟩,⟨.int _,n⟩,v=>match dc t v with
  |some y=>some ⟨.list t,List.set xs (Int.toNat n) y⟩
  |none=>none
 |.oZ,⟨.map (.int k) t,m⟩,⟨.int _,n⟩,v=>match dc t v with
  |some y=>some ⟨.map (.int k) t,aM m n y⟩
  |none=>none
 |.kf,⟨.map (.int _) t,m⟩,⟨.int _,n⟩,v=>match dc t v with
  |some y=>some ⟨t,ar m n y⟩
  |none=>none
 |.oZ,⟨.map (.st i) t,m⟩,u,v=>match dc (.st i) u,dc t v with
  |some k,some y=>some ⟨.map (.st i) t,k9 i m k y⟩
  |_,_=>none
 |.kf,⟨.map (.st i) t,m⟩,u,v=>match dc (.st i) u,dc t v with
  |some k,some y=>some ⟨t,mI i m k y⟩
  |_,_=>none
 |_,_,_,_=>none
def cK:(ts:List Ty)->(aP ts).den->Nat->Option V
 | [],_,_=>none
 | [t],x,0=>some ⟨t,x⟩
 | [_],_,_+1=>none
 |t::_::_,x,0=>some ⟨t,x.1⟩
 |_::u::ts,x,j+1=>cK (u::ts) x.2 j
def X.den(ρ:aU):X->Option V
 |.var i=>lk ρ i
 |.hole _=>none
 |.int k n=>some ⟨.int k,n⟩
 |.bool b=>some ⟨.bool,b⟩
 |.str s=>some ⟨.str,⟨⟨s⟩⟩⟩
 |.nil t=>some ⟨.list t,([]:List t.den)⟩
 |.lf k v=>some ⟨.map k v,([]:List (k.den×v.den))⟩
 |.unit=>some ⟨.unit,()⟩
 |.fn f=>some ⟨.fn f,()⟩
 |.pair a b=>match a.den ρ,b.den ρ with
  |some u,some v=>some ⟨.aL u.1 v.1,(u.2,v.2)⟩
  |_,_=>none
 |.aH f x=>match x.den ρ with
  |some v=>some ⟨.aH f v.1,v.2⟩
  |none=>none
 |.box x=>match x.den ρ with
  |some v=>some ⟨.box v.1,v.2⟩
  |none=>none
 |.self f=>some ⟨.self f,()⟩
 |.proj i j x=>match x.den ρ with
  |some v=>match dc (.st i) v with
   |some a=>cK (aI.bW i) (aI.un i a) j
   |none=>none
  |none=>none
 |.mk i x=>match x.den ρ with
  |some v=>match dc (aP (aI.bW i)) v with
   |some a=>some ⟨.st i,aI.eH i a⟩
   |none=>none
  |none=>none
 |.u1 o x=>match x.den ρ with
  |some u=>gz o u
  |none=>none
 |.u2 o x y=>match x.den ρ,y.den ρ with
  |some u,some v=>cG o u v
  |_,_=>none
 |.u3 o x y z=>match x.den ρ,y.den ρ,z.den ρ with
  |some u,some v,some w=>ov o u v w
  |_,_,_=>none
end Go.Sy
namespace Go.Sy
open Go Go.ak
def X.beq:X->X->Bool
 |.var i,.var j=>Nat.beq i j
 |.hole i,.hole j=>Nat.beq i j
 |.int k n,.int F O=>decide (k=F)&&decide (n=O)
 |.bool b,.bool c=>b == c
 |.str s,.str t=>decide (s=t)
 |.nil t,.nil u=>decide (t=u)
 |.lf k v,.lf F U=>decide (k=F)&&decide (v=U)
 |.unit,.unit=>true
 |.fn f,.fn g=>Nat.beq f g
 |.pair a b,.pair c d=>X.beq a c&&X.beq b d
 |.aH f x,.aH g y=>Nat.beq f g&&X.beq x y
 |.box x,.box y=>X.beq x y
 |.self f,.self g=>Nat.beq f g
 |.proj i j x,.proj B N y=>Nat.beq i B&&Nat.beq j N&&X.beq x y
 |.mk i x,.mk B y=>Nat.beq i B&&X.beq x y
 |.u1 o x,.u1 o' y=>decide (o=o')&&X.beq x y
 |.u2 o x y,.u2 o' G M=>decide (o=o')&&X.beq x G&&X.beq y M
 |.u3 o x y z,.u3 o' G M z'=>decide (o=o')&&X.beq x G&&X.beq y M&&X.beq z z'
 |_,_=>false
inductive TX where
 |undef
 |gone
 |d (t:Ty) (x:X)
 |bq (s:Nat)
 |ej
 |ptr (id off:Nat)
 |bu (t:Ty) (e:X) (off:Nat)
 |row (id:Nat)
 |bx (id:Nat) (k:X) (off:Nat)
 |map (id:Nat)
 |bj (id:Nat)
 |bI (id:Nat) (t:Ty) (x:X)
 |agg (cs:List TX)
 |aL (ts:List TX)
 |aH (f:Nat) (ts:List TX)
 |cC (id n:Nat)
 |sub (id:Nat) (lo hi:X)
 deriving Inhabited
inductive Ex where
 |normal
 |ret
 |exit (id:Nat)
 |fo (e:Ex)
 deriving DecidableEq
inductive Ls where
 |ready
 |busy
 |done (e:Ex)
 deriving DecidableEq
inductive AX where
 |dead
 |var (ty:TypeId) (cs:List TX)
 |row (fr:Bool) (e:TypeId) (t:Ty) (x:X)
 |map (fr:Bool) (k v:Ty) (x:X)
 |bw (e:TypeId) (kk:IntKind) (t:Ty) (x:X)
 |fA (e:TypeId) (kk:IntKind) (t:Ty) (x k:X)
 |dx (j base:Nat) (refs:List Nat)
 |lp (j base:Nat) (refs:List Nat) (st:Ls)
 |eI
 deriving Inhabited
structure Sk where
 n:Nat
 t:List (Nat×TX)
 l:List AX
 deriving Inhabited
def ba:List (Nat×TX)->Nat->TX
 | [],_=>.undef
 | (i,t)::r,k=>bif Nat.beq i k then t else ba r k
structure lI where
 f:FuncId
 args:List Ty
 res:List Ty
inductive NS where
 |dI (t:Ty)
 |nil (size:Nat)
def cM:List NS->List Ty
 | []=>[]
 |.dI t::r=>t::cM r
 |.nil _::r=>cM r
structure pQ where
 f:FuncId
 args:List Ty
 sh:List NS
 k:Nat
structure lJ where
 f:FuncId
 t:Ty
 args:List Ty
 k:Nat
structure Cx where
 E:cn
 ty:TypeId->Option Ty
 eqs:TypeId->Option (List Lf)
 nt:Nat
 sigs:List lI
 lU:List (Nat×Func)
 dep:Nat
 lu:Bool
 EV:List Nat
 turns:List lJ
 wX:List pQ:=[]
inductive Ins where
 |bQ (x:X)
 |get (xs k:X)
 |call (c:Nat) (x:X)
inductive yK where
 |none
 |new (a:AX)
 |aQ (l:List AX)
structure dr where
 ins:List Ins
 t:TX
 bE:yK
variable [aI]
def fu:List X->X
 | []=>.unit
 | [x]=>x
 |x::y::r=>.pair x (fu (y::r))
def tQ:X->X
 |.pair a _=>a
 |x=>.u1 .fst x
def vu:X->X
 |.pair _ b=>b
 |x=>.u1 .snd x
def pf:Nat->Nat->X->X
 |0,_,x=>x
 |1,_,x=>x
 |_+2,0,x=>tQ x
 |n+2,j+1,x=>pf (n+1) j (vu x)
def vg(i j:Nat)(x:X):X:=match x with
 |.mk k y=>bif Nat.beq i k then pf (aI.bW i).length j y else .proj i j x
 |x=>.proj i j x
def qX(i:Nat)(x:X):Nat->List X->Bool
 |_,[]=>true
 |j,.proj k B y::r=>Nat.beq i k&&Nat.beq j B&&X.beq x y&&qX i x (j+1) r
 |_,_=>false
def p9(i:Nat)(xs:List X):X:=match xs with
 |.proj j 0 x::r=>bif Nat.beq i j&&qX i x 1 r&&Nat.beq (r.length+1) (aI.bW i).length then x else .mk i (fu xs)
 |_=>.mk i (fu xs)
def rk(g:Ty->X->Option (List (Ty×X)))(i:Nat)(x:X):List Ty->Nat->Option (List (Ty×X))
 | [],_=>some []
 |t::ts,j=>match g t (vg i j x),rk g i x ts (j+1)with
  |some a,some b=>some (a++b)
  |_,_=>none
def fI:Nat->Ty->X->Option (List (Ty×X))
 |0,_,_=>none
 |f+1,.st i,x=>rk (fI f) i x (aI.bW i) 0
 |_+1,t,x=>some [(t,x)]
def gh:Nat:=9
def rV(g:Ty->List (Ty×X)->Option (X×List (Ty×X))):List Ty->List (Ty×X)->Option (List X×List (Ty×X))
 | [],cs=>some ([],cs)
 |t::ts,cs=>match g t cs with
  |some (x,r)=>match rV g ts r with
   |some (xs,j)=>some (x::xs,j)
   |none=>none
  |none=>none
def l4:Nat->Ty->List (Ty×X)->Option (X×List (Ty×X))
 |0,_,_=>none
 |f+1,.st i,cs=>match rV (l4 f) (aI.bW i) cs with
  |some (xs,r)=>some (p9 i xs,r)
  |none=>none
 |_+1,t,(u,x)::r=>if t=u then some (x,r)else none
 |_+1,_,[]=>none
def wQ(t:Ty)(cs:List (Ty×X)):Option X:=match l4 gh t cs with
 |some (x,[])=>some x
 |_=>none
def tE:TX->Option (Ty×X)
 |.d t x=>some (t,x)
 |_=>none
def cd:Ty->Bool
 |.st _=>true
 |_=>false
def w4:TX->Bool
 |.d t _=>!cd t
 |.bq _=>true
 |.ej=>true
 |.ptr _ _=>true
 |.bu _ _ _=>true
 |.row _=>true
 |.bx _ _ _=>true
 |.map _=>true
 |.bj _=>true
 |.cC _ _=>true
 |.bI _ _ _=>true
 |.aH _ _=>true
 |_=>false
def iU:TX->Option (List TX)
 |.d t x=>(fI gh t x).map (·.map λp=>.d p.1 p.2)
 |.agg cs=>some cs
 |.undef=>none
 |.gone=>none
 |.aL _=>none
 |t=>some [t]
def ri(t:TX):Option (List TX):=match iU t with
 |some cs=>bif cs.all w4 then some cs else none
 |none=>none
def rW(t:Ty)(cs:List TX):Option TX:=
 bif cd t then(match cs.mapM tE with
  |some ds=>(wQ t ds).map (.d t ·)
  |none=>some (.agg cs))
 else(match cs with| [c]=>some c|_=>none)
def kx:Nat->Ty->Option X
 |0,_=>none
 |_+1,.int k=>some (.int k 0)
 |_+1,.bool=>some (.bool false)
 |_+1,.str=>some (.str [])
 |_+1,.list t=>some (.nil t)
 |_+1,.map k v=>some (.lf k v)
 |f+1,.st i=>((aI.bW i).mapM (kx f)).map λxs=>.mk i (fu xs)
 |_,_=>none
def yI(p:Ty×X):TX:=match p with
 | (.list t,x)=>(match x with |.nil u=>(if t=u then .bq t.size else .undef)|_=>.undef)
 | (t,x)=>.d t x
def zeroCells(t:Ty):Option (List TX):=match kx gh t with
 |some x=>(fI gh t x).map (·.map yI)
 |none=>none
def gQ(l:List AX)(t:Ty):TX->Option (X×List AX)
 |.d u x=>if t=u then some (x,l)else none
 |.bq s=>match t with
  |.list u=>bif Nat.beq s u.size then some (.nil u,l)else none
  |_=>none
 |.ej=>match t with
  |.map k v=>some (.lf k v,l)
  |_=>none
 |.row id=>match l[id]? with
  |some (.row fr e u x)=>if t=.list u then some (x,bif fr then l else l.set id (.row true e u x))else none
  |_=>none
 |.bI _ u x=>if t=.list u then some (x,l)else none
 |.map id=>match l[id]? with
  |some (.map fr k v x)=>if t=.map k v then some (x,bif fr then l else l.set id (.map true k v x))else none
  |_=>none
 |_=>none
def ku:Nat->List AX->List Ty->List TX->Option (List X×List TX×List AX)
 |0,_,_,_=>none
 |_+1,l,[],cs=>some ([],cs,l)
 |f+1,l,t::ts,cs=>match t with
  |.st i=>match ku f l (aI.bW i) cs with
   |some (xs,r,l1)=>match ku f l1 ts r with
    |some (ys,k,j)=>some (p9 i xs::ys,k,j)
    |none=>none
   |none=>none
  |t=>match cs with
   | []=>none
   |c::cs=>match gQ l t c with
    |some (x,l1)=>match ku f l1 ts cs with
     |some (ys,r,j)=>some (x::ys,r,j)
     |none=>none
    |none=>none
def mg(l:List AX)(t:Ty)(x:TX):Option (X×List AX):=match x with
 |.agg cs=>match t with
  |.st i=>match ku 60 l (aI.bW i) cs with
   |some (xs,[],l')=>some (p9 i xs,l')
   |_=>none
  |_=>none
 |x=>gQ l t x
def gy(l:List AX):List Ty->List TX->Option (List X×List AX)
 | [],[]=>some ([],l)
 |t::ts,x::xs=>match mg l t x with
  |some (y,l1)=>match gy l1 ts xs with
   |some (ys,j)=>some (y::ys,j)
   |none=>none
  |none=>none
 |_,_=>none
def D3:Value->TX
 |.bool b=>.d .bool (.bool b)
 |.int k n=>.d (.int k) (.int k n)
 |.string s=>.d .str (.str s.data.toList)
 |.slice none 0 0=>.bq 0
 |.map none=>.ej
 |_=>.undef
def gJ(t:List (Nat×TX)):Operand->TX
 |.tmp k=>ba t k
 |.const v=>D3 v
 |.func f=>.d (.fn f) (.fn f)
 |.global _=>.undef
def Ge:X->X
 |.bool b=>.bool (!b)
 |x=>.u1 .not x
def eV(t:TX):Option dr:=some ⟨[],t,.none⟩
def sK(E:cn)(t:TypeId):TX->TX
 |.bq _=>.bq (Eb E t)
 |x=>x
def yt(l:List TX)(off:Nat)(xs:List TX):List TX:=l.take off++xs++l.drop (off+xs.length)
def qH(u:Ty)(e:X)(off:Nat)(t:Ty):Option TX:=
 bif Nat.beq off 0&&decide (t=u)then some (.d t e)else
 bif Nat.beq off 0&&Nat.beq t.size u.size&&(cd t != cd u)then none else
 match fI gh u e with
 |some cs=>bif Nat.ble (off+t.size) cs.length then(wQ t ((cs.drop off).take t.size)).map (.d t ·)else none
 |none=>none
def dN:Ty->Bool
 |.aL _ _=>false
 |.unit=>false
 |_=>true
def iy:TX->TX
 |.d (.box u) x=>bif dN u then(match x with
  |.box e=>.bu u e 0
  |x=>.bu u (.u1 .unbox x) 0)else .undef
 |.d (.self f) _=>.bu (.aH f (.self f)) (.aH f (.self f)) 0
 |t=>t
def FI(C:Cx)(ty:TypeId)(l:List AX)(n:Nat)(a:TX):Option dr:=
 match C.ty ty with
 |none=>match a,C.E ty with
  |.bu u e off,some i=>bif Nat.beq i.size u.size&&(i.desc.agg == cd u)&&dN u then(qH u e off u).map λv=>⟨[],v,.none⟩else none
  |.ptr id off,some i=>match l[id]? with
   |some (.var _ cs)=>bif Nat.beq i.size 1 && !i.desc.agg then(cs[off]?).map λv=>⟨[],v,.none⟩else none
   |_=>none
  |_,_=>none
 |some t=>match a with
  |.ptr id off=>match l[id]? with
   |some (.var _ cs)=>bif Nat.ble (off+t.size) cs.length then(rW t ((cs.drop off).take t.size)).map λv=>⟨[],v,.none⟩else none
   |_=>none
  |.bu u e off=>(qH u e off t).map λv=>⟨[],v,.none⟩
  |.bx id k off=>match l[id]? with
   |some (.row _ _ u x)=>(qH u (.var n) off t).map λv=>⟨[.get x k],v,.none⟩
   |_=>none
  |_=>none
def Ia(C:Cx)(ty:TypeId)(l:List AX)(n:Nat)(a v:TX):Option dr:=
 match C.ty ty,ri v with
 |some t,some vs=>bif Nat.beq vs.length t.size&&Nat.ble 1 vs.length then
  match a with
  |.ptr id off=>match l[id]? with
   |some (.var j cs)=>bif Nat.ble (off+vs.length) cs.length then some ⟨[],.undef,.aQ (l.set id (.var j (yt cs off vs)))⟩else none
   |_=>none
  |.bx id k off=>match l[id]?,v with
   |some (.row false e u x),.d B F=>
    if off=0/\B=u then some ⟨[.get x k],.undef,.aQ (l.set id (.row false e u (.u3 .set x k F)))⟩
    else match fI gh u (.var n),fI gh B F with
     |some cs,some ds=>bif Nat.ble (off+ds.length) cs.length && !(Nat.beq off 0&&Nat.beq ds.length cs.length)then(wQ u (cs.take off++ds++cs.drop (off+ds.length))).map λy=>⟨[.get x k],.undef,.aQ (l.set id (.row false e u (.u3 .set x k y)))⟩else none
     |_,_=>none
   |_,_=>none
  |_=>none
  else none
 |none,some [y]=>match a with
  |.ptr id off=>match l[id]? with
   |some (.var j cs)=>bif Nat.beq (bJ C.E ty) 1&&Nat.ble (off+1) cs.length then some ⟨[],.undef,.aQ (l.set id (.var j (yt cs off [y])))⟩else none
   |_=>none
  |_=>none
 |_,_=>none
def Et(C:Cx)(s:TypeId)(f:Nat)(a:TX):Option dr:=
 match C.E s with
 |some ⟨_,_,_,.struct fs⟩=>match fs[f]? with
  |some p=>bif Nat.ble 1 (bJ C.E p.2)then
   match a with
   |.ptr id off=>eV (.ptr id (off+p.1))
   |.bu u e off=>eV (.bu u e (off+p.1))
   |.bx id k off=>eV (.bx id k (off+p.1))
   |_=>none
   else none
  |none=>none
 |_=>none
def Eu(C:Cx)(s:TypeId)(f:Nat)(a:TX):Option dr:=
 match C.E s,a with
 |some ⟨_,_,_,.struct fs⟩,.d u e=>match fs[f]? with
  |some p=>match C.ty p.2 with
   |some t=>bif cd u&&Nat.ble 1 t.size then(qH u e p.1 t).map λv=>⟨[],v,.none⟩else none
   |none=>none
  |none=>none
 |_,_=>none
def iX(n:Int):X:=.int .i64 n
def An(l:List Int):X:=match l with
 | []=>.nil (.int .i64)
 |x::xs=>.u2 .cons (iX x) (An xs)
def Fa(C:Cx)(t:TypeId)(g:Nat)(n:Nat)(i:TX):Option dr:=
 match C.E t,aI.ez g,i with
 |some ⟨_,_,_,.array len e⟩,some l,.d (.int _) k=>bif Nat.beq len l.length&&Nat.beq (bJ C.E e) 1&&Nat.ble 2 len&&(C.E e).isSome then some ⟨[.get (An l) k],.bu (.int .i64) (.var n) 0,.none⟩else none
 |_,_,_=>none
def z6(k n:X):X:=.u2 .and (.u2 .le (iX 0) k) (.u2 .lt k n)
def gF(x:X):X:=.u1 .len x
def Fb(C:Cx)(t:TypeId)(l:List AX)(n:Nat)(a i:TX):Option dr:=
 match C.E t,i with
 |some ⟨_,_,_,.slice e⟩,.d (.int _) k=>match a with
  |.d (.list u) xs=>bif Nat.beq (bJ C.E e) u.size&&Nat.ble 1 u.size&&dN u then some ⟨[.get xs k],.bu u (.var n) 0,.none⟩else none
  |.row id=>match l[id]? with
   |some (.row _ _ u xs)=>bif Nat.beq (bJ C.E e) u.size&&Nat.ble 1 u.size then some ⟨[.bQ (z6 k (gF xs))],.bx id k 0,.none⟩else none
   |_=>none
  |_=>none
 |_,_=>none
def CL(xs:X)(lo hi:Option TX):Option (List Ins×X):=
 match lo,hi with
 |none,none=>some ([],xs)
 |some (.d (.int _) a),none=>some ([.bQ (.u2 .and (.u2 .le (iX 0) a) (.u2 .le a (gF xs)))],.u2 .drop xs a)
 |none,some (.d (.int _) b)=>some ([.bQ (.u2 .and (.u2 .le (iX 0) b) (.u2 .le b (gF xs)))],.u2 .take xs b)
 |some (.d (.int _) a),some (.d (.int _) b)=>some ([.bQ (.u2 .and (.u2 .le (iX 0) a) (.u2 .and (.u2 .le a b) (.u2 .le b (gF xs))))],.u2 .drop (.u2 .take xs b) a)
 |_,_=>none
def vM(k:IntKind)(x:X):List Ins:=match k with
 |.i64=>[.bQ (.u1 .ig x)]
 |_=>[]
def MT:Lf->Ty->Bool
 |.bool,.bool=>true
 |.int k,.int j=>decide (k=j)
 |.str,.str=>true
 |_,_=>false
def rN:List Lf->List (Ty×X)->Bool
 | [],[]=>true
 |a::r,p::s=>MT a p.1&&rN r s
 |_,_=>false
def El(C:Cx)(ty:TypeId)(i:Nat)(a b:X):Bool:=match C.eqs ty,fI gh (.st i) a,fI gh (.st i) b with
 |some ls,some p,some q=>rN ls p&&rN ls q && !decide (ls=[.bool])
 |_,_,_=>false
def Ko(C:Cx)(ty:TypeId)(B:BinOp):TX->TX->Option (List Ins×TX)
 |.d (.int k) a,.d (.int F) b=>
  if k≠F then(match B with |.shr=>some ([.bQ (.u2 .le (.int F 0) b)],.d (.int k) (.u2 (.shr k) a b))|_=>none)else
  match B with
  |.shr=>some ([.bQ (.u2 .le (.int F 0) b)],.d (.int k) (.u2 (.shr k) a b))
  |.and=>some ([],.d (.int k) (.u2 (.vL k) a b))
  |.add=>some (vM k (.u2 (.add k) a b),.d (.int k) (.u2 (.add k) a b))
  |.sub=>some (vM k (.u2 (.sub k) a b),.d (.int k) (.u2 (.sub k) a b))
  |.mul=>some (vM k (.u2 (.mul k) a b),.d (.int k) (.u2 (.mul k) a b))
  |.quo=>(match k with |.i64=>some ([.bQ (.u1 .not (.u2 .aC b (iX 0))),.bQ (.u1 .ig (.u2 (.quo k) a b))],.d (.int k) (.u2 (.quo k) a b))|_=>none)
  |.rem=>some ([.bQ (.u1 .not (.u2 .aC b (.int k 0)))],.d (.int k) (.u2 (.rem k) a b))
  |.eql=>some ([],.d .bool (.u2 .aC a b))
  |.neq=>some ([],.d .bool (.u1 .not (.u2 .aC a b)))
  |.lss=>some ([],.d .bool (.u2 .lt a b))
  |.leq=>some ([],.d .bool (.u2 .le a b))
  |.gtr=>some ([],.d .bool (.u2 .lt b a))
  |.geq=>some ([],.d .bool (.u2 .le b a))
  |_=>none
 |.d .bool a,.d .bool b=>bif decide (C.eqs ty=some [.bool])then(match B with
  |.eql=>some ([],.d .bool (.u2 .Eh a b))
  |.neq=>some ([],.d .bool (.u1 .not (.u2 .Eh a b)))
  |_=>none)else none
 |.d .str a,.d .str b=>match B with
  |.eql=>some ([],.d .bool (.u2 .Ei a b))
  |.neq=>some ([],.d .bool (.u1 .not (.u2 .Ei a b)))
  |.add=>some ([.bQ (.u2 .LG a b)],.d .str (.u2 .cat a b))
  |_=>none
 |.d (.st i) a,.d (.st j) b=>bif Nat.beq i j&&El C ty i a b then(match B with
  |.eql=>some ([],.d .bool (.u2 (.Ej i) a b))
  |.neq=>some ([],.d .bool (.u1 .not (.u2 (.Ej i) a b)))
  |_=>none)else none
 |_,_=>none
def x7(j:Nat->Option (Nat×Nat))(cells:List TX):List (Nat×TX)->Option (List TX)
 | []=>some cells
 | (i,t)::rest=>match j i,ri t with
  |some (off,size),some vs=>bif Nat.beq vs.length size&&Nat.ble (off+size) cells.length then x7 j (yt cells off vs) rest else none
  |_,_=>none
def wG(t:Ty):List X->X
 | []=>.nil t
 |x::xs=>.u2 .cons x (wG t xs)
def oW(C:Cx)(t:TypeId):Option (Ty×Ty):=match C.ty t with
 |some (.map k v)=>some (k,v)
 |_=>none
def wM(l:List AX)(k v:Ty):TX->Option X
 |.d (.map j B) x=>if k=j/\v=B then some x else none
 |.ej=>some (.lf k v)
 |.map id=>match l[id]? with
  |some (.map _ j B x)=>if k=j/\v=B then some x else none
  |some (.bw _ kk t x)=>if k=.int kk/\v=.list t then some x else none
  |_=>none
 |_=>none
def bytesOf(E:cn)(e:TypeId):Nat:=match E e with|some i=>i.bytes|none=>0
def EP(l:List AX)(id:Nat):Bool:=match l[id]? with
 |some (.row fr _ _ _)=>fr
 |_=>false
def Dw(C:Cx)(t:TypeId)(l:List AX)(nid:Nat)(s x:TX):Option dr:=
 match C.E t,C.ty t with
 |some ⟨_,_,_,.slice e⟩,some (.list u)=>
  match mg l (.list u) x with
  |some (
      y,l1)=>match s with
   |.bq _=>some ⟨[.bQ (.u1 (.fit (bytesOf C.E e)) y)],.row nid,.aQ (l1++[.row false e u y])⟩
   |.row id=>match l1[id]? with
    |some (.row fr j k z)=>if j=e/\k=u then(bif Nat.beq nid l1.length&&(EP l id == fr)then
      some ⟨[.bQ (.u1 (.fit (bytesOf C.E e)) (.u2 .app z y))],.row nid,.aQ (l1.set id .dead++[.row fr e u (.u2 .app z y)])⟩else none)else none
    |_=>none
   |_=>none
  |none=>none
 |_,_=>none
def Fx(C:Cx)(t:TypeId)(l:List AX)(x:TX):Option dr:=
 match C.E t,x with
 |some ⟨_,_,_,.string⟩,.d .str s=>eV (.d (.int .i64) (.u1 .MR s))
 |some ⟨_,_,_,.slice _⟩,.d (.list _) xs=>eV (.d (.int .i64) (.u1 .len xs))
 |some ⟨_,_,_,.slice _⟩,.bq _=>eV (.d (.int .i64) (iX 0))
 |some ⟨_,_,_,.slice _⟩,.row id=>match l[id]? with
  |some (.row _ _ _ xs)=>eV (.d (.int .i64) (.u1 .len xs))
  |_=>none
 |some ⟨_,_,_,.map _ _⟩,x=>match oW C t with
  |some (k,v)=>(wM l k v x).map λm=>⟨[],.d (.int .i64) (.u1 .MQ m),.none⟩
  |none=>none
 |_,_=>none
def isLit:TX->Option Bool
 |.d .bool (.bool b)=>some b
 |_=>none
def oF:Ty->X->Option (List TX)
 |.aL a b,x=>bif dN a then(match oF b (vu x)with|some r=>some (.d a (tQ x)::r)|none=>none)else none
 |.unit,_=>some []
 |t,x=>some [.d t x]
def lM:TX->Option (FuncId×List TX)
 |.aH g ts=>some (g,ts)
 |.d (.fn g) _=>some (g,[])
 |.d (.aH g t) (.aH _ x)=>(oF t x).map λr=>(g,r)
 |.d (.aH g t) x=>(oF t (.u1 .Iw x)).map λr=>(g,r)
 |_=>none
def rA(l:List AX)(g:FuncId)(ts:List TX):List lI->Nat->Option (Nat×List X×List AX×lI)
 | [],_=>none
 |s::r,k=>bif Nat.beq s.f g then(match gy l s.args ts with
   |some (xs,l')=>some (k,xs,l',s)
   |none=>rA l g ts r (k+1))else rA l g ts r (k+1)
def mV(E:cn):List TypeId->List TX->List TX
 |t::ts,x::xs=>sK E t x::mV E ts xs
 |_,xs=>xs
def og(v:X):List Ty->TX
 | []=>.aL []
 | [t]=>.d t v
 |ts=>.aL (nr ts.length v ts 0)
where nr (n:Nat) (v:X):List Ty->Nat->List TX
 | [],_=>[]
 |t::ts,j=>.d t (pf n j v)::nr n v ts (j+1)
def wW(n:Nat)(v:X):List NS->Nat->List TX
 | [],_=>[]
 |.dI t::r,j=>.d t (pf n j v)::wW n v r (j+1)
 |.nil s::r,j=>.bq s::wW n v r j
def wq(l:List AX)(g:FuncId)(ts:List TX):List pQ->Option (pQ×List X×List AX)
 | []=>none
 |s::r=>bif Nat.beq s.f g then(match gy l s.args ts with
   |some (xs,l')=>some (s,xs,l')
   |none=>wq l g ts r)else wq l g ts r
def zk(C:Cx)(l:List AX)(n:Nat)(g:FuncId)(ts:List TX):Option dr:=
 match wq l g ts C.wX with
 |some (s,xs,l')=>some ⟨[.call s.k (fu xs)],.agg (wW (cM s.sh).length (.var n) s.sh 0),.aQ l'⟩
 |none=>none
def DP(C:Cx)(l:List AX)(n:Nat)(g:FuncId)(ts:List TX):Option dr:=
 match rA l g ts C.sigs 0 with
 |some (k,xs,l',s)=>some ⟨[.call k (fu xs)],og (.var n) s.res,.aQ l'⟩
 |none=>none
def qb(l:List AX)(g:FuncId)(t:Ty)(ts:List TX):List lJ->Option (lJ×List X×List AX)
 | []=>none
 |s::r=>if s.t=t then(bif Nat.beq s.f g then(match gy l s.args ts with
   |some (xs,l')=>some (s,xs,l')
   |none=>qb l g t ts r)else qb l g t ts r)else qb l g t ts r
def rz(l:List AX)(g:FuncId)(ts:List TX):List lJ->Option (lJ×List X×List AX)
 | []=>none
 |s::r=>bif Nat.beq s.f g then(match gy l s.args ts with
   |some (xs,l')=>some (s,xs,l')
   |none=>rz l g ts r)else rz l g ts r
def Is(C:Cx)(l:List AX)(n:Nat)(g:FuncId):List TX->Option dr
 |.row id::ts=>match l[id]? with
  |some (.row false e t x)=>match qb l g t ts C.turns with
   |some (s,xs,l')=>match l'[id]? with
    |some (.row false j t' B)=>if j=e/\t'=t then some ⟨[.call s.k (fu (B::xs))],.aL [],.aQ (l'.set id (.row false e t (.var n)))⟩else none
    |_=>none
   |none=>none
  |_=>none
 |.bq _::ts=>match rz l g ts C.turns with
  |some (s,xs,l')=>some ⟨[.call s.k (fu (.nil s.t::xs))],.aL [],.aQ (l'++[.row false 0 s.t (.var n)])⟩
  |none=>none
 |_=>none
def u7(v:Ty):TX->Option X
 |.d t x=>if t=v then some x else none
 |.bq s=>match v with
  |.list u=>bif Nat.beq s u.size then some (.nil u)else none
  |_=>none
 |_=>none
def uf(C:Cx)(t:TypeId)(i:Nat):Bool:=match C.E t with
 |some ⟨_,_,_,.map kt _⟩=>(match Ak C.E kt with
  |some (n,kk)=>decide (aI.bW i=List.replicate n (.int kk))
  |none=>false)
 |_=>false
def Cu(C:Cx)(t:TypeId)(l:List AX)(m k x:TX):Option dr:=match oW C t,m,k with
 |some (.int kk,v),.map id,.d (.int G) key=>match u7 v x,l[id]? with
  |some y,some (.map false B F mm)=>if kk=G/\B=.int kk/\v=F then some ⟨[],.undef,.aQ (l.set id (.map false B F (.u3 .oZ mm key y)))⟩else none
  |_,_=>none
 |some (.st i,v),.map id,.d (.st j) key=>match u7 v x,l[id]? with
  |some y,some (.map false B F mm)=>if i=j/\B=.st i/\v=F then(bif uf C t i then some ⟨[],.undef,.aQ (l.set id (.map false B F (.u3 .oZ mm key y)))⟩else none)else none
  |_,_=>none
 |_,_,_=>none
def D7(C:Cx)(t:TypeId)(l:List AX)(m k:TX):Option dr:=match oW C t,m,k with
 |some (.int kk,v),.map id,.d (.int F) key=>match l[id]? with
  |some (.map false j B mm)=>if kk=F/\j=.int kk/\v=B then some ⟨[],.aL [],.aQ (l.set id (.map false j B (.u2 .As mm key)))⟩else none
  |_=>none
 |_,_,_=>none
def FP(C:Cx)(t:TypeId)(l:List AX)(nid:Nat)(a b:TX):Option dr:=match C.E t,C.ty t,a,b with
 |some ⟨_,_,_,.slice e⟩,some (.list u),.d (.int _) n,.d (.int _) c=>(match kx gh u with
  |some z=>bif X.beq n c then some ⟨[.bQ (.u2 .le (iX 0) n),.bQ (.u1 (.fit (bytesOf C.E e)) (.u2 .rep n z))],.row nid,.aQ (l++[.row false e u (.u2 .rep n z)])⟩else none
  |none=>none)
 |_,_,_,_=>none
def dD(C:Cx)(ρ:Operand->TX)(l:List AX)(n nid:Nat)(o:Oper):Option dr:=
 match o.op with
 |.move x |.assign x=>eV (sK C.E o.type (ρ x))
 |.pick c a b=>match isLit (ρ c)with
  |some true=>(match ρ a,ρ b with |.d .bool x,.d .bool _=>eV (.d .bool x) |.d .bool x,.gone=>eV (.d .bool x)|_,_=>none)
  |some false=>(match ρ b,ρ a with |.d .bool x,.d .bool _=>eV (.d .bool x) |.d .bool x,.gone=>eV (.d .bool x)|_,_=>none)
  |none=>none
 |.box e x=>(ri (ρ x)).map λcs=>⟨[],.ptr nid 0,.new (.var e cs)⟩
 |.alloc e=>match C.ty e with
  |some t=>(zeroCells t).map λcs=>⟨[],.ptr nid 0,.new (.var e cs)⟩
  |none=>match C.E e with
   |some ⟨_,_,[_],_⟩=>some ⟨[],.ptr nid 0,.new (.var e [.undef])⟩
   |_=>none
 |.load t a=>FI C t l n (iy (ρ a))
 |.store t a x=>Ia C t l n (sK C.E t (ρ a)) (sK C.E t (ρ x))
 |.nilCheck x=>match ρ x with
  |.ptr id off=>eV (.ptr id off)
  |_=>none
 |.fieldAddr s x f=>Et C s f (iy (ρ x))
 |.field s x f=>Eu C s f (ρ x)
 |.binOp F ty x y _=>(Ko C ty F (ρ x) (ρ y)).map λr=>⟨r.1,r.2,.none⟩
 |.unOp F _ x=>match F,ρ x with
  |.not,.d .bool a=>eV (.d .bool (Ge a))
  |.neg,.d (.int k) a=>some ⟨vM k (.u1 (.neg k) a),.d (.int k) (.u1 (.neg k) a),.none⟩
  |_,_=>none
 |.indexAddr t x i=>match x with
  |.global g=>Fa C t g n (ρ i)
  |x=>Fb C t l n (iy (ρ x)) (ρ i)
 |.slice t x lo hi none=>match C.ty t,ρ x with
  |some (.list u),.d (.list N) xs=>if u=N then(CL xs (lo.map ρ) (hi.map ρ)).map λr=>⟨r.1,.d (.list u) r.2,.none⟩else none
  |some (.list u),.row id=>match gQ l (.list u) (.row id)with
   |some (xs,l')=>(CL xs (lo.map ρ) (hi.map ρ)).map λr=>⟨r.1,.d (.list u) r.2,.aQ l'⟩
   |none=>none
  |_,_=>none
 |.build t parts=>match C.E t,C.ty t with
  |some ⟨_,_,_,.struct fs⟩,some u=>match zeroCells u with
   |some z=>(x7 (uZ C.E fs) z (parts.toList.map λp=>(p.1,ρ p.2))).bind λcs=>(rW u cs).map λv=>⟨[],v,.none⟩
   |none=>none
  |_,_=>none
 |.buildSlice t len parts=>match C.E t,C.ty t with
  |some ⟨_,_,_,.slice e⟩,some (.list u)=>
   bif Nat.beq len 0 then(bif parts.toList.isEmpty then some ⟨[],.row nid,.aQ (l++[.row false e u (.nil u)])⟩else none)
   else bif decide (parts.toList.map (·.1)=List.range len)&&Nat.ble (len*u.size) 16777216 then
    match gy l (List.replicate len u) (parts.toList.map λp=>ρ p.2)with
    |some (xs,l')=>some ⟨[],.d (.list u) (wG u xs),.aQ l'⟩
    |none=>none
   else none
  |_,_=>none
 |.extract x i=>match ρ x with
  |.aL ts=>(ts[i]?).map λt=>⟨[],t,.none⟩
  |_=>none
 |.call c=>match c.callee with
  |.value f=>match lM (ρ f)with
   |some (g,ts)=>match zk C l n g (mV C.E c.argTypes.toList (c.args.toList.map ρ)++ts)with
    |some q=>some q
    |none=>match DP C l n g (mV C.E c.argTypes.toList (c.args.toList.map ρ)++ts)with
     |some q=>some q
     |none=>Is C l n g (mV C.E c.argTypes.toList (c.args.toList.map ρ)++ts)
   |none=>none
  |.builtin .len=>match c.args.toList,c.argTypes.toList with| [x],[t]=>Fx C t l (ρ x)|_,_=>none
  |.builtin .append=>match c.args.toList,c.argTypes.toList with
   | [s,x],[t,t']=>if t=t' then Dw C t l nid (ρ s) (ρ x)else none
   |_,_=>none
  |.builtin .max=>match c.args.toList.map ρ with| [.d (.int k) a,.d (.int B) b]=>if k=B then eV (.d (.int k) (.u2 .max a b))else none|_=>none
  |.builtin .min=>match c.args.toList.map ρ with| [.d (.int k) a,.d (.int B) b]=>if k=B then eV (.d (.int k) (.u2 .min a b))else none|_=>none
  |.builtin .delete=>match c.args.toList,c.argTypes.toList with
   | [x,k],[t,_]=>D7 C t l (ρ x) (ρ k)
   |_,_=>none
  |_=>none
 |.makeSlice t a b=>FP C t l nid (ρ a) (ρ b)
 |.makeMap t none=>match oW C t with
  |some (k,v)=>some ⟨[],.map nid,.aQ (l++[.map false k v (.lf k v)])⟩
  |none=>none
 |.mapUpdate t m k x=>Cu C t l (ρ m) (ρ k) (ρ x)
 |.insert t m k x=>Cu C t l (ρ m) (ρ k) (ρ x)
 |.lookup t x k ok=>match oW C t,ρ k with
  |some (.int kk,v),.d (.int G) key=>if kk=G then(match wM l (.int kk) v (ρ x),kx gh v with
   |some m,some z=>eV (bif ok then .aL [.d v (.u3 .kf m key z),.d .bool (.u2 .oY m key)]else .d v (.u3 .kf m key z))
   |_,_=>none)else none
  |some (.st i,v),.d (.st j) key=>if i=j then(bif uf C t i then(match wM l (.st i) v (ρ x),kx gh v with
   |some m,some z=>eV (bif ok then .aL [.d v (.u3 .kf m key z),.d .bool (.u2 .oY m key)]else .d v (.u3 .kf m key z))
   |_,_=>none)else none)else none
  |_,_=>none
 |.convert M t x=>match C.E M,C.E t,ρ x with
  |some ⟨_,_,_,.dE _⟩,some ⟨_,_,_,.dE k⟩,.d (.int _) a=>eV (.d (.int k) (.u1 (.conv k) a))
  |_,_,_=>none
 |.makeFunc (.func g) first caps=>bif first.isEmpty then
   (match (caps.toList.map ρ).mapM tE with
   |some ds=>eV (.d (.aH g (aP (ds.map (·.1)))) (.aH g (fu (ds.map (·.2)))))
   |none=>eV (.aH g (caps.toList.map ρ)))else none
 |_=>none
def Fg:AX->Bool
 |.bw .. =>true
 |.fA .. =>true
 |_=>false
def C6:AX->AX
 |.bw _ kk t x=>.map false (.int kk) (.list t) x
 |a=>a
def qN(id:Nat):List AX->Nat->List AX
 | [],_=>[]
 |a::r,i=>(bif Nat.beq i id then a else C6 a)::qN id r (i+1)
def wT(id:Nat):List AX->Nat->Bool
 | [],_=>true
 |a::r,i=>(Nat.beq i id || !Fg (C6 a))&&wT id r (i+1)
def zX(C:Cx)(t:TypeId):Option TypeId:=match C.E t with
 |some ⟨_,_,_,.map _ v⟩=>(match C.E v with
  |some ⟨_,_,_,.slice e⟩=>some e
  |_=>none)
 |_=>none
def CW(e:TypeId)(kk:IntKind)(u:Ty):AX->Option X
 |.bw j F G x=>if j=e/\F=kk/\G=u then some x else none
 |.map false k v (.lf B M)=>if k=.int kk/\v=.list u/\B=.int kk/\M=.list u then some (.lf k v)else none
 |_=>none
def LA(ops:List Oper)(d:Nat):Bool:=ops.any λo=>match o.op with
 |.call c=>(match c.callee with
  |.builtin .append=>(match c.args.toList with
   |.tmp t::_=>Nat.beq t d
   |_=>false)
  |_=>false)
 |_=>false
def E2(C:Cx)(t:TypeId)(l:List AX)(nid:Nat)(m k:TX):Option dr:=match oW C t,m,k with
 |some (.int kk,.list u),.map id,.d (.int j) key=>(match zX C t,l[id]? with
  |some e,some a=>(match CW e kk u a with
   |some x=>if kk=j then(bif wT id l 0 then some ⟨[],.row nid,.aQ ((qN id l 0).set id (.fA e kk u x key)++[.row true e u (.u3 .kf x key (.nil u))])⟩else none)else none
   |none=>none)
  |_,_=>none)
 |_,_,_=>none
def AE:X->Bool
 |.u2 .app _ (.u2 .cons _ _)=>true
 |_=>false
def E3(C:Cx)(t:TypeId)(l:List AX)(m k x:TX):Option dr:=match m,k,x with
 |.map id,.d (.int G) key,.row j=>(match l[id]?,l[j]? with
  |some (.fA e kk u mm F),some (.row true B M y)=>if kk=G/\e=B/\u=M/\oW C t=some (.int kk,.list u)then(bif X.beq key F&&AE y then some ⟨[],.undef,.aQ ((l.set j .dead).set id (.bw e kk u (.u3 .oZ mm key y)))⟩else none)else none
  |_,_=>none)
 |_,_,_=>none
def KF(ops:List Oper)(d:Nat):Bool:=ops.any λo=>match o.op with
 |.call c=>(match c.callee,c.args.toList with
  |.builtin .clear,[.tmp t]=>Nat.beq t d
  |_,_=>false)
 |_=>false
def Ie(C:Cx)(t:TypeId)(l:List AX)(x lo:TX):Option dr:=match C.E t,C.ty t,x,lo with
 |some ⟨_,_,_,.slice _⟩,some (.list u),.row id,.d (.int _) n=>(match l[id]? with
  |some (.row false _ j xs)=>if j=u then some ⟨[.bQ (.u2 .and (.u2 .le (iX 0) n) (.u2 .le n (gF xs)))],.sub id n (gF xs),.aQ l⟩else none
  |_=>none)
 |_,_,_,_=>none
def DX(C:Cx)(t:TypeId)(l:List AX)(x:TX):Option dr:=match C.E t,C.ty t,x with
 |some ⟨_,_,_,.slice _⟩,some (.list u),.sub id lo hi=>(match l[id]?,kx gh u with
  |some (.row false e j xs),some z=>if j=u then(bif X.beq hi (gF xs)then some ⟨[],.aL [],.aQ (l.set id (.row false e u (.u2 .app (.u2 .take xs lo) (.u2 .rep (.u2 (.sub .i64) hi lo) z))))⟩else none)else none
  |_,_=>none)
 |_,_,_=>none
def Ml(C:Cx)(ops:List Oper)(ρ:Operand->TX)(l:List AX)(nid:Nat)(o:Oper):Option dr:=match o.op with
 |.lookup t x k false=>(match o.dst with
  |some d=>bif LA ops d then E2 C t l nid (ρ x) (ρ k)else none
  |none=>none)
 |.mapUpdate t m k x=>E3 C t l (ρ m) (ρ k) (ρ x)
 |.slice t x (some lo) none none=>(match o.dst with
  |some d=>bif KF ops d then Ie C t l (ρ x) (ρ lo)else none
  |none=>none)
 |.call c=>(match c.callee,c.args.toList,c.argTypes.toList with
  |.builtin .clear,[x],[t]=>DX C t l (ρ x)
  |_,_,_=>none)
 |_=>none
def rn(C:Cx)(ops:List Oper)(ρ:Operand->TX)(l:List AX)(n nid:Nat)(o:Oper):Option dr:=match Ml C ops ρ l nid o with
 |some q=>some q
 |none=>dD C ρ l n nid o
end Go.Sy
namespace Go.Sy
open Go Go.ak
inductive Tr where
 |leaf (e:Ex) (σ:Sk)
 |out (k:Nat) (x:X)
 |bQ (x:X) (t:Tr)
 |get (v:Nat) (xs k:X) (t:Tr)
 |call (v c:Nat) (x:X) (t:Tr)
 |fL (c:X) (a b:Tr)
 |gI (x:X) (a b:Tr)
 |join (ty:Ty) (v:Nat) (a b:Tr)
 |loop (ty:Ty) (v:Nat) (init:X) (body:Tr)
 |bad (why:Nat)
 deriving Inhabited
def hasB(m k:Nat):Bool:=Nat.beq (Nat.land (Nat.shiftRight m k) 1) 1
def jW(m k:Nat):Nat:=Nat.lor m (Nat.shiftLeft 1 k)
def AL(m:Nat):Operand->Nat
 |.tmp t=>jW m t
 |_=>m
def Zl(m:Nat)(j:List Oper):Nat:=j.foldl (λm o=>o.op.operands.toList.foldl AL m) m
def KU(m k:Nat):Nat:=bif hasB m k then Nat.xor m (Nat.shiftLeft 1 k)else m
structure Lv where
 out:Nat
 ex:List (Nat×Nat)
 rt:Nat
def X6(ops:List Oper)(m:Nat)(o:Oper):Nat:=match o.guard with
 |some (j,_)=>(match (ops[j]?).bind (·.dst)with|some d=>jW m d|none=>m)
 |none=>m
def FN(ops:List Oper):List Oper->Nat->Nat
 | [],m=>m
 |o::r,m=>X6 ops (o.op.operands.toList.foldl AL (match o.dst with|some d=>KU (FN ops r m) d|none=>FN ops r m)) o
def M8(j:List (Nat×Nat))(id:Nat):Nat:=match j with
 | []=>0
 |p::r=>bif Nat.beq p.1 id then p.2 else M8 r id
def gn:Code->Lv->Nat
 |.region _ ops _,l=>FN ops.toList ops.toList l.out
 |.seq a b,l=>gn a {l with out:=gn b l}
 |.cond c a b,l=>AL (Nat.lor (gn a l) (gn b l)) c
 |.block id c,l=>gn c {l with ex:=(id,l.out)::l.ex}
 |.loop c,l=>gn c {l with out:=gn c {l with out:=0} }
 |.rangeFunc g ps a b,l=>AL (Nat.lor l.out (ps.toList.foldl KU (gn a ⟨gn b ⟨0,l.ex,l.rt⟩,l.ex,l.rt⟩))) g
 |.scope c,l=>gn c l
 |.exit id,l=>M8 l.ex id
 |.ret,l=>l.rt
 |_,l=>l.out
def X.kY:X->Nat
 |.var i=>i+1
 |.hole _=>1000000000
 |.pair a b=>Nat.max a.kY b.kY
 |.aH _ x=>x.kY
 |.box x=>x.kY
 |.proj _ _ x=>x.kY
 |.mk _ x=>x.kY
 |.u1 _ x=>x.kY
 |.u2 _ x y=>Nat.max x.kY y.kY
 |.u3 _ x y z=>Nat.max x.kY (Nat.max y.kY z.kY)
 |_=>0
def X.fill(g:Nat->X):X->X
 |.hole p=>g p
 |.pair a b=>.pair (a.fill g) (b.fill g)
 |.aH f x=>.aH f (x.fill g)
 |.box x=>.box (x.fill g)
 |.proj i j x=>.proj i j (x.fill g)
 |.mk i x=>.mk i (x.fill g)
 |.u1 o x=>.u1 o (x.fill g)
 |.u2 o x y=>.u2 o (x.fill g) (y.fill g)
 |.u3 o x y z=>.u3 o (x.fill g) (y.fill g) (z.fill g)
 |x=>x
mutual
def TX.fill (g:Nat->X):TX->TX
 |.d t x=>.d t (x.fill g)
 |.bu t e off=>.bu t (e.fill g) off
 |.bx id k off=>.bx id (k.fill g) off
 |.bI id t x=>.bI id t (x.fill g)
 |.agg cs=>.agg (TX.j8 g cs)
 |.aL cs=>.aL (TX.j8 g cs)
 |.aH f cs=>.aH f (TX.j8 g cs)
 |t=>t
def TX.j8 (g:Nat->X):List TX->List TX
 | []=>[]
 |t::ts=>t.fill g::TX.j8 g ts
end
def AX.fill(g:Nat->X):AX->AX
 |.var ty cs=>.var ty (TX.j8 g cs)
 |.row j e t x=>.row j e t (x.fill g)
 |.map j k v x=>.map j k v (x.fill g)
 |.bw e kk t x=>.bw e kk t (x.fill g)
 |.fA e kk t x k=>.fA e kk t (x.fill g) (k.fill g)
 |a=>a
def Sk.fill(g:Nat->X)(n:Nat)(σ:Sk):Sk:=⟨n,σ.t.map λp=>(p.1,p.2.fill g),σ.l.map (AX.fill g)⟩
mutual
def TX.beq:TX->TX->Bool
 |.undef,.undef=>true
 |.gone,.gone=>true
 |.d t x,.d u y=>decide (t=u)&&X.beq x y
 |.bq s,.bq s'=>Nat.beq s s'
 |.ej,.ej=>true
 |.ptr i o,.ptr B o'=>Nat.beq i B&&Nat.beq o o'
 |.bu t e o,.bu t' F o'=>decide (t=t')&&X.beq e F&&Nat.beq o o'
 |.row i,.row j=>Nat.beq i j
 |.bx i k o,.bx B G o'=>Nat.beq i B&&X.beq k G&&Nat.beq o o'
 |.map i,.map j=>Nat.beq i j
 |.bj i,.bj j=>Nat.beq i j
 |.cC i n,.cC j m=>Nat.beq i j&&Nat.beq n m
 |.bI i t x,.bI B t' M=>Nat.beq i B&&decide (t=t')&&X.beq x M
 |.agg a,.agg b=>TX.pW a b
 |.aL a,.aL b=>TX.pW a b
 |.aH f a,.aH g b=>Nat.beq f g&&TX.pW a b
 |_,_=>false
def TX.pW:List TX->List TX->Bool
 | [],[]=>true
 |a::r,b::s=>TX.beq a b&&TX.pW r s
 |_,_=>false
end
def sF:List (Nat×TX)->List (Nat×TX)->Bool
 | [],[]=>true
 | (i,a)::r,(j,b)::s=>Nat.beq i j&&TX.beq a b&&sF r s
 |_,_=>false
def AX.beq:AX->AX->Bool
 |.dead,.dead=>true
 |.var t a,.var u b=>Nat.beq t u&&TX.pW a b
 |.row f e t x,.row N F t' B=>(f == N)&&Nat.beq e F&&decide (t=t')&&X.beq x B
 |.map f k v x,.map N G Y B=>(f == N)&&decide (k=G)&&decide (v=Y)&&X.beq x B
 |.bw e k t x,.bw F G t' B=>Nat.beq e F&&decide (k=G)&&decide (t=t')&&X.beq x B
 |.fA e k t x y,.fA F G t' B Z=>Nat.beq e F&&decide (k=G)&&decide (t=t')&&X.beq x B&&X.beq y Z
 |.dx j b r,.dx O M U=>Nat.beq j O&&Nat.beq b M&&decide (r=U)
 |.lp j b r s,.lp O M U s'=>Nat.beq j O&&Nat.beq b M&&decide (r=U)&&decide (s=s')
 |.eI,.eI=>true
 |_,_=>false
def lK:List AX->List AX->Bool
 | [],[]=>true
 |a::r,b::s=>AX.beq a b&&lK r s
 |_,_=>false
def fB(k:Nat)(t:TX):List (Nat×TX)->List (Nat×TX)
 | []=>[(k,t)]
 | (j,u)::r=>bif Nat.ble k j then(bif Nat.beq k j then(j,u)::r else(k,t)::(j,u)::r)else(j,u)::fB k t r
def wB:TX->Bool
 |.undef=>true
 |.gone=>true
 |_=>false
def jN(j:Nat):List (Nat×TX)->Nat->List (Nat×TX)
 | [],_=>[]
 | (k,t)::r,seen=>bif hasB j k && !hasB seen k then(bif wB t then jN j r (jW seen k)else fB k t (jN j r (jW seen k)))else jN j r seen
def Sk.cR(j:Nat)(σ:Sk):Sk:={σ with t:=jN j σ.t 0}
def tW(id:Nat):List Nat->Nat->Option Nat
 | [],_=>none
 |x::xs,k=>bif Nat.beq x id then some k else tW id xs (k+1)
def fF(ids:List Nat)(f:Nat->TX)(id:Nat):TX:=match tW id ids 0 with|some k=>f k|none=>.undef
def CC(ids:List Nat):TX->TX
 |.ptr id off=>fF ids (.ptr · off) id
 |.bj id=>fF ids .bj id
 |t=>t
def px(ids:List Nat):TX->TX
 |.ptr id off=>fF ids (.ptr · off) id
 |.row id=>fF ids .row id
 |.bx id k off=>fF ids (.bx · k off) id
 |.map id=>fF ids .map id
 |.bj id=>fF ids .bj id
 |.cC id n=>fF ids (.cC · n) id
 |.bI id t x=>match tW id ids 0 with|some k=>.bI k t x|none=>.d (.list t) x
 |.agg _=>.undef
 |.sub _ _ _=>.undef
 |.aL _=>.undef
 |.aH _ _=>.undef
 |.gone=>.undef
 |t=>t
def rB:TX->Bool
 |.d _ _=>true
 |.ptr _ _=>true
 |.bj _=>true
 |_=>false
def Aa:TX->Bool
 |.d _ _=>true
 |_=>false
def TX.re(ids:List Nat):TX->TX
 |.gone=>.undef
 |.sub _ _ _=>.undef
 |.ptr id off=>fF ids (.ptr · off) id
 |.row id=>fF ids .row id
 |.bx id k off=>fF ids (.bx · k off) id
 |.map id=>fF ids .map id
 |.bj id=>fF ids .bj id
 |.cC id n=>fF ids (.cC · n) id
 |.bI id t x=>match tW id ids 0 with|some k=>.bI k t x|none=>.d (.list t) x
 |.agg cs=>.agg (cs.map (px ids))
 |.aH f cs=>bif cs.all rB then .aH f (cs.map (CC ids))else .undef
 |.aL cs=>bif cs.all Aa then .aL cs else .undef
 |t=>t
def AX.re(ids:List Nat):AX->AX
 |.var ty cs=>.var ty (cs.map (TX.re ids))
 |o=>o
def Sk.re(ids:List Nat)(σ:Sk):Sk:=⟨σ.n,σ.t.map λp=>(p.1,p.2.re ids),ids.map λid=>((σ.l[id]?).getD .dead).re ids⟩
inductive Pl where
 |slot (j:Nat)
 |cell (id k:Nat)
 |obj (id:Nat)
inductive Co where
 |s7 (e:TypeId) (t:Ty)
 |data (t:Ty)
 |zT
 |grow (e:TypeId) (kk:IntKind) (t:Ty)
 |C5
def mT(j:Nat)(t:TX):List (Nat×TX)->List (Nat×TX)
 | []=>[]
 | (i,u)::r=>bif Nat.beq i j then(i,t)::r else(i,u)::mT j t r
variable [aI]
def np(σ:Sk):Pl->TX
 |.slot j=>ba σ.t j
 |.cell id k=>match σ.l[id]? with
  |some (.var _ cs)=>(cs[k]?).getD .undef
  |_=>.undef
 |.obj _=>.undef
def Na(σ:Sk):Pl->TX
 |.obj id=>.map id
 |p=>np σ p
def vp(σ:Sk)(t:TX):Pl->Sk
 |.slot j=>{σ with t:=mT j t σ.t}
 |.cell id k=>match σ.l[id]? with
  |some (.var ty cs)=>{σ with l:=σ.l.set id (.var ty (cs.set k t))}
  |_=>σ
 |.obj _=>σ
def pS(σ:Sk)(p:Pl):Co->Option Sk
 |.s7 e t=>bif !dN t then none else match np σ p with
  |.bq _=>some (vp {σ with l:=σ.l++[.row false e t (.nil t)]} (.row σ.l.length) p)
  |_=>none
 |.data t=>bif !dN t then none else match mg σ.l t (np σ p)with
  |some (x,l')=>some (vp {σ with l:=l' } (.d t x) p)
  |none=>none
 |.zT=>match np σ p with
  |.row id=>match σ.l[id]? with
   |some (.row false e t x)=>some {σ with l:=σ.l.set id (.row true e t x)}
   |_=>none
  |_=>none
 |.grow e kk t=>match Na σ p with
  |.map id=>match σ.l[id]? with
   |some a=>match CW e kk t a with
    |some x=>bif dN t&&Nat.ble 1 t.size then some {σ with l:=σ.l.set id (.bw e kk t x)}else none
    |none=>none
   |none=>none
  |_=>none
 |.C5=>match Na σ p with
  |.map id=>match σ.l[id]? with
   |some (.bw _ kk t x)=>some {σ with l:=σ.l.set id (.map false (.int kk) (.list t) x)}
   |_=>none
  |_=>none
def F6(B F:List AX)(a b:TX):Option (Option Co×Option Co):=
 match a,b with
 |.bq _,.row id=>match F[id]? with|some (.row _ e t _)=>some (some (.s7 e t),none)|_=>none
 |.row id,.bq _=>match B[id]? with|some (.row _ e t _)=>some (none,some (.s7 e t))|_=>none
 |.bq _,.d (.list t) _=>some (some (.data (.list t)),none)
 |.d (.list t) _,.bq _=>some (none,some (.data (.list t)))
 |.ej,.d (.map k v) _=>some (some (.data (.map k v)),none)
 |.d (.map k v) _,.ej=>some (none,some (.data (.map k v)))
 |.row _,.d t _=>some (some (.data t),none)
 |.d t _,.row _=>some (none,some (.data t))
 |.agg _,.d t _=>some (some (.data t),none)
 |.d t _,.agg _=>some (none,some (.data t))
 |.map _,.d t _=>some (some (.data t),none)
 |.d t _,.map _=>some (none,some (.data t))
 |.row i,.row j=>match B[i]?,F[j]? with
  |some (.row G _ _ _),some (.row M _ _ _)=>bif G == M then none else(bif G then some (none,some .zT)else some (some .zT,none))
  |_,_=>none
 |.map i,.map j=>match B[i]?,F[j]? with
  |some (.bw e k t _),some (.map false _ _ x)=>match x with
   |.lf _ _=>some (none,some (.grow e k t))
   |_=>some (some .C5,none)
  |some (.map false _ _ x),some (.bw e k t _)=>match x with
   |.lf _ _=>some (some (.grow e k t),none)
   |_=>some (none,some .C5)
  |_,_=>none
 |_,_=>none
abbrev ky:=List (Nat×Nat)
abbrev nd:=ky×ky
def zN:Nat:=1000000
def jX(p:Nat×Nat)(l:nd):nd:=bif l.1.any λq=>Nat.beq q.1 p.1 then l else
 match l.1[p.1]? with
 |some q=>bif Nat.beq q.1 (zN+p.1)then(l.1.set p.1 p,l.2++[p])else(l.1++[p],l.2++[p])
 |none=>(l.1++[p],l.2++[p])
def Oa:TX->TX->nd->nd
 |.ptr i _,.ptr j _,l=>jX (i,j) l
 |.row i,.row j,l=>jX (i,j) l
 |.bI i _ _,.bI j _ _,l=>jX (i,j) l
 |.bx i _ _,.bx j _ _,l=>jX (i,j) l
 |.map i,.map j,l=>jX (i,j) l
 |.bj i,.bj j,l=>jX (i,j) l
 |.cC i _,.cC j _,l=>jX (i,j) l
 |.aH _ a,.aH _ b,l=>(a.zip b).foldl (λl p=>match p with
  | (.ptr i _,.ptr j _)=>jX (i,j) l
  | (.bj i,.bj j)=>jX (i,j) l
  |_=>l) l
 |.agg a,.agg b,l=>(a.zip b).foldl (λl p=>match p with
  | (.ptr i _,.ptr j _)=>jX (i,j) l
  | (.row i,.row j)=>jX (i,j) l
  | (.map i,.map j)=>jX (i,j) l
  | (.bI i _ _,.bI j _ _)=>jX (i,j) l
  | (.cC i _,.cC j _)=>jX (i,j) l
  |_=>l) l
 |_,_,l=>l
def Pu(A B:Sk):List (Nat×TX)->nd->Sum (Pl×Pl×Option Co×Option Co) nd
 | [],ps=>.inr ps
 | (j,a)::r,ps=>match F6 A.l B.l a (ba B.t j)with
  |some (x,y)=>.inl (.slot j,.slot j,x,y)
  |none=>Pu A B r (Oa a (ba B.t j) ps)
def Pt(A B:Sk)(j F:Nat):List TX->List TX->Nat->nd->Sum (Pl×Pl×Option Co×Option Co) nd
 |a::r,b::s,k,ps=>match F6 A.l B.l a b with
  |some (x,y)=>.inl (.cell j k,.cell F k,x,y)
  |none=>Pt A B j F r s (k+1) (Oa a b ps)
 |_,_,_,ps=>.inr ps
def HT(A B:Sk):Nat->nd->Sum (Pl×Pl×Option Co×Option Co) ky
 |0,ps=>.inr ps.1
 |f+1,(ps,w)=>match w with
  | []=>.inr ps
  | (
     i,j)::w=>match F6 A.l B.l (.map i) (.map j)with
   |some (x,y)=>.inl (.obj i,.obj j,x,y)
   |none=>match A.l[i]?,B.l[j]? with
    |some (.var _ a),some (.var _ b)=>match Pt A B i j a b 0 (ps,w)with
     |.inl m=>.inl m
     |.inr q=>HT A B f q
    |_,_=>HT A B f (ps,w)
def ER:AX->Option (Nat×List Nat)
 |.dx _ b r=>some (b,r)
 |.lp _ b r _=>some (b,r)
 |_=>none
def Ql:List AX->Nat->Nat->Nat
 | [],_,m=>m
 |a::r,i,m=>Ql r (i+1) (match ER a with|some _=>i+1|none=>m)
def HC:List AX->Nat->List Nat
 | [],_=>[]
 |a::r,i=>match ER a with
  |some (_,rs)=>i::rs++HC r (i+1)
  |none=>HC r (i+1)
def pins(A:Sk):nd:=match Ql A.l 0 0 with
 |0=>([],[])
 |m=>let rs:=HC A.l 0
  let l:=(List.range m).map λi=>bif rs.any (Nat.beq i)then(i,i)else(zN+i,zN+i)
  (l,l)
def abp(A B:Sk):Sum (Pl×Pl×Option Co×Option Co) ky:=match Pu A B A.t (pins A)with
 |.inl m=>.inl m
 |.inr ps=>HT A B 200 ps
def zB(σ:Sk)(p:Pl):Option Co->Option Sk
 |none=>some σ
 |some c=>pS σ p c
def meet:Nat->Sk->Sk->Option (Sk×Sk×ky)
 |0,_,_=>none
 |f+1,A,B=>match abp A B with
  |.inr ps=>some (A,B,ps)
  |.inl (M,N,F,G)=>match zB A M F,zB B N G with
   |some j,some k=>meet f j k
   |_,_=>none
def ke(n0:Nat)(t:Ty)(x y:X)(h:List Ty):X×List Ty:=bif X.beq x y&&Nat.ble x.kY n0 then(x,h)else(.hole h.length,h++[t])
def rT(j k:Nat)(ps:ky):Option Nat:=ps.findIdx? λq=>Nat.beq q.1 j&&Nat.beq q.2 k
mutual
def Av (n0:Nat) (ps:ky):TX->TX->List Ty->TX×List Ty
 |.d t x,.d u y,h=>if t=u then(.d t (ke n0 t x y h).1,(ke n0 t x y h).2)else(.undef,h)
 |.bq s,.bq s',h=>bif Nat.beq s s' then(.bq s,h)else(.undef,h)
 |.ej,.ej,h=>(.ej,h)
 |.ptr i o,.ptr j o',h=>match rT i j ps with|some k=>(bif Nat.beq o o' then .ptr k o else .undef,h)|none=>(.undef,h)
 |.bu t e o,.bu t' B o',h=>if t=t' then(bif Nat.beq o o' then(.bu t (ke n0 t e B h).1 o,(ke n0 t e B h).2)else(.undef,h))else(.undef,h)
 |.row i,.row j,h=>match rT i j ps with|some k=>(.row k,h)|none=>(.undef,h)
 |.bx i k o,.bx j F o',h=>match rT i j ps with|some q=>(bif Nat.beq o o' then(.bx q (ke n0 (.int .i64) k F h).1 o,(ke n0 (.int .i64) k F h).2)else(.undef,h))|none=>(.undef,h)
 |.map i,.map j,h=>match rT i j ps with|some k=>(.map k,h)|none=>(.undef,h)
 |.bj i,.bj j,h=>match rT i j ps with|some k=>(.bj k,h)|none=>(.undef,h)
 |.cC i n,.cC j m,h=>match rT i j ps with|some k=>(bif Nat.beq n m then .cC k n else .undef,h)|none=>(.undef,h)
 |.bI i t x,.bI j u y,h=>match rT i j ps with|some k=>(if t=u then(.bI k t (ke n0 (.list t) x y h).1,(ke n0 (.list t) x y h).2)else(.undef,h))|none=>(.undef,h)
 |.agg a,.agg b,h=>(.agg (nQ n0 ps a b h).1,(nQ n0 ps a b h).2)
 |.aL a,.aL b,h=>(.aL (nQ n0 ps a b h).1,(nQ n0 ps a b h).2)
 |.aH f a,.aH g b,h=>bif Nat.beq f g then(.aH f (nQ n0 ps a b h).1,(nQ n0 ps a b h).2)else(.undef,h)
 |_,_,h=>(.undef,h)
def nQ (n0:Nat) (ps:ky):List TX->List TX->List Ty->List TX×List Ty
 |a::r,b::s,h=>((Av n0 ps a b h).1::(nQ n0 ps r s (Av n0 ps a b h).2).1,(nQ n0 ps r s (Av n0 ps a b h).2).2)
 |_,_,h=>([],h)
end
def Nl(n0:Nat)(ps:ky)(B:Sk):List (Nat×TX)->List Ty->List (Nat×TX)×List Ty
 | [],h=>([],h)
 | (j,a)::r,h=>let m:=Av n0 ps a (ba B.t j) h
  let q:=Nl n0 ps B r m.2
  (bif wB m.1 then q.1 else(j,m.1)::q.1,q.2)
def Yy(n0:Nat)(ps:ky):AX->AX->List Ty->AX×List Ty
 |.var t a,.var _ b,h=>(.var t (nQ n0 ps a b h).1,(nQ n0 ps a b h).2)
 |.row f e t x,.row _ _ _ y,h=>(.row f e t (ke n0 (.list t) x y h).1,(ke n0 (.list t) x y h).2)
 |.map f k v x,.map _ _ _ y,h=>(.map f k v (ke n0 (.map k v) x y h).1,(ke n0 (.map k v) x y h).2)
 |.bw e k t x,.bw _ _ _ y,h=>(.bw e k t (ke n0 (.map (.int k) (.list t)) x y h).1,(ke n0 (.map (.int k) (.list t)) x y h).2)
 |.dx j b r,.dx _ _ _,h=>(.dx j b r,h)
 |.lp j b r s,.lp _ _ _ _,h=>(.lp j b r s,h)
 |_,_,h=>(.dead,h)
def Nj(n0:Nat)(ps:ky)(A B:Sk):ky->List Ty->List AX×List Ty
 | [],h=>([],h)
 | (i,j)::r,h=>let m:=Yy n0 ps ((A.l[i]?).getD .dead) ((B.l[j]?).getD .dead) h
  let q:=Nj n0 ps A B r m.2
  (m.1::q.1,q.2)
def Au(n0:Nat)(A B:Sk):Option (Sk×List Ty):=match meet 40 A B with
 |some (A,B,ps)=>
  let s:=Nl n0 ps B A.t [];let q:=Nj n0 ps A B ps s.2
  some (⟨n0,s.1,q.1⟩,q.2)
 |none=>none
def ry(x y:X)(j:List (Nat×X)):List (Nat×X):=match x with
 |.hole p=>j++[(p,y)]
 |_=>j
mutual
def Lp:TX->TX->List (Nat×X)->List (Nat×X)
 |.d _ x,.d _ y,c=>ry x y c
 |.bu _ x _,.bu _ y _,c=>ry x y c
 |.bx _ x _,.bx _ y _,c=>ry x y c
 |.bI _ _ x,.bI _ _ y,c=>ry x y c
 |.agg a,.agg b,c=>wj a b c
 |.aL a,.aL b,c=>wj a b c
 |.aH _ a,.aH _ b,c=>wj a b c
 |_,_,c=>c
def wj:List TX->List TX->List (Nat×X)->List (Nat×X)
 |a::r,b::s,c=>wj r s (Lp a b c)
 |_,_,c=>c
end
def WB:AX->AX->List (Nat×X)->List (Nat×X)
 |.var _ a,.var _ b,c=>wj a b c
 |.row _ _ _ x,.row _ _ _ y,c=>ry x y c
 |.map _ _ _ x,.map _ _ _ y,c=>ry x y c
 |.bw _ _ _ x,.bw _ _ _ y,c=>ry x y c
 |_,_,c=>c
def Lo(j σ:Sk):List (Nat×X):=
 let c:=(j.t.zip σ.t).foldl (λc p=>Lp p.1.2 p.2.2 c) []
 (j.l.zip σ.l).foldl (λc p=>WB p.1 p.2 c) c
def rO:List (Nat×X)->Nat->X
 | [],_=>.unit
 | (j,x)::r,p=>bif Nat.beq j p then x else rO r p
def FW:List (Nat×TX)->Nat->Nat
 | [],m=>m
 | (j,_)::r,m=>FW r (jW m j)
def r7:List Nat->Bool
 | []=>true
 |x::xs=>!(xs.any λy=>Nat.beq x y)&&r7 xs
def oN(ids:List Nat)(l:List AX):Bool:=ids.all λid=>match l[id]? with
 |some .eI=>false
 |some a=>match ER a with
  |some (b,rs)=>Nat.ble b ids.length&&rs.all λr=>Nat.blt r b&&(match ids[r]? with|some i=>Nat.beq i r|none=>false)
  |none=>true
 |none=>true
def X.cB(n h:Nat):X->Bool
 |.var i=>Nat.blt i n
 |.hole p=>Nat.blt p h
 |.pair a b=>a.cB n h&&b.cB n h
 |.aH _ x=>x.cB n h
 |.box x=>x.cB n h
 |.proj _ _ x=>x.cB n h
 |.mk _ x=>x.cB n h
 |.u1 _ x=>x.cB n h
 |.u2 _ x y=>x.cB n h&&y.cB n h
 |.u3 _ x y z=>x.cB n h&&y.cB n h&&z.cB n h
 |_=>true
mutual
def TX.cB (n h:Nat):TX->Bool
 |.d _ x=>x.cB n h
 |.bu _ e _=>e.cB n h
 |.bx _ k _=>k.cB n h
 |.bI _ _ x=>x.cB n h
 |.sub _ _ _=>false
 |.agg cs=>TX.r9 n h cs
 |.aL cs=>TX.r9 n h cs
 |.aH _ cs=>TX.r9 n h cs
 |_=>true
def TX.r9 (n h:Nat):List TX->Bool
 | []=>true
 |t::ts=>t.cB n h&&TX.r9 n h ts
end
def AX.cB(n h:Nat):AX->Bool
 |.var _ cs=>TX.r9 n h cs
 |.row _ _ _ x=>x.cB n h
 |.map _ _ _ x=>x.cB n h
 |.bw _ _ _ x=>x.cB n h
 |.fA _ _ _ x y=>x.cB n h&&y.cB n h
 |_=>true
def Sk.cB(n h:Nat)(σ:Sk):Bool:=σ.t.all (λp=>p.2.cB n h)&&σ.l.all (AX.cB n h)
def instS(j:Sk)(k:Nat)(σ:Sk):Option (List X):=
 match meet 40 j (σ.cR (FW j.t 0))with
 |some (_,B,ps)=>
  let ids:=ps.map (·.2);let bA:=B.re ids;let vs:=Lo j bA;let xs:=(List.range k).map (rO vs);let F:=j.fill (rO vs) σ.n
  bif sF F.t bA.t&&lK F.l bA.l&&r7 ids&&oN ids B.l then some xs else none
 |none=>none
def leaves(e:Ex):Tr->List Sk
 |.leaf j σ=>if e=j then [σ]else []
 |.out _ _=>[]
 |.bQ _ t=>leaves e t
 |.get _ _ _ t=>leaves e t
 |.call _ _ _ t=>leaves e t
 |.fL _ a b=>leaves e a++leaves e b
 |.gI _ a b=>leaves e a++leaves e b
 |.join _ _ a b=>leaves e a++leaves e b
 |.loop _ _ _ b=>leaves e b
 |.bad _=>[]
def resolve(e:Ex)(j:Sk)(B:Nat):Nat->Tr->Tr
 |k,.leaf F σ=>if e=F then(match instS j B σ with|some xs=>.out k (fu xs)|none=>.bad 1)else .leaf F σ
 |_,.out k x=>.out k x
 |k,.bQ x t=>.bQ x (resolve e j B k t)
 |k,.get v xs i t=>.get v xs i (resolve e j B k t)
 |k,.call v c x t=>.call v c x (resolve e j B k t)
 |k,.fL c a b=>.fL c (resolve e j B k a) (resolve e j B k b)
 |k,.gI c a b=>.gI c (resolve e j B k a) (resolve e j B k b)
 |k,.join ty v a b=>.join ty v (resolve e j B (k+1) a) (resolve e j B k b)
 |k,.loop ty v i b=>.loop ty v i (resolve e j B (k+1) b)
 |_,.bad w=>.bad w
def ev(f:Ex->Sk->Tr):Tr->Tr
 |.leaf e σ=>f e σ
 |.out k x=>.out k x
 |.bQ x t=>.bQ x (ev f t)
 |.get v xs i t=>.get v xs i (ev f t)
 |.call v c x t=>.call v c x (ev f t)
 |.fL c a b=>.fL c (ev f a) (ev f b)
 |.gI c a b=>.gI c (ev f a) (ev f b)
 |.join ty v a b=>.join ty v (ev f a) (ev f b)
 |.loop ty v i b=>.loop ty v i (ev f b)
 |.bad w=>.bad w
def lV:Tr->Bool
 |.leaf _ _=>false
 |.out _ _=>false
 |.bQ _ t=>lV t
 |.get _ _ _ t=>lV t
 |.call _ _ _ t=>lV t
 |.fL _ a b=>lV a||lV b
 |.gI _ a b=>lV a||lV b
 |.join _ _ _ b=>lV b
 |.loop _ _ _ _=>true
 |.bad _=>false
def qi:Tr->Bool
 |.bQ _ t=>qi t
 |.get _ _ _ t=>qi t
 |.call _ _ _ t=>qi t
 |.fL _ a b=>qi a||qi b
 |.gI _ _ _=>true
 |.join _ _ _ b=>qi b
 |_=>false
def tL(v n p:Nat):X:=pf n p (.var v)
def F3(n0:Nat):Sk->List Sk->Option (Sk×List Ty)
 |A,[]=>Au n0 A A
 |A,[B]=>Au n0 A B
 |A,B::r=>match Au n0 A B with
  |some (M,_)=>F3 n0 M r
  |none=>none
def O8(ls:List Sk):Bool:=ls.any λσ=>σ.t.any λp=>(match p.2 with |.bq _=>true|_=>false)&&ls.any λj=>match ba j.t p.1 with |.row _=>true|_=>false
def vo(j n0:Nat)(T:Tr)(f:Sk->Tr):Tr:=
 match leaves .normal T with
 | []=>T
 | [_]=>bif lV T then Ah else ev (λe σ=>match e with |.normal=>f σ|e=>.leaf e σ) T
 |_=>bif lV T || !qi T||O8 (leaves .normal T)then Ah else ev (λe σ=>match e with |.normal=>f σ|e=>.leaf e σ) T
where Ah:Tr:=match leaves .normal T with
 | []=>T
 |σ::r=>match F3 n0 (σ.cR j) (r.map (Sk.cR j))with
  |some (M,ts)=>bif M.cB n0 ts.length then .join (aP ts) n0 (resolve .normal M ts.length 0 T) (f (M.fill (tL n0 ts.length) (n0+1)))else .bad 13
  |none=>.bad 2
def qj(t:Tr):Nat->List Ins->Tr
 |_,[]=>t
 |n,.bQ x::r=>.bQ x (qj t n r)
 |n,.get xs k::r=>.get n xs k (qj t (n+1) r)
 |n,.call c x::r=>.call n c x (qj t (n+1) r)
def kP(n:Nat):List Ins->Nat
 | []=>n
 |.bQ _::r=>kP n r
 |_::r=>kP (n+1) r
def jm(t:List (Nat×TX))(j:Option Nat)(x:TX):List (Nat×TX):=match j with|some d=>(d,x)::t|none=>t
def s8(σ:Sk)(j:Option Nat)(r:dr):Sk:=⟨kP σ.n r.ins,jm σ.t j r.t,match r.bE with |.none=>σ.l |.new a=>σ.l++[a] |.aQ l'=>l'⟩
inductive Gd where
 |yes
 |no
 |ask (x:X) (b:Bool)
 |bad
def nD(ops:List Oper)(σ:Sk):Option (Nat×Bool)->Gd
 |none=>.yes
 |some (j,b)=>match (ops[j]?).bind (·.dst)with
  |some d=>match ba σ.t d with
   |.d .bool (.bool c)=>bif c == b then .yes else .no
   |.d .bool x=>.ask x b
   |.gone=>.no
   |_=>.bad
  |none=>.bad
def oG(x:X)(b:Bool):List (Nat×TX)->List (Nat×TX)
 | []=>[]
 | (j,.d .bool y)::r=>(j,.d .bool (bif X.beq x y then .bool b else y))::oG x b r
 |p::r=>p::oG x b r
def Sk.decide(x:X)(b:Bool)(σ:Sk):Sk:={σ with t:=oG x b σ.t}
def Xd(ops:List Oper)(m:Nat)(o:Oper):Nat:=match o.guard with
 |some (j,_)=>(match (ops[j]?).bind (·.dst)with|some d=>jW m d|none=>m)
 |none=>m
def MX(j:Nat)(ops r:List Oper):Nat:=r.foldl (Xd ops) (Zl j r)
abbrev yL:=Oper->Nat->Sk->Option ((TX->Sk->Tr)->Tr)
def mc(C:Cx)(H:yL)(j:Nat)(ops:List Oper):List Oper->Sk->Tr
 | [],σ=>.leaf .normal σ
 |o::r,σ=>
  let k:=λ(σ:Sk)=>bif !eE C.nt o.dst then .bad 15 else match rn C ops (gJ σ.t) σ.l σ.n σ.l.length o with
   |some q=>qj (mc C H j ops r (s8 σ o.dst q)) σ.n q.ins
   |none=>match H o (MX j ops r) σ with
    |some F=>F λx B=>mc C H j ops r ⟨B.n,jm B.t o.dst x,B.l⟩
    |none=>.bad (30000+o.dst.getD 9999)
  let skip:=λ(σ:Sk)=>bif !eE C.nt o.dst then .bad 16 else mc C H j ops r {σ with t:=jm σ.t o.dst .gone}
  match nD ops σ o.guard with
  |.yes=>k σ
  |.no=>skip σ
  |.ask x b=>.fL x (bif b then k (σ.decide x true)else skip (σ.decide x true)) (bif b then skip (σ.decide x false)else k (σ.decide x false))
  |.bad=>.bad 4
def wH(F n0:Nat)(B:Sk->Tr):Nat->Sk->Sk->Tr
 |0,_,_=>.bad 5
 |f+1,σ,A=>
  match Au n0 A A with
  |some (k,j)=>
   let T:=B (k.fill (tL n0 j.length) (n0+1))
   match F3 n0 A ((leaves .normal T).map (Sk.cR F))with
   |some (M,ts)=>match instS k j.length σ with
    |some xs=>match (leaves .normal T).all λG=>(instS k j.length G).isSome with
     |true=>bif k.cB n0 j.length then .loop (aP j) n0 (fu xs) (resolve .normal k j.length 0 T)else .bad 14
     |false=>wH F n0 B f σ M
    |none=>wH F n0 B f σ M
   |none=>.bad 6
  |none=>.bad 7
def qR:List Ty->Type
 | []=>Empty
 | [t]=>t.den
 |t::u::r=>t.den⊕qR (u::r)
def kO:(j:List Ty)->Nat->V->Option (qR j)
 | [],_,_=>none
 | [t],0,v=>dc t v
 | [_],_+1,_=>none
 |t::_::_,0,v=>match dc t v with
  |some x=>some (.inl x)
  |none=>none
 |_::u::r,k+1,v=>match kO (u::r) k v with
  |some y=>some (.inr y)
  |none=>none
def jv:Nat->Tr->Bool
 |_,.leaf _ _=>false
 |k,.out j _=>Nat.blt k j
 |k,.bQ _ t=>jv k t
 |k,.get _ _ _ t=>jv k t
 |k,.call _ _ _ t=>jv k t
 |k,.fL _ a b=>jv k a||jv k b
 |k,.gI _ a b=>jv k a||jv k b
 |k,.join _ _ a b=>jv (k+1) a||jv k b
 |k,.loop _ _ _ b=>jv (k+1) b
 |_,.bad _=>false
structure Callee where
 f:FuncId
 args:List Ty
 res:List Ty
 fn:(aP args).den->Option (aP res).den
def ae{β:Type}(p:Bool)(o:Option β):Option β:=match p with|true=>o|false=>none
def XA(t:Ty):(j:List Ty)->Option (qR (t::j))->(t.den->Option (qR j))->Option (qR j)
 | [],o,f=>aa o f
 |_::_,o,f=>aa o λx=>match x with
  |.inl z=>f z
  |.inr y=>some y
def aR{α β:Type}(o:Option (α⊕β))(f:α->Option β):Option β:=aa o λx=>match x with
 |.inl z=>f z
 |.inr y=>some y
noncomputable def pd{β:Type}(e:Bool)(a b:Option β):Option β:=open Classical in match e with|true=>if a=b then b else none|false=>b
noncomputable def Tr.den(cs:List Callee):(sig:List Ty)->Tr->aU->Option (qR sig)
 |_,.leaf _ _,_=>none
 |sig,.out k x,ρ=>match x.den ρ with
  |some v=>kO sig k v
  |none=>none
 |sig,.bQ x t,ρ=>match x.den ρ with
  |some ⟨.bool,b⟩=>ae b (Tr.den cs sig t ρ)
  |_=>none
 |sig,.get v xs k t,ρ=>match xs.den ρ,k.den ρ with
  |some ⟨.list j,l⟩,some ⟨.int _,i⟩=>aa (an (α:=j.den) l i) λe=>Tr.den cs sig t ((v,⟨j,e⟩)::ρ)
  |_,_=>none
 |sig,.call v c x t,ρ=>match cs[c]? with
  |some C=>match x.den ρ with
   |some u=>match dc (aP C.args) u with
    |some a=>aa (C.fn a) λr=>Tr.den cs sig t ((v,⟨aP C.res,r⟩)::ρ)
    |none=>none
   |none=>none
  |none=>none
 |sig,.fL c a b,ρ=>match c.den ρ with
  |some ⟨.bool,b0⟩=>ab b0 (Tr.den cs sig a ρ) (Tr.den cs sig b ρ)
  |_=>none
 |sig,.gI c a b,ρ=>match c.den ρ with
  |some ⟨.list _,xs⟩=>pd (List.isEmpty xs) (Tr.den cs sig a ρ) (Tr.den cs sig b ρ)
  |_=>none
 |sig,.join ty v a b,ρ=>bif jv 0 a then XA ty sig (Tr.den cs (ty::sig) a ρ) λz=>Tr.den cs sig b ((v,⟨ty,z⟩)::ρ)
  else aa (Tr.den cs [ty] a ρ) λz=>Tr.den cs sig b ((v,⟨ty,z⟩)::ρ)
 |sig,.loop ty v init body,ρ=>match sig with
  | []=>none
  |s::r=>match init.den ρ with
   |some u=>match dc ty u with
    |some B=>aA (λz=>Tr.den cs (ty::s::r) body ((v,⟨ty,z⟩)::ρ)) B
    |none=>none
   |none=>none
 |_,.bad _,_=>none
def nu:(ts:List Ty)->(aP ts).den->Nat->aU
 | [],_,_=>[]
 | [t],x,k=>[(k,⟨t,x⟩)]
 |t::u::ts,x,k=>(k,⟨t,x.1⟩)::nu (u::ts) x.2 (k+1)
noncomputable def nB(cs:List Callee)(T:Tr)(j k:List Ty)(a:(aP j).den):Option (aP k).den:=Tr.den cs [aP k] T (nu j a 0)
end Go.Sy
namespace Go.Sy
open Go Go.ak
inductive F2{α β:Type}(R:α->β->Prop):List α->List β->Prop
 |nil:F2 R [] []
 |cons {a b as bs}:R a b->F2 R as bs->F2 R (a::as) (b::bs)
section
variable {α β:Type}{R S:α->β->Prop}
theorem F2.mono(h:∀a b,R a b->S a b){as:List α}{j:List β}(k:F2 R as j):F2 S as j:=by
 induction k with
 |nil=>exact .nil
 |cons B _ F=>exact .cons (h _ _ B) F
def F2.len{as:List α}{j:List β}(k:F2 R as j):as.length=j.length:=by
 induction k with
 |nil=>rfl
 |cons _ _ B=>simp[B]
def F2.app{as cs:List α}{j ds:List β}(h:F2 R as j)(k:F2 R cs ds):F2 R (as++cs) (j++ds):=by
 induction h with
 |nil=>exact k
 |cons B _ F=>exact .cons B F
def F2.take{as:List α}{j:List β}(h:F2 R as j):∀n,F2 R (as.take n) (j.take n):=by
 induction h with
 |nil=>intro n;simp;exact .nil
 |cons k _ B=>intro n;cases n with
  |zero=>exact .nil
  |succ n=>exact .cons k (B n)
def F2.drop{as:List α}{j:List β}(h:F2 R as j):∀n,F2 R (as.drop n) (j.drop n):=by
 induction h with
 |nil=>intro n;simp;exact .nil
 |cons k B F=>intro n;cases n with
  |zero=>exact .cons k B
  |succ n=>exact F n
theorem F2.get{as:List α}{B:List β}(h:F2 R as B):∀{i:Nat}{a b},as[i]?=some a->B[i]?=some b->R a b:=by
 induction h with
 |nil=>intro i a b j;simp at j
 |cons F _ G=>intro i a b j k;cases i with
  |zero=>simp at j k;subst j;subst k;exact F
  |succ i=>simp at j k;exact G j k
def F2.left{as:List α}{j:List β}(h:F2 R as j){i:Nat}{a}(k:as[i]?=some a):∃b,j[i]?=some b/\R a b:=by
 have hi:=(db.1 k).1;have B:j[i]?=some (j[i]'(by rw[<-h.len];exact hi)):=c5 _;exact⟨_,B,h.get k B⟩
def F2.right{as:List α}{j:List β}(h:F2 R as j){i:Nat}{b}(B:j[i]?=some b):∃a,as[i]?=some a/\R a b:=by
 have hi:=(db.1 B).1;have k:as[i]?=some (as[i]'(by rw[h.len];exact hi)):=c5 _;exact⟨_,k,h.get k B⟩
theorem F2.none{as:List α}{j:List β}(h:F2 R as j){i:Nat}(k:as[i]?=none):j[i]?=none:=by
 rw[u6]at k⊢;rw[<-h.len];exact k
theorem F2.set{as:List α}{j:List β}(h:F2 R as j){a b}(F:R a b):∀i,F2 R (as.set i a) (j.set i b):=by
 induction h with
 |nil=>intro i;simp;exact .nil
 |cons k B G=>intro i;cases i with
  |zero=>exact .cons F B
  |succ i=>exact .cons k (G i)
theorem F2.map{k:Type}{f:k->α}{as:List k}{j:List β}(h:F2 (λc b=>R (f c) b) as j):F2 R (as.map f) j:=by
 induction h with
 |nil=>exact .nil
 |cons B _ F=>exact .cons B F
theorem F2.of{as:List α}{j:List β}(hl:as.length=j.length)(h:∀(i:Nat) a b,as[i]?=some a->j[i]?=some b->R a b):F2 R as j:=by
 induction as generalizing j with
 |nil=>cases j with
  |nil=>exact .nil
  |cons _ _=>simp at hl
 |cons a as F=>cases j with
  |nil=>simp at hl
  |cons b j=>exact .cons (h 0 a b rfl rfl) (F (by simpa using hl) λi x y k B=>h (i+1) x y k B)
end
def X.beq_eq:∀{x y:X},X.beq x y=true->x=y:=by
 intro x;induction x<;>intro y h<;>cases y<;>simp[X.beq]at h<;>simp_all<;>grind
def Ext[bT](ρ ρ':aU):Prop:=∀i v,lk ρ i=some v->lk ρ' i=some v
theorem Ext.refl[bT](ρ:aU):Ext ρ ρ:=λ_ _ h=>h
theorem Ext.trans[bT]{a b c:aU}(h:Ext a b)(k:Ext b c):Ext a c:=λi v x=>k i v (h i v x)
def ep[bT](n:Nat)(ρ:aU):Prop:=∀p∈ρ,p.1<n
def FF[bT]{n:Nat}:∀{ρ:aU}{i:Nat}{v:V},ep n ρ->lk ρ i=some v->i<n
 | (j,w)::r,i,v,k,h=>by
  simp only[lk]at h;cases B:Nat.beq j i with
  |true=>
   have:=eb B;subst this;exact k (j,w) (by simp)
  |false=>
   rw[B]at h;exact FF (λp F=>k p (by simp[F])) h
def Ext.push[bT]{n:Nat}{ρ:aU}(j:ep n ρ)(v:V):Ext ρ ((n,v)::ρ):=λi u h=>by
 have:=FF j h;have k:Nat.beq n i=false:=by
  cases e:Nat.beq n i with
  |false=>rfl
  |true=>have:=eb e;omega
 simp only[lk,k,cond_false];exact h
def ep.push[bT]{n m:Nat}{ρ:aU}(j:ep n ρ)(h:n<m)(v:V):ep m ((n,v)::ρ):=λp hp=>by
 rcases fa.1 hp with rfl|hp
 ·exact h
 have:=j p hp;omega
def jB[bT](n:Nat)(v:V)(ρ:aU):lk ((n,v)::ρ) n=some v:=by
 have:Nat.beq n n=true:=h6 n;simp[lk,this]
def oD[bT]{t:Ty}{v:V}{a:t.den}(h:dc t v=some a):v=⟨t,a⟩:=by
 obtain⟨u,b⟩:=v;unfold dc at h;split at h
 ·rename_i j;cases j;simp at h;rw[h]
 cases h
def gb[bT](t:Ty)(a:t.den):dc t ⟨t,a⟩=some a:=by simp[dc]
variable [aI]
def X.eT{ρ ρ':aU}(h:Ext ρ ρ'):∀{x:X}{v:V},x.den ρ=some v->x.den ρ'=some v:=by
 intro x;induction x with
 |var i=>intro v hv;exact h i v hv
 |pair a b Y Z=>
  intro v hv;simp only[X.den]at hv⊢;cases N:a.den ρ<;>cases O:b.den ρ<;>simp[N,O]at hv
  rw[Y N,Z O];simp[hv]
 |aH f x F|box x F|proj i j x F|mk i x F|u1 o x F=>
  intro v hv;simp only[X.den]at hv⊢;cases k:x.den ρ<;>simp[k]at hv
  rw[F k];simpa using hv
 |u2 o x y G M=>
  intro v hv;simp only[X.den]at hv⊢;cases k:x.den ρ<;>cases B:y.den ρ<;>simp[k,B]at hv
  rw[G k,M B];simpa using hv
 |u3 o x y z G M aa=>
  intro v hv;simp only[X.den]at hv⊢;cases k:x.den ρ<;>cases B:y.den ρ<;>cases U:z.den ρ<;>simp[k,B,U]at hv
  rw[G k,M B,aa U];simpa using hv
 |_=>intro v hv;exact hv
def cellsOf:(ts:List Ty)->(aP ts).den->List D
 | [],_=>[]
 | [t],x=>(t.enc x).cells
 |t::u::ts,x=>(t.enc x.1).cells++cellsOf (u::ts) x.2
class cz:Prop where
 cells:∀i a,aI.cells i a=cellsOf (aI.bW i) (aI.un i a)
 len:∀i a,(aI.cells i a).length=aI.sz i
 AJ:∀i a,∀x∈aI.cells i a,x.one=true
def lN{t:Ty}(h:cd t=false)(j:∀a b,t ≠ .aL a b)(k:t ≠ .unit)(v:t.den):(t.enc v).cells=[t.enc v]/\(t.enc v).one=true:=by
 cases t<;>simp_all [cd,Ty.enc,Ty.eZ,D.cells,D.one]
def isVal(t:Ty):Prop:=(∀a b,t ≠ .aL a b)/\t ≠ .unit
def RC(ρ:aU)(p:Ty×X)(d:D):Prop:=isVal p.1/\∃v:p.1.den,p.2.den ρ=some ⟨p.1,v⟩/\d=p.1.enc v
theorem Qn{x y:X}{r:List X}:fu (x::y::r)=.pair x (fu (y::r)):=rfl
theorem ou{ρ:aU}:∀{ts:List Ty}{xs:List X}{a:(aP ts).den},xs.length=ts.length->(∀j t,ts[j]?=some t->∃x,xs[j]?=some x/\x.den ρ=cK ts a j)->(fu xs).den ρ=some ⟨aP ts,a⟩
 | [],[],a,_,_=>by cases a;rfl
 | [t],[x],a,_,h=>by
  obtain⟨y,F,k⟩:=h 0 t rfl;simp at F;subst F;exact k
 |t::u::ts,x::y::xs,a,hl,h=>by
  obtain⟨O,B,k⟩:=h 0 t rfl;simp at B;subst B;have N:=ou (ts:=u::ts) (xs:=y::xs) (a:=a.2) (by simpa using hl) (λj v hv=>by
   obtain⟨z,G,M⟩:=h (j+1) v (by simpa using hv);exact⟨z,by simpa using G,by simpa [cK]using M⟩)
  rw[Qn];simp only[X.den,k,cK,N];rfl
 | [],_::_,_,hl,_=>by simp at hl
 |_::_,[],_,hl,_=>by simp at hl
 | [_],_::_::_,_,hl,_=>by simp at hl
 |_::_::_,[_],_,hl,_=>by simp at hl
theorem NL:∀{ts:List Ty}{j:Nat}{t:Ty}(a:(aP ts).den),ts[j]?=some t->∃v:t.den,cK ts a j=some ⟨t,v⟩
 | [],j,t,a,h=>by simp at h
 | [u],0,t,a,h=>by simp at h;subst h;exact⟨a,rfl⟩
 | [u],j+1,t,a,h=>by simp at h
 |u::w::ts,0,t,a,h=>by simp at h;subst h;exact⟨a.1,rfl⟩
 |u::w::ts,j+1,t,a,h=>by
  obtain⟨v,hv⟩:=NL (ts:=w::ts) a.2 (by simpa using h);exact⟨v,hv⟩
theorem L7{ρ:aU}{t u:Ty}{p:t.den×u.den}{x:X}(h:x.den ρ=some ⟨.aL t u,p⟩):(tQ x).den ρ=some ⟨t,p.1⟩:=by
 have key:∀y:X,y.den ρ=some ⟨.aL t u,p⟩->(X.u1 .fst y).den ρ=some ⟨t,p.1⟩:=λy F=>by simp only[X.den,F];rfl
 by_cases B:∃a b,x=.pair a b
 ·obtain⟨a,b,rfl⟩:=B;simp only[X.den]at h;cases j:X.den ρ a<;>cases k:X.den ρ b<;>simp[j,k]at h
  rename_i v w;obtain⟨G,M⟩:=v;obtain⟨N,O⟩:=w;cases h;simp[tQ,j,k]
 have:tQ x=.u1 .fst x:=by
  unfold tQ;split
  ·exact absurd ⟨_,_,rfl⟩ B
  rfl
 rw[this];exact key x h
theorem PM{ρ:aU}{t u:Ty}{p:t.den×u.den}{x:X}(h:x.den ρ=some ⟨.aL t u,p⟩):(vu x).den ρ=some ⟨u,p.2⟩:=by
 have key:∀y:X,y.den ρ=some ⟨.aL t u,p⟩->(X.u1 .snd y).den ρ=some ⟨u,p.2⟩:=λy F=>by simp only[X.den,F];rfl
 by_cases B:∃a b,x=.pair a b
 ·obtain⟨a,b,rfl⟩:=B;simp only[X.den]at h;cases j:X.den ρ a<;>cases k:X.den ρ b<;>simp[j,k]at h
  rename_i v w;obtain⟨G,M⟩:=v;obtain⟨N,O⟩:=w;cases h;simp[vu,j,k]
 have:vu x=.u1 .snd x:=by
  unfold vu;split
  ·exact absurd ⟨_,_,rfl⟩ B
  rfl
 rw[this];exact key x h
theorem wY{ρ:aU}:∀{ts:List Ty}{x:X}{a:(aP ts).den}(j:Nat),x.den ρ=some ⟨aP ts,a⟩->j<ts.length->(pf ts.length j x).den ρ=cK ts a j
 | [t],x,a,0,h,_=>h
 | [t],_,_,j+1,_,hl=>by simp at hl
 |t::u::ts,x,a,0,h,_=>L7 (t:=t) (u:=aP (u::ts)) (p:=a) h
 |t::u::ts,x,a,j+1,h,hl=>wY (ts:=u::ts) j (PM (t:=t) (u:=aP (u::ts)) (p:=a) h) (by simpa using hl)
def Om{ρ:aU}{i j:Nat}{x:X}{a:bT.cp i}(h:x.den ρ=some ⟨.st i,a⟩):(X.proj i j x).den ρ=cK (aI.bW i) (aI.un i a) j:=by
 simp only[X.den,h,gb (.st i) a]
def YD{ρ:aU}{i k:Nat}{y:X}{a:bT.cp i}(h:(X.mk k y).den ρ=some ⟨.st i,a⟩):k=i/\y.den ρ=some ⟨aP (aI.bW i),aI.un i a⟩:=by
 simp only[X.den]at h;cases B:y.den ρ with
 |none=>simp[B]at h
 |some v=>
  simp only[B]at h;cases j:dc (aP (aI.bW k)) v with
  |none=>simp[j]at h
  |some b=>
   simp only[j]at h;have hv:=oD j;injection h with h;cases h;refine⟨rfl,?_⟩;rw[hv,aI.pI]
def Np{ρ:aU}{i:Nat}{y:X}{a:(aP (aI.bW i)).den}(h:y.den ρ=some ⟨aP (aI.bW i),a⟩):(X.mk i y).den ρ=some ⟨.st i,aI.eH i a⟩:=by
 simp only[X.den,h,gb]
def ZH{ρ:aU}{i j:Nat}{x:X}{a:bT.cp i}(h:x.den ρ=some ⟨.st i,a⟩)(F:j<(aI.bW i).length):(vg i j x).den ρ=cK (aI.bW i) (aI.un i a) j:=by
 by_cases k:∃B y,x=.mk B y
 ·obtain⟨B,y,rfl⟩:=k;obtain⟨rfl,G⟩:=YD h;simp only[vg,h6,cond_true];exact wY j G F
 have:vg i j x=.proj i j x:=by
  unfold vg;split
  ·exact absurd ⟨_,_,rfl⟩ k
  rfl
 rw[this];exact Om h
def I4{i:Nat}{x:X}:∀{xs:List X}{j k:Nat}{y:X},qX i x j xs=true->xs[k]?=some y->y=.proj i (j+k) x
 | [],j,k,y,_,h=>by simp at h
 |z::r,j,k,y,h,hk=>by
  have aa:∃B F w,z=.proj B F w:=by
   cases z<;>simp[qX]at h
   exact⟨_,_,_,rfl⟩
  obtain⟨B,F,w,rfl⟩:=aa;simp only[qX,dk]at h;obtain⟨⟨⟨O,U⟩,Y⟩,Z⟩:=h;have G:=eb O;have M:=eb U;have N:=X.beq_eq Y;subst G;subst M;subst N;cases k with
  |zero=>simp at hk;exact hk.symm
  |succ k=>simp at hk;rw[I4 Z hk];congr 1;omega
def jH(ρ:aU)(ts:List Ty)(xs:List X)(a:(aP ts).den):Prop:=xs.length=ts.length/\∀j t,ts[j]?=some t->∃x,xs[j]?=some x/\x.den ρ=cK ts a j
theorem Qq:∀{ts:List Ty}{a b:(aP ts).den},(∀j,j<ts.length->cK ts a j=cK ts b j)->a=b
 | [],a,b,_=>by cases a;cases b;rfl
 | [t],a,b,h=>by
  have:=h 0 (by simp);simp only[cK]at this;injection this with this;cases this;rfl
 |t::u::ts,a,b,h=>by
  have h0:=h 0 (by simp);simp only[cK]at h0;have h0:a.1=b.1:=by
   injection h0 with h0;injection h0
  have:=Qq (ts:=u::ts) (a:=a.2) (b:=b.2) (λj k=>by simpa [cK]using h (j+1) (by simpa using k));exact Prod.ext h0 this
def zJ{ρ:aU}{i:Nat}{xs:List X}{a:(aP (aI.bW i)).den}(h:jH ρ (aI.bW i) xs a):(p9 i xs).den ρ=some ⟨.st i,aI.eH i a⟩:=by
 have ae:(X.mk i (fu xs)).den ρ=some ⟨.st i,aI.eH i a⟩:=Np (ou h.1 h.2);by_cases O:∃B x r,xs=.proj B 0 x::r/\(Nat.beq i B&&qX i x 1 r&&Nat.beq (r.length+1) (aI.bW i).length)=true
 ·obtain⟨B,x,r,rfl,k⟩:=O;have e:p9 i (.proj B 0 x::r)=x:=by simp only[p9,k,cond_true]
  rw[e];simp only[dk]at k;obtain⟨⟨Z,aa⟩,ab⟩:=k;have Y:=eb Z;have ah:=eb ab;subst Y;have N:0<(aI.bW i).length:=by omega
  have key:∀j t,(aI.bW i)[j]?=some t->(X.proj i j x).den ρ=cK (aI.bW i) a j:=λj t ht=>by
   obtain⟨y,F,G⟩:=h.2 j t ht;cases j with
   |zero=>simp at F;subst F;exact G
   |succ j=>
    simp at F;have:=I4 aa F;rw[this,adL]at G;exact G
  have h0:=key 0 _ (c5 N);obtain⟨v0,af⟩:=NL a (c5 N);rw[af]at h0;have ag:∃b:bT.cp i,x.den ρ=some ⟨.st i,b⟩:=by
   simp only[X.den]at h0;cases U:x.den ρ with
   |none=>simp[U]at h0
   |some w=>
    simp only[U]at h0;cases k:dc (.st i) w with
    |none=>simp[k]at h0
    |some b=>exact⟨b,by rw[oD k]⟩
  obtain⟨b,M⟩:=ag;have:aI.un i b=a:=Qq λj ad=>by
   have:=key j _ (c5 ad);rw[Om M]at this;exact this
  rw[M,<-this,aI.Ga]
 have e:p9 i xs=.mk i (fu xs):=by
  unfold p9;split
  ·rename_i B x r;cases k:(Nat.beq i B&&qX i x 1 r&&Nat.beq (r.length+1) (aI.bW i).length)with
   |true=>exact absurd ⟨B,x,r,rfl,k⟩ O
   |false=>simp
  rfl
 rw[e];exact ae
class dg:Prop where
 val:∀i t,t∈aI.bW i->isVal t
def rj[cz][dg]{ρ:aU}:∀(f:Nat){t:Ty}{x:X}{v:t.den}{cs:List (Ty×X)},isVal t->x.den ρ=some ⟨t,v⟩->fI f t x=some cs->F2 (RC ρ) cs (t.enc v).cells:=by
 intro f;induction f with
 |zero=>intro t x v cs _ _ h;simp[fI]at h
 |succ f ab=>
  intro t x v cs U aa h;by_cases ag:∃i,t=.st i
  ·obtain⟨i,rfl⟩:=ag;simp only[fI]at h;have key:∀(ts:List Ty)(j:Nat)(cs:List (Ty×X))(b:(aP ts).den),(∀k t,ts[k]?=some t->(aI.bW i)[j+k]?=some t)->(∀k,k<ts.length->cK ts b k=cK (aI.bW i) (aI.un i v) (j+k)) ->
     rk (fI f) i x ts j=some cs->F2 (RC ρ) cs (cellsOf ts b):=by
    intro ts;induction ts with
    |nil=>intro j cs b _ _ h;simp[rk]at h;subst h;exact .nil
    |cons t ts ah=>
     intro j cs b Z Y h;simp only[rk]at h;cases B:fI f t (vg i j x)with
     |none=>simp[B]at h
     |some a=>
      cases F:rk (fI f) i x ts (j+1)with
      |none=>simp[B,F]at h
      |some r=>
       simp only[B,F]at h;injection h with h;subst h;have O:(aI.bW i)[j]?=some t:=by simpa using Z 0 t rfl
       have ae:=(db.1 O).1;have M:=ZH (j:=j) aa ae;have G:=Y 0 (by simp);cases ts with
       |nil=>
        simp only[cK,Nat.add_zero]at G;rw[<-G]at M;simp[rk]at F;subst F;rw[iu];exact ab (dg.val i t (dd O)) M B
       |cons u ts=>
        simp only[cK,Nat.add_zero]at G;rw[<-G]at M;refine F2.app (ab (dg.val i t (dd O)) M B) ?_;refine ah (j+1) r b.2 (λk w N=>?_) (λk N=>?_) F
        ·have:=Z (k+1) w (by simpa using N);rwa [r0,adL 1 k]
        have:=Y (k+1) (by simpa using N);simp only[cK]at this;rwa [r0,adL 1 k]
   have:=key (aI.bW i) 0 cs (aI.un i v) (λk t h=>by simpa using h) (λk _=>by simp) h;have e:((Ty.st i).enc v).cells=cellsOf (aI.bW i) (aI.un i v):=cz.cells i v;rw[e];exact this
  have af:cd t=false:=by cases t<;>simp_all [cd]
  have ad:fI (f+1) t x=some [(t,x)]:=by cases t<;>simp_all [fI]
  rw[ad]at h;injection h with h;subst h;rw[(lN af U.1 U.2 v).1];exact .cons ⟨U,v,aa,rfl⟩ .nil
def YB[cz][dg]{ρ:aU}:∀(f:Nat){t:Ty}{cs r:List (Ty×X)}{x:X}{ds:List D},isVal t->l4 f t cs=some (x,r)->F2 (RC ρ) cs ds ->
  ∃v k,x.den ρ=some ⟨t,v⟩/\ds=(t.enc v).cells++k/\F2 (RC ρ) r k:=by
 intro f;induction f with
 |zero=>intro t cs r x ds _ h;simp[l4]at h
 |succ f aq=>
  intro t cs r x ds ab h M;by_cases an:∃i,t=.st i
  ·obtain⟨i,rfl⟩:=an;simp only[l4]at h;cases N:rV (l4 f) (aI.bW i) cs with
   |none=>simp[N]at h
   |some p=>
    obtain⟨xs,au⟩:=p;simp only[N]at h;injection h with h;injection h with B F;subst B;subst F;have key:∀(ts:List Ty)(cs:List (Ty×X))(ds:List D)(xs:List X)(r:List (Ty×X)),(∀t∈ts,isVal t)->rV (l4 f) ts cs=some (xs,r)->F2 (RC ρ) cs ds ->
      ∃(a:(aP ts).den)(k:List D),jH ρ ts xs a/\ds=cellsOf ts a++k/\F2 (RC ρ) r k:=by
     intro ts;induction ts with
     |nil=>intro cs ds xs r _ h M;simp[rV]at h;obtain⟨rfl,rfl⟩:=h;exact⟨(),ds,⟨rfl,λj t h=>by simp at h⟩,rfl,M⟩
     |cons t ts ar=>
      intro cs ds xs r hv h M;simp only[rV]at h;cases B:l4 f t cs with
      |none=>simp[B]at h
      |some p=>
       obtain⟨x,Y⟩:=p;simp only[B]at h;cases F:rV (l4 f) ts Y with
       |none=>simp[F]at h
       |some p=>
        obtain⟨ys,ae⟩:=p;simp only[F]at h;injection h with h;injection h with ag ah;subst ag;subst ah;obtain⟨v,af,ad,rfl,aj⟩:=aq (hv t (by simp)) B M;obtain⟨a,Z,O,rfl,aa⟩:=ar Y af ys ae (λt ht=>hv t (by simp[ht])) F aj;cases ts with
        |nil=>
         obtain⟨hl,_⟩:=O;have:ys=[]:=by simpa using hl
         subst this;refine⟨v,Z,⟨rfl,λj w G=>?_⟩,?_,aa⟩
         ·cases j with
          |zero=>simp at G;subst G;exact⟨x,rfl,ad⟩
          |succ j=>simp at G
         simp[cellsOf]
        |cons u ts=>
         refine⟨(v,a),Z,⟨by simp[O.1],λj w G=>?_⟩,by simp[cellsOf],aa⟩;cases j with
         |zero=>simp at G;subst G;exact⟨x,rfl,by simpa [cK]using ad⟩
         |succ j=>
          obtain⟨y,ao,ak⟩:=O.2 j w (by simpa using G);exact⟨y,by simpa using ao,by simpa [cK]using ak⟩
    obtain⟨a,k,O,rfl,U⟩:=key (aI.bW i) cs ds xs au (λt ht=>dg.val i t ht) N M;refine⟨aI.eH i a,k,zJ O,?_,U⟩;have e:((Ty.st i).enc (aI.eH i a)).cells=cellsOf (aI.bW i) (aI.un i (aI.eH i a)):=cz.cells i (aI.eH i a);rw[e,aI.pI]
  have al:cd t=false:=by cases t<;>simp_all [cd]
  cases M with
  |nil=>exfalso;cases t<;>simp_all [l4]
  |cons ai U=>
   rename_i p d ps ds;obtain⟨u,y⟩:=p;have N:l4 (f+1) t ((u,y)::ps)=if t=u then some (y,ps)else none:=by cases t<;>simp_all [l4]
   rw[N]at h;split at h
   ·rename_i e;subst e;injection h with h;injection h with B F;subst B;subst F;obtain⟨_,v,hv,rfl⟩:=ai;exact⟨v,ds,hv,by rw[(lN al ab.1 ab.2 v).1];rfl,U⟩
   cases h
def F7[cz][dg]{ρ:aU}{t:Ty}{cs:List (Ty×X)}{x:X}{ds:List D}(hv:isVal t)(h:wQ t cs=some x)(F:F2 (RC ρ) cs ds):∃v,x.den ρ=some ⟨t,v⟩/\ds=(t.enc v).cells:=by
 unfold wQ at h;split at h
 ·rename_i y G;injection h with h;subst h;obtain⟨v,M,j,k,B⟩:=YB _ hv G F;cases B;exact⟨v,j,by simpa using k⟩
 cases h
end Go.Sy
namespace Go.ak
open Go cL
variable {α:Type}
def kE(p:Int×α):D:=.int .i64 p.1
def vE[cL α](p:Int×α):D:=enc p.2
def F5(n:Int)(x:List (Int×α)):Option Nat:=x.findIdx? λp=>decide (n=p.1)
def oZ(x:List (Int×α))(n:Int)(v:α):List (Int×α):=match F5 n x with
 |some j=>x.set j (n,v)
 |none=>x++[(n,v)]
def As(x:List (Int×α))(n:Int):List (Int×α):=match F5 n x with
 |some j=>x.eraseIdx j
 |none=>x
def oY(x:List (Int×α))(n:Int):Bool:=(F5 n x).isSome
theorem aaP:List.range 5=[0,1,2,3,4]:=rfl
theorem aaQ:List.range 6=[0,1,2,3,4,5]:=rfl
theorem aaR:List.range 7=[0,1,2,3,4,5,6]:=rfl
theorem aaS:List.range 8=[0,1,2,3,4,5,6,7]:=rfl
structure yN(k:IntKind) where
 n:Int
 deriving DecidableEq
instance {k:IntKind}:cL (yN k):=⟨λr=>.int k r.n,λd=>match d with |.int _ n=>⟨n⟩|_=>⟨0⟩,1,λ_=>rfl,λ_=>rfl,by simp[D.cells,D.one]⟩
theorem V5{k:IntKind}(r:yN k):enc r=.int k r.n:=rfl
theorem abT{k:IntKind}:cL.size (yN k)=1:=rfl
theorem VJ{k j:IntKind}(n:Int):(dec (.int j n):yN k)=⟨n⟩:=rfl
end Go.ak
namespace Go.ak
open Go Go.RowKit cL
variable [bm][bS]
def iterM{σ ρ ε:Type}(step:σ->ε->Option (σ⊕ρ)):List ε->σ->Option (σ⊕ρ)
 | [],z=>some (.inl z)
 |e::l,z=>match step z e with
  |some (.inl z')=>iterM step l z'
  |some (.inr r)=>some (.inr r)
  |none=>none
open Classical in
noncomputable def Ao{σ ρ ε:Type}(step:σ->ε->Option (σ⊕ρ))(m:List ε)(z:σ):Option (σ⊕ρ):=if h:∃r,∀l,l.Perm m->iterM step l z=some r then some (Classical.choose h)else none
def X0{σ ρ ε:Type}{step:σ->ε->Option (σ⊕ρ)}{m:List ε}{z:σ}{r:σ⊕ρ}(h:Ao step m z=some r):∀l,l.Perm m->iterM step l z=some r:=by
 unfold Ao at h;split at h
 ·rename_i j;injection h with h;rw[<-h];exact nb j
 cases h
def iJ{ε:Type}(done:List Nat):Nat->List ε->List ε
 |_,[]=>[]
 |k,e::l=>if k∈done then iJ done (k+1) l else e::iJ done (k+1) l
def HH{ε:Type}:∀(k:Nat)(m:List ε),iJ [] k m=m
 |_,[]=>rfl
 |k,e::l=>by simp[iJ,HH (k+1) l]
def HG{ε:Type}{done:List Nat}:∀{k:Nat}{m:List ε},(∀i,i<m.length->k+i∈done)->iJ done k m=[]
 |_,[],_=>rfl
 |k,e::l,h=>by
  have h0:=h 0 (by simp);simp only[Nat.add_zero]at h0;simp only[iJ,if_pos h0];exact HG λi hi=>by have:=h (i+1) (by simp;omega);rwa [show k+(i+1)=k+1+i by omega]at this
def O4{ε:Type}{done:List Nat}{j:Nat}:∀{k:Nat}{m:List ε},j<k->iJ (done++[j]) k m=iJ done k m
 |_,[],_=>rfl
 |k,e::l,h=>by
  have B:(k∈done++[j])=(k∈done):=by simp;omega
  simp only[iJ,B,O4 (show j<k+1 by omega)]
theorem HI{ε:Type}{done:List Nat}:∀{k i:Nat}{m:List ε}{e:ε},m[i]?=some e->k+i∉done->(e::iJ (done++[k+i]) k m).Perm (iJ done k m)
 |k,i,[],e,h,_=>by simp at h
 |k,0,x::l,e,h,j=>by
  simp at h;subst h;simp only[Nat.add_zero]at j⊢;have:k∈done++[k]:=by simp
  simp only[iJ,if_pos this,if_neg j,O4 (p3 k)];exact .refl _
 |k,i+1,x::l,e,h,j=>by
  have B:=HI (k:=k+1) (i:=i) (m:=l) (e:=e) (by simpa using h) (by rwa [show k+1+i=k+(i+1) by omega]);rw[show k+1+i=k+(i+1) by omega]at B;have F:(k∈done++[k+(i+1)])=(k∈done):=by simp
  simp only[iJ,F];split
  ·exact B
  exact(List.Perm.swap _ _ _).trans (B.cons _)
theorem NB{done:List Nat}{n:Nat}(j:done.Nodup)(h:∀i∈done,i<n):done.length<=n:=by
 have:done.Perm ((List.range n).filter λi=>done.contains i):=(u0 j (List.nodup_range.filter _)).2 λx=>by simp;exact h x
 rw[this.length_eq];exact hB (hW _ _) (by simp)
def XN{α:Type}[cL α]{m:List (Int×α)}{i:Nat}{B vd:D}(j:(m.map kE)[i]?=some B)(hv:(m.map vE)[i]?=some vd):∃e,m[i]?=some e/\B=kE e/\vd=vE e:=by
 rw[e3]at j hv;cases k:m[i]? with
 |none=>rw[k]at j;cases j
 |some e=>rw[k]at j hv;simp at j hv;exact⟨e,rfl,j.symm,hv.symm⟩
theorem XC{α:Type}(k:Int)(v:α):kE (k,v)=.int .i64 k:=rfl
theorem ac8{α:Type}[cL α](k:Int)(v:α):vE (k,v)=enc v:=rfl
section
variable {P:Program}{V:Env}{w0 w:World}{I0 I:aD}{m:Nat->Value}{l:List AO}
theorem YN(Y:aJ w0 I0 w I m l){id:Nat}{F vs:List D}{done:List Nat}(hl:l[id]?=some (.iter F vs done)){b:Nat}(ab:m id=.pointer (some ⟨b,0,none⟩))(ty:TypeId) :
  ((∀i,i<F.length->i∈done)/\(Instr.next (.pointer (some ⟨b,0,none⟩)) false ty).run P w=.ok (.tuple #[.bool false]) w) \/
  ∃i key val aq vd w',F[i]?=some aq/\vs[i]?=some vd/\i∉done/\(Instr.next (.pointer (some ⟨b,0,none⟩)) false ty).run P w=.ok (.tuple #[.bool true,key,val]) w'/\Rd I key aq/\Rd I val vd /\
   Le I m l I m (l.set id (.iter F vs (done++[i])))/\aJ w0 I0 w' I m (l.set id (.iter F vs (done++[i]))):=by
 obtain⟨aL,G,B,seen,M,aI,ae,af,av,aK,aw,ax,⟨ay,ar⟩,au⟩:=Y.obj id _ hl;rw[ab]at M;injection M with M;injection M with M;injection M with M;subst M;cases G with
 |none=>
  have Z:=af.2 rfl;have aM:F.length=0:=by rw[<-av,Z];rfl
  refine .inl ⟨λi hi=>by omega,?_⟩;simp[Instr.next,getObj,e8,Sem.run,ae,Result.andThen]
 |some G=>
 have aa:=Y.sat.mp G B (af.1 G rfl);have al:∀x,seen.contains x=true↔∃i∈done,vV B i=x:=λx=>by
  rw[<-Array.contains_toList,ay];simp
 have aD:∀(i j:Nat)(hi:i<B.1.size)(N:j<B.1.size),B.1[i].born=B.1[j].born->i=j:=λi j hi N h=>by
  refine Gc aa.2.2.1 (a:=B.1[i].born) ?_ ?_
  ·simp[hi]
  simp[N,h]
 rcases run_next_at (P:=P) w ty b G B.2 B.2 seen B.1 B.2 ae aa.1 aa.2.1 (ec _)with ⟨h0,ad⟩| ⟨e,Z,az,ag,ad⟩
 ·refine .inl ⟨λi hi=>?_,ad⟩;have U:i<B.1.size:=by omega
  have:=all_seen B.1 seen h0 B.1[i] (by simp);obtain⟨j,N,ah⟩:=(al _).1 this;have aj:=ar j N;rw[zg (e5 aj)]at ah;rw[aD i j U aj ah.symm];exact N
 obtain⟨aC,ai⟩:=mem_left Z;obtain⟨i,hi,aB⟩:=hF.1 aC;have U:i<B.1.size:=by simpa using hi
 have O:B.1[i]?=some e:=by rw[e5 U];simpa using aB
 have aF:i∉done:=λaA=>by
  have:=(al e.born).2 ⟨i,aA,zg O⟩;rw[this]at ai;cases ai
 have ak:F[i]?=some F[i]:=c5 (by omega);have ao:vs[i]?=some vs[i]:=c5 (by omega);refine .inr ⟨i,e.key,e.val,F[i],vs[i],_,ak,ao,aF,ad,aw i e _ O ak,ax i e _ O ao,Le.setKind hl rfl rfl (by simp),?_⟩;have aH:aJ w0 I0 az I m l:=by rcases ag with rfl|rfl;exact Y;exact Y.drew
 have aG:az.heap[b]?=some (.mapIter (some G) B.2 seen B.2):=by rcases ag with rfl|rfl<;>exact ae
 have an:=o8 (o':=.mapIter (some G) B.2 (seen.push e.born) B.2) aG;refine aH.lD hl (by simp) (b:=b) (by rw[ab];rfl) au rfl rfl (Le.setKind hl rfl rfl (by simp)) rfl rfl rfl (ec _) (by simp[ChangeMaps.setBlock]) (λk aE=>an.2 k aE) ?_;exact⟨b,G,B,seen.push e.born,ab,aI,an.1,af,av,aK,aw,ax,⟨by simp[ay,zg O],λj N=>by
  rcases hD.1 N with h|h
  ·exact ar j h
  simp at h;subst h;exact U⟩,au⟩
end
section
variable {P:Program}{V:Env}{w0:World}{I0:aD}{n:Nat}{Q:Exit->St->Prop}{s:St}{x y:Code}
def aX.X7(aF:c6 P V){id E Y d F k:Nat}{aa vs:List D}{done:List Nat}{o M:Oper}(ag:o.op=.next (.tmp Y) false)(ao:o.dst=some d)(aM:o.guard=none)(aR:M.op=.extract (.tmp d) 0)(aH:M.dst=some F)(aN:M.guard=none)(aI:d<n)(aK:F<n)(B:get s.t d=.undef)(aV:get s.t F=.undef)(aO:get s.t Y=.ptr k 0)(aP:s.l[k]?=some (.iter aa vs done))(aD:∀i Z vd,aa[i]?=some Z->vs[i]?=some vd->i∉done->aX P w0 I0 n y ⟨s.t,s.l.set k (.iter aa vs (done++[i]))⟩ Q)(aE:(∀i,i<aa.length->i∈done)->Q (.exit E) ⟨(F,.d (.bool false))::(d,.d (.aL [.bool false]))::s.t,s.l⟩):aX P w0 I0 n ((Code.region id #[o,M] false).seq ((Code.cond (.tmp F) .skip (.exit E)).seq y)) s Q:=by
 refine aX.seq λa w U=>?_;obtain⟨ar,I,m,au,a1,av⟩:=U;have ah:=av Y;rw[aO]at ah;generalize aW:a.tmps.getD Y undef=a7 at ah;cases ah with
 |ptr _ b _ a6 aZ=>
 have aU:∀(v:Value)(j:Nat),(a.put (some d) v).tmps.getD j undef=if j=d then v else a.tmps.getD j undef:=λv j=>by
  by_cases h:j=d
  ·subst h;simp[Act.put,hz,ar,aI]
  have:d≠j:=hU h;simp[Act.put,hz,this,h]
 have ak:∀(v:Value)(w':World)(l':List AO)(t:T),Le I m s.l I m l'->aJ w0 I0 w' I m l'->az I m l' v t->Rel w0 I0 n ⟨bH s.t (some d) t,l'⟩ (a.put (some d) v) w':=λv w' l' t aQ aj hv=>by
  refine⟨by simp[Act.put,ar],I,m,aj,a1,λj=>?_⟩;rw[aU];simp only[bH,get];by_cases h:j=d
  ·subst h;simp;exact hv
  rw[if_neg h,if_neg (hU h)];exact(av j).mono aQ
 refine F1 (l:=[o,M]) ?_;unfold wpListIn;have aj:Region.wanted o (yielded [o,M].toArray a.tmps)=true:=by simp[Region.wanted,aM]
 rw[if_pos aj];have aq:a.eval (.tmp Y)=.pointer (some ⟨b,0,none⟩):=by simpa [Act.eval,hz]using aW
 have aw:∀(O:Bool)(ds:List D)(l':List AO)(N:Act)(w':World),Rel w0 I0 n ⟨bH s.t (some d) (.d (.aL (.bool O::ds))),l'⟩ N w'->aX P w0 I0 n ((Code.cond (.tmp F) .skip (.exit E)).seq y) ⟨(F,.d (.bool O))::(d,.d (.aL (.bool O::ds)))::s.t,l'⟩ Q ->
   wpListIn dS 0 P [o,M].toArray (λe N w'=>∃s',qL (λs'=>aX P w0 I0 n ((Code.cond (.tmp F) .skip (.exit E)).seq y) s' Q) Q e s'/\Rel w0 I0 n s' N w') [M] N w':=λO ds l' N w' aT aY=>by
  refine Ep (K:=λq=>q=⟨(F,.d (.bool O))::(d,.d (.aL (.bool O::ds)))::s.t,l'⟩) (md:=none) aF (λq a w aS U=>?_) [M] _ N w' aT ?_
  ·subst aS;exact⟨_,aY,U⟩
  simp[eg,aN,dL,gr,evalOp,aR,cg,bH,get,R.ok,holds,eE,aH,aK,after]
 refine cr.wpIn (by simp[ag]) ?_;rcases YN (P:=P) au aP aZ o.type with ⟨aG,ai⟩| ⟨i,key,val,Z,vd,w',ab,ad,ae,ai,ay,aA,aB,aC⟩
 ·have af:(execOp a.eval o).run P w=.ok (.value (.tuple #[.bool false])) w:=by unfold execOp;simp[ag,aq,ai]
  rw[af];simp only[cr,ao];refine aw false [] s.l _ _ (ak _ w s.l _ (.refl ..) au (.d _ _ (.aL _ _ rfl λj u x B G=>?_))) ?_
  ·rcases j with _|j
   ·simp at B G;subst B;subst G;exact .bool _
   simp at B
  exact aX.seq (aX.cond (b:=false) (by simp[cg,get,zf]) (λh=>by cases h) (λ_=>aX.exit (aE aG)))
 have af:(execOp a.eval o).run P w=.ok (.value (.tuple #[.bool true,key,val])) w':=by unfold execOp;simp[ag,aq,ai]
 rw[af];simp only[cr,ao];refine aw true [Z,vd] _ _ _ (ak _ w' _ _ aB aC (.d _ _ (.aL _ _ rfl λj u x B G=>?_))) ?_
 ·rcases j with _|_|_|j
  ·simp at B G;subst B;subst G;exact .bool _
  ·simp at B G;subst B;subst G;exact ay
  ·simp at B G;subst B;subst G;exact aA
  simp at B
 refine aX.seq (aX.cond (b:=true) (by simp[cg,get,zf]) (λ_=>aX.skip ?_) (λh=>by cases h));refine aX.sub ?_ (aD i Z vd ab ad ae);intro w0 I0 n a w U;obtain⟨ab,I,m,ae,ad,ax⟩:=U;refine⟨ab,I,m,ae,ad,λj=>?_⟩;have:=ax j;simp only[get]at this;by_cases an:F=j
 ·subst an;rw[aV];exact .undef _
 rw[if_neg an]at this;by_cases al:d=j
 ·subst al;rw[B];exact .undef _
 rw[if_neg al]at this;exact this
def aX.Ao{σ ρ α:Type}[cL α](mm:List (Int×α))(F:List Nat->σ->St)(step:σ->Int×α->Option (σ⊕ρ))(Z:σ){M:σ⊕ρ}(h:ak.Ao step mm Z=some M)(al:Sub s (F [] Z))(
   ao:∀(done:List Nat)(z:σ)(K:St->Prop),((∀i,i<mm.length->i∈done)->M=.inl z)->(∀i e,mm[i]?=some e->i∉done->∃o,step z e=some o/\(∀r,o=.inr r->M=.inr r)/\∀s' z',o=.inl z'->Sub s' (F (done++[i]) z')->K s') ->
   aX P w0 I0 n x (F done z) (qL K Q)):aX P w0 I0 n (.loop x) s Q:=by
 have h0:=X0 h;refine aX.loop (X:=List Nat×σ) (λz=>F z.1 z.2) (λz=>z.1.Nodup/\(∀i∈z.1,i<mm.length)/\∀l,l.Perm (iJ z.1 0 mm)->iterM step l z.2=some M) (λz=>mm.length-z.1.length) ([],Z) ⟨by simp,by simp,λl hl=>h0 l (by rwa [HH]at hl)⟩ al λz Y=>?_;obtain⟨done,z⟩:=z;obtain⟨ae,aa,ag⟩:=Y;refine ao done z _ (λah=>?_) (λi e ab hi=>?_)
 ·have:=ag [] (by rw[HG λi hi=>by simpa using ah i hi]);simp only[iterM]at this;injection this with this;exact this.symm
 have af:=HI (done:=done) (k:=0) (i:=i) (m:=mm) ab (by simpa using hi);simp only[hT]at af;have hl:∀l,l.Perm (iJ (done++[i]) 0 mm)->iterM step (e::l) z=some M:=λl hl=>ag _ ((hl.cons e).trans af);have B:=hl _ (.refl _);simp only[iterM]at B hl;have ad:i<mm.length:=(db.1 ab).1;cases U:step z e with
 |none=>rw[U]at B;cases B
 |some o=>
  refine⟨o,rfl,λr aj=>?_,λs' z' Y an=>⟨(done++[i],z'),⟨?_,?_,λl ai=>?_⟩,?_,an⟩⟩
  ·subst aj;rw[U]at B;injection B with B;exact B.symm
  ·rw[k8];exact⟨ae,by simp,λa N b G=>by simp at G;subst G;exact λe=>hi (e▸N)⟩
  ·intro j O;rcases hD.1 O with h|h
   ·exact aa j h
   simp at h;subst h;exact ad
  ·have:=hl l ai;rw[U,Y]at this;exact this
  have:=NB (done:=done++[i]) (n:=mm.length) (by rw[k8];exact⟨ae,by simp,λa N b G=>by simp at G;subst G;exact λe=>hi (e▸N)⟩) (λj O=>by
   rcases hD.1 O with h|h
   ·exact aa j h
   simp at h;subst h;exact ad)
  simp at this⊢;omega
def aX.X1{σ ρ α:Type}[cL α](mm:List (Int×α))(F:List Nat->σ->St)(step:σ->Int×α->Option (σ⊕ρ))(Z:σ)(Good:σ⊕ρ->Prop)(h:∀l,l.Perm mm->∃B,iterM step l Z=some B/\Good B)(an:Sub s (F [] Z))(
   aq:∀(done:List Nat)(z:σ)(K:St->Prop),((∀i,i<mm.length->i∈done)->Good (.inl z))->(∀i e,mm[i]?=some e->i∉done->∃o,step z e=some o/\(∀r,o=.inr r->Good (.inr r))/\∀s' z',o=.inl z'->Sub s' (F (done++[i]) z')->K s') ->
   aX P w0 I0 n x (F done z) (qL K Q)):aX P w0 I0 n (.loop x) s Q:=by
 refine aX.loop (X:=List Nat×σ) (λz=>F z.1 z.2) (λz=>z.1.Nodup/\(∀i∈z.1,i<mm.length)/\∀l,l.Perm (iJ z.1 0 mm)->∃B,iterM step l z.2=some B/\Good B) (λz=>mm.length-z.1.length) ([],Z) ⟨by simp,by simp,λl hl=>h l (by rwa [HH]at hl)⟩ an λz Y=>?_;obtain⟨done,z⟩:=z;obtain⟨ae,aa,ag⟩:=Y;refine aq done z _ (λah=>?_) (λi e ab hi=>?_)
 ·obtain⟨B,this,ai⟩:=ag [] (by rw[HG λi hi=>by simpa using ah i hi]);simp only[iterM]at this;injection this with this;rw[this];exact ai
 have af:=HI (done:=done) (k:=0) (i:=i) (m:=mm) ab (by simpa using hi);simp only[hT]at af;have hl:∀l,l.Perm (iJ (done++[i]) 0 mm)->∃B,iterM step (e::l) z=some B/\Good B:=λl hl=>ag _ ((hl.cons e).trans af);obtain⟨ar,G,aj⟩:=hl _ (.refl _);simp only[iterM]at G hl;have ad:i<mm.length:=(db.1 ab).1;cases U:step z e with
 |none=>rw[U]at G;cases G
 |some o=>
  refine⟨o,rfl,λr al=>?_,λs' z' Y ao=>⟨(done++[i],z'),⟨?_,?_,λl ak=>?_⟩,?_,ao⟩⟩
  ·subst al;rw[U]at G;injection G with G;rw[G];exact aj
  ·rw[k8];exact⟨ae,by simp,λa N b M=>by simp at M;subst M;exact λe=>hi (e▸N)⟩
  ·intro j O;rcases hD.1 O with h|h
   ·exact aa j h
   simp at h;subst h;exact ad
  ·have:=hl l ak;rw[U,Y]at this;exact this
  have:=NB (done:=done++[i]) (n:=mm.length) (by rw[k8];exact⟨ae,by simp,λa N b M=>by simp at M;subst M;exact λe=>hi (e▸N)⟩) (λj O=>by
   rcases hD.1 O with h|h
   ·exact aa j h
   simp at h;subst h;exact ad)
  simp at this⊢;omega
end
end Go.ak
namespace Go.ak
open Go Go.RowKit
variable [bm][bS]
def tA:T->Option (FuncId×List T)
 |.aH g ts=>some (g,ts)
 |.d (.fn g)=>some (g,[])
 |.d (.aH g ds)=>some (g,ds.map .d)
 |_=>none
def Vj{I:aD}{m:Nat->Value}{l:List AO}{v:Value}{t:T}{g:FuncId}{ts:List T}(h:az I m l v t)(j:tA t=some (g,ts)) :
  ∃vs:Array Value,v=.func (.func g) #[] vs/\vs.size=ts.length/\∀(i:Nat) u x,vs[i]?=some u->ts[i]?=some x->az I m l u x:=by
 unfold tA at j;split at j
 ·injection j with j;injection j with B F;subst B;subst F;cases h with
  |aH _ vs _ M N=>exact⟨vs,rfl,M,N⟩
 ·injection j with j;injection j with B F;subst B;subst F;have:=cw h;cases this;exact⟨#[],rfl,rfl,by simp⟩
 ·injection j with j;injection j with B F;subst B;subst F;have:=cw h;cases this with
  |aH _ vs _ M N=>
   refine⟨vs,rfl,by simpa using M,λi u x O k=>?_⟩;rw[e3]at k;rename_i ds;cases G:ds[i]? with
   |none=>rw[G]at k;cases k
   |some d=>rw[G]at k;simp at k;subst k;exact .d _ _ (N i u d O G)
 cases j
section
variable {P:Program}{V:Env}{w0 w:World}{I0 I:aD}{m:Nat->Value}{l:List AO}{n:Nat}{Q:Exit->St->Prop}{s:St}{x y:Code}
theorem aJ.frame(N:aJ w0 I0 w I m l){vals:Nat->Value}{ft:Tm}(ai:∀k,az I m l (vals k) (get ft k)) :
  aJ w0 I0 w I (aQ m l.length (.bool false)) (l++[.frame l.length vals ft])/\Le I m l I (aQ m l.length (.bool false)) (l++[.frame l.length vals ft]):=by
 have G:∀k,k<l.length->(l++[AO.frame l.length vals ft])[k]?=l[k]?:=λk ae=>e1 ae;have an:(l++[AO.frame l.length vals ft])[l.length]?=some (.frame l.length vals ft):=by simp
 have af:Le I m l I (aQ m l.length (.bool false)) (l++[.frame l.length vals ft]):=by
  refine⟨.refl I,by simp,λid F hv=>⟨?_,bU m _ (by omega)⟩,λid F M=>⟨?_,bU m _ (by omega)⟩,λid ag s' els' F Y=>⟨els',?_⟩⟩
  ·unfold isVar at hv⊢;rw[G id F];exact hv
  ·unfold isRow at M⊢;rw[G id F]at M;exact M
  rw[G id F]at Y;exact Y
 have ad:∀k,k≠l.length->alive (l++[AO.frame l.length vals ft]) k=true->alive l k=true:=by
  intro k ae ah;obtain⟨o,B,ab⟩:=bN.1 ah;have al:k<l.length:=by have:=(db.1 B).1;simp at this;omega
  rw[G k al]at B;exact bN.2 ⟨o,B,ab⟩
 refine⟨⟨N.below,N.sat,N.ext,λid o B=>?_,λi j b aj hi ak O U=>?_⟩,af⟩
 ·by_cases F:id<l.length
  ·rw[G id F]at B;rw[bU m _ (by omega)];by_cases ab:o=.dead
   ·subst ab;trivial
   exact(N.obj id o B).cF af (λ_ _=>rfl) (λ_ _=>⟨rfl,rfl⟩) (.push (λ_ _ _=>rfl) rfl)
  have:id=l.length:=by
   have:=(db.1 B).1;simp at this;omega
  subst this;rw[an]at B;injection B with B;subst B;rw[dH];refine⟨rfl,by simp,λk=>?_⟩;have e:(l++[AO.frame l.length vals ft]).take l.length=l:=by simp
  rw[e];refine(ai k).mono ⟨.refl I,ec _,λid F hv=>⟨hv,bU m _ (by omega)⟩,λid F M=>⟨M,bU m _ (by omega)⟩,λid ag s' els' F Y=>⟨els',Y⟩⟩
 by_cases Z:i=l.length
 ·subst Z;rw[dH]at O;cases O
 by_cases aa:j=l.length
 ·subst aa;rw[dH]at U;cases U
 rw[bU m _ Z]at O;rw[bU m _ aa]at U;exact N.sep i j b aj (ad i Z hi) (ad j aa ak) O U
def aJ.Q5(h:aJ w0 I0 w I m l):∃J:aD,aJ w0 I0 (w.alloc (.deferred (some []))) J m l/\Le I m l J m l/\J.df w.heap.size/\¬I.df w.heap.size:=by
 let J:aD:=⟨I.cell,I.mp,λb=>I.df b\/b=w.heap.size⟩;have B:I.le J:=⟨λ_ _ _ h=>h,λ_ _ h=>h,λ_ h=>.inl h⟩;have M:(w.alloc (.deferred (some []))).heap[w.heap.size]?=some (.deferred (some [])):=World.alloc_heap_new w _;obtain⟨N,O⟩:=h.call (J:=J) (dq.alloc (dq.refl _ _) (ec _) (.deferred (some []))) (.of B (λ_ _=>rfl) (λ_ _=>rfl))
  ⟨λb o v k=>by rw[tx w _ _ (h.sat.lt k)];exact h.sat.cell b o v k,λb F k=>dR.to (Below.heap_alloc w _ b (h.sat.nM k)) (h.sat.mp b F k),
   λb j=>by
   rcases j with j|rfl
   ·exact(Below.heap_alloc w _ b (h.sat.kW j)).trans (h.sat.df b j)
   exact M,λg d G=>(h.sat.dK g d G).mono B⟩
 exact⟨J,N,O,.inr rfl,λj=>absurd (h.sat.kW j) (Nat.lt_irrefl _)⟩
def Dl(P:Program)(w0:World)(I0:aD)(n:Nat)(Q:Exit->St->Prop)(s:St)(id:Nat)(l':List AO):Prop:=
 ∃base k ps bc B tm st j,l'[id]?=some (.loop base k ps bc B tm st j)/\st ≠ .busy /\
  match j with
  |none=>Q .normal ⟨s.t,l'.set id (.loop base k ps bc B tm .exhausted j)⟩
  |some c=>aX P w0 I0 n c ⟨s.t,l'.set id (.loop base k ps bc B tm .exhausted j)⟩ Q
def U0{w:World}{b:Nat}{r:Loop}{o:Obj}(h:w.heap[b]?=some (.loop r)):(w.putObj b o).heap[b]?=some o:=World.putObj_heap_same (e6.1 h).1
def aJ.sI(U:aJ w0 I0 w I m l){id b base k:Nat}{ps:Array Tmp}{bc F:Code}{tm:Tm}{st st':LoopState}{Y pend':Option Code}(O:l[id]?=some (.loop base k ps bc F tm st Y))(N:m id=.func (.yield b) #[] #[]) :
  ∃r,w.heap[b]?=some (.loop r)/\(r.state=st/\r.pending=Y/\r.params=ps/\r.assign=bc/\r.body=F/\r.tmps.size=k)/\base<=l.length/\(∀j,az I m (l.take base) (r.tmps.getD j undef) (get tm j)) /\
   Le I m l I m (l.set id (.loop base k ps bc F tm st' pend'))/\aJ w0 I0 (w.putObj b (.loop {r with state:=st',pending:=pend' })) I m (l.set id (.loop base k ps bc F tm st' pend')):=by
 obtain⟨ag,r,B,af,Z,G,aa,ab,ad⟩:=U.obj id _ O;rw[N]at B;injection B with B;injection B with B;subst B;have M:Le I m l I m (l.set id (.loop base k ps bc F tm st' pend')):=Le.setKind O rfl rfl (λe size els h=>by rcases h with h|h<;>cases h);refine⟨r,Z,G,aa,ab,M,?_⟩;refine U.lD (w':=w.putObj b (.loop {r with state:=st',pending:=pend' })) O (by simp) (by rw[N];rfl) ad rfl rfl M rfl rfl rfl (ec _) (by simp) (λj ae=>World.putObj_heap_other ae) ?_;exact⟨b,_,N,af,U0 Z,⟨rfl,rfl,G.2.2.1,G.2.2.2.1,G.2.2.2.2.1,G.2.2.2.2.2⟩,by simpa using aa,λj=>(ab j).mono (M.take base),ad⟩
def Mf(t:Tm):∃N,get t N=.undef:=by
 have:∃B,∀k,B<=k->get t k=.undef:=by
  induction t with
  |nil=>exact⟨0,λ_ _=>rfl⟩
  |cons p r F=>
   obtain⟨i,t⟩:=p;obtain⟨B,j⟩:=F;exact⟨B+i+1,λk G=>by simp only[get];rw[if_neg (by omega)];exact j k (by omega)⟩
 obtain⟨B,j⟩:=this;exact⟨B,j B (ec _)⟩
def jT(E:cn)(ρ:Operand->T)(o:Oper):Option (Nat×List T):=match o.op with
 |.call c=>(match c.callee with
  |.value f=>(match ρ f with
   |.bj id=>some (id,fW E c.argTypes.toList (c.args.toList.map ρ))
   |_=>none)
  |_=>none)
 |_=>none
def adz{E:cn}{ρ ρ':Operand->T}{o:Oper}(h:∀x∈o.op.operands,ρ x=ρ' x):jT E ρ o=jT E ρ' o:=by
 unfold jT;split
 ·rename_i c j;split
  ·rename_i f F;have k:=h f (by simp[j,Op.operands,Call.operands,F]);have B:c.args.toList.map ρ=c.args.toList.map ρ':=hN λx G=>h x (by simp[j,Op.operands,Call.operands];right;simpa using G);rw[k,B]
  rfl
 rfl
def QQ{E:cn}{ρT:Operand->T}{o:Oper}{x:Nat×List T}(h:jT E ρT o=some x):∀c,o.op ≠ .defer c:=by
 intro c j;unfold jT at h;rw[j]at h;cases h
theorem QR{E:cn}{o:Oper}{ρ:Operand->Value}{ρT:Operand->T}{id:Nat}{ts:List T}(Y:∀x∈o.op.operands,az I m l (ρ x) (ρT x))(h:jT E ρT o=some (id,ts)) :
  ∃(b:Nat)(k:Array Value)(f:Operand),f∈o.op.operands/\ρ f=.func (.yield b) #[] #[]/\ρT f=.bj id/\m id=.func (.yield b) #[] #[]/\(execOp ρ o).run P w=(Instr.yield b k).run P w/\k.size=ts.length/\∀(i:Nat) v x,k[i]?=some v->ts[i]?=some x->az I m l v x:=by
 unfold jT at h;split at h
 ·rename_i c M;split at h
  ·rename_i f F;have U:f∈o.op.operands:=by simp[M,Op.operands,Call.operands,F]
   have G:=Y f U;have ab:∀(i:Nat) v x,(c.args.toList.map ρ)[i]?=some v->(c.args.toList.map ρT)[i]?=some x->az I m l v x:=by
    intro i v x hv j;rw[e3]at hv j;cases B:c.args.toList[i]? with
    |none=>simp[B]at hv
    |some a=>
     simp[B]at hv j;subst hv;subst j;refine Y a ?_;simp only[M,Op.operands,Call.operands,F];have:=dd B;simp at this⊢;exact .inr this
   obtain⟨ae,ad⟩:=C2 (E:=E) c.argTypes.toList _ _ ab;generalize Z:ρ f=ai at G;split at h
   ·rename_i ag O;rw[O]at G;injection h with h;injection h with aa N;subst aa;cases G with
    |bj _ b ah af=>
     refine⟨b,c.args.map ρ,f,U,Z,O,af,?_,?_,λi v x hv j=>?_⟩
     ·unfold execOp;simp only[M,resolve,F,Z,Deferred.ofValue,e8,Sem.run_pure,Result.andThen_ok,invoke];simp
     ·rw[<-N];simp[ae]
     rw[<-N]at j;exact ad i v x (by simpa using hv) j
   cases h
  cases h
 cases h
def lv(ps:List Tmp)(ts:List T)(tm:Tm):Tm:=(ps.zip ts).foldl (λs p=>(p.1,p.2)::s) tm
theorem HN:∀(ps:List Tmp)(B:List Value)(ts:List T)(j:Array Value)(tm:Tm),B.length=ts.length->(∀(i:Nat) v x,B[i]?=some v->ts[i]?=some x->az I m l v x)->(∀p∈ps,p<j.size)->(∀k,az I m l (j.getD k undef) (get tm k)) ->
  ((ps.zip B).foldl (λt(p:Tmp×Value)=>t.setIfInBounds p.1 p.2) j).size=j.size/\∀k,az I m l (((ps.zip B).foldl (λt(p:Tmp×Value)=>t.setIfInBounds p.1 p.2) j).getD k undef) (get (lv ps ts tm) k)
 | [],B,ts,j,tm,_,_,_,h=>⟨rfl,by simpa [lv]using h⟩
 |p::ps,[],[],j,tm,_,_,_,h=>⟨by simp,by simpa [lv]using h⟩
 |p::ps,v::B,t::ts,j,tm,hl,M,G,h=>by
  have U:p<j.size:=G p (by simp);obtain⟨N,O⟩:=HN ps B ts (j.setIfInBounds p v) ((p,t)::tm) (by simpa using hl) (λi u x Z aa=>M (i+1) u x (by simpa using Z) (by simpa using aa)) (λq Y=>by simpa using G q (by simp[Y])) (λk=>by
   simp only[get];by_cases F:p=k
   ·subst F;rw[if_pos rfl,hz,Array.getElem?_setIfInBounds_self_of_lt U];exact M 0 v t rfl rfl
   rw[if_neg F,hz,Array.getElem?_setIfInBounds_ne F,<-hz];exact h k)
  refine⟨by simpa using N,?_⟩;simpa [lv]using O
 |p::ps,[],_::_,_,_,hl,_,_,_=>by simp at hl
 |p::ps,_::_,[],_,_,hl,_,_,_=>by simp at hl
def oR:Exit->Option (Option Code)
 |.normal=>some none
 |.ret=>some (some .ret)
 |.exit id=>some (some (.exit id))
 |.goto t=>some (some (.goto t))
 |_=>none
def ux(K:St->Prop):Exit->St->Prop
 |.normal,s=>K s
 |_,_=>False
def sW(s2:St)(at_:Nat)(vals:Nat->Value)(ft:Tm)(id base k:Nat)(ps:Array Tmp)(bc B:Code)(tm:Tm)(F:Option Code)(K:List AO->Prop):Prop:=
 ∃j,Sub s2 j/\j.l[at_]?=some (.frame at_ vals ft)/\j.l[id]?=some (.loop base k ps bc B tm .busy none)/\K (j.l.set id (.loop base k ps bc B tm (if F.isNone then .ready else .done) F))
theorem eu.bj(bR:c6 P V){ops:List Oper}{K:St->Prop}{o:Oper}{r:List Oper}{s:St}{id base k:Nat}{ts:List T}{ps:Array Tmp}{bc M:Code}{tm:Tm}{pc:PC}(bb:dL ops s.t o.guard=some pc)(ak:holds pc)(aT:eE n o.dst=true)(an:jT V.E (cg s.t) o=some (id,ts))(hl:s.l[id]?=some (.loop base k ps bc M tm .ready none))(bp:ps.size=ts.length)(bo:ps.toList.all (λp=>decide (p<k))=true)(
   h:∀aq:Option Code->List AO->Prop,(∀B l',eu P n ops r ⟨bH s.t o.dst (.d (.bool B.isNone)),l'⟩ K->aq B l')->∀(R:bS)(w0:World)(I0:aD)(vals:Nat->Value)(ft:Tm)(Q:Exit->St->Prop),(∀e B s2,oR e=some B->sW s2 s.l.length vals ft id base k ps bc M tm B (aq B)->Q e s2) ->
   @aX _ R P w0 I0 k bc ⟨lv ps.toList ts tm,s.l++[.frame s.l.length vals ft]⟩ (ux λs1=>∃s2,Sub s1 s2/\s2.l[s.l.length]?=some (.frame s.l.length vals ft)/\s2.l[id]?=some (.loop base k ps bc M tm .ready none)/\@aX _ R P w0 I0 k M ⟨s2.t,s2.l.set id (.loop base k ps bc M tm .busy none)⟩ Q)):eu P n ops (o::r) s K:=by
 intro st bw ar w0 I0 a w Q aG bt aL;have Y:∀x∈o.op.operands,cg st.t x=cg s.t x:=λx Y=>En λt ht=>ar t (sk _ (vb.2 ⟨x,by simpa using Y,by rw[ht]⟩));obtain⟨aA,I,m,af,aU,ht⟩:=bt;have bF:=(pJ (ops:=ops) (a:=a) ht ((E5 ar).trans bb)).2 ak;rw[if_pos bF];rw[bw]at af ht;obtain⟨b,ad,f,bU,ba,G,bm,bu,ax,aN⟩:=QR (P:=P) (w:=w) (ρ:=a.eval) (λx _=>nw af.sat.dK ht x) ((adz Y).trans an);obtain⟨O,aO,bs,bT,bD,_,_⟩:=af.sI (st':=.ready) (pend':=none) hl bm;obtain⟨bW,bV,ay,has,aP,aB⟩:=bs;obtain⟨j,rfl⟩:∃j,f=.tmp j:=by
  cases f with
  |tmp j=>exact⟨j,rfl⟩
  |const v=>
   exfalso;simp only[cg,tB]at G;split at G<;>cases G
  |global g=>
   exfalso;simp only[cg]at G;split at G<;>cases G
  |func g=>simp[cg]at G
 have bf:a.tmps.getD j undef=.func (.yield b) #[] #[]:=ba;have bd:get st.t j=.bj id:=G;have av:∀{ab:aD}{aa:Nat->Value}{ao:World}{l1:List AO},aJ w0 I0 ao ab aa l1->l1[s.l.length]?=some (.frame s.l.length (λj=>a.tmps.getD j undef) st.t)->aa id=.func (.yield b) #[] #[]:=λ{ab aa ao l1} ag a1=>by
  have ae:=(ag.obj _ _ a1).2.2 j;simp only[bf,bd]at ae;cases ae with
  |bj _ _ _ ai=>exact ai
 unfold Oper.wpIn;refine⟨λ_ _=>ow _,?_⟩;rw[Oper.semAt_eq _ _ _ (QQ an),bu,run_yield aO (by rw[ay,ax,bp]),Oper.uponIn_round];refine⟨λh=>by simp[dS,Fence.wide]at h,?_⟩;obtain⟨bG,aw⟩:=af.frame (vals:=λj=>a.tmps.getD j undef) (ft:=st.t) ht;have az:=HN (m:=aQ m s.l.length (.bool false)) (l:=s.l++[.frame s.l.length (λj=>a.tmps.getD j undef) st.t]) (I:=I) ps.toList ad.toList ts O.tmps tm (by simpa using ax) (λi v x hv Y=>(aN i v x (by simpa using hv) Y).mono aw) (λp ak=>by rw[aB];simpa using ek.1 bo p ak) (λq=>((bD q).mono (Le.vC I m s.l base)).mono aw);have a7:(O.params.zip ad).foldl (λtmps(x:Tmp×Value)=>tmps.setIfInBounds x.1 x.2) O.tmps=(ps.toList.zip ad.toList).foldl (λt(p:Tmp×Value)=>t.setIfInBounds p.1 p.2) O.tmps:=by
  rw[<-LB,Array.toList_zip,ay]
 have bx:@Rel _ ⟨some b,I.df⟩ w0 I0 k ⟨lv ps.toList ts tm,s.l++[.frame s.l.length (λj=>a.tmps.getD j undef) st.t]⟩ {tmps:=(O.params.zip ad).foldl (λtmps(x:Tmp×Value)=>tmps.setIfInBounds x.1 x.2) O.tmps,defers:=[]} w:=by
  rw[a7];exact @Rel.mk _ ⟨some b,I.df⟩ _ _ _ _ _ _ (az.1.trans aB) ⟨I,_,bG,@eJ.nil _ ⟨some b,I.df⟩ _ _ λ_ h=>h,az.2⟩
 have bE:=h (λB l'=>eu P n ops r ⟨bH s.t o.dst (.d (.bool B.isNone)),l'⟩ K) (λ_ _ h=>h) ⟨some b,I.df⟩ w0 I0 (λj=>a.tmps.getD j undef) st.t (λe s2=>∃B,oR e=some B/\@sW _ ⟨some b,I.df⟩ s2 s.l.length (λj=>a.tmps.getD j undef) st.t id base k ps bc M tm B (λl'=>eu P n ops r ⟨bH s.t o.dst (.d (.bool B.isNone)),l'⟩ K)) (λe B s2 ae ai=>⟨B,ae,ai⟩) _ _ bx;refine roundIn_of_wpIn (F:=dS) (ow _) ?_;rw[has,aP];refine na (λe aH ao N=>?_) bE;obtain⟨s1,N,bq⟩:=N;cases e<;>simp only[ux]at N
 obtain⟨s2,bz,a8,bh,aR⟩:=N;obtain⟨bB,ab,aa,ag,aV,bC⟩:=bz _ _ _ _ _ bq;obtain⟨aF,bI,aE,bY,bZ,bJ,bK⟩:=ag.sI (st':=.busy) (pend':=none) bh (av ag a8);have aS:=run_beginRound (P:=P) bI aE.1;refine⟨_,aS,?_⟩;have aI:({aF with state:=.busy}:Loop)={aF with state:=.busy,pending:=none}:=by rw[<-aE.2.1]
 rw[aI];refine na (λe bQ bP N=>?_) (aR aH _ (@Rel.mk _ ⟨some b,I.df⟩ _ _ _ _ _ _ bB ⟨ab,aa,bK,aV,λq=>(bC q).mono bJ⟩));obtain⟨s',⟨B,aj,bO,bA,au,bl,aM⟩,br⟩:=N;obtain⟨_,ah,aC,al,aW,bX⟩:=bA _ _ _ _ _ br;obtain⟨b3,bL,b0,b1,b2,bM,bN⟩:=al.sI (st':=if B.isNone then .ready else .done) (pend':=B) bl (av al au);have aY:=run_endRound (P:=P) B bL;have bg:∀b,I.df b->ah.df b:=by
  obtain⟨_,_,_,_,aK⟩:=aW;exact aK
 have a6:=(al.obj _ _ au).2.2;have fin:∃v w',(Instr.endRound b B).run P bP=.ok v w'/\aG (a.put o.dst v) w':=by
  refine⟨_,_,aY,aL _ _ _ _ aM (λU=>?_) ⟨by cases o.dst<;>simp[Act.put,aA],ah,aC,bN,aU.yb bg,?_⟩⟩
  ·exfalso;have Z:=an;unfold jT at Z;unfold rL Ac at U;split at Z
   ·rename_i c bn;rw[bn]at U;simp only[lB]at U;split at Z
    ·rename_i f aZ;rw[aZ]at U;simp at U
    cases Z
   cases Z
  exact jk aA aT (λq=>((a6 q).mono (Le.vC ah aC bO.l s.l.length)).mono bM) (.d _ _ (.bool _))
 cases e<;>simp only[oR,c4]at aj<;>first| (subst aj;exact fin)|cases aj
theorem ed.bj(N:c6 P V){i:Nat}{ops:List Oper}{M:List Nat}{K:St->Prop}{o:Oper}(id:Nat)(ts:List T){base k:Nat}{ps:Array Tmp}{bc B:Code}{tm:Tm}{pc:PC}(G:ops[i]?=some o)(U:dL ops s.t o.guard=some pc)(Z:holds pc)(O:eE n o.dst=true)(ad:jT V.E (cg s.t) o=some (id,ts))(hl:s.l[id]?=some (.loop base k ps bc B tm .ready none))(ab:ps.size=ts.length)(aa:ps.toList.all (λp=>decide (p<k))=true)(
   h:∀F:Option Code->List AO->Prop,(∀j l',ed P n ops (i+1) M ⟨bH s.t o.dst (.d (.bool j.isNone)),l'⟩ K->F j l')->∀(R:bS)(w0:World)(I0:aD)(vals:Nat->Value)(ft:Tm)(Q:Exit->St->Prop),(∀e j s2,oR e=some j->sW s2 s.l.length vals ft id base k ps bc B tm j (F j)->Q e s2) ->
   @aX _ R P w0 I0 k bc ⟨lv ps.toList ts tm,s.l++[.frame s.l.length vals ft]⟩ (ux λs1=>∃s2,Sub s1 s2/\s2.l[s.l.length]?=some (.frame s.l.length vals ft)/\s2.l[id]?=some (.loop base k ps bc B tm .ready none)/\@aX _ R P w0 I0 k B ⟨s2.t,s2.l.set id (.loop base k ps bc B tm .busy none)⟩ Q)):ed P n ops i M s K:=by
 unfold ed;have Y:=(db.1 G).1;rw[hS Y,(db.1 G).2];exact eu.bj N U Z O ad hl ab aa h
end
end Go.ak
namespace Go.ak
open Go Go.RowKit cL
variable [bm]
structure Bx(α:Type) where
 v:α
instance {α:Type} [cL α]:cL (Bx α):=⟨λb=>.box (enc b.v),λd=>match d with |.box d=>⟨dec d⟩|d=>⟨dec d⟩,1,λb=>by simp only[KQ],λ_=>rfl,by simp[D.cells,D.one]⟩
theorem V3{α:Type}[cL α](b:Bx α):enc b=.box (enc b.v):=rfl
theorem VG{α:Type}[cL α](d:D):(dec (.box d):Bx α)=⟨dec d⟩:=rfl
theorem abR{α:Type}[cL α]:size (Bx α)=1:=rfl
section
variable {w0 w:World}{I0 I:aD}{m:Nat->Value}{l:List AO}
def aJ.abI(h:aJ w0 I0 w I m l){g:Nat}{cur:Array Value}{e:TypeId}{Z:Nat×Nat}(ah:w0.heap.size<=g)(ad:w.heap[g]?=some (.cells cur e Z))(G:I.dX g)(ab:∀id,alive l id=true->own (m id)≠some g) :
  aJ w0 I0 w (I.dz g cur.toList) m l/\Le I m l (I.dz g cur.toList) m l:=by
 let J:=I.dz g cur.toList;have B:∀b,b≠g->J.cell b=I.cell b:=λb j=>by funext o;simp[J,aD.dz,j]
 have F:I.le J:=⟨λb o v k=>by
  have j:b≠g:=by rintro rfl;rw[G.1 o]at k;cases k
  rw[B b j];exact k,λ_ _ h=>h,λ_ h=>h⟩
 have N:Le I m l J m l:=⟨F,ec _,λ_ _ h=>⟨h,rfl⟩,λ_ _ h=>⟨h,rfl⟩,λ_ _ _ els _ h=>⟨els,h⟩⟩;have ag:cZ w J:=⟨λb o v k=>by
  by_cases j:b=g
  ·subst j;simp only[J,aD.dz,hK]at k;cases M:cur[o]? with
   |none=>simp[M,G.1 o]at k
   |some x=>simp[M]at k;subst k;simp[World.cell?,ad,M]
  rw[B b j]at k;exact h.sat.cell b o v k,h.sat.mp,h.sat.df,λg d aa=>(h.sat.dK g d aa).mono F⟩
 refine⟨⟨h.below,ag,⟨λb o v k=>F.cell b o v (h.ext.lc b o v k),h.ext.lm,h.ext.ld,λb j=>(B b (by omega)).trans (h.ext.cell b j),h.ext.mp⟩,λid o O=>?_,h.sep⟩,N⟩;have U:=h.obj id o O;have key:(∀b,own (m id)=some b->b≠g)->dZ w0.heap.size w J m l (m id) o:=λae=>U.cF N (λ_ _=>rfl) (λb j=>⟨B b (ae b j),rfl⟩) ⟨λb u Y _=>⟨rfl,B b (λe=>by subst e;rw[G.1]at Y;cases Y),rfl⟩,λq b af j=>.inl ⟨q,af,j⟩⟩;cases o with
 |dead=>trivial
 |frame base vals t=>exact key λb j=>by rw[U.1]at j;cases j
 |_=>exact key λb j e=>ab id (bN.2 ⟨_,O,by simp[AO.isVar,AO.isRow]⟩) (e▸j)
end
end Go.ak
namespace Go.Sy
open Go Go.ak
mutual
def eB:T->List Nat
 |.ptr id _=>[id]
 |.row id=>[id]
 |.bx id _ _=>[id]
 |.map id=>[id]
 |.bj id=>[id]
 |.cC id _=>[id]
 |.sub id _ _=>[id]
 |.bI id _=>[id]
 |.aL ts=>ng ts
 |.cond _ t=>eB t
 |.aH _ ts=>ng ts
 |.agg ts=>ng ts
 |_=>[]
def ng:List T->List Nat
 | []=>[]
 |t::ts=>eB t++ng ts
end
def yR:∀{ts:List T}{i:Nat}{t:T}{r:Nat},ts[i]?=some t->r∈eB t->r∈ng ts
 | [],i,t,r,h,_=>by simp at h
 |u::ts,i,t,r,h,j=>by
  simp only[ng,hD];cases i with
  |zero=>simp at h;subst h;exact .inl j
  |succ i=>exact .inr (yR (by simpa using h) j)
variable [bm][bS]
structure QY(m:Nat->Value)(l:List AO)(m':Nat->Value)(l':List AO)(r:Nat):Prop where
 lt:r<l'.length
 var:ak.isVar l r=true->ak.isVar l' r=true
 row:ak.isRow l' r=true->ak.isRow l r=true
 rows:∀e size els,(l'[r]?=some (.row e size els)\/l'[r]?=some (.bn e size els))->∃els',(l[r]?=some (.row e size els')\/l[r]?=some (.bn e size els'))
 val:m' r=m r
def az.loc{I:aD}{m m':Nat->Value}{l l':List AO}{v:Value}{t:T}(h:az I m l v t)(F:∀r∈eB t,QY m l m' l' r):az I m' l' v t:=by
 induction h with
 |undef v=>exact .undef v
 |d v x r=>exact .d v x r
 |bq s=>exact .bq s
 |ptr id b off B j=>
  have k:=F id (by simp[eB]);exact .ptr id b off (k.var B) (k.val.trans j)
 |bu b o size els k off val B j M O=>exact .bu b o size els k off val B j M O
 |row A n c id B j=>
  have k:=F id (by simp[eB]);exact .row A n c id k.lt λhl=>k.val.trans (j (k.row hl))
 |bx a id q off B j=>
  have k:=F id (by simp[eB]);refine .bx a id q off k.lt λe size els hl=>?_;obtain⟨els',N⟩:=k.rows e size els hl;obtain⟨b,n,c,U,Y⟩:=j e size els' N;exact⟨b,n,c,k.val.trans U,Y⟩
 |sub A n c id lo hi B j=>
  have k:=F id (by simp[eB]);refine .sub A n c id lo hi k.lt λe size els hl=>?_;obtain⟨els',N⟩:=k.rows e size els hl;obtain⟨Z,n0,aa,U,Y⟩:=j e size els' N;exact⟨Z,n0,aa,k.val.trans U,Y⟩
 |bI A n c id x B j M=>
  have k:=F id (by simp[eB]);exact .bI A n c id x k.lt (λhl=>k.val.trans (j (k.row hl))) M
 |map r id B j=>
  have k:=F id (by simp[eB]);exact .map r id k.lt λhl=>k.val.trans (j (k.row hl))
 |aL vs ts B _ G=>exact .aL vs ts B λi v t hv ht=>G i v t hv ht λr h=>F r (by simp only[eB];exact yR ht h)
 |cond v pc t _ ab G=>exact .cond v pc t (λad=>G ad λr h=>F r (by simpa [eB]using h)) ab
 |aH g vs ts B _ G=>exact .aH g vs ts B λi v t hv ht=>G i v t hv ht λr h=>F r (by simp only[eB];exact yR ht h)
 |bj id b B j=>
  have k:=F id (by simp[eB]);exact .bj id b (k.var B) (k.val.trans j)
 |cC id b n c B j M O=>
  have k:=F id (by simp[eB]);exact .cC id b n c (k.var B) (k.val.trans j) M O
 |agg vs ts B j _ G=>exact .agg vs ts B j λi v t hv ht=>G i v t hv ht λr h=>F r (by simp only[eB];exact yR ht h)
def L6:AO->Option (Nat×Tm)
 |.frame b _ t=>some (b,t)
 |.loop b _ _ _ _ t _ _=>some (b,t)
 |_=>none
def sV(ids:List Nat)(l:List AO):Prop:=∀id∈ids,∀o b t,l[id]?=some o->L6 o=some (b,t)->b<=ids.length/\∀k,∀r∈eB (get t k),r<b/\ids[r]?=some r
def O0{w0 w:World}{I0 I:aD}{m:Nat->Value}{l:List AO}{ids:List Nat}(h:aJ w0 I0 w I m l)(ax:ids.Nodup)(av:sV ids l):aJ w0 I0 w I (λk=>m ((ids[k]?).getD 0)) (cN ids l):=by
 have ae:∀(k id:Nat),ids[k]?=some id->(λk:Nat=>m ((ids[k]?).getD 0)) k=m id:=λk id B=>by simp[B]
 have ab:∀{k:Nat}{o:AO},(cN ids l)[k]?=some o->∃id,ids[k]?=some id:=λ{k o} B=>by
  cases hi:ids[k]? with
  |none=>simp[cN,hi]at B
  |some id=>exact⟨id,rfl⟩
 have ak:∀{k id:Nat},ids[k]?=some id->alive (cN ids l) k=alive l id:=λB=>by unfold alive;rw[l9 B,od B]
 refine⟨h.below,h.sat,h.ext,λk o an=>?_,λi j b aw hi ad=>?_⟩
 ·obtain⟨id,B⟩:=ab an;have O:=vl (l:=l) B;rw[an]at O;cases hl:l[id]? with
  |none=>rw[hl]at O;simp[AO.bV]at O;subst O;trivial
  |some o'=>
   rw[hl]at O;simp only[Option.getD_some,c4]at O;have F:=h.obj id o' hl;show dZ _ _ _ _ _ (m ((ids[k]?).getD 0)) o;rw[B,O];simp only[Option.getD_some];have pre:∀(b:Nat)(t:Tm),L6 o'=some (b,t)->b<=(cN ids l).length/\∀(v:Value)(j:Nat),az I m (l.take b) v (get t j)->az I (λk=>m ((ids[k]?).getD 0)) ((cN ids l).take b) v (get t j):=λb t au=>by
    obtain⟨U,Y⟩:=av id (dd B) o' b t hl au;refine⟨by simpa [cN]using U,λv j aB=>az.loc aB λr aC=>?_⟩;obtain⟨N,G⟩:=Y j r aC;refine⟨by simp[cN];omega,λhv=>?_,λhv=>?_,λe size els al=>⟨els,?_⟩,ae r r G⟩
    ·rw[Af N]at hv⊢;exact(l9 G).trans hv
    ·rw[Ad N]at hv⊢;exact(od G).symm.trans hv
    rw[hQ,if_pos N]at al⊢;exact CE G al
   cases o' with
   |dead=>trivial
   |var ty cs=>
    obtain⟨b,vs,N,G,ag,aq,aa,ah⟩:=F;refine⟨b,vs,N,G,ag,by simp[aq],λi x t ao ht=>?_,ah⟩;rw[e3]at ht;cases M:cs[i]? with
    |none=>rw[M]at ht;simp at ht
    |some t0=>
     rw[M]at ht;simp at ht;subst ht;exact⟨(aa i x t0 ao M).1.bV ae,(aa i x t0 ao M).2⟩
   |row e size els=>exact F
   |bn e size els=>exact F
   |map af vs=>exact F
   |dJ af vs=>exact F
   |bw e size af vs aL=>exact dZ.gm (λq aA=>O1 (m':=λk=>m ((ids[k]?).getD 0)) ae aA) F
   |iter af vs done=>exact F
   |frame b vals t=>
    obtain⟨U,Y⟩:=pre b t rfl;exact⟨F.1,U,λj=>Y _ j (F.2.2 j)⟩
   |loop b n ps bc aF t st aM=>
    obtain⟨ar,r,aE,N,G,ag,aq,aa,ah⟩:=F;obtain⟨U,Y⟩:=pre b t rfl;exact⟨ar,r,aE,N,G,ag,U,λj=>Y _ j (aa j),ah⟩
 obtain⟨aI,N,_⟩:=bN.1 hi;obtain⟨aK,G,_⟩:=bN.1 ad;obtain⟨a,Z⟩:=ab N;obtain⟨c,M⟩:=ab G;rw[ak Z]at hi;rw[ak M]at ad;have ay:a≠c:=λe=>by
  subst e;have ai:=db.1 Z;have aj:=db.1 M;obtain⟨ai,aG⟩:=ai;obtain⟨aj,aH⟩:=aj;exact aw (Gc ax Z M)
 simp only[Z,M,Option.getD_some];exact h.sep a c b ay hi ad
section
variable {P:Program}{V:Env}{s:St}
def acy(ids:List Nat){t':Tm}{l':List AO}(Y:ids.Nodup)(O:sV ids s.l)(hl:cN ids s.l=l')(N:kL ids s.t t'):Sub s ⟨t',l'⟩:=by
 subst hl;intro w0 I0 n a w Z;obtain⟨B,I,m,G,F,M⟩:=Z;refine⟨B,I,_,O0 G Y O,F,λj=>?_⟩;rcases zS N j with h|h
 ·rw[h];exact .undef _
 rw[h];exact(M j).bV λk id U=>by simp[U]
def P2(j id:Nat)(U:D)(ts:List T)(ids:List Nat){ty:TypeId}{t':Tm}{l':List AO}(an:get s.t j=.ptr id 0)(Z:s.l[id]?=some (.var ty ts))(al:id∉ids)(aq:ids.Nodup)(ai:sV ids s.l)(hl:cN ids s.l=l')(ah:kL ids s.t t')(aw:∀(I J:aD)(m:Nat->Value)(b:Nat)(vs:Array Value),I.le J->m id=.pointer (some ⟨b,0,none⟩)->vs.size=ts.length->(∀(i:Nat) x t,vs[i]?=some x->ts[i]?=some t->az I m s.l x t)->(∀k,k<vs.size->J.cell b k=vs[k]?)->Rd J (.pointer (some ⟨b,0,none⟩)) U) :
  Sub s ⟨(j,.d U)::t',l'⟩:=by
 subst hl;intro w0 I0 n a w av;obtain⟨ad,I,m,M,ae,Y⟩:=av;obtain⟨b,vs,F,aA,aB,aC,aE,aF⟩:=M.obj id _ Z;have ax:=O0 M aq ai;have ag:alive s.l id=true:=bN.2 ⟨_,Z,by simp⟩;have aj:∀k,alive (cN ids s.l) k=true->own (m ((ids[k]?).getD 0))≠some b:=by
  intro k B;obtain⟨o,au,_⟩:=bN.1 B;have G:=(db.1 au).1;have G:k<ids.length:=by simpa [cN]using G
  have N:ids[k]?=some ids[k]:=c5 G;have ar:ids[k]≠id:=λe=>al (e▸ie G);have af:alive s.l ids[k]=true:=by
   unfold alive at B⊢;rw[l9 N,od N]at B;exact B
  rw[N];exact M.sep id ids[k] b (hU ar) ag af (by rw[F];rfl)
 obtain⟨aG,O⟩:=ax.abI aA aB aF aj;refine⟨ad,_,_,aG,ae.mono O.du,λk=>?_⟩;simp only[ak.get];by_cases B:j=k
 ·subst B;rw[if_pos rfl];have hv:=Y j;rw[an]at hv;generalize a.tmps.getD j undef=v at hv;cases hv with
  |ptr _ ab _ aH aa=>
   rw[aa]at F;injection F with F;injection F with F;injection F with F;subst F;exact .d _ _ (aw I _ m ab vs O.du aa aC (λi x t ay ht=>(aE i x t ay ht).1) λk ao=>by simp[aD.dz,ao])
 rw[if_neg B];rcases zS ah k with h|h
 ·rw[h];exact .undef _
 rw[h];exact((Y k).bV λk id B=>by simp[B]).mono O
def acv(j id:Nat)(d:D)(ids:List Nat){ty:TypeId}{t':Tm}{l':List AO}(Z:get s.t j=.ptr id 0)(ae:s.l[id]?=some (.var ty (d.cells.map .d)))(N:∀x∈d.cells,x.one=true)(Y:id∉ids)(ad:ids.Nodup)(U:sV ids s.l)(hl:cN ids s.l=l')(O:kL ids s.t t') :
  Sub s ⟨(j,.d (.box d))::t',l'⟩:=by
 refine P2 j id _ _ ids Z ae Y ad U hl O λI J m b vs ab ag F af M=>.box _ _ (λk=>(vs[k]?).getD undef) N (λk aa=>?_) λk x G=>?_
 ·have B:k<vs.size:=by rw[F];simpa using aa
  rw[M k B];simp[B]
 have B:k<vs.size:=by rw[F];simpa using (db.1 G).1
 have hv:vs[k]?=some vs[k]:=e5 B;rw[hv];exact(cw (af k _ (.d x) hv (by simp[G]))).mono ab
def abw{id f:Nat}{I J:aD}{m:Nat->Value}{b:Nat}{vs:Array Value}{l:List AO}(j:m id=.pointer (some ⟨b,0,none⟩))(M:vs.size=[T.aH f [.ptr id 0]].length)(U:∀(i:Nat) x t,vs[i]?=some x->[T.aH f [.ptr id 0]][i]?=some t->az I m l x t)(G:∀k,k<vs.size->J.cell b k=vs[k]?):Rd J (.pointer (some ⟨b,0,none⟩)) (.self f):=by
 refine .self b f ?_;have ad:vs.size=1:=M;have hv:vs[0]?=some (vs[0]'(by omega)):=e5 _;rw[G 0 (by omega),hv];have F:=U 0 _ _ hv rfl;generalize vs[0]'(by omega)=v at F;cases F with
 |aH _ ws _ Z aa=>
  have N:ws.size=1:=Z;have O:ws[0]?=some (ws[0]'(by omega)):=e5 _;have B:=aa 0 _ _ O rfl;have e:ws = #[ws[0]'(by omega)]:=by
   apply Array.ext
   ·simp[N]
   intro i F B;simp at B;subst B;rfl
  generalize ws[0]'(by omega)=v0 at B e;subst e;cases B with
  |ptr _ ab _ _ Y=>
   rw[Y]at j;injection j with j;injection j with j;injection j with j;subst j;simp
def acu{s:St}{t':Tm}(h:∀k,get t' k=.undef\/get t' k=get s.t k):Sub s ⟨t',s.l⟩:=by
 intro w0 I0 n a w M;obtain⟨j,I,m,F,B,G⟩:=M;refine⟨j,I,m,F,B,λk=>?_⟩;rcases h k with e|e
 ·show az I m s.l _ (get t' k);rw[e];exact .undef _
 show az I m s.l _ (get t' k);rw[e];exact G k
end
end Go.Sy
namespace Go.Sy
open Go Go.ak
variable [aI]
inductive RX(ρ:aU):TX->T->Prop
 |undef (t):RX ρ .undef t
 |gone:RX ρ .gone ak.gone
 |d (t x) (v:t.den):isVal t->x.den ρ=some ⟨t,v⟩->RX ρ (.d t x) (.d (t.enc v))
 |bq (s):RX ρ (.bq s) (.bq s)
 |ej:RX ρ .ej (.d (.map [] []))
 |ptr (id off):RX ρ (.ptr id off) (.ptr id off)
 |bu (t e b off size els k) (v:t.den):isVal t->e.den ρ=some ⟨t,v⟩->k<els.length->((eF els k).cells.drop b).take t.size=(t.enc v).cells->b+t.size<=size->(b=0->size=t.size->eF els k=t.enc v) ->
   RX ρ (.bu t e off) (.bu size els k (b+off))
 |row (id):RX ρ (.row id) (.row id)
 |bx (id k off kk) (n:Int):k.den ρ=some ⟨.int kk,n⟩->RX ρ (.bx id k off) (.bx id n.toNat off)
 |map (id):RX ρ (.map id) (.map id)
 |bj (id):RX ρ (.bj id) (.bj id)
 |cC (id n):RX ρ (.cC id n) (.cC id n)
 |bI (id t x) (xs:List t.den):x.den ρ=some ⟨.list t,xs⟩->RX ρ (.bI id t x) (.bI id (.slice t.size (xs.map t.enc)))
 |sub (id lo hi) (k1 k2:IntKind) (n h:Int):0<=n->lo.den ρ=some ⟨.int k1,n⟩->hi.den ρ=some ⟨.int k2,h⟩->RX ρ (.sub id lo hi) (.sub id n.toNat h.toNat)
 |agg (cs ts):cs.length=ts.length->(∀(i:Nat) c t,cs[i]?=some c->ts[i]?=some t->RX ρ c t)->RX ρ (.agg cs) (.agg ts)
 |iN (cs) (ds:List D):cs.length=ds.length->(∀(i:Nat) c d,cs[i]?=some c->ds[i]?=some d->RX ρ c (.d d))->RX ρ (.agg cs) (.d (.agg ds))
 |aL (cs ts):cs.length=ts.length->(∀(i:Nat) c t,cs[i]?=some c->ts[i]?=some t->RX ρ c t)->RX ρ (.aL cs) (.aL ts)
 |fV (cs) (ds:List D):cs.length=ds.length->(∀(i:Nat) c d,cs[i]?=some c->ds[i]?=some d->RX ρ c (.d d))->RX ρ (.aL cs) (.d (.aL ds))
 |iW (f cs) (ds:List D):cs.length=ds.length->(∀(i:Nat) c d,cs[i]?=some c->ds[i]?=some d->RX ρ c (.d d))->RX ρ (.aH f cs) (.d (.aH f ds))
 |aH (f cs ts):cs.length=ts.length->(∀(i:Nat) c t,cs[i]?=some c->ts[i]?=some t->RX ρ c t)->RX ρ (.aH f cs) (.aH f ts)
theorem RX.mono{ρ ρ':aU}(h:Ext ρ ρ'){c:TX}{t:T}(k:RX ρ c t):RX ρ' c t:=by
 induction k with
 |undef t=>exact .undef t
 |gone=>exact .gone
 |d t x v j F=>exact .d t x v j (X.eT h F)
 |bq s=>exact .bq s
 |ej=>exact .ej
 |ptr i o=>exact .ptr i o
 |bu t e b off size els k v j F G M N O=>exact .bu t e b off size els k v j (X.eT h F) G M N O
 |row i=>exact .row i
 |bx id k off kk n j=>exact .bx id k off kk n (X.eT h j)
 |map i=>exact .map i
 |bj i=>exact .bj i
 |cC i n=>exact .cC i n
 |bI id t x xs j=>exact .bI id t x xs (X.eT h j)
 |sub id lo hi U Y n m h0 j F=>exact .sub id lo hi U Y n m h0 (X.eT h j) (X.eT h F)
 |agg cs ts j _ B=>exact .agg cs ts j B
 |iN cs ds j _ B=>exact .iN cs ds j B
 |aL cs ts j _ B=>exact .aL cs ts j B
 |fV cs ds j _ B=>exact .fV cs ds j B
 |iW f cs ds j _ B=>exact .iW f cs ds j B
 |aH f cs ts j _ B=>exact .aH f cs ts j B
inductive LF where
 |frame (b:Nat) (vals:Nat->Value) (ft:Tm)
 |loop (b k:Nat) (ps:Array Tmp) (bc body:Code) (tm:Tm)
class cH where
 lam:Nat->Option LF
instance (priority:=low) MN:cH:=⟨λ_=>none⟩
def KI:Ex->Code
 |.ret=>.ret
 |.exit i=>.exit i
 |_=>.skip
def qp:Ls->LoopState
 |.ready=>.ready
 |.busy=>.busy
 |.done _=>.done
def rR:Ls->Option Code
 |.done e=>some (KI e)
 |_=>none
def nf(ft:Tm)(rs:List Nat):Prop:=∀k,∀r∈eB (get ft k),r∈rs
def Mz:AO->Bool
 |.frame .. =>true
 |.loop .. =>true
 |_=>false
variable [cH]
inductive bR(ρ:aU):AX->AO->Prop
 |dead:bR ρ .dead .dead
 |var (ty cs ts):F2 (RX ρ) cs ts->bR ρ (.var ty cs) (.var ty ts)
 |row (e t x) (xs:List t.den):isVal t->x.den ρ=some ⟨.list t,xs⟩->bR ρ (.row false e t x) (.row e t.size (xs.map t.enc))
 |bn (e t x) (xs:List t.den):isVal t->x.den ρ=some ⟨.list t,xs⟩->bR ρ (.row true e t x) (.bn e t.size (xs.map t.enc))
 |map (k v x) (m:List (k.den×v.den)):isVal k->isVal v->x.den ρ=some ⟨.map k v,m⟩->bR ρ (.map false k v x) (.map (m.map λp=>k.enc p.1) (m.map λp=>v.enc p.2))
 |dJ (k v x) (m:List (k.den×v.den)):isVal k->isVal v->x.den ρ=some ⟨.map k v,m⟩->bR ρ (.map true k v x) (.dJ (m.map λp=>k.enc p.1) (m.map λp=>v.enc p.2))
 |bw (e kk t x) (m:List (Int×List t.den)):isVal t->0<t.size->x.den ρ=some ⟨.map (.int kk) (.list t),m⟩->bR ρ (.bw e kk t x) (.bw e t.size (m.map λp=>D.int kk p.1) (m.map λp=>(Ty.list t).enc p.2) none)
 |fA (e kk t x k) (m:List (Int×List t.den)) (n:Int):isVal t->0<t.size->x.den ρ=some ⟨.map (.int kk) (.list t),m⟩->k.den ρ=some ⟨.int kk,n⟩->bR ρ (.fA e kk t x k) (.bw e t.size (m.map λp=>D.int kk p.1) (m.map λp=>(Ty.list t).enc p.2) (some ((ei n (m.map λp=>D.int kk p.1) 0).getD (m.map λp=>D.int kk p.1).length)))
 |dx (j b rs vals ft):cH.lam j=some (.frame b vals ft)->nf ft rs->bR ρ (.dx j b rs) (.frame b vals ft)
 |lp (j b rs st k ps bc body tm):cH.lam j=some (.loop b k ps bc body tm)->nf tm rs->bR ρ (.lp j b rs st) (.loop b k ps bc body tm (qp st) (rR st))
 |eI (o):Mz o=true->bR ρ .eI o
theorem bR.mono{ρ ρ':aU}(h:Ext ρ ρ'){a:AX}{o:AO}(k:bR ρ a o):bR ρ' a o:=by
 cases k with
 |dead=>exact .dead
 |var ty cs ts B=>exact .var ty cs ts (B.mono λ_ _=>RX.mono h)
 |row e t x xs h0 B=>exact .row e t x xs h0 (X.eT h B)
 |bn e t x xs h0 B=>exact .bn e t x xs h0 (X.eT h B)
 |map k v x m h0 F B=>exact .map k v x m h0 F (X.eT h B)
 |dJ k v x m h0 F B=>exact .dJ k v x m h0 F (X.eT h B)
 |bw e kk t x m h0 F B=>exact .bw e kk t x m h0 F (X.eT h B)
 |fA e kk t x k m n h0 F B M=>exact .fA e kk t x k m n h0 F (X.eT h B) (X.eT h M)
 |dx j b rs vals ft B F=>exact .dx j b rs vals ft B F
 |lp j b rs st k ps bc G tm B F=>exact .lp j b rs st k ps bc G tm B F
 |eI o h=>exact .eI o h
abbrev RL(ρ:aU):List AX->List AO->Prop:=F2 (bR ρ)
theorem RL.mono{ρ ρ':aU}(h:Ext ρ ρ'){l:List AX}{m:List AO}(k:RL ρ l m):RL ρ' l m:=F2.mono (λ_ _=>bR.mono h) k
structure bh(ρ:aU)(σ:Sk)(s:St):Prop where
 eC:ep σ.n ρ
 t:∀k,RX ρ (ba σ.t k) (get s.t k)
 l:RL ρ σ.l s.l
theorem wa(t:Ty)(xs:List t.den):Ty.enc (.list t) xs=.slice t.size (xs.map t.enc):=rfl
def KN{t:TX}{p:Ty×X}(h:tE t=some p):t=.d p.1 p.2:=by
 cases t<;>simp[tE]at h
 subst h;rfl
def abk{ρ:aU}{cs:List (Ty×X)}{ds:List D}(h:F2 (RC ρ) cs ds):F2 (RX ρ) (cs.map λp=>.d p.1 p.2) (ds.map .d):=by
 induction h with
 |nil=>exact .nil
 |cons j _ B=>
  obtain⟨k,v,hv,rfl⟩:=j;exact .cons (.d _ _ v k hv) B
def OR{ρ:aU}:∀{cs:List TX}{ts:List T}{ps:List (Ty×X)},F2 (RX ρ) cs ts->cs.mapM tE=some ps->∃ds,ts=ds.map .d/\F2 (RC ρ) ps ds
 | [],[],ps,_,h=>by simp at h;subst h;exact⟨[],rfl,.nil⟩
 |c::cs,t::ts,ps,.cons j k,h=>by
  simp only[l2,Option.bind_eq_bind,k6,Option.pure_def,c4]at h;obtain⟨p,B,N,F,rfl⟩:=h;have:=KN B;subst this;obtain⟨ds,rfl,M⟩:=OR k F;cases j with
  |d t x v hv G=>exact⟨_::ds,rfl,.cons ⟨hv,v,G,rfl⟩ M⟩
def j7{ρ:aU}{t:Ty}{x:X}{u:T}(h:RX ρ (.d t x) u):isVal t/\∃v:t.den,x.den ρ=some ⟨t,v⟩/\u=.d (t.enc v):=by
 cases h with
 |d t x v j k=>exact⟨j,v,k,rfl⟩
theorem U5(t:Ty)(v:t.den):bB (.d (t.enc v))=(t.enc v).cells.map .d:=rfl
def wb[cz]{t:Ty}(hv:isVal t)(v:t.den):∀d∈(t.enc v).cells,d.one=true:=by
 by_cases k:cd t=true
 ·cases t<;>simp[cd]at k
  exact cz.AJ _ v
 have:=lN (by simpa using k) hv.1 hv.2 v;rw[this.1];intro d j;simp at j;subst j;exact this.2
def kI[cz]{t:Ty}(hv:isVal t)(v:t.den):(t.enc v).cells.length=t.size:=by
 by_cases j:cd t=true
 ·cases t<;>simp[cd]at j
  exact cz.len _ v
 rw[(lN (by simpa using j) hv.1 hv.2 v).1];cases t<;>simp_all [cd,Ty.size]
def Zg[cz]{ρ:aU}{x:TX}{u:T}(h:RX ρ x u)(j:w4 x=true):u.gq=true:=by
 cases h<;>simp[w4]at j<;>try rfl
 rename_i t x v hv k;exact(lN (by simpa using j) hv.1 hv.2 v).2
def Zh[cz]{ρ:aU}{xs:List TX}{k:List T}(h:F2 (RX ρ) xs k)(j:xs.all w4=true):k.all T.gq=true:=by
 induction h with
 |nil=>rfl
 |cons B _ F=>
  simp only[List.all_cons,dk]at j⊢;exact⟨Zg B j.1,F j.2⟩
def U4[cz][dg]{ρ:aU}{x:TX}{u:T}{cs:List TX}(h:RX ρ x u)(j:iU x=some cs):F2 (RX ρ) cs (bB u):=by
 cases h with
 |undef t=>simp[iU]at j
 |gone=>simp[iU]at j
 |d t x v B F=>
  simp only[iU,e4]at j;obtain⟨ps,Z,rfl⟩:=j;exact abk (rj _ B F Z)
 |agg G ts B F=>
  simp only[iU,c4]at j;subst j;exact F2.of B F
 |iN G ds B F=>
  simp only[iU,c4]at j;subst j;exact F2.of (by simpa [bB,D.cells]using B) λi c t j ht=>by
   simp only[bB,D.cells,e3,e4]at ht;obtain⟨d,Y,rfl⟩:=ht;exact F i c d j Y
 |aL G ts B F=>simp[iU]at j
 |fV G ts B F=>simp[iU]at j
 |ej=>simp only[iU,c4]at j;subst j;exact .cons .ej .nil
 |bu t e b off size els k v B F M N O U=>simp only[iU,c4]at j;subst j;exact .cons (.bu t e b off size els k v B F M N O U) .nil
 |bx id k off kk n B=>simp only[iU,c4]at j;subst j;exact .cons (.bx id k off kk n B) .nil
 |bI id t x xs B=>simp only[iU,c4]at j;subst j;exact .cons (.bI id t x xs B) .nil
 |iW f G ds B F=>simp only[iU,c4]at j;subst j;exact .cons (.iW f G ds B F) .nil
 |aH f G ts B F=>simp only[iU,c4]at j;subst j;exact .cons (.aH f G ts B F) .nil
 |_=>simp only[iU,c4]at j;subst j;exact .cons (by constructor<;>assumption) .nil
def zq[cz][dg]{ρ:aU}{x:TX}{u:T}{cs:List TX}(h:RX ρ x u)(j:ri x=some cs):F2 (RX ρ) cs (bB u)/\(bB u).all T.gq=true:=by
 unfold ri at j;split at j
 ·rename_i B h0;cases k:B.all w4 with
  |true=>
   simp only[k,cond_true,c4]at j;subst j;have:=U4 h h0;exact⟨this,Zh this k⟩
  |false=>simp[k]at j
 cases j
def FQ:∀{ts:List T}{ds:List D},ts.mapM fz=some ds->ts=ds.map .d
 | [],ds,h=>by simp at h;subst h;rfl
 |t::ts,ds,h=>by
  simp only[l2,Option.bind_eq_bind,k6,Option.pure_def,c4]at h;obtain⟨x,j,xs,k,rfl⟩:=h;rw[FQ k];cases t<;>simp[fz]at j
  subst j;rfl
def Ax[cz][dg]{ρ:aU}{t:Ty}(hv:isVal t){cs:List TX}{ts:List T}{x:TX}(h:F2 (RX ρ) cs ts)(j:rW t cs=some x):RX ρ x (iF (cd t) ts):=by
 unfold rW at j;cases N:cd t with
 |true=>
  simp only[N,cond_true]at j;obtain⟨i,rfl⟩:∃i,t=.st i:=by cases t<;>simp_all [cd]
  split at j
  ·rename_i ps G;obtain⟨ds,rfl,M⟩:=OR h G;simp only[e4]at j;obtain⟨y,O,rfl⟩:=j;obtain⟨v,B,k⟩:=F7 hv O M;have e:(ds.map T.d).mapM fz=some ds:=by
    clear G h M O k;induction ds with
    |nil=>rfl
    |cons d ds Z=>simp[fz,Z]
   simp only[iF,e,hK];have U:D.agg ds=Ty.enc (.st i) v:=by rw[k];rfl
   rw[U];exact .d _ _ v hv B
  simp only[c4]at j;subst j;simp only[iF,hK];cases e:ts.mapM fz with
  |none=>exact .agg cs ts h.len λi c t F ht=>h.get F ht
  |some ds=>
   have:=FQ e;subst this;refine .iN cs ds (by simpa using h.len) λi c d F Y=>h.get F (by simp[Y])
 |false=>
  simp only[N,cond_false]at j;split at j
  ·rename_i c;simp only[c4]at j;subst j;cases h with
   |cons B k=>cases k;simpa [iF]using B
  cases j
def ql{t:Ty}(j:cd t=true)(v:t.den):t.enc v=.agg (t.enc v).cells:=by
 cases t<;>simp[cd]at j
 rfl
def Oe[cz][dg]{ρ:aU}{u t:Ty}{e:X}{v:u.den}{off:Nat}{x:TX}(k:isVal u)(ht:isVal t)(O:e.den ρ=some ⟨u,v⟩)(h:qH u e off t=some x) :
  ∃(y:X)(w:t.den),x=.d t y/\y.den ρ=some ⟨t,w⟩/\(t.enc w).cells=((u.enc v).cells.drop off).take t.size/\off+t.size<=u.size/\(off=0->t.size=u.size->t.enc w=u.enc v):=by
 unfold qH at h;cases h0:(Nat.beq off 0&&decide (t=u))with
 |true=>
  simp only[h0,cond_true,c4]at h;simp only[dk,ea]at h0;obtain⟨j,rfl⟩:=h0;have:=eb j;subst this;exact⟨e,v,h.symm,O,by rw[q4,j5 (by rw[kI k];exact ec _)],by omega,λ_ _=>rfl⟩
 |false=>
  simp only[h0,cond_false]at h;cases j:(Nat.beq off 0&&Nat.beq t.size u.size&&(cd t != cd u))with
  |true=>simp[j]at h
  |false=>
   simp only[j,cond_false]at h;split at h
   ·rename_i cs aa;have N:=rj _ k O aa;cases G:Nat.ble (off+t.size) cs.length with
    |false=>simp[G]at h
    |true=>
     simp only[G,cond_true,e4]at h;obtain⟨y,ab,rfl⟩:=h;have af:=hg G;have ag:cs.length=u.size:=by rw[N.len,kI k]
     obtain⟨w,Z,B⟩:=F7 ht ab ((N.drop off).take t.size);refine⟨y,w,rfl,Z,B.symm,by omega,λY M=>?_⟩;subst Y;rw[q4,j5 (by rw[kI k,M];exact ec _)]at B;simp only[h6,k4,M]at j;have U:cd t=cd u:=by simpa using j
     cases F:cd u with
     |true=>rw[ql F v,ql (U.trans F) w,B]
     |false=>
      have ad:=(lN F k.1 k.2 v).1;have ae:=(lN (U.trans F) ht.1 ht.2 w).1;rw[ad,ae]at B;simpa using B.symm
   cases h
end Go.Sy
namespace Go.Sy
open Go Go.ak
variable [aI][cH]
inductive bY(cs:List Callee):Nat->aU->List Ins->aU->Prop
 |nil (n ρ):bY cs n ρ [] ρ
 |bQ (n ρ x r ρ'):x.den ρ=some ⟨.bool,true⟩->bY cs n ρ r ρ'->bY cs n ρ (.bQ x::r) ρ'
 |get (n ρ xs k r ρ') (t:Ty) (l:List t.den) (kk:IntKind) (i:Int) (e:t.den):xs.den ρ=some ⟨.list t,l⟩->k.den ρ=some ⟨.int kk,i⟩->an l i=some e->bY cs (n+1) ((n,⟨t,e⟩)::ρ) r ρ'->bY cs n ρ (.get xs k::r) ρ'
 |call (n ρ c x r ρ') (C:Callee) (a:(aP C.args).den) (y:(aP C.res).den):cs[c]?=some C->x.den ρ=some ⟨aP C.args,a⟩->C.fn a=some y->bY cs (n+1) ((n,⟨aP C.res,y⟩)::ρ) r ρ'->bY cs n ρ (.call c x::r) ρ'
theorem bY.ext{cs:List Callee}{n:Nat}{ρ ρ':aU}{is:List Ins}(h:bY cs n ρ is ρ'):ep n ρ->Ext ρ ρ'/\ep (kP n is) ρ':=by
 induction h with
 |nil n ρ=>intro j;exact⟨.refl ρ,j⟩
 |bQ n ρ x r ρ' _ _ B=>intro j;exact B j
 |get n ρ xs k r ρ' t l kk i e _ _ _ _ B=>
  intro j;obtain⟨F,G⟩:=B (j.push (p3 n) _);exact⟨(Ext.push j _).trans F,G⟩
 |call n ρ c x r ρ' C a y _ _ _ _ B=>
  intro j;obtain⟨F,G⟩:=B (j.push (p3 n) _);exact⟨(Ext.push j _).trans F,G⟩
def cJ:(ts:List Ty)->(aP ts).den->List D
 | [],_=>[]
 | [t],x=>[t.enc x]
 |t::u::ts,x=>t.enc x.1::cJ (u::ts) x.2
variable [bm]
structure gZ(P:Program)(C:Callee):Prop where
 enters:Enters P C.f
 kF:∀a r,C.fn a=some r->gA P C.f (cJ C.args a) ((aP C.res).enc r)
 args:∀t∈C.args,isVal t
 res:∀t∈C.res,isVal t
def fO:List NS->List D->List T
 |.dI _::r,d::ds=>.d d::fO r ds
 |.nil s::r,ds=>.bq s::fO r ds
 |_,_=>[]
def vJ(P:Program)(f:FuncId)(ds:List D)(t:T):Prop:=
 ∀(w:World)(I:aD)(vs:Array Value),cZ w I->vs.size=ds.length->(∀(i:Nat) v d,vs[i]?=some v->ds[i]?=some d->Rd I v d) ->
  Calls P f vs w λe w'=>∃v J,e=.returned v/\dq w.heap.size w w'/\ff w.heap.size I J/\cZ w' J/\az J (λ_=>undef) [] v t
structure qU(P:Program)(f:FuncId)(args:List Ty)(sh:List NS)(fn:(aP args).den->Option (aP (cM sh)).den):Prop where
 enters:Enters P f
 kF:∀a r,fn a=some r->vJ P f (cJ args a) (.agg (fO sh (cJ (cM sh) r)))
 res:∀t∈cM sh,isVal t
structure oz(P:Program)(f:FuncId)(t:Ty)(args:List Ty)(fn:(aP (.list t::args)).den->Option (List t.den)):Prop where
 enters:Enters P f
 val:isVal t
 kF:∀(a:(aP (.list t::args)).den)(r:List t.den),fn a=some r->∀(l:List AO)(id e:Nat)(els ds:List D),cJ (.list t::args) a=.slice t.size els::ds->l[id]?=some (.row e t.size els)->sU P f (.row id::ds.map .d) l (.d (.aL [])) (l.set id (.row e t.size (r.map t.enc)))
structure ju where
 f:FuncId
 t:Ty
 args:List Ty
 fn:(aP (.list t::args)).den->Option (List t.den)
def ju.kD(c:ju):Callee:=⟨c.f,.list c.t::c.args,[.list c.t],c.fn⟩
def bZ(P:Program)(o:Oper)(ρT:Operand->T)(l:List AO)(t:T)(l':List AO):Prop:=
 (
  ∀c,o.op ≠ .defer c)/\∀(w0:World)(I0:aD)(w:World)(I:aD)(m:Nat->Value)(ρ:Operand->Value),aJ w0 I0 w I m l->(∀x∈o.op.operands,az I m l (ρ x) (ρT x)) ->
  cr P ((execOp ρ o).run P w) λv w'=>∃J m',Le I m l J m' l'/\aJ w0 I0 w' J m' l'/\az J m' l' v t
section
variable {P:Program}{V:Env}{o:Oper}{ρT:Operand->T}{l:List AO}{nid:Nat}
theorem bZ.none(M:c6 P V){r:R}(O:evalOp V ρT l nid o=r)(k:r.ob)(N:r.bE=.none):bZ P o ρT l r.t l:=by
 subst O;refine⟨wg k,λw0 I0 w I m ρ U Y=>?_⟩;have j:=rp M U (eQ.refl _) Y k;unfold cm at j;rw[N]at j;exact j.mono λv w' ⟨J,B,F,G⟩=>⟨J,m,B,F,G⟩
theorem bZ.aQ(M:c6 P V){r:R}(U:evalOp V ρT l nid o=r)(k:r.ob){l':List AO}(N:r.bE=.aQ l')(O:nid=l.length):bZ P o ρT l r.t l':=by
 subst U;refine⟨wg k,λw0 I0 w I m ρ Y Z=>?_⟩;have j:=rp M Y (eQ.refl _) Z k;unfold cm at j;rw[N]at j;exact(j rfl O).mono λv w' ⟨J,m',B,F,G⟩=>⟨J,m',B,F,G⟩
theorem bZ.set(M:c6 P V){r:R}(U:evalOp V ρT l nid o=r)(k:r.ob){a:AO}(N:r.bE=.new a)(O:l[nid]?=some .dead):bZ P o ρT l r.t (l.set nid a):=by
 subst U;refine⟨wg k,λw0 I0 w I m ρ Y Z=>?_⟩;have j:=rp M Y (eQ.refl _) Z k;unfold cm at j;rw[N]at j;exact(j O).mono λv w' ⟨m',B,F,G⟩=>⟨I,m',B,F,G⟩
theorem bZ.new(N:c6 P V){r:R}(Z:evalOp V ρT l nid o=r)(B:r.ob){a:AO}(O:r.bE=.new a)(Y:nid=l.length):bZ P o ρT l r.t (l++[a]):=by
 subst Z;subst Y;refine⟨wg B,λw0 I0 w I m ρ aa ae=>?_⟩;obtain⟨ad,k⟩:=aa.push;have j:=rp (nid:=l.length) N ad (L:=l++[.dead]) (λid U=>e1 U) (λx h=>(ae x h).mono k) B;unfold cm at j;rw[O]at j;have ab:(l++[AO.dead]).set l.length a=l++[a]:=by simp
 dsimp only at j;rw[ab]at j;exact(j (by simp)).mono λv w' ⟨m',F,G,M⟩=>⟨I,m',k.trans F,G,M⟩
end
def cD(P:Program)(o:Oper)(ρT:Operand->T)(l:List AO)(nid:Nat)(ρ':aU)(q:dr):Prop:=∃t,RX ρ' q.t t/\match q.bE with
 |.none=>bZ P o ρT l t l
 |.new a=>∃j,bR ρ' a j/\(nid=l.length->bZ P o ρT l t (l++[j]))/\(l[nid]?=some .dead->bZ P o ρT l t (l.set nid j))
 |.aQ k=>∃l',RL ρ' k l'/\(nid=l.length->bZ P o ρT l t l')
def cy{t:Ty}(h:dN t=true):isVal t:=by
 cases t<;>simp_all [dN,isVal]
def vH(p:Ty×X)(d:D):Bool:=match p.1,p.2,d with
 |.int k,.int j n,.int B m=>decide (k=j)&&decide (j=B)&&decide (n=m)
 |.bool,.bool b,.bool c=>b == c
 |.str,.str [],.str s=>s.data.toList.isEmpty
 |.list t,.nil u,.slice s []=>decide (t=u)&&Nat.beq s t.size
 |.map k v,.lf j F,.map [] []=>decide (k=j)&&decide (v=F)
 |_,_,_=>false
def lF:List (Ty×X)->List D->Bool
 | [],[]=>true
 |x::xs,d::ds=>vH x d&&lF xs ds
 |_,_=>false
def pM(t:Ty)(ds:List D):Bool:=match kx gh t with
 |some x=>match fI gh t x with
  |some ps=>lF ps ds
  |none=>false
 |none=>false
def oH(C:Cx)(t:Ty)(d:TD):Bool:=match t,d with
 |.int k,.dE B=>decide (k=B)
 |.str,.string=>true
 |.bool,.jJ=>true
 |.list u,.slice e=>decide (C.ty e=some u)&&dN u&&Nat.ble 1 u.size&&(C.E e).isSome
 |.map k v,.map kt j=>decide (C.ty kt=some k)&&decide (C.ty j=some v)&&dN k&&dN v&&(C.E kt).isSome&&(C.E j).isSome
 |.st _,.struct fs=>fs.all λf=>(C.E f.2).isSome
 |_,_=>false
def sJ(C:Cx)(ty:TypeId)(t:Ty):Bool:=match C.E ty with
 |some i=>Nat.beq i.size t.size&&(i.desc.agg == cd t)&&dN t&&oH C t i.desc&&pM t i.zero
 |none=>false
structure bM(P:Program)(V:Env)(C:Cx):Prop where
 ok:c6 P V
 E:V.E=C.E
 eq:V.jE=C.eqs
 sub:V.sub=false
 ty:∀ty t,C.ty ty=some t->sJ C ty t=true
def adD{ρ:aU}{p:Ty×X}{d:D}(h:vH p d=true):RX ρ (yI p) (lG d):=by
 obtain⟨t,x⟩:=p;unfold vH at h;split at h
 ·rename_i j B;simp only at j B;subst j;subst B;simp only[dk,ea]at h;obtain⟨⟨rfl,rfl⟩,rfl⟩:=h;exact .d (.int _) _ _ (cy rfl) rfl
 ·rename_i j B;simp only at j B;subst j;subst B;simp only[r4]at h;subst h;exact .d .bool _ _ (cy rfl) rfl
 ·rename_i s j B;simp only at j B;subst j;subst B;have:s=⟨⟨[]⟩⟩:=by
   cases s with|mk d=>cases d with|mk l=>simp at h;subst h;rfl
  subst this;exact .d .str _ _ (cy rfl) rfl
 ·rename_i j B;simp only at j B;subst j;subst B;simp only[dk,ea]at h;obtain⟨rfl,F⟩:=h;have:=eb F;subst this;simp only[yI,hK];exact .bq _
 ·rename_i k v G M j B;simp only at j B;subst j;subst B;simp only[dk,ea]at h;obtain⟨rfl,rfl⟩:=h;exact .d (.map k v) (.lf k v) ([]:List (k.den×v.den)) (cy rfl) rfl
 cases h
def adC{ρ:aU}{p:Ty×X}{d e:D}(h:vH p e=true)(G:RC ρ p d):e=d:=by
 obtain⟨t,x⟩:=p;obtain⟨_,v,hv,rfl⟩:=G;simp only at v hv⊢;unfold vH at h;split at h
 ·rename_i j B;simp only at j B;subst j;subst B;simp only[dk,ea]at h;obtain⟨⟨rfl,rfl⟩,rfl⟩:=h;simp only[X.den,c4]at hv;cases hv;rfl
 ·rename_i j B;simp only at j B;subst j;subst B;simp only[r4]at h;subst h;simp only[X.den,c4]at hv;cases hv;rfl
 ·rename_i s j B;simp only at j B;subst j;subst B;have:s=⟨⟨[]⟩⟩:=by
   cases s with|mk d=>cases d with|mk l=>simp at h;subst h;rfl
  subst this;simp only[X.den,c4]at hv;cases hv;rfl
 ·rename_i j B;simp only at j B;subst j;subst B;simp only[dk,ea]at h;obtain⟨rfl,F⟩:=h;have:=eb F;subst this;simp only[X.den,c4]at hv;cases hv;rfl
 ·rename_i k v M N j B;simp only at j B;subst j;subst B;simp only[dk,ea]at h;obtain⟨rfl,rfl⟩:=h;simp only[X.den,c4]at hv;cases hv;rfl
 cases h
def QX{ρ:aU}:∀{ps:List (Ty×X)}{ds:List D},lF ps ds=true->F2 (RX ρ) (ps.map yI) (ds.map lG)
 | [],[],_=>.nil
 |p::ps,d::ds,h=>by
  simp only[lF,dk]at h;exact .cons (adD h.1) (QX h.2)
 | [],_::_,h=>by simp[lF]at h
 |_::_,[],h=>by simp[lF]at h
def QW{ρ:aU}:∀{ps:List (Ty×X)}{ds j:List D},lF ps j=true->F2 (RC ρ) ps ds->j=ds
 | [],[],[],_,_=>rfl
 |p::ps,d::ds,e::j,h,.cons h1 k=>by
  simp only[lF,dk]at h;rw[adC h.1 h1,QW h.2 k]
 | [],[],_::_,h,_=>by simp[lF]at h
 |_::_,_::_,[],h,_=>by simp[lF]at h
 | [],_::_,_,_,h=>by cases h
 |_::_,[],_,_,h=>by cases h
theorem QS{ρ:aU}{t:Ty}{ds:List D}(h:pM t ds=true):∃z,zeroCells t=some z/\F2 (RX ρ) z (ds.map lG):=by
 unfold pM at h;split at h
 ·rename_i x k;split at h
  ·rename_i ps j;exact⟨ps.map yI,by simp[zeroCells,k,j],QX h⟩
  cases h
 cases h
section
variable {P:Program}{V:Env}{C:Cx}
def bM.info(h:bM P V C){ty:TypeId}{t:Ty}(ht:C.ty ty=some t):∃i,V.E ty=some i/\i.size=t.size/\i.desc.agg=cd t/\isVal t/\oH C t i.desc=true/\pM t i.zero=true:=by
 have k:=h.ty ty t ht;unfold sJ at k;split at k
 ·rename_i i hi;simp only[dk,r4]at k;obtain⟨⟨⟨⟨j,B⟩,F⟩,G⟩,M⟩:=k;exact⟨i,by rw[h.E];exact hi,eb j,B,cy F,G,M⟩
 cases k
end
end Go.Sy
