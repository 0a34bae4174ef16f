import Derived.Test.YtjigeffmmcmlnaaGreatDoorX4
import Derived.RangeFuncIn
import Derived.ProofKit
import Derived.ChangeArms
import Derived.Deep.Slices
import Derived.Carry
set_option linter.all false
set_option linter.unnecessarySimpa false
set_option linter.deprecated false
set_option linter.unusedVariables false
set_option linter.unusedSimpArgs false
set_option linter.unusedSectionVars false
namespace Go.an
open Go Go.RowKit
variable [ck] [dx]
def idx (id:Nat):List Nat→Nat→Option Nat
 | [],_=>none
 | x::xs,k=>if x=id then some k else idx id xs (k+1)
theorem zM {id:Nat}:∀ {xs:List Nat} {k j:Nat},idx id xs k=some j→k≤j∧xs[j - k]?=some id
 | [],k,j,h=>by simp[idx] at h
 | x::xs,k,j,h=>by
  simp only[idx] at h
  split at h
  ·rename_i hx;cases h;simp[hx]
  obtain⟨h1,h2⟩:=zM h
  refine⟨by omega,?_⟩
  rw[show j - k=(j - (k+1))+1 by omega];simpa using h2
def T.data:T→Bool
 | .d _=>true
 | _=>false
def T.flat:T→Bool
 | .d _=>true
 | .ptr _ _=>true
 | .cE _=>true
 | _=>false
def T.BO (ids:List Nat):T→T
 | .ptr id off=>match idx id ids 0 with | some k=> .ptr k off | none=> .undef
 | .cE id=>match idx id ids 0 with | some k=> .cE k | none=> .undef
 | t=>t
def T.eU (ids:List Nat):T→T
 | .ptr id off=>match idx id ids 0 with | some k=> .ptr k off | none=> .undef
 | .row id=>match idx id ids 0 with | some k=> .row k | none=> .undef
 | .dH id k off=>match idx id ids 0 with | some j=> .dH j k off | none=> .undef
 | .map id=>match idx id ids 0 with | some k=> .map k | none=> .undef
 | .cE id=>match idx id ids 0 with | some k=> .cE k | none=> .undef
 | .sub id lo hi=>match idx id ids 0 with | some k=> .sub k lo hi | none=> .undef
 | .fQ id x=>match idx id ids 0 with | some k=> .fQ k x | none=> .d x
 | .aR g ts=>if ts.all T.flat then .aR g (ts.map (T.BO ids)) else .undef
 | .bn _=> .undef
 | .cond _ _=> .undef
 | .agg _=> .undef
 | t=>t
def T.bY (ids:List Nat):T→T
 | .bn ts=>if ts.all T.data then .bn ts else .undef
 | .cond pc t=>if t.data then .cond pc t else .undef
 | .agg ts=> .agg (ts.map (T.eU ids))
 | t=>t.eU ids
def AO.bY (ids:List Nat):AO→AO
 | .var ty cs=> .var ty (cs.map (T.bY ids))
 | o=>o
def ez (ids:List Nat) (l:List AO):List AO:=ids.map fun id=>((l[id]?).getD .dead).bY ids
theorem Uc {ids:List Nat} {l:List AO} {k id:Nat} (h:ids[k]?=some id):(ez ids l)[k]?=some (((l[id]?).getD .dead).bY ids):=by simp[ez,h]
theorem AO.BP (ids:List Nat) (o:AO):(o.bY ids).isVar=o.isVar:=by cases o<;>rfl
theorem AO.Dm (ids:List Nat) (o:AO):(o.bY ids).isRow=o.isRow:=by cases o<;>rfl
theorem ajc {ids:List Nat} (h:ids.Nodup):∀ {i j a:Nat},ids[i]?=some a→ids[j]?=some a→i=j:=by
 induction ids with
 | nil=>intro i j a hi;simp at hi
 | cons x xs ih=>
  intro i j a hi hj
  rw[List.nodup_cons] at h
  rcases i with _ | i<;>rcases j with _ | j
  ·rfl
  ·simp at hi hj;subst hi;exact absurd (List.mem_of_getElem? hj) h.1
  ·simp at hi hj;subst hj;exact absurd (List.mem_of_getElem? hi) h.1
  simp at hi hj;rw[ih h.2 hi hj]
section
variable {P:Program} {V:Env} {w0:World} {I0:aC} {n:Nat} {Q:Exit→St→Prop} {s:St}
theorem afu {I:aC} {m m':Nat→Value} {l l':List AO} {v:Value} {t:T} (h:aw I m l v t) (hb:t.data=true):aw I m' l' v t:=by
 cases h<;>simp[T.data] at hb
 exact .d _ _ (by assumption)
theorem BP {ids:List Nat} {l:List AO} {k id:Nat} (h:ids[k]?=some id):isVar (ez ids l) k=isVar l id:=by
 unfold isVar;rw[Uc h];simp only[Option.map_some,Option.getD_some,AO.BP]
 cases l[id]?<;>rfl
theorem Dm {ids:List Nat} {l:List AO} {k id:Nat} (h:ids[k]?=some id):isRow (ez ids l) k=isRow l id:=by
 unfold isRow;rw[Uc h];simp only[Option.map_some,Option.getD_some,AO.Dm]
 cases l[id]?<;>rfl
theorem ab9 {ids:List Nat} {l:List AO} {k id e size:Nat} {els:List D} (h:ids[k]?=some id) (hr:(ez ids l)[k]?=some (.row e size els)∨(ez ids l)[k]?=some (.cF e size els)):l[id]?=some (.row e size els)∨l[id]?=some (.cF e size els):=by
 rw[Uc h] at hr
 cases hl:l[id]? with
 | none=>rw[hl] at hr;simp[AO.bY] at hr
 | some o=>rw[hl] at hr;cases o<;>simp_all [AO.bY]
theorem aw.eU {I:aC} {m m':Nat→Value} {l:List AO} {ids:List Nat} (hm:∀ k id,ids[k]?=some id→m' k=m id) {v:Value} {t:T} (h:aw I m l v t):aw I m' (ez ids l) v (t.eU ids):=by
 have aN:∀ {k id:Nat},ids[k]?=some id→k < (ez ids l).length:=fun h=>by rw[show(ez ids l).length=ids.length by simp[ez]];exact(List.getElem?_eq_some_iff.1 h).1
 cases h with
 | undef=>exact .undef _
 | d v x hx=>exact .d _ _ hx
 | ao s=>exact .ao _
 | ptr id b off h1 h2=>
  simp only[T.eU]
  split
  ·rename_i k hk
   have hk:=(zM hk).2;simp only[Nat.sub_zero] at hk
   exact .ptr k b off ((BP hk).trans h1) ((hm k id hk).trans h2)
  exact .undef _
 | cE id b h1 h2=>
  simp only[T.eU]
  split
  ·rename_i k hk
   have hk:=(zM hk).2;simp only[Nat.sub_zero] at hk
   exact .cE k b ((BP hk).trans h1) ((hm k id hk).trans h2)
  exact .undef _
 | fy b o size els q off val h1 h2 h3 h4=>exact .fy b o size els q off val h1 h2 h3 h4
 | row A n c id h1 h2=>
  simp only[T.eU]
  split
  ·rename_i k hk
   have hk:=(zM hk).2;simp only[Nat.sub_zero] at hk
   exact .row A n c k (aN hk) fun hl=>(hm k id hk).trans (h2 ((Dm hk).symm.trans hl))
  exact .undef _
 | fQ A n c id x h1 h2 h3=>
  simp only[T.eU]
  split
  ·rename_i k hk
   have hk:=(zM hk).2;simp only[Nat.sub_zero] at hk
   exact .fQ A n c k x (aN hk) (fun hl=>(hm k id hk).trans (h2 ((Dm hk).symm.trans hl))) h3
  exact .d _ _ h3
 | dH a id q off h1 h2=>
  simp only[T.eU]
  split
  ·rename_i k hk
   have hk:=(zM hk).2;simp only[Nat.sub_zero] at hk
   refine .dH a k q off (aN hk) fun e size els hl=>?_
   obtain⟨b,n,c,q1,q2⟩:=h2 e size els (ab9 hk hl)
   exact⟨b,n,c,(hm k id hk).trans q1,q2⟩
  exact .undef _
 | sub A n c id lo hi h1 h2=>
  simp only[T.eU]
  split
  ·rename_i k hk
   have hk:=(zM hk).2;simp only[Nat.sub_zero] at hk
   refine .sub A n c k lo hi (aN hk) fun e size els hl=>?_
   obtain⟨A0,n0,c0,q1,q2⟩:=h2 e size els (ab9 hk hl)
   exact⟨A0,n0,c0,(hm k id hk).trans q1,q2⟩
  exact .undef _
 | map r id h1 h2=>
  simp only[T.eU]
  split
  ·rename_i k hk
   have hk:=(zM hk).2;simp only[Nat.sub_zero] at hk
   exact .map r k (aN hk) fun hl=>(hm k id hk).trans (h2 ((Dm hk).symm.trans hl))
  exact .undef _
 | bn vs ts h1 h2=>exact .undef _
 | cond v pc t h1 h2=>exact .undef _
 | agg vs ts h1 h2 h3=>exact .undef _
 | aR g vs ts h1 h2=>
  simp only[T.eU]
  split
  ·rename_i hb
   refine .aR g vs _ (by simpa using h1) fun i v t hv ht=>?_
   rw[List.getElem?_map] at ht
   cases CR:ts[i]? with
   | none=>rw[CR] at ht;cases ht
   | some t0=>
    rw[CR] at ht;simp at ht;subst ht
    have h0:=h2 i v t0 hv CR
    have hf:=List.all_eq_true.1 hb t0 (List.mem_of_getElem? CR)
    cases h0 with
    | d v x hx=>exact .d _ _ hx
    | ptr id b off q1 q2=>
     simp only[T.BO]
     split
     ·rename_i k hk
      have hk:=(zM hk).2;simp only[Nat.sub_zero] at hk
      exact .ptr k b off ((BP hk).trans q1) ((hm k id hk).trans q2)
     exact .undef _
    | cE id b q1 q2=>
     simp only[T.BO]
     split
     ·rename_i k hk
      have hk:=(zM hk).2;simp only[Nat.sub_zero] at hk
      exact .cE k b ((BP hk).trans q1) ((hm k id hk).trans q2)
     exact .undef _
    | _=>simp[T.flat] at hf
  exact .undef _
theorem aw.bY {I:aC} {m m':Nat→Value} {l:List AO} {ids:List Nat} (hm:∀ k id,ids[k]?=some id→m' k=m id) {v:Value} {t:T} (h:aw I m l v t):aw I m' (ez ids l) v (t.bY ids):=by
 cases h with
 | bn vs ts h1 h2=>
  simp only[T.bY]
  split
  ·rename_i hb
   exact .bn vs ts h1 fun i v t hv ht=>afu (h2 i v t hv ht) (List.all_eq_true.1 hb t (List.mem_of_getElem? ht))
  exact .undef _
 | cond v pc t h1 h2=>
  simp only[T.bY]
  split
  ·rename_i hb
   exact .cond v pc t (fun hp=>afu (h1 hp) hb) h2
  exact .undef _
 | agg vs ts h1 h2 h3=>
  refine .agg vs _ (by simpa using h1) h2 fun i v t hv ht=>?_
  rw[List.getElem?_map] at ht
  cases CR:ts[i]? with
  | none=>rw[CR] at ht;cases ht
  | some t0=>
   rw[CR] at ht;simp at ht;subst ht
   exact(h3 i v t0 hv CR).eU hm
 | undef=>exact .undef _
 | d v x hx=>exact .d _ _ hx
 | ao s=>exact .ao _
 | ptr id b off q1 q2=>exact aw.eU hm (.ptr id b off q1 q2)
 | fy b o size els q off val q1 q2 q3 q4=>exact aw.eU hm (.fy b o size els q off val q1 q2 q3 q4)
 | row A n c id q1 q2=>exact aw.eU hm (.row A n c id q1 q2)
 | fQ A n c id x q1 q2 q3=>exact aw.eU hm (.fQ A n c id x q1 q2 q3)
 | dH a id q off q1 q2=>exact aw.eU hm (.dH a id q off q1 q2)
 | map r id q1 q2=>exact aw.eU hm (.map r id q1 q2)
 | cE id b q1 q2=>exact aw.eU hm (.cE id b q1 q2)
 | sub A n c id lo hi q1 q2=>exact aw.eU hm (.sub A n c id lo hi q1 q2)
 | aR g vs ts q1 q2=>exact aw.eU hm (.aR g vs ts q1 q2)
def mg (ids:List Nat) (l:List AO):Bool:=ids.all fun id=>match l[id]? with
 | some (.frame b _ _) | some (.loop b _ _ _ _ _ _ _)=>(List.range b).all fun j=>ids[j]? == some j
 | _=>true
theorem aI.bY {w0 w:World} {I0 I:aC} {m:Nat→Value} {l:List AO} {ids:List Nat} (h:aI w0 I0 w I m l) (gj:ids.Nodup) (oA:mg ids l=true):aI w0 I0 w I (fun k=>m ((ids[k]?).getD 0)) (ez ids l):=by
 have hm:∀ (k id:Nat),ids[k]?=some id→(fun k:Nat=>m ((ids[k]?).getD 0)) k=m id:=fun k id hk=>by simp[hk]
 have cB:∀ {k:Nat} {o:AO},(ez ids l)[k]?=some o→∃ id,ids[k]?=some id:=fun {k o} hk=>by
  cases hi:ids[k]? with
  | none=>simp[ez,hi] at hk
  | some id=>exact⟨id,rfl⟩
 have dD:∀ {k id:Nat},ids[k]?=some id→alive (ez ids l) k=alive l id:=fun hk=>by unfold alive;rw[BP hk,Dm hk]
 refine⟨h.below,h.sat,h.ext,fun k o ho=>?_,fun i j b cj hi hj=>?_⟩
 ·obtain⟨id,hk⟩:=cB ho
  have hg:=Uc (l:=l) hk
  rw[ho] at hg
  cases hl:l[id]? with
  | none=>rw[hl] at hg;simp[AO.bY] at hg;subst hg;trivial
  | some o'=>
   rw[hl] at hg;simp only[Option.getD_some,Option.some.injEq] at hg
   have cv:=h.obj id o' hl
   show rI _ _ _ _ _ (m ((ids[k]?).getD 0)) o
   rw[hk,hg];simp only[Option.getD_some]
   have pre:∀ b:Nat,(match o' with | .frame b _ _ | .loop b _ _ _ _ _ _ _=>some b | _=>none)=some b→b≤l.length→b≤ids.length∧Le I m (l.take b) I (fun k=>m ((ids[k]?).getD 0)) ((ez ids l).take b):=fun b hb aD7=>by
    have yz:∀ j,j < b→ids[j]?=some j:=fun j hj=>by
     have:=List.all_eq_true.1 oA id (List.mem_of_getElem? hk)
     rw[hl] at this
     have:=(by
      cases o'<;>simp at hb<;>subst hb<;>exact List.all_eq_true.1 this j (List.mem_range.2 hj):(ids[j]? == some j)=true)
     simpa using this
    have yk:b≤ids.length:=by
     rcases Nat.eq_zero_or_pos b with h0 | h0
     ·omega
     have:=(List.getElem?_eq_some_iff.1 (yz (b - 1) (by omega))).1;omega
    refine⟨yk,.refl I,by simp[ez];omega,fun q hq hv=>?_,fun q hq hr=>?_,fun q e size els hq hh=>?_⟩
    ·rw[List.length_take] at hq
     rw[YU (by omega)] at hv ⊢
     exact⟨(BP (yz q (by omega))).trans hv,hm q q (yz q (by omega))⟩
    ·rw[List.length_take] at hq
     rw[RM (by omega)] at hr ⊢
     exact⟨(Dm (yz q (by omega))).symm.trans hr,hm q q (yz q (by omega))⟩
    rw[List.length_take] at hq
    rw[List.getElem?_take,if_pos (by omega)] at hh ⊢
    exact⟨els,ab9 (yz q (by omega)) hh⟩
   cases o' with
   | dead=>trivial
   | var ty cs=>
    obtain⟨b,vs,q1,q2,q3,q4,q5,q6⟩:=cv
    refine⟨b,vs,q1,q2,q3,by simp[q4],fun i x t hx ht=>?_,q6⟩
    rw[List.getElem?_map] at ht
    cases hc:cs[i]? with
    | none=>rw[hc] at ht;simp at ht
    | some t0=>
     rw[hc] at ht;simp at ht;subst ht
     exact⟨(q5 i x t0 hx hc).1.bY hm,(q5 i x t0 hx hc).2⟩
   | row e size els=>exact cv
   | cF e size els=>exact cv
   | map ks vs=>exact cv
   | oR ks vs=>exact cv
   | iter ks vs done=>exact cv
   | frame b vals t=>
    obtain⟨p1,p2⟩:=pre b rfl cv.2.1
    exact⟨cv.1,by simpa [ez] using p1,fun j=>(cv.2.2 j).mono p2⟩
   | loop b n ps cQ body t st ed=>
    obtain⟨b',r,q0,q1,q2,q3,q4,q5,q6⟩:=cv
    obtain⟨p1,p2⟩:=pre b rfl q4
    exact⟨b',r,q0,q1,q2,q3,by simpa [ez] using p1,fun j=>(q5 j).mono p2,q6⟩
 obtain⟨o1,q1,_⟩:=bZ.1 hi
 obtain⟨o2,q2,_⟩:=bZ.1 hj
 obtain⟨a,ha⟩:=cB q1
 obtain⟨c,hc⟩:=cB q2
 rw[dD ha] at hi;rw[dD hc] at hj
 have ba:a≠c:=fun e=>by
  subst e
  have h1:=List.getElem?_eq_some_iff.1 ha
  have h2:=List.getElem?_eq_some_iff.1 hc
  obtain⟨h1,uN⟩:=h1;obtain⟨h2,uO⟩:=h2
  exact cj (ajc gj ha hc)
 simp only[ha,hc,Option.getD_some]
 exact h.sep a c b ba hi hj
def mf (ids:List Nat) (s:Tm):Tm→Prop
 | []=>True
 | (i,t)::r=>(get s i).bY ids=t∧mf ids s r
theorem Wc {ids:List Nat} {s:Tm}:∀ {r:Tm},mf ids s r→∀ k,get r k = .undef∨get r k=(get s k).bY ids
 | [],_,k=> .inl rfl
 | (i,t)::r,h,k=>by
  simp only[get]
  by_cases hi:i=k
  ·subst hi;rw[if_pos rfl];exact .inr h.1.symm
  rw[if_neg hi];exact Wc h.2 k
theorem Sub.bY (ids:List Nat) {t':Tm} {l':List AO} (gj:ids.Nodup) (oA:mg ids s.l=true) (hl:ez ids s.l=l') (hf:mf ids s.t t'):Sub s ⟨t',l'⟩:=by
 subst hl
 intro w0 I0 n a w hr
 obtain⟨h1,I,m,h3,h2,h4⟩:=hr
 refine⟨h1,I,_,h3.bY gj oA,h2,fun j=>?_⟩
 rcases Wc hf j with h | h
 ·rw[h];exact .undef _
 rw[h];exact(h4 j).bY fun k id hk=>by simp[hk]
theorem Sub.trans {s s' s'':St} (h:Sub s s') (k:Sub s' s''):Sub s s'':=fun _ _ _ _ _ hr=>k _ _ _ _ _ (h _ _ _ _ _ hr)
theorem aI.azD {w0 w:World} {I0 I:aC} {m:Nat→Value} {l:List AO} (h3:aI w0 I0 w I m l) (e size:Nat):∃ m',aI w0 I0 w I m' (l++[.row e size []])∧Le I m l I m' (l++[.row e size []])∧m' l.length = .slice none 0 0:=by
 let m':Nat→Value:=fun k=>if k=l.length then .slice none 0 0 else m k
 have aN:∀ k,k < l.length→m' k=m k:=fun k hk=>by simp only[m'];rw[if_neg (by omega)]
 have hV:∀ id,id < l.length→isVar (l++[.row e size []]) id=isVar l id:=fun id aB=>by unfold isVar;rw[List.getElem?_append_left aB]
 have hR:∀ id,id < l.length→isRow (l++[.row e size []]) id=isRow l id:=fun id aB=>by unfold isRow;rw[List.getElem?_append_left aB]
 have hle:Le I m l I m' (l++[.row e size []]):=by
  refine⟨.refl I,by simp,fun id aB hv=>⟨(hV id aB).trans hv,aN id aB⟩,fun id aB hv=>⟨(hR id aB).symm.trans hv,aN id aB⟩,fun id e' s' els aB hl=>⟨els,?_⟩⟩
  rwa [List.getElem?_append_left aB] at hl
 have fA:m' l.length = .slice none 0 0:=by simp[m']
 refine⟨m',⟨h3.below,h3.sat,h3.ext,fun id o ho=>?_,fun i k b ER hi hk=>?_⟩,hle,fA⟩
 ·rcases Nat.lt_or_ge id l.length with aB | aB
  ·rw[List.getElem?_append_left aB] at ho
   have:=h3.obj id o ho
   rw[aN id aB]
   cases o with
   | dead=>trivial
   | var ty cs=>
    obtain⟨b,vs,q1,q2,q3,q4,q5,q6⟩:=this
    exact⟨b,vs,q1,q2,q3,q4,fun i x t hx ht=>⟨(q5 i x t hx ht).1.mono hle,(q5 i x t hx ht).2⟩,q6⟩
   | row e size els=>exact this
   | cF e size els=>exact this
   | map ks vs=>exact this
   | oR ks vs=>exact this
   | iter ks vs done=>exact this
   | frame b vals t=>exact⟨this.1,Nat.le_trans this.2.1 hle.len,fun j=>(this.2.2 j).mono (hle.take b)⟩
   | loop b n ps cQ body t st ed=>
    obtain⟨b',r,q0,q1,q2,q3,q4,q5,q6⟩:=this
    exact⟨b',r,q0,q1,q2,q3,Nat.le_trans q4 hle.len,fun j=>(q5 j).mono (hle.take b),q6⟩
  rw[List.getElem?_append_right aB] at ho
  have h0:id - l.length=0:=by
   cases hq:id - l.length with
   | zero=>rfl
   | succ q=>rw[hq] at ho;simp at ho
  rw[h0] at ho;simp at ho;subst ho
  have:id=l.length:=by omega
  subst this
  rw[fA]
  exact⟨[],⟨by simp,.inl ⟨rfl,rfl⟩⟩,by simp,by simp,by simp[own]⟩
 intro hb
 have al:∀ q,alive (l++[.row e size []]) q=true→(q < l.length∧alive l q=true)∨q=l.length:=fun q hq=>by
  rcases Nat.lt_or_ge q l.length with h | h
  ·refine .inl ⟨h,?_⟩;unfold alive at hq ⊢;rwa [hV q h,hR q h] at hq
  obtain⟨o,ho,_⟩:=bZ.1 hq
  have:=(List.getElem?_eq_some_iff.1 ho).1
  simp at this;right;omega
 rcases al i hi with ⟨i1,i2⟩ | rfl
 ·rcases al k hk with ⟨k1,k2⟩ | rfl
  ·rw[aN i i1] at hb;rw[aN k k1];exact h3.sep i k b ER i2 k2 hb
  rw[fA];simp[own]
 rw[fA] at hb;simp[own] at hb
theorem Sub.pb (j e size:Nat) {z:Nat} (hj:get s.t j = .ao z):Sub s ⟨(j,.row s.l.length)::s.t,s.l++[.row e size []]⟩:=by
 intro w0 I0 n a w hr
 obtain⟨h1,I,m,h3,h2,h4⟩:=hr
 let m':Nat→Value:=fun k=>if k=s.l.length then .slice none 0 0 else m k
 have aN:∀ k,k < s.l.length→m' k=m k:=fun k hk=>by simp only[m'];rw[if_neg (by omega)]
 have hV:∀ id,id < s.l.length→isVar (s.l++[.row e size []]) id=isVar s.l id:=fun id aB=>by unfold isVar;rw[List.getElem?_append_left aB]
 have hR:∀ id,id < s.l.length→isRow (s.l++[.row e size []]) id=isRow s.l id:=fun id aB=>by unfold isRow;rw[List.getElem?_append_left aB]
 have hle:Le I m s.l I m' (s.l++[.row e size []]):=by
  refine⟨.refl I,by simp,fun id aB hv=>⟨(hV id aB).trans hv,aN id aB⟩,fun id aB hv=>⟨(hR id aB).symm.trans hv,aN id aB⟩,fun id e' s' els aB hl=>⟨els,?_⟩⟩
  rwa [List.getElem?_append_left aB] at hl
 have fA:m' s.l.length = .slice none 0 0:=by simp[m']
 refine⟨h1,I,m',⟨h3.below,h3.sat,h3.ext,fun id o ho=>?_,fun i k b ER hi hk=>?_⟩,h2,fun k=>?_⟩
 ·rcases Nat.lt_or_ge id s.l.length with aB | aB
  ·rw[List.getElem?_append_left aB] at ho
   have:=h3.obj id o ho
   rw[aN id aB]
   cases o with
   | dead=>trivial
   | var ty cs=>
    obtain⟨b,vs,q1,q2,q3,q4,q5,q6⟩:=this
    exact⟨b,vs,q1,q2,q3,q4,fun i x t hx ht=>⟨(q5 i x t hx ht).1.mono hle,(q5 i x t hx ht).2⟩,q6⟩
   | row e size els=>exact this
   | cF e size els=>exact this
   | map ks vs=>exact this
   | oR ks vs=>exact this
   | iter ks vs done=>exact this
   | frame b vals t=>exact⟨this.1,Nat.le_trans this.2.1 hle.len,fun j=>(this.2.2 j).mono (hle.take b)⟩
   | loop b n ps cQ body t st ed=>
    obtain⟨b',r,q0,q1,q2,q3,q4,q5,q6⟩:=this
    exact⟨b',r,q0,q1,q2,q3,Nat.le_trans q4 hle.len,fun j=>(q5 j).mono (hle.take b),q6⟩
  rw[List.getElem?_append_right aB] at ho
  have h0:id - s.l.length=0:=by
   cases hq:id - s.l.length with
   | zero=>rfl
   | succ q=>rw[hq] at ho;simp at ho
  rw[h0] at ho;simp at ho;subst ho
  have:id=s.l.length:=by omega
  subst this
  rw[fA]
  exact⟨[],⟨by simp,.inl ⟨rfl,rfl⟩⟩,by simp,by simp,by simp[own]⟩
 ·intro hb
  have al:∀ q,alive (s.l++[.row e size []]) q=true→(q < s.l.length∧alive s.l q=true)∨q=s.l.length:=fun q hq=>by
   rcases Nat.lt_or_ge q s.l.length with h | h
   ·refine .inl ⟨h,?_⟩;unfold alive at hq ⊢;rwa [hV q h,hR q h] at hq
   obtain⟨o,ho,_⟩:=bZ.1 hq
   have:=(List.getElem?_eq_some_iff.1 ho).1
   simp at this;right;omega
  rcases al i hi with ⟨i1,i2⟩ | rfl
  ·rcases al k hk with ⟨k1,k2⟩ | rfl
   ·rw[aN i i1] at hb;rw[aN k k1];exact h3.sep i k b ER i2 k2 hb
   rw[fA];simp[own]
  rw[fA] at hb;simp[own] at hb
 simp only[get]
 by_cases hk:j=k
 ·subst hk
  rw[if_pos rfl]
  have:=h4 j
  rw[hj] at this
  generalize a.tmps.getD j undef=v at this
  cases this
  exact .row none 0 0 _ (by simp) fun _=>fA
 rw[if_neg hk];exact(h4 k).mono hle
theorem Sub.UW (id k e size:Nat) {ty:TypeId} {cs:List T} {z:Nat} (ho:s.l[id]?=some (.var ty cs)) (hk:cs[k]?=some (.ao z)):Sub s ⟨s.t,(s.l++[AO.row e size []]).set id (.var ty (cs.set k (.row s.l.length)))⟩:=by
 intro w0 I0 n a w hr
 obtain⟨h1,I,m,h3,h2,h4⟩:=hr
 obtain⟨m',r1,hle,fA⟩:=h3.azD e size
 have aB:=(List.getElem?_eq_some_iff.1 ho).1
 have cv:(s.l++[AO.row e size []])[id]?=some (.var ty cs):=by rw[List.getElem?_append_left aB];exact ho
 have r9:Le I m' (s.l++[AO.row e size []]) I m' ((s.l++[AO.row e size []]).set id (.var ty (cs.set k (.row s.l.length)))):=Le.setKind cv rfl rfl (fun e size els h=>by rcases h with h | h<;>cases h)
 obtain⟨b,vs,q1,q2,q3,q4,q5,q6⟩:=r1.obj id _ cv
 refine⟨h1,I,m',r1.Ag cv (by simp) (b:=b) (by rw[q1];rfl) q6 rfl rfl r9 rfl rfl rfl (Nat.le_refl _) (Nat.le_refl _) (fun _ _=>rfl) ⟨b,vs,q1,q2,q3,by simpa using q4,fun i x t hx ht=>?_,q6⟩,h2,fun j=>((h4 j).mono hle).mono r9⟩
 rw[List.getElem?_set] at ht
 split at ht
 ·rename_i gP
  subst gP
  split at ht
  ·injection ht with ht;subst ht
   have:=q5 k x _ hx hk
   refine⟨?_,this.2⟩
   have h0:=this.1
   cases h0
   exact .row none 0 0 _ (by simp) fun _=>fA
  cases ht
 exact⟨(q5 i x t hx ht).1.mono r9,(q5 i x t hx ht).2⟩
end
end Go.an
namespace Go.an
open Go Go.RowKit
class au (α:Type) where
 enc:α→D
 dec:D→α
 size:Nat
 lj:∀ a,dec (enc a)=a
 len:∀ a,(enc a).cells.length=size
 aj7:∀ a,∀ x∈(enc a).cells,x.one=true
open au
instance:au Int:=⟨fun n=> .int .i64 n,fun d=>match d with | .int _ n=>n | _=>0,1,fun _=>rfl,fun _=>rfl,by simp[D.cells,D.one]⟩
instance:au Bool:=⟨fun n=> .bool n,fun d=>match d with | .bool n=>n | _=>false,1,fun _=>rfl,fun _=>rfl,by simp[D.cells,D.one]⟩
instance:au ByteArray:=⟨fun n=> .str n,fun d=>match d with | .str n=>n | _=>⟨#[]⟩,1,fun _=>rfl,fun _=>rfl,by simp[D.cells,D.one]⟩
theorem jv {α:Type} [au α] (xs:List α):(xs.map (enc:α→D)).map dec=xs:=by
 induction xs with
 | nil=>rfl
 | cons x xs ih=>simp only[List.map_cons,ih,lj]
theorem mD {α:Type} [au α] (xs:List α):xs.map ((dec:D→α) ∘ (enc:α→D))=xs:=by rw[←List.map_map,jv]
instance {α:Type} [au α]:au (List α):=⟨fun xs=> .slice (size α) (xs.map enc),fun d=>match d with | .slice _ els=>els.map dec | _=>[],1,jv,fun _=>rfl,by simp[D.cells,D.one]⟩
structure Fn where
 f:FuncId
instance:au Fn:=⟨fun n=> .fn n.f,fun d=>match d with | .fn f=>⟨f⟩ | _=>⟨0⟩,1,fun _=>rfl,fun _=>rfl,by simp[D.cells,D.one]⟩
theorem fK (n:Int):enc n = .int .i64 n:=rfl
theorem lH (b:Bool):enc b = .bool b:=rfl
theorem lL (b:ByteArray):enc b = .str b:=rfl
theorem lJ (b:Fn):enc b = .fn b.f:=rfl
theorem fL {α:Type} [au α] (xs:List α):enc xs = .slice (size α) (xs.map enc):=rfl
theorem jq (k:IntKind) (n:Int):dec (.int k n)=n:=rfl
theorem lg (b:Bool):dec (.bool b)=b:=rfl
theorem lp (b:ByteArray):dec (.str b)=b:=rfl
theorem lk (f:FuncId):dec (.fn f)=Fn.mk f:=rfl
theorem ln {α:Type} [au α] (s:Nat) (els:List D):(dec (.slice s els):List α)=els.map dec:=rfl
theorem ng:size Int=1:=rfl
theorem ni:size ByteArray=1:=rfl
theorem aop {α:Type} [au α] {xs:List α} {k:Nat} {x:α} (h:xs[k]?=some x):jU (xs.map enc) k=enc x:=by simp[jU,h]
def nj (r:D):Spec:=fun ds=>match ds with | []=>some (r,True) | _=>none
def nk {α:Type} [au α] (pre:α→Prop) (f:α→D):Spec:=fun ds=>match ds with | [a]=>some (f (dec a),enc (dec a:α)=a∧pre (dec a)) | _=>none
def nm {α β:Type} [au α] [au β] (pre:α→β→Prop) (f:α→β→D):Spec:=fun ds=>match ds with | [a,b]=>some (f (dec a) (dec b),enc (dec a:α)=a∧enc (dec b:β)=b∧pre (dec a) (dec b)) | _=>none
def np {α β γ:Type} [au α] [au β] [au γ] (pre:α→β→γ→Prop) (f:α→β→γ→D):Spec:=fun ds=>match ds with | [a,b,c]=>some (f (dec a) (dec b) (dec c),enc (dec a:α)=a∧enc (dec b:β)=b∧enc (dec c:γ)=c∧pre (dec a) (dec b) (dec c)) | _=>none
theorem mH:List.range 1=[0]:=rfl
theorem mI:List.range 2=[0,1]:=rfl
theorem mJ:List.range 3=[0,1,2]:=rfl
theorem mK:List.range 4=[0,1,2,3]:=rfl
variable [ck] [dx]
section
variable {P:Program} {g:FuncId}
end
section
variable {P:Program} {w0:World} {I0:aC} {n:Nat} {Q:Exit→St→Prop} {s:St} {x y z:Code}
def bR (live:List Nat) (t:Tm):Tm:=live.map fun k=>(k,get t k)
theorem akO (t:Tm) (k:Nat):∀ (live:List Nat),get (bR live t) k = .undef∨get (bR live t) k=get t k
 | []=> .inl rfl
 | j::live=>by
  simp only[bR,List.map_cons,get]
  by_cases h:j=k
  ·rw[if_pos h,h];exact .inr rfl
  rw[if_neg h];exact akO t k live
theorem Sub.bR (live:List Nat):Sub s ⟨bR live s.t,s.l⟩:=by
 intro w0 I0 n a w hr
 obtain⟨h1,I,m,h3,h2,h4⟩:=hr
 refine⟨h1,I,m,h3,h2,fun j=>?_⟩
 rcases akO s.t j live with h | h
 ·rw[h];exact .undef _
 rw[h];exact h4 j
theorem ab.kO {s s':St} (h:s=s'):ab P w0 I0 n x s Q=ab P w0 I0 n x s' Q:=by rw[h]
end
end Go.an
namespace Go.an
open Go au
variable {α:Type}
def kE (p:Int×α):D:= .int .i64 p.1
def vE [au α] (p:Int×α):D:=enc p.2
def gU (n:Int) (x:List (Int×α)):Option Nat:=x.findIdx? fun p=>decide (n=p.1)
def cq (x:List (Int×α)) (n:Int) (v:α):List (Int×α):=match gU n x with
 | some j=>x.set j (n,v)
 | none=>x++[(n,v)]
def aal (x:List (Int×α)) (n:Int):List (Int×α):=match gU n x with
 | some j=>x.eraseIdx j
 | none=>x
def aV (x:List (Int×α)) (n:Int) (z:α):α:=match gU n x with
 | some j=>((x[j]?).map (·.2)).getD z
 | none=>z
def eu (x:List (Int×α)) (n:Int):Bool:=(gU n x).isSome
def aA (x:List (Int×α)):List Int:=x.map (·.1)
theorem aiF (n:Int):∀ (x:List (Int×α)) (i:Nat),fe n (x.map kE) i=(gU n x).map (· + i)
 | [],i=>rfl
 | p::x,i=>by
  have ih:=aiF n x (i+1)
  simp only[List.map_cons,kE,fe,gU,List.findIdx?_cons]
  by_cases h:n=p.1
  ·simp[h]
  simp only[h,if_false,decide_false]
  change fe n (x.map kE) (i+1)=_
  rw[ih]
  unfold gU
  cases x.findIdx? (fun p=>decide (n=p.1)) with
  | none=>rfl
  | some j=>simp;omega
theorem my (n:Int) (x:List (Int×α)):fe n (x.map kE) 0=gU n x:=by
 rw[aiF];cases gU n x<;>simp
theorem mB (x:List (Int×α)):Bs .i64 (x.map kE)=true:=by
 simp[Bs,kE]
theorem mC (k:IntKind):Bs k []=true:=rfl
theorem aiZ {n:Int} {x:List (Int×α)} {j:Nat} (h:gU n x=some j):∃ v,x[j]?=some (n,v):=by
 unfold gU at h
 obtain⟨hj,h1,h2⟩:=List.findIdx?_eq_some_iff_getElem.1 h
 simp at h1
 exact⟨x[j].2,by rw[List.getElem?_eq_getElem hj];simp[h1]⟩
theorem azQ {n:Int} {x:List (Int×α)} {j:Nat} (h:gU n x=some j) (v:α):(x.set j (n,v)).map kE=x.map kE:=by
 obtain⟨u,hu⟩:=aiZ h
 rw[List.map_set]
 apply List.ext_getElem?
 intro i
 by_cases hi:j=i
 ·subst hi;rw[List.getElem?_set_self' ,List.getElem?_map,hu];rfl
 rw[List.getElem?_set_ne hi]
def uC (α:Type) [au α] (d:D):Prop:=enc (dec d:α)=d
theorem mr [au α] (d:D):uC α d↔enc (dec d:α)=d:=⟨fun h=>h,fun h=>h⟩
theorem mG [au α] (n:Int) (x:List (Int×α)) (d:D) (hd:uC α d) :
  ff.match_1 (fun _=>AO) (gU n x) (fun j=>AO.map (x.map kE) ((x.map vE).set j d)) (fun _=>AO.map (x.map kE++[.int .i64 n]) (x.map vE++[d]))=AO.map ((cq x n (dec d)).map kE) ((cq x n (dec d)).map vE):=by
 unfold uC at hd
 unfold cq
 cases h:gU n x with
 | none=>simp[kE,vE,hd]
 | some j=>simp only[azQ h];rw[List.map_set];simp[vE,hd]
theorem afL {β:Type} (f:α→β):∀ (x:List α) (j:Nat),(x.map f).eraseIdx j=(x.eraseIdx j).map f
 | [],_=>by simp
 | p::x,0=>by simp
 | p::x,j+1=>by simp[afL f x j]
theorem lq [au α] (n:Int) (x:List (Int×α)) :
  ff.match_1 (fun _=>AO) (gU n x) (fun j=>AO.map ((x.map kE).eraseIdx j) ((x.map vE).eraseIdx j)) (fun _=>AO.map (x.map kE) (x.map vE))=AO.map ((aal x n).map kE) ((aal x n).map vE):=by
 unfold aal
 cases h:gU n x with
 | none=>rfl
 | some j=>simp[afL]
theorem afC [au α] {n:Int} {x:List (Int×α)} {j:Nat} (h:gU n x=some j) (z:α):jU (x.map vE) j=enc (aV x n z):=by
 obtain⟨v,hv⟩:=aiZ h
 simp[jU,aV,h,hv,vE]
theorem mi [au α] (n:Int) (x:List (Int×α)) (z:D) (p:Prop) (hd:uC α z) :
  ff.match_1 (fun _=>R) (gU n x) (fun j=>(⟨.d (jU (x.map vE) j),.none,p⟩:R)) (fun _=>⟨.d z,.none,p⟩)=⟨.d (enc (aV x n (dec z))),.none,p⟩:=by
 unfold uC at hd
 cases h:gU n x with
 | none=>simp[aV,h,hd]
 | some j=>simp only[afC h (dec z)]
theorem ml [au α] (n:Int) (x:List (Int×α)) (z:D) (p:Prop) (hd:uC α z) :
  ff.match_1 (fun _=>R) (gU n x) (fun j=>(⟨.d (.bn [jU (x.map vE) j,.bool true]),.none,p⟩:R)) (fun _=>⟨.d (.bn [z,.bool false]),.none,p⟩)=⟨.d (.bn [enc (aV x n (dec z)),.bool (eu x n)]),.none,p⟩:=by
 unfold uC at hd
 cases h:gU n x with
 | none=>simp[aV,eu,h,hd]
 | some j=>simp only[afC h (dec z)];simp[eu,h]
theorem jw (x:List (Int×α)):(x.map kE).map (dec:D→Int)=aA x:=by
 simp[aA,kE,Function.comp_def,jq]
theorem mE (x:List (Int×α)):x.map ((dec:D→Int) ∘ kE)=aA x:=by rw[←jw,List.map_map]
theorem ko (x:List (Int×α)):(aA x).map (enc:Int→D)=x.map kE:=by
 simp[aA,kE,Function.comp_def,fK]
theorem mL:List.range 5=[0,1,2,3,4]:=rfl
theorem mM:List.range 6=[0,1,2,3,4,5]:=rfl
theorem mN:List.range 7=[0,1,2,3,4,5,6]:=rfl
theorem mO:List.range 8=[0,1,2,3,4,5,6,7]:=rfl
structure G1 (k:IntKind) where
 n:Int
 deriving DecidableEq
instance {k:IntKind}:au (G1 k):=⟨fun r=> .int k r.n,fun d=>match d with | .int _ n=>⟨n⟩ | _=>⟨0⟩,1,fun _=>rfl,fun _=>rfl,by simp[D.cells,D.one]⟩
theorem lK {k:IntKind} (r:G1 k):enc r = .int k r.n:=rfl
theorem nh {k:IntKind}:au.size (G1 k)=1:=rfl
theorem ll {k j:IntKind} (n:Int):(dec (.int j n):G1 k)=⟨n⟩:=rfl
theorem me {k:IntKind} (r:G1 k):G1.mk r.n=r:=rfl
end Go.an
namespace Go.an
open Go Go.RowKit au
variable [ck] [dx]
def ag {α β:Type} (o:Option α) (f:α→Option β):Option β:=match o with | some x=>f x | none=>none
def aG {β:Type} (p:Prop) [Decidable p] (o:Option β):Option β:=if p then o else none
def ak {β:Type} (c:Bool) (a b:Option β):Option β:=match c with | true=>a | false=>b
def ax (n:Int):Prop:= -9223372036854775808≤n∧n≤9223372036854775807
instance (n:Int):Decidable (ax n):=inferInstanceAs (Decidable (_∧_))
def aP {α:Type} (l:List α) (i:Int):Option α:=if 0≤i then l[i.toNat]? else none
theorem ah {α β:Type} {o:Option α} {f:α→Option β} {r:β} (h:ag o f=some r):∃ x,o=some x∧f x=some r:=by
 unfold ag at h;split at h
 ·rename_i x;exact⟨x,rfl,h⟩
 cases h
theorem aK {β:Type} {p:Prop} [Decidable p] {o:Option β} {r:β} (h:aG p o=some r):p∧o=some r:=by
 unfold aG at h;split at h
 ·rename_i hp;exact⟨hp,h⟩
 cases h
theorem aij {β:Type} {c:Bool} {a b:Option β} {r:β} (hc:c=true) (h:ak c a b=some r):a=some r:=by subst hc;exact h
theorem aii {β:Type} {c:Bool} {a b:Option β} {r:β} (hc:c=false) (h:ak c a b=some r):b=some r:=by subst hc;exact h
theorem zN {β:Type} (c:Bool) (a b:Option β):ak c a b=if c=true then a else b:=by cases c<;>rfl
theorem bl {α β:Type} {o:Option α} {f:α→Option β} {x:α} (h:o=some x):ag o f=f x:=by subst h;rfl
theorem cu {β:Type} {p:Prop} [Decidable p] {o:Option β} (h:p):aG p o=o:=if_pos h
theorem aj {α β:Type} (x:α) (f:α→Option β):ag (some x) f=f x:=rfl
theorem Pa {α:Type} {l:List α} {i:Int} {x:α} (h:aP l i=some x):0≤i∧i < l.length∧l[i.toNat]?=some x:=by
 unfold aP at h;split at h
 ·rename_i hi
  have:=(List.getElem?_eq_some_iff.1 h).1
  exact⟨hi,by omega,h⟩
 cases h
theorem lr (d:D) (l:List D):jU (d::l) 0=d:=rfl
theorem anA {α:Type} [au α] {xs:List α} {k:Nat} {x:α} (h:xs[k]?=some x):((xs.map (enc:α→D)).drop k).take 1=[enc x]:=by
 obtain⟨hk,rfl⟩:=List.getElem?_eq_some_iff.1 h
 have jr:k < (xs.map (enc:α→D)).length:=by simpa using hk
 rw[List.drop_eq_getElem_cons jr,List.getElem_map];rfl
def ve {σ ρ:Type} (step:σ→Option (σ⊕ρ)):Nat→σ→Option ρ
 | 0,_=>none
 | n+1,z=>match step z with
  | some (.inl z')=>ve step n z'
  | some (.inr r)=>some r
  | none=>none
theorem YV {σ ρ:Type} {step:σ→Option (σ⊕ρ)} {r:ρ}:∀ {n m:Nat} {z:σ},n≤m→ve step n z=some r→ve step m z=some r
 | 0,_,_,_,h=>by cases h
 | n+1,0,_,hm,_=>by omega
 | n+1,m+1,z,hm,h=>by
  simp only[ve] at h ⊢
  split at h<;>try (first | exact h | cases h)
  exact YV (by omega) h
open Classical in
noncomputable def aH {σ ρ:Type} (step:σ→Option (σ⊕ρ)) (z:σ):Option ρ:=if h:∃ n r,ve step n z=some r then some (Classical.choose (Classical.choose_spec h)) else none
theorem aad {σ ρ:Type} {step:σ→Option (σ⊕ρ)} {z:σ} {n:Nat} {r:ρ} (h:ve step n z=some r):aH step z=some r:=by
 have hx:∃ n r,ve step n z=some r:=⟨n,r,h⟩
 unfold aH
 rw[dif_pos hx]
 have h1:=Classical.choose_spec (Classical.choose_spec hx)
 have h2:=YV (Nat.le_max_left n (Classical.choose hx)) h
 have h3:=YV (Nat.le_max_right n (Classical.choose hx)) h1
 rw[h3] at h2;exact h2
theorem Su {σ ρ:Type} {step:σ→Option (σ⊕ρ)} {z:σ} {r:ρ} (h:aH step z=some r):∃ n,ve step n z=some r:=by
 unfold aH at h
 split at h
 ·rename_i hx
  have h1:=Classical.choose_spec (Classical.choose_spec hx)
  cases h
  exact⟨_,h1⟩
 cases h
theorem aiQ {σ ρ:Type} (step:σ→Option (σ⊕ρ)) (z:σ):aH step z=match step z with | some (.inl z')=>aH step z' | some (.inr r)=>some r | none=>none:=by
 cases hs:step z with
 | none=>
  cases hl:aH step z with
  | none=>rfl
  | some r=>
   obtain⟨n,hn⟩:=Su hl
   cases n with
   | zero=>cases hn
   | succ n=>simp only[ve,hs] at hn;cases hn
 | some x=>
  cases x with
  | inr r=>exact aad (n:=1) (by simp only[ve,hs])
  | inl z'=>
   simp only
   cases hl:aH step z' with
   | some r=>
    obtain⟨n,hn⟩:=Su hl
    exact aad (n:=n+1) (by simp only[ve,hs];exact hn)
   | none=>
    cases iK:aH step z with
    | none=>rfl
    | some r=>
     obtain⟨n,hn⟩:=Su iK
     cases n with
     | zero=>cases hn
     | succ n=>
      simp only[ve,hs] at hn
      rw[aad hn] at hl;cases hl
theorem vl {σ ρ:Type} {step:σ→Option (σ⊕ρ)} {z z':σ} (h:step z=some (.inl z')):aH step z=aH step z':=by rw[aiQ,h]
theorem si {σ ρ:Type} {step:σ→Option (σ⊕ρ)} {z:σ} {r:ρ} (h:step z=some (.inr r)):aH step z=some r:=by rw[aiQ,h]
section
variable {P:Program} {V:Env} {w0:World} {I0:aC} {n:Nat} {Q:Exit→St→Prop} {s s':St} {x y:Code}
theorem cO {K:St→Prop} (h:s=s') (k:K s'):K s:=h▸k
theorem ab.sm (J0:St→Prop) (h:∀ J:St→Prop,(∀ s',J0 s'→J s')→ab P w0 I0 n x s (um J Q)) (k:∀ s',J0 s'→ab P w0 I0 n y s' Q):ab P w0 I0 n (x.seq y) s Q:=
 ab.seq (ab.mono (h J0 fun _ h=>h) fun e s' hq=>by cases e<;>first | exact k s' hq | exact hq)
theorem ab.wA (h:∀ K:St→Prop,(∀ s',ab P w0 I0 n y s' Q→K s')→ab P w0 I0 n x s (um K Q)):ab P w0 I0 n (x.seq y) s Q:=
 ab.seq (h _ fun _ h=>h)
theorem ab.MR {t:St} (h:∀ R:Exit→St→Prop,(∀ s',Sub s' t→R .normal s')→ab P w0 I0 n x s R) (k:Q .normal t):ab P w0 I0 n x s Q:=fun a w hr=>
 Code.wpIn_mono (fun e a' w' ⟨s',⟨he,hs⟩,h2⟩=>by
  subst he
  exact⟨t,k,hs _ _ _ _ _ h2⟩) (h (fun e s'=>e = .normal∧Sub s' t) (fun _ h=>⟨rfl,h⟩) a w hr)
theorem ab.vp (hV:bO P V) (md:Way) (live:List Nat) {id:Nat} {ops:List Oper} (h:∀ K:St→Prop,(∀ s',Q .normal s'→K s')→bu V n ops md ops s (fun s'=>K ⟨an.bR live s'.t,s'.l⟩)):ab P w0 I0 n (Code.region id ops.toArray false) s Q:=fun a w hr=>by
 refine wpIn_region_lit (VS (Q:=fun e a' w'=>∃ s',Q e s'∧Rel w0 I0 n s' a' w') (K:=fun s'=>Q .normal ⟨an.bR live s'.t,s'.l⟩) hV (fun s a w h1 h2=>?_) ops s a w hr (h _ fun _ h=>h))
 exact⟨_,h1,Sub.bR live _ _ _ _ _ h2⟩
theorem ab.akK (hV:bO P V) (hm:P.follows .mixedOrders=true) (md:Way) (n1:Nat) (live:List Nat) {id:Nat} {ops:List Oper} (hd:Qb ops n1=true)
  (h:∀ K:St→Prop,(∀ s',Q .normal s'→K s')→dr V n ops md s.l (ops.take n1) 0 s.t [] fun tm news=>bu V n ops md (ops.drop n1) ⟨tm,s.l++news.map (·.2)⟩ (fun s'=>K ⟨an.bR live s'.t,s'.l⟩)):ab P w0 I0 n (Code.region id ops.toArray true) s Q:=fun _ _ hr=>
 aou (Q:=fun e a' w'=>∃ s',Q e s'∧Rel w0 I0 n s' a' w') (K:=fun s'=>Q .normal ⟨an.bR live s'.t,s'.l⟩) hV hm (fun _ _ _ h1 h2=>⟨_,h1,Sub.bR live _ _ _ _ _ h2⟩) n1 hd hr (h _ fun _ h=>h)
theorem ab.BN (hV:bO P V) (hm:P.follows .mixedOrders=true) (md:Way) (n1:Nat) (F:List Nat) (live:List Nat) {id:Nat} {ops:List Oper} (hd:zh ops n1 F=true)
  (h:∀ K:St→Prop,(∀ s',Q .normal s'→K s')→dr V n ops md s.l (ops.take n1) 0 s.t [] fun tm news=>bu V n ops md (ops.drop n1) ⟨tm,s.l++news.map (·.2)⟩ (fun s'=>K ⟨an.bR live s'.t,s'.l⟩)):ab P w0 I0 n (Code.region id ops.toArray true) s Q:=fun _ _ hr=>
 aov (Q:=fun e a' w'=>∃ s',Q e s'∧Rel w0 I0 n s' a' w') (K:=fun s'=>Q .normal ⟨an.bR live s'.t,s'.l⟩) hV hm (fun _ _ _ h1 h2=>⟨_,h1,Sub.bR live _ _ _ _ _ h2⟩) n1 F hd hr (h _ fun _ h=>h)
theorem ab.rS (hV:bO P V) (md:Way) (live:List Nat) {id:Nat} {ops:List Oper} (h:∀ K:St→Prop,(∀ s',ab P w0 I0 n y s' Q→K s')→bu V n ops md ops s (fun s'=>K ⟨an.bR live s'.t,s'.l⟩)):ab P w0 I0 n ((Code.region id ops.toArray false).seq y) s Q:=
 ab.wA fun _ hk=>ab.vp hV md live fun _ jr=>h _ fun s' ha=>jr s' (hk s' ha)
theorem ab.rD (hV:bO P V) (hm:P.follows .mixedOrders=true) (md:Way) (n1:Nat) (live:List Nat) {id:Nat} {ops:List Oper} (hd:Qb ops n1=true)
  (h:∀ K:St→Prop,(∀ s',ab P w0 I0 n y s' Q→K s')→dr V n ops md s.l (ops.take n1) 0 s.t [] fun tm news=>bu V n ops md (ops.drop n1) ⟨tm,s.l++news.map (·.2)⟩ (fun s'=>K ⟨an.bR live s'.t,s'.l⟩)):ab P w0 I0 n ((Code.region id ops.toArray true).seq y) s Q:=
 ab.wA fun _ hk=>ab.akK hV hm md n1 live hd fun _ jr=>h _ fun s' ha=>jr s' (hk s' ha)
theorem ab.rDF (hV:bO P V) (hm:P.follows .mixedOrders=true) (md:Way) (n1:Nat) (F:List Nat) (live:List Nat) {id:Nat} {ops:List Oper} (hd:zh ops n1 F=true)
  (h:∀ K:St→Prop,(∀ s',ab P w0 I0 n y s' Q→K s')→dr V n ops md s.l (ops.take n1) 0 s.t [] fun tm news=>bu V n ops md (ops.drop n1) ⟨tm,s.l++news.map (·.2)⟩ (fun s'=>K ⟨an.bR live s'.t,s'.l⟩)):ab P w0 I0 n ((Code.region id ops.toArray true).seq y) s Q:=
 ab.wA fun _ hk=>ab.BN hV hm md n1 F live hd fun _ jr=>h _ fun s' ha=>jr s' (hk s' ha)
theorem Es {ops:List Oper} {md:Way} {l0:List AO} {K K':Tm→List (Nat×AO)→Prop} (hk:∀ tm news,K tm news→K' tm news):∀ (r:List Oper) (k:Nat) (tm:Tm) (news:List (Nat×AO)),dr V n ops md l0 r k tm news K→dr V n ops md l0 r k tm news K'
 | [],_,_,_,h=>hk _ _ h
 | o::r,k,tm,news,h=>by
  simp only[dr] at h ⊢
  split at h
  ·exact h
  cases md with
  | none=>
   simp only at h ⊢
   obtain⟨h1,h2,h3⟩:=h
   refine⟨h1,h2,?_⟩
   split at h3
   ·exact Es hk r _ _ _ h3
   ·exact Es hk r _ _ _ h3
   ·exact Es hk r _ _ _ h3
   exact h3
  | some sk=>
   simp only at h ⊢
   split at h
   ·rename_i hs
    rw[if_pos hs]
    exact⟨h.1,h.2.1,h.2.2.1,Es hk r _ _ _ h.2.2.2⟩
   rename_i hs
   rw[if_neg hs]
   obtain⟨h0,h1,h2,h3⟩:=h
   refine⟨h0,h1,h2,?_⟩
   split at h3
   ·exact Es hk r _ _ _ h3
   ·exact Es hk r _ _ _ h3
   exact h3
def Ct (ops:List Oper) (live:List Nat):List Oper→List Nat→Bool
 | [],W=>live.all fun x=>W.contains x
 | o::r,W=>((o5 ops o).all fun x=>W.contains x)&&Ct ops live r (match o.dst with | some d=>d::W | none=>W)
theorem ach {ops:List Oper} {live:List Nat} {K:St→Prop}:∀ {r:List Oper} {W:List Nat} {s1 s2:St},Ct ops live r W=true→s1.l=s2.l→(∀ x∈W,get s1.t x=get s2.t x) →
  fJ P n ops r s1 (fun s'=>K ⟨an.bR live s'.t,s'.l⟩)→fJ P n ops r s2 (fun s'=>K ⟨an.bR live s'.t,s'.l⟩)
 | [],W,s1,s2,hc,hl,hw,h=>by
  simp only[Ct,List.all_eq_true,List.contains_iff_mem] at hc
  simp only[fJ] at h ⊢
  have:an.bR live s1.t=an.bR live s2.t:=List.map_congr_left fun x hx=>by rw[hw x (hc x hx)]
  rw[←this,←hl];exact h
 | o::r,W,s1,s2,hc,hl,hw,h=>by
  simp only[Ct,Bool.and_eq_true,List.all_eq_true,List.contains_iff_mem] at hc
  have h:wP P n ops o s1 _:=h
  show wP P n ops o s2 _
  have h2:wP P n ops o s2 fun u l'=>fJ P n ops r ⟨bq s1.t o.dst u,l'⟩ fun s'=>K ⟨an.bR live s'.t,s'.l⟩:=fun st uZ hsr w0 I0 a w Q Kn hr hK=>
   h st (uZ.trans hl.symm) (fun x hx=>(hsr x hx).trans (hw x (hc.1 x hx)).symm) w0 I0 a w Q Kn hr fun u l' a' w' k hv=>hK u l' a' w' k fun e=>by rw[←hl];exact hv e
  refine h2.mono fun u l' h'=>ach (s1:=⟨bq s1.t o.dst u,l'⟩) (s2:=⟨bq s2.t o.dst u,l'⟩) hc.2 rfl (fun x hx=>?_) h'
  cases hd:o.dst with
  | none=>rw[hd] at hx;simp only[bq];exact hw x hx
  | some d=>
   rw[hd] at hx
   simp only[bq,get]
   by_cases e:d=x
   ·rw[if_pos e,if_pos e]
   rw[if_neg e,if_neg e]
   rcases List.mem_cons.1 hx with h3 | h3
   ·exact absurd h3.symm e
   exact hw x h3
theorem akN (live:List Nat) (t:Tm) {k:Nat} (h:k∈live):get (an.bR live t) k=get t k:=by
 induction live with
 | nil=>cases h
 | cons j live ih=>
  simp only[an.bR,List.map_cons,get]
  by_cases e:j=k
  ·rw[if_pos e,e]
  rw[if_neg e]
  rcases List.mem_cons.1 h with h1 | h1
  ·exact absurd h1.symm e
  exact ih h1
def cm (P:Program) (n:Nat) (ops:List Oper) (k:Nat) (live:List Nat) (s:St) (K:St→Prop):Prop:=fJ P n ops (ops.drop k) s fun s'=>K ⟨an.bR live s'.t,s'.l⟩
theorem cm.cut {k:Nat} {ops:List Oper} {live:List Nat} {K:St→Prop} (L:List Nat) (hc:Ct ops live (ops.drop k) L=true) (h:cm P n ops k live ⟨an.bR L s.t,s.l⟩ K):cm P n ops k live s K:=
 ach (s1:=⟨an.bR L s.t,s.l⟩) hc rfl (fun x hx=>akN L s.t hx) h
theorem cm.seq (hV:bO P V) (md:Way) {k:Nat} (k2:Nat) (L:List Nat) {ops:List Oper} {live:List Nat} {K:St→Prop} (hk:k≤k2) (hc:Ct ops live (ops.drop k2) L=true)
  (h:∀ K1:St→Prop,(∀ s',cm P n ops k2 live s' K→K1 s')→bu V n ops md ((ops.take k2).drop k) s (fun s'=>K1 ⟨an.bR L s'.t,s'.l⟩)):cm P n ops k live s K:=by
 unfold cm
 have e:ops.drop k=(ops.take k2).drop k++ops.drop k2:=by
  conv=>lhs;rw[←List.take_append_drop k2 ops]
  rw[List.drop_append]
  congr 1
  by_cases hl:k2≤ops.length
  ·rw[List.length_take,Nat.min_eq_left hl,Nat.sub_eq_zero_of_le hk];rfl
  rw[List.drop_eq_nil_of_le (show ops.length≤k2 by omega)];simp
 rw[e]
 exact fJ.seq hV (h (fun s'=>cm P n ops k2 live s' K) (fun _ h=>h) |> Qp (fun s' cW=>cm.cut (s:=s') L hc cW) _ _)
theorem cm.fin (hV:bO P V) (md:Way) {k:Nat} {ops:List Oper} {live:List Nat} {K:St→Prop} (h:bu V n ops md (ops.drop k) s (fun s'=>K ⟨an.bR live s'.t,s'.l⟩)):cm P n ops k live s K:=fJ.of hV h
theorem cm.call (hV:bO P V) {k:Nat} {ops:List Oper} {live:List Nat} {K:St→Prop} {o:Oper} (g:FuncId) (ts:List T) {pc:PC} (ho:ops[k]?=some o) (hg:dU ops s.t o.guard=some pc) (hp:holds pc) (hd:cR n o.dst=true) (hc:kN V.E (bd s.t) o=some (g,ts))
  (h:∀ K2:T→List AO→Prop,(∀ u l',cm P n ops (k+1) live ⟨bq s.t o.dst u,l'⟩ K→K2 u l')→gZ P g ts s.l K2):cm P n ops k live s K:=by
 unfold cm
 have hk:=(List.getElem?_eq_some_iff.1 ho).1
 rw[List.drop_eq_getElem_cons hk,(List.getElem?_eq_some_iff.1 ho).2]
 exact fJ.call hV hg hp hd hc (h _ fun _ _ h=>h)
theorem ab.Ua (hV:bO P V) (live:List Nat) {id:Nat} {ops:List Oper} (h:∀ K:St→Prop,(∀ s',Q .normal s'→K s')→cm P n ops 0 live s K):ab P w0 I0 n (Code.region id ops.toArray false) s Q:=fun a w hr=>by
 refine wpIn_region_lit (fJ.wp (Q:=fun e a' w'=>∃ s',Q e s'∧Rel w0 I0 n s' a' w') (K:=fun s'=>Q .normal ⟨an.bR live s'.t,s'.l⟩) hV (fun s a w h1 h2=>?_) ops s a w hr (h _ fun _ h=>h))
 exact⟨_,h1,Sub.bR live _ _ _ _ _ h2⟩
theorem ab.rC (hV:bO P V) (live:List Nat) {id:Nat} {ops:List Oper} (h:∀ K:St→Prop,(∀ s',ab P w0 I0 n y s' Q→K s')→cm P n ops 0 live s K):ab P w0 I0 n ((Code.region id ops.toArray false).seq y) s Q:=
 ab.wA fun _ hk=>ab.Ua hV live fun _ jr=>h _ fun s' ha=>jr s' (hk s' ha)
theorem ab.azB (hV:bO P V) (hm:P.follows .mixedOrders=true) (md:Way) (n1:Nat) (F:List Nat) (L live:List Nat) {id:Nat} {ops:List Oper} (hd:zh ops n1 F=true) (hc:Ct ops live (ops.drop n1) L=true)
  (h:∀ K:St→Prop,(∀ s',Q .normal s'→K s')→∀ K1:St→Prop,(∀ s',cm P n ops n1 live s' K→K1 s')→dr V n ops md s.l (ops.take n1) 0 s.t [] fun tm news=>K1 ⟨an.bR L tm,s.l++news.map (·.2)⟩):ab P w0 I0 n (Code.region id ops.toArray true) s Q:=fun _ _ hr=>
 aow (Q:=fun e a' w'=>∃ s',Q e s'∧Rel w0 I0 n s' a' w') (K:=fun s'=>Q .normal ⟨an.bR live s'.t,s'.l⟩) hV hm (fun _ _ _ h1 h2=>⟨_,h1,Sub.bR live _ _ _ _ _ h2⟩) n1 F hd hr
  (Es (fun tm news hk=>ach (s1:=⟨an.bR L tm,s.l++news.map (·.2)⟩) (s2:=⟨tm,s.l++news.map (·.2)⟩) hc rfl (fun x hx=>akN L tm hx) hk) _ _ _ _ (h _ (fun _ h=>h) (fun s'=>cm P n ops n1 live s' fun s'=>Q .normal s') fun _ h=>h))
theorem ab.rDC (hV:bO P V) (hm:P.follows .mixedOrders=true) (md:Way) (n1:Nat) (F:List Nat) (L live:List Nat) {id:Nat} {ops:List Oper} (hd:zh ops n1 F=true) (hc:Ct ops live (ops.drop n1) L=true)
  (h:∀ K:St→Prop,(∀ s',ab P w0 I0 n y s' Q→K s')→∀ K1:St→Prop,(∀ s',cm P n ops n1 live s' K→K1 s')→dr V n ops md s.l (ops.take n1) 0 s.t [] fun tm news=>K1 ⟨an.bR L tm,s.l++news.map (·.2)⟩):ab P w0 I0 n ((Code.region id ops.toArray true).seq y) s Q:=
 ab.wA fun _ hk=>ab.azB hV hm md n1 F L live hd hc fun _ jr=>h _ fun s' ha=>jr s' (hk s' ha)
theorem ab.aH {σ ρ:Type} (F:σ→St) (step:σ→Option (σ⊕ρ)) (z0:σ) {out:ρ} (h:an.aH step z0=some out) (hs:Sub s (F z0))
  (round:∀ z o (K:St→Prop),step z=some o→(∀ r,o = .inr r→r=out)→(∀ s' z',o = .inl z'→Sub s' (F z')→K s')→ab P w0 I0 n x (F z) (um K Q)):ab P w0 I0 n (.loop x) s Q:=by
 obtain⟨k,hk⟩:=Su h
 refine ab.loop (X:=Nat×σ) (fun z=>F z.2) (fun z=>ve step z.1 z.2=some out) (fun z=>z.1) (k,z0) hk hs fun z hz=>?_
 obtain⟨k,z⟩:=z
 cases k with
 | zero=>cases hz
 | succ k=>
  simp only[ve] at hz
  cases ho:step z with
  | none=>rw[ho] at hz;cases hz
  | some o=>
   rw[ho] at hz
   refine ab.mono (round z o (fun s'=>∃ z',o = .inl z'∧Sub s' (F z')) ho (fun r hr=>by subst hr;simp only[Option.some.injEq] at hz;exact hz) fun s' z' h1 h2=>⟨z',h1,h2⟩) fun e s' hq=>?_
   cases e<;>first | exact hq | skip
   obtain⟨z',rfl,YE⟩:=hq
   exact⟨(k,z'),hz,by simp,YE⟩
theorem ee.SP {f:FuncId} {fn:Func} {c:Code} {ds:List D} {r:D} (hV:bO P V) (hf:P.funcs[f]?=some fn) (hb:fn.body=some c) (hn:ds.length≤fn.ntmps)
  (h:∀ (R:dx),R.r=none→∀ w0 I0 (Q:Exit→St→Prop),(∀ e s,(e = .ret∨e = .normal)→uh V s fn.results.toList r→Q e s)→ab P w0 I0 fn.ntmps c ⟨fk 0 ds,[]⟩ Q):ee P f ds r:=
 ee.of hV hf hb hn fun R hR w0 I0=>h R hR w0 I0 _ fun _ _ h1 h2=>⟨h1,h2⟩
end
section
theorem Sub.aAl {s:St} (j:Nat) {d:D} {l':List AO} (h:dY s.l (get s.t j)=some (d,l')):Sub s ⟨(j,.d d)::s.t,l'⟩:=by
 intro w0 I0 n a w hr
 obtain⟨h1,I,m,h3,h2,h4⟩:=hr
 obtain⟨J,le,r1,dg,_⟩:=Jw h3 (h4 j) h
 refine⟨h1,J,m,r1,h2.mono le.eR,fun k=>?_⟩
 simp only[get]
 by_cases hk:j=k
 ·subst hk;rw[if_pos rfl];exact .d _ _ dg
 rw[if_neg hk];exact(h4 k).mono le
end
def gJ (o:Option D):D:=o.getD .qA
def jh (f:Option D):Spec:=fun ds=>match ds with | []=>some (gJ f,f.isSome=true) | _=>none
def fh {α:Type} [au α] (f:α→Option D):Spec:=fun ds=>match ds with | [a]=>some (gJ (f (dec a)),enc (dec a:α)=a∧(f (dec a)).isSome=true) | _=>none
def du {α β:Type} [au α] [au β] (f:α→β→Option D):Spec:=fun ds=>match ds with | [a,b]=>some (gJ (f (dec a) (dec b)),enc (dec a:α)=a∧enc (dec b:β)=b∧(f (dec a) (dec b)).isSome=true) | _=>none
def fj {α β γ:Type} [au α] [au β] [au γ] (f:α→β→γ→Option D):Spec:=fun ds=>match ds with | [a,b,c]=>some (gJ (f (dec a) (dec b) (dec c)),enc (dec a:α)=a∧enc (dec b:β)=b∧enc (dec c:γ)=c∧(f (dec a) (dec b) (dec c)).isSome=true) | _=>none
def iP {α β γ δ:Type} [au α] [au β] [au γ] [au δ] (f:α→β→γ→δ→Option D):Spec:=fun ds=>match ds with | [a,b,c,d]=>some (gJ (f (dec a) (dec b) (dec c) (dec d)),enc (dec a:α)=a∧enc (dec b:β)=b∧enc (dec c:γ)=c∧enc (dec d:δ)=d∧(f (dec a) (dec b) (dec c) (dec d)).isSome=true) | _=>none
section
variable {P:Program} {g:FuncId}
theorem M9 {o:Option D} (h:o.isSome=true):o=some (gJ o):=by cases o<;>first | rfl | cases h
theorem aL.avQ {f:Option D} (he:Enters P g) (h:∀ r,f=some r→ee P g [] r):aL P g (jh f):=⟨he,fun ds r ob hs af=>by
 unfold jh at hs;split at hs
 ·cases hs;exact h _ (M9 af)
 cases hs⟩
theorem aL.SO {α:Type} [au α] {f:α→Option D} (he:Enters P g) (h:∀ a r,f a=some r→ee P g [enc a] r):aL P g (fh f):=⟨he,fun ds r ob hs af=>by
 unfold fh at hs;split at hs
 ·cases hs
  have:=h _ _ (M9 af.2);rw[af.1] at this;exact this
 cases hs⟩
theorem aL.avR {α β:Type} [au α] [au β] {f:α→β→Option D} (he:Enters P g) (h:∀ a b r,f a b=some r→ee P g [enc a,enc b] r):aL P g (du f):=⟨he,fun ds r ob hs af=>by
 unfold du at hs;split at hs
 ·cases hs
  have:=h _ _ _ (M9 af.2.2);rw[af.1,af.2.1] at this;exact this
 cases hs⟩
theorem aL.avS {α β γ:Type} [au α] [au β] [au γ] {f:α→β→γ→Option D} (he:Enters P g) (h:∀ a b c r,f a b c=some r→ee P g [enc a,enc b,enc c] r):aL P g (fj f):=⟨he,fun ds r ob hs af=>by
 unfold fj at hs;split at hs
 ·cases hs
  have:=h _ _ _ _ (M9 af.2.2.2);rw[af.1,af.2.1,af.2.2.1] at this;exact this
 cases hs⟩
theorem aL.ajz {α β γ δ:Type} [au α] [au β] [au γ] [au δ] {f:α→β→γ→δ→Option D} (he:Enters P g) (h:∀ a b c d r,f a b c d=some r→ee P g [enc a,enc b,enc c,enc d] r):aL P g (iP f):=⟨he,fun ds r ob hs af=>by
 unfold iP at hs;split at hs
 ·cases hs
  have:=h _ _ _ _ _ (M9 af.2.2.2.2);rw[af.1,af.2.1,af.2.2.1,af.2.2.2.1] at this;exact this
 cases hs⟩
end
end Go.an
namespace Go.an
open Go Go.RowKit au
variable [ck] [dx]
def iterM {σ ρ ε:Type} (step:σ→ε→Option (σ⊕ρ)):List ε→σ→Option (σ⊕ρ)
 | [],z=>some (.inl z)
 | e::l,z=>match step z e with
  | some (.inl z')=>iterM step l z'
  | some (.inr r)=>some (.inr r)
  | none=>none
open Classical in
noncomputable def Bv {σ ρ ε:Type} (step:σ→ε→Option (σ⊕ρ)) (m:List ε) (z:σ):Option (σ⊕ρ):=if h:∃ r,∀ l,l.Perm m→iterM step l z=some r then some (Classical.choose h) else none
theorem au4 {σ ρ ε:Type} {step:σ→ε→Option (σ⊕ρ)} {m:List ε} {z:σ} {r:σ⊕ρ} (h:Bv step m z=some r):∀ l,l.Perm m→iterM step l z=some r:=by
 unfold Bv at h
 split at h
 ·rename_i hx
  injection h with h
  rw[←h];exact Classical.choose_spec hx
 cases h
theorem au3 {σ ρ ε:Type} {step:σ→ε→Option (σ⊕ρ)} {m:List ε} {z:σ} {r:σ⊕ρ} (h:∀ l,l.Perm m→iterM step l z=some r):Bv step m z=some r:=by
 have hx:∃ r,∀ l,l.Perm m→iterM step l z=some r:=⟨r,h⟩
 unfold Bv
 rw[dif_pos hx]
 have h1:=Classical.choose_spec hx m (List.Perm.refl m)
 rw[h m (List.Perm.refl m)] at h1
 exact h1.symm
def sl {ε:Type} (done:List Nat):Nat→List ε→List ε
 | _,[]=>[]
 | k,e::l=>if k∈done then sl done (k+1) l else e::sl done (k+1) l
theorem acd {ε:Type}:∀ (k:Nat) (m:List ε),sl [] k m=m
 | _,[]=>rfl
 | k,e::l=>by simp[sl,acd (k+1) l]
theorem acb {ε:Type} {done:List Nat}:∀ {k:Nat} {m:List ε},(∀ i,i < m.length→k+i∈done)→sl done k m=[]
 | _,[],_=>rfl
 | k,e::l,h=>by
  have h0:=h 0 (by simp)
  simp only[Nat.add_zero] at h0
  simp only[sl,if_pos h0]
  exact acb fun i hi=>by have:=h (i+1) (by simp;omega);rwa [show k+(i+1)=k+1+i by omega] at this
theorem akM {ε:Type} {done:List Nat} {j:Nat}:∀ {k:Nat} {m:List ε},j < k→sl (done++[j]) k m=sl done k m
 | _,[],_=>rfl
 | k,e::l,h=>by
  have hk:(k∈done++[j])=(k∈done):=by simp;omega
  simp only[sl,hk,akM (show j < k+1 by omega)]
theorem ace {ε:Type} {done:List Nat}:∀ {k i:Nat} {m:List ε} {e:ε},m[i]?=some e→k+i∉done→(e::sl (done++[k+i]) k m).Perm (sl done k m)
 | k,i,[],e,h,_=>by simp at h
 | k,0,x::l,e,h,hn=>by
  simp at h;subst h
  simp only[Nat.add_zero] at hn ⊢
  have:k∈done++[k]:=by simp
  simp only[sl,if_pos this,if_neg hn,akM (Nat.lt_succ_self k)]
  exact .refl _
 | k,i+1,x::l,e,h,hn=>by
  have ih:=ace (k:=k+1) (i:=i) (m:=l) (e:=e) (by simpa using h) (by rwa [show k+1+i=k+(i+1) by omega])
  rw[show k+1+i=k+(i+1) by omega] at ih
  have hk:(k∈done++[k+(i+1)])=(k∈done):=by simp
  simp only[sl,hk]
  split
  ·exact ih
  exact(List.Perm.swap _ _ _).trans (ih.cons _)
theorem ajb {done:List Nat} {n:Nat} (hn:done.Nodup) (h:∀ i∈done,i < n):done.length≤n:=by
 have:done.Perm ((List.range n).filter fun i=>done.contains i):=(List.perm_ext_iff_of_nodup hn (List.nodup_range.filter _)).2 fun x=>by simp;exact h x
 rw[this.length_eq]
 exact Nat.le_trans (List.length_filter_le _ _) (by simp)
theorem aiH {α:Type} [au α] {m:List (Int×α)} {i:Nat} {kd vd:D} (hk:(m.map kE)[i]?=some kd) (hv:(m.map vE)[i]?=some vd):∃ e,m[i]?=some e∧kd=kE e∧vd=vE e:=by
 rw[List.getElem?_map] at hk hv
 cases he:m[i]? with
 | none=>rw[he] at hk;cases hk
 | some e=>rw[he] at hk hv;simp at hk hv;exact⟨e,rfl,hk.symm,hv.symm⟩
theorem MC {α:Type} (k:Int) (v:α):kE (k,v) = .int .i64 k:=rfl
theorem OQ {α:Type} [au α] (k:Int) (v:α):vE (k,v)=enc v:=rfl
section
variable {P:Program} {V:Env} {w0 w:World} {I0 I:aC} {m:Nat→Value} {l:List AO}
theorem avE (aq:aI w0 I0 w I m l) {id:Nat} {ks vs:List D} {done:List Nat} (hl:l[id]?=some (.iter ks vs done)) {b:Nat} (hm:m id = .pointer (some ⟨b,0,none⟩)) (ty:TypeId) :
  ((∀ i,i < ks.length→i∈done)∧(Instr.next (.pointer (some ⟨b,0,none⟩)) false ty).run P w = .ok (.tuple #[.bool false]) w) ∨
  ∃ i key val kd vd w',ks[i]?=some kd∧vs[i]?=some vd∧i∉done∧(Instr.next (.pointer (some ⟨b,0,none⟩)) false ty).run P w = .ok (.tuple #[.bool true,key,val]) w'∧Rd I key kd∧Rd I val vd ∧
   Le I m l I m (l.set id (.iter ks vs (done++[i])))∧aI w0 I0 w' I m (l.set id (.iter ks vs (done++[i]))):=by
 obtain⟨b',mb,es,seen,q1,q2,q3,q4,q5,q6,q7,q8,⟨q9,Ta⟩,q11⟩:=aq.obj id _ hl
 rw[hm] at q1;injection q1 with q1;injection q1 with q1;injection q1 with q1;subst q1
 cases mb with
 | none=>
  have he:=q4.2 rfl
  have hk0:ks.length=0:=by rw[←q5,he];rfl
  refine .inl ⟨fun i hi=>by omega,?_⟩
  simp[Instr.next,getObj,Sem.run_bind,Sem.run,q3,Result.andThen]
 | some mb=>
 have hh:=aq.sat.mp mb es (q4.1 mb rfl)
 have qq:∀ x,seen.contains x=true↔∃ i∈done,JX es i=x:=fun x=>by
  rw[←Array.contains_toList,q9];simp
 have arO:∀ (i j:Nat) (hi:i < es.1.size) (hj:j < es.1.size),es.1[i].born=es.1[j].born→i=j:=fun i j hi hj h=>by
  refine ajc hh.2.2.1 (a:=es.1[i].born) ?_ ?_
  ·simp[hi]
  simp[hj,h]
 rcases run_next_at (P:=P) w ty b mb es.2 es.2 seen es.1 es.2 q3 hh.1 hh.2.1 (Nat.le_refl _) with ⟨h0,dL⟩ | ⟨e,he,w1,dD,dL⟩
 ·refine .inl ⟨fun i hi=>?_,dL⟩
  have gi:i < es.1.size:=by omega
  have:=all_seen es.1 seen h0 es.1[i] (by simp)
  obtain⟨j,hj,hb⟩:=(qq _).1 this
  have gO:=Ta j hj
  rw[Pu (Array.getElem?_eq_getElem gO)] at hb
  rw[arO i j gi gO hb.symm];exact hj
 obtain⟨hem,hes⟩:=mem_left he
 obtain⟨i,hi,LJ⟩:=List.mem_iff_getElem.1 hem
 have gi:i < es.1.size:=by simpa using hi
 have Q3:es.1[i]?=some e:=by rw[Array.getElem?_eq_getElem gi];simpa using LJ
 have gj:i∉done:=fun hd=>by
  have:=(qq e.born).2 ⟨i,hd,Pu Q3⟩
  rw[this] at hes;cases hes
 have r7:ks[i]?=some ks[i]:=List.getElem?_eq_getElem (by omega)
 have E7:vs[i]?=some vs[i]:=List.getElem?_eq_getElem (by omega)
 refine .inr ⟨i,e.key,e.val,ks[i],vs[i],_,r7,E7,gj,dL,q7 i e _ Q3 r7,q8 i e _ Q3 E7,Le.setKind hl rfl rfl (by simp),?_⟩
 have as4:aI w0 I0 w1 I m l:=by rcases dD with rfl | rfl;exact aq;exact aq.drew
 have uX:w1.heap[b]?=some (.mapIter (some mb) es.2 seen es.2):=by rcases dD with rfl | rfl<;>exact q3
 have j9:=MapKept.heap_set (o':= .mapIter (some mb) es.2 (seen.push e.born) es.2) uX
 refine as4.Ag hl (by simp) (b:=b) (by rw[hm];rfl) q11 rfl rfl (Le.setKind hl rfl rfl (by simp)) rfl rfl rfl (Nat.le_refl _) (by simp[ChangeMaps.setBlock]) (fun k hk=>j9.2 k hk) ?_
 exact⟨b,mb,es,seen.push e.born,hm,q2,j9.1,q4,q5,q6,q7,q8,⟨by simp[q9,Pu Q3],fun j hj=>by
  rcases List.mem_append.1 hj with h | h
  ·exact Ta j h
  simp at h;subst h;exact gi⟩,q11⟩
end
section
variable {P:Program} {V:Env} {w0:World} {I0:aC} {n:Nat} {Q:Exit→St→Prop} {s:St} {x y:Code}
theorem ab.aiT (hV:bO P V) {id E it d d2 k:Nat} {ks vs:List D} {done:List Nat} {o o2:Oper} (ho:o.op = .next (.tmp it) false) (hd:o.dst=some d) (hg:o.guard=none) (ho2:o2.op = .extract (.tmp d) 0) (HO:o2.dst=some d2) (A5:o2.guard=none)
  (yn:d < n) (arB:d2 < n) (hu:get s.t d = .undef) (hu2:get s.t d2 = .undef) (Ra:get s.t it = .ptr k 0) (hk:s.l[k]?=some (.iter ks vs done))
  (hA:∀ i kd vd,ks[i]?=some kd→vs[i]?=some vd→i∉done→ab P w0 I0 n y ⟨s.t,s.l.set k (.iter ks vs (done++[i]))⟩ Q)
  (hB:(∀ i,i < ks.length→i∈done)→Q (.exit E) ⟨(d2,.d (.bool false))::(d,.d (.bn [.bool false]))::s.t,s.l⟩):ab P w0 I0 n ((Code.region id #[o,o2] false).seq ((Code.cond (.tmp d2) .skip (.exit E)).seq y)) s Q:=by
 refine ab.seq fun a w hr=>?_
 obtain⟨r1,I,m,r3,r2,r4⟩:=hr
 have Be:=r4 it
 rw[Ra] at Be
 generalize pn:a.tmps.getD it undef=va at Be
 cases Be with
 | ptr _ b _ p1 p2=>
 have j9:∀ (v:Value) (j:Nat),(a.put (some d) v).tmps.getD j undef=if j=d then v else a.tmps.getD j undef:=fun v j=>by
  by_cases h:j=d
  ·subst h;simp[Act.put,Array.getD_eq_getD_getElem?,r1,yn]
  have:d≠j:=Ne.symm h
  simp[Act.put,Array.getD_eq_getD_getElem?,this,h]
 have aeT:∀ (v:Value) (w':World) (l':List AO) (t:T),Le I m s.l I m l'→aI w0 I0 w' I m l'→aw I m l' v t→Rel w0 I0 n ⟨bq s.t (some d) t,l'⟩ (a.put (some d) v) w':=fun v w' l' t hle hw hv=>by
  refine⟨by simp[Act.put,r1],I,m,hw,r2,fun j=>?_⟩
  rw[j9]
  simp only[bq,get]
  by_cases h:j=d
  ·subst h;simp;exact hv
  rw[if_neg h,if_neg (Ne.symm h)];exact(r4 j).mono hle
 refine wpIn_region_lit (l:=[o,o2]) ?_
 unfold wpListIn
 have hw:Region.wanted o (yielded [o,o2].toArray a.tmps)=true:=by simp[Region.wanted,hg]
 rw[if_pos hw]
 have sY:a.eval (.tmp it) = .pointer (some ⟨b,0,none⟩):=by simpa [Act.eval,Array.getD_eq_getD_getElem?] using pn
 have two:∀ (bb:Bool) (ds:List D) (l':List AO) (a':Act) (w':World),Rel w0 I0 n ⟨bq s.t (some d) (.d (.bn (.bool bb::ds))),l'⟩ a' w'→ab P w0 I0 n ((Code.cond (.tmp d2) .skip (.exit E)).seq y) ⟨(d2,.d (.bool bb))::(d,.d (.bn (.bool bb::ds)))::s.t,l'⟩ Q →
   wpListIn dB 0 P [o,o2].toArray (fun e a' w'=>∃ s',um (fun s'=>ab P w0 I0 n ((Code.cond (.tmp d2) .skip (.exit E)).seq y) s' Q) Q e s'∧Rel w0 I0 n s' a' w') [o2] a' w':=fun bb ds l' a' w' oE hy=>by
  refine VS (K:=fun q=>q=⟨(d2,.d (.bool bb))::(d,.d (.bn (.bool bb::ds)))::s.t,l'⟩) (md:=none) hV (fun q a w hq hr=>?_) [o2] _ a' w' oE ?_
  ·subst hq;exact⟨_,hy,hr⟩
  simp[bu,A5,dU,dz,evalOp,ho2,bd,bq,get,R.ok,holds,cR,HO,arB,after]
 refine cz.wpIn (by simp[ho]) ?_
 rcases avE (P:=P) r3 hk p2 o.type with ⟨bL,dL⟩ | ⟨i,key,val,kd,vd,w',h1,h2,h3,dL,h5,h6,h7,h8⟩
 ·have hex:(execOp a.eval o).run P w = .ok (.value (.tuple #[.bool false])) w:=by unfold execOp;simp[ho,sY,dL]
  rw[hex]
  simp only[cz,hd]
  refine two false [] s.l _ _ (aeT _ w s.l _ (.refl ..) r3 (.d _ _ (.bn _ _ rfl fun j u x hu hx=>?_))) ?_
  ·rcases j with _ | j
   ·simp at hu hx;subst hu;subst hx;exact .bool _
   simp at hu
  exact ab.seq (ab.cond (b:=false) (by simp[bd,get,G3]) (fun h=>by cases h) (fun _=>ab.exit (hB bL)))
 have hex:(execOp a.eval o).run P w = .ok (.value (.tuple #[.bool true,key,val])) w':=by unfold execOp;simp[ho,sY,dL]
 rw[hex]
 simp only[cz,hd]
 refine two true [kd,vd] _ _ _ (aeT _ w' _ _ h7 h8 (.d _ _ (.bn _ _ rfl fun j u x hu hx=>?_))) ?_
 ·rcases j with _ | _ | _ | j
  ·simp at hu hx;subst hu;subst hx;exact .bool _
  ·simp at hu hx;subst hu;subst hx;exact h5
  ·simp at hu hx;subst hu;subst hx;exact h6
  simp at hu
 refine ab.seq (ab.cond (b:=true) (by simp[bd,get,G3]) (fun _=>ab.skip ?_) (fun h=>by cases h))
 refine ab.sub ?_ (hA i kd vd h1 h2 h3)
 intro w0 I0 n a w hr
 obtain⟨h1,I,m,h3,h2,h4⟩:=hr
 refine⟨h1,I,m,h3,h2,fun j=>?_⟩
 have:=h4 j
 simp only[get] at this
 by_cases e2:d2=j
 ·subst e2;rw[hu2];exact .undef _
 rw[if_neg e2] at this
 by_cases e1:d=j
 ·subst e1;rw[hu];exact .undef _
 rw[if_neg e1] at this;exact this
theorem ab.Bv {σ ρ α:Type} [au α] (mm:List (Int×α)) (F:List Nat→σ→St) (step:σ→Int×α→Option (σ⊕ρ)) (z0:σ) {out:σ⊕ρ} (h:an.Bv step mm z0=some out) (hs:Sub s (F [] z0))
  (
   round:∀ (done:List Nat) (z:σ) (K:St→Prop),((∀ i,i < mm.length→i∈done)→out = .inl z)→(∀ i e,mm[i]?=some e→i∉done→∃ o,step z e=some o∧(∀ r,o = .inr r→out = .inr r)∧∀ s' z',o = .inl z'→Sub s' (F (done++[i]) z')→K s') →
   ab P w0 I0 n x (F done z) (um K Q)):ab P w0 I0 n (.loop x) s Q:=by
 have h0:=au4 h
 refine ab.loop (X:=List Nat×σ) (fun z=>F z.1 z.2) (fun z=>z.1.Nodup∧(∀ i∈z.1,i < mm.length)∧∀ l,l.Perm (sl z.1 0 mm)→iterM step l z.2=some out) (fun z=>mm.length - z.1.length) ([],z0) ⟨by simp,by simp,fun l hl=>h0 l (by rwa [acd] at hl)⟩ hs fun z hz=>?_
 obtain⟨done,z⟩:=z
 obtain⟨hn,hb,hp⟩:=hz
 refine round done z _ (fun bL=>?_) (fun i e he hi=>?_)
 ·have:=hp [] (by rw[acb fun i hi=>by simpa using bL i hi])
  simp only[iterM] at this
  injection this with this;exact this.symm
 have mn:=ace (done:=done) (k:=0) (i:=i) (m:=mm) he (by simpa using hi)
 simp only[Nat.zero_add] at mn
 have hl:∀ l,l.Perm (sl (done++[i]) 0 mm)→iterM step (e::l) z=some out:=fun l hl=>hp _ ((hl.cons e).trans mn)
 have h1:=hl _ (.refl _)
 simp only[iterM] at h1 hl
 have uT:i < mm.length:=(List.getElem?_eq_some_iff.1 he).1
 cases gQ:step z e with
 | none=>rw[gQ] at h1;cases h1
 | some o=>
  refine⟨o,rfl,fun r hr=>?_,fun s' z' hz cW=>⟨(done++[i],z'),⟨?_,?_,fun l iK=>?_⟩,?_,cW⟩⟩
  ·subst hr;rw[gQ] at h1;injection h1 with h1;exact h1.symm
  ·rw[List.nodup_append];exact⟨hn,by simp,fun a ha b bP=>by simp at bP;subst bP;exact fun e=>hi (e▸ha)⟩
  ·intro j hj
   rcases List.mem_append.1 hj with h | h
   ·exact hb j h
   simp at h;subst h;exact uT
  ·have:=hl l iK
   rw[gQ,hz] at this;exact this
  have:=ajb (done:=done++[i]) (n:=mm.length) (by rw[List.nodup_append];exact⟨hn,by simp,fun a ha b bP=>by simp at bP;subst bP;exact fun e=>hi (e▸ha)⟩) (fun j hj=>by
   rcases List.mem_append.1 hj with h | h
   ·exact hb j h
   simp at h;subst h;exact uT)
  simp at this ⊢;omega
theorem ab.au5 {σ ρ α:Type} [au α] (mm:List (Int×α)) (F:List Nat→σ→St) (step:σ→Int×α→Option (σ⊕ρ)) (z0:σ) (Good:σ⊕ρ→Prop) (h:∀ l,l.Perm mm→∃ out,iterM step l z0=some out∧Good out) (hs:Sub s (F [] z0))
  (
   round:∀ (done:List Nat) (z:σ) (K:St→Prop),((∀ i,i < mm.length→i∈done)→Good (.inl z))→(∀ i e,mm[i]?=some e→i∉done→∃ o,step z e=some o∧(∀ r,o = .inr r→Good (.inr r))∧∀ s' z',o = .inl z'→Sub s' (F (done++[i]) z')→K s') →
   ab P w0 I0 n x (F done z) (um K Q)):ab P w0 I0 n (.loop x) s Q:=by
 refine ab.loop (X:=List Nat×σ) (fun z=>F z.1 z.2) (fun z=>z.1.Nodup∧(∀ i∈z.1,i < mm.length)∧∀ l,l.Perm (sl z.1 0 mm)→∃ out,iterM step l z.2=some out∧Good out) (fun z=>mm.length - z.1.length) ([],z0) ⟨by simp,by simp,fun l hl=>h l (by rwa [acd] at hl)⟩ hs fun z hz=>?_
 obtain⟨done,z⟩:=z
 obtain⟨hn,hb,hp⟩:=hz
 refine round done z _ (fun bL=>?_) (fun i e he hi=>?_)
 ·obtain⟨out,this,arK⟩:=hp [] (by rw[acb fun i hi=>by simpa using bL i hi])
  simp only[iterM] at this
  injection this with this;rw[this];exact arK
 have mn:=ace (done:=done) (k:=0) (i:=i) (m:=mm) he (by simpa using hi)
 simp only[Nat.zero_add] at mn
 have hl:∀ l,l.Perm (sl (done++[i]) 0 mm)→∃ out,iterM step (e::l) z=some out∧Good out:=fun l hl=>hp _ ((hl.cons e).trans mn)
 obtain⟨aEo,h1,arL⟩:=hl _ (.refl _)
 simp only[iterM] at h1 hl
 have uT:i < mm.length:=(List.getElem?_eq_some_iff.1 he).1
 cases gQ:step z e with
 | none=>rw[gQ] at h1;cases h1
 | some o=>
  refine⟨o,rfl,fun r hr=>?_,fun s' z' hz cW=>⟨(done++[i],z'),⟨?_,?_,fun l iK=>?_⟩,?_,cW⟩⟩
  ·subst hr;rw[gQ] at h1;injection h1 with h1;rw[h1];exact arL
  ·rw[List.nodup_append];exact⟨hn,by simp,fun a ha b bP=>by simp at bP;subst bP;exact fun e=>hi (e▸ha)⟩
  ·intro j hj
   rcases List.mem_append.1 hj with h | h
   ·exact hb j h
   simp at h;subst h;exact uT
  ·have:=hl l iK
   rw[gQ,hz] at this;exact this
  have:=ajb (done:=done++[i]) (n:=mm.length) (by rw[List.nodup_append];exact⟨hn,by simp,fun a ha b bP=>by simp at bP;subst bP;exact fun e=>hi (e▸ha)⟩) (fun j hj=>by
   rcases List.mem_append.1 hj with h | h
   ·exact hb j h
   simp at h;subst h;exact uT)
  simp at this ⊢;omega
end
end Go.an
namespace Go.an
open Go Go.RowKit
variable [ck] [dx]
def VA:T→Option (FuncId×List T)
 | .aR g ts=>some (g,ts)
 | .d (.fn g)=>some (g,[])
 | .d (.aR g ds)=>some (g,ds.map .d)
 | _=>none
theorem anP {I:aC} {m:Nat→Value} {l:List AO} {v:Value} {t:T} {g:FuncId} {ts:List T} (h:aw I m l v t) (hc:VA t=some (g,ts)) :
  ∃ vs:Array Value,v = .func (.func g) #[] vs∧vs.size=ts.length∧∀ (i:Nat) u x,vs[i]?=some u→ts[i]?=some x→aw I m l u x:=by
 unfold VA at hc
 split at hc
 ·injection hc with hc;injection hc with h1 h2;subst h1;subst h2
  cases h with
  | aR _ vs _ q1 q2=>exact⟨vs,rfl,q1,q2⟩
 ·injection hc with hc;injection hc with h1 h2;subst h1;subst h2
  have:=dp h;cases this
  exact⟨#[],rfl,rfl,by simp⟩
 ·injection hc with hc;injection hc with h1 h2;subst h1;subst h2
  have:=dp h
  cases this with
  | aR _ vs _ q1 q2=>
   refine⟨vs,rfl,by simpa using q1,fun i u x hu hx=>?_⟩
   rw[List.getElem?_map] at hx
   rename_i ds
   cases hd:ds[i]? with
   | none=>rw[hd] at hx;cases hx
   | some d=>rw[hd] at hx;simp at hx;subst hx;exact .d _ _ (q2 i u d hu hd)
 cases hc
section
variable {P:Program} {V:Env} {w0 w:World} {I0 I:aC} {m:Nat→Value} {l:List AO} {n:Nat} {Q:Exit→St→Prop} {s:St} {x y:Code}
theorem aI.frame (aq:aI w0 I0 w I m l) {vals:Nat→Value} {ft:Tm} (LN:∀ k,aw I m l (vals k) (get ft k)) :
  aI w0 I0 w I (bG m l.length (.bool false)) (l++[.frame l.length vals ft])∧Le I m l I (bG m l.length (.bool false)) (l++[.frame l.length vals ft]):=by
 have cB:∀ k,k < l.length→(l++[AO.frame l.length vals ft])[k]?=l[k]?:=fun k hk=>List.getElem?_append_left hk
 have vW:(l++[AO.frame l.length vals ft])[l.length]?=some (.frame l.length vals ft):=by simp
 have hle:Le I m l I (bG m l.length (.bool false)) (l++[.frame l.length vals ft]):=by
  refine⟨.refl I,by simp,fun id aB hv=>⟨?_,eh m _ (by omega)⟩,fun id aB hr=>⟨?_,eh m _ (by omega)⟩,fun id e' s' els' aB hh=>⟨els',?_⟩⟩
  ·unfold isVar at hv ⊢;rw[cB id aB];exact hv
  ·unfold isRow at hr ⊢;rw[cB id aB] at hr;exact hr
  rw[cB id aB] at hh;exact hh
 have dD:∀ k,k≠l.length→alive (l++[AO.frame l.length vals ft]) k=true→alive l k=true:=by
  intro k hk ha
  obtain⟨o,ho,hd⟩:=bZ.1 ha
  have js:k < l.length:=by have:=(List.getElem?_eq_some_iff.1 ho).1;simp at this;omega
  rw[cB k js] at ho
  exact bZ.2 ⟨o,ho,hd⟩
 refine⟨⟨aq.below,aq.sat,aq.ext,fun id o ho=>?_,fun i j b cj hi hj cY cT=>?_⟩,hle⟩
 ·by_cases aB:id < l.length
  ·rw[cB id aB] at ho;rw[eh m _ (by omega)]
   by_cases hd:o = .dead
   ·subst hd;trivial
   exact(aq.obj id o ho).pR hle (fun _ _=>rfl) (fun _ _=>⟨rfl,rfl⟩)
  have:id=l.length:=by
   have:=(List.getElem?_eq_some_iff.1 ho).1;simp at this;omega
  subst this
  rw[vW] at ho;injection ho with ho;subst ho
  rw[nT]
  refine⟨rfl,by simp,fun k=>?_⟩
  have e:(l++[AO.frame l.length vals ft]).take l.length=l:=by simp
  rw[e]
  refine(LN k).mono ⟨.refl I,Nat.le_refl _,fun id aB hv=>⟨hv,eh m _ (by omega)⟩,fun id aB hr=>⟨hr,eh m _ (by omega)⟩,fun id e' s' els' aB hh=>⟨els',hh⟩⟩
 by_cases h1:i=l.length
 ·subst h1;rw[nT] at cY;cases cY
 by_cases h2:j=l.length
 ·subst h2;rw[nT] at cT;cases cT
 rw[eh m _ h1] at cY;rw[eh m _ h2] at cT
 exact aq.sep i j b cj (dD i h1 hi) (dD j h2 hj) cY cT
theorem aI.am9 (h:aI w0 I0 w I m l):∃ J:aC,aI w0 I0 (w.alloc (.deferred (some []))) J m l∧Le I m l J m l∧J.df w.heap.size∧¬ I.df w.heap.size:=by
 let J:aC:=⟨I.cell,I.mp,fun b=>I.df b∨b=w.heap.size⟩
 have hle:I.le J:=⟨fun _ _ _ h=>h,fun _ _ h=>h,fun _ h=> .inl h⟩
 have fA:(w.alloc (.deferred (some []))).heap[w.heap.size]?=some (.deferred (some [])):=World.alloc_heap_new w _
 obtain⟨r1,r2⟩:=h.call (J:=J) (eL.alloc (eL.refl _ _) (Nat.le_refl _) (.deferred (some []))) (.of hle (fun _ _=>rfl) (fun _ _=>rfl))
  ⟨fun b o v hc=>by rw[World.cell?_alloc_lt w _ _ (h.sat.lt hc)];exact h.sat.cell b o v hc,fun b es hc=>iT.to (Below.heap_alloc w _ b (h.sat.wi hc)) (h.sat.mp b es hc),
   fun b hd=>by
   rcases hd with hd | rfl
   ·exact(Below.heap_alloc w _ b (h.sat.tu hd)).trans (h.sat.df b hd)
   exact fA,fun g d hg=>(h.sat.dS g d hg).mono hle⟩
 exact⟨J,r1,r2,.inr rfl,fun hd=>absurd (h.sat.tu hd) (Nat.lt_irrefl _)⟩
def am6 (P:Program) (w0:World) (I0:aC) (n:Nat) (Q:Exit→St→Prop) (s:St) (id:Nat) (l':List AO):Prop:=
 ∃ base k ps cQ body tm st ed,l'[id]?=some (.loop base k ps cQ body tm st ed)∧st ≠ .busy ∧
  match ed with
  | none=>Q .normal ⟨s.t,l'.set id (.loop base k ps cQ body tm .exhausted ed)⟩
  | some c=>ab P w0 I0 n c ⟨s.t,l'.set id (.loop base k ps cQ body tm .exhausted ed)⟩ Q
theorem anC {w:World} {b:Nat} {r:Loop} {o:Obj} (h:w.heap[b]?=some (.loop r)):(w.putObj b o).heap[b]?=some o:=World.putObj_heap_same (Array.getElem?_eq_some_iff.1 h).1
theorem aI.UN (aq:aI w0 I0 w I m l) {id b base k:Nat} {ps:Array Tmp} {cQ body:Code} {tm:Tm} {st st':LoopState} {ed pend':Option Code} (ho:l[id]?=some (.loop base k ps cQ body tm st ed)) (hm:m id = .func (.yield b) #[] #[]) :
  ∃ r,w.heap[b]?=some (.loop r)∧(r.state=st∧r.pending=ed∧r.params=ps∧r.assign=cQ∧r.body=body∧r.tmps.size=k)∧base≤l.length∧(∀ j,aw I m (l.take base) (r.tmps.getD j undef) (get tm j)) ∧
   Le I m l I m (l.set id (.loop base k ps cQ body tm st' pend'))∧aI w0 I0 (w.putObj b (.loop { r with state:=st',pending:=pend' })) I m (l.set id (.loop base k ps cQ body tm st' pend')):=by
 obtain⟨b',r,q0,q1,q2,q3,q4,q5,q6⟩:=aq.obj id _ ho
 rw[hm] at q0;injection q0 with q0;injection q0 with q0;subst q0
 have hle:Le I m l I m (l.set id (.loop base k ps cQ body tm st' pend')):=Le.setKind ho rfl rfl (fun e size els h=>by rcases h with h | h<;>cases h)
 refine⟨r,q2,q3,q4,q5,hle,?_⟩
 refine aq.Ag (w':=w.putObj b (.loop { r with state:=st',pending:=pend' })) ho (by simp) (by rw[hm];rfl) q6 rfl rfl hle rfl rfl rfl (Nat.le_refl _) (by simp) (fun j hj=>World.putObj_heap_other hj) ?_
 exact⟨b,_,hm,q1,anC q2,⟨rfl,rfl,q3.2.2.1,q3.2.2.2.1,q3.2.2.2.2.1,q3.2.2.2.2.2⟩,by simpa using q4,fun j=>(q5 j).mono (hle.take base),q6⟩
theorem apj (t:Tm):∃ N,get t N = .undef:=by
 have:∃ B,∀ k,B≤k→get t k = .undef:=by
  induction t with
  | nil=>exact⟨0,fun _ _=>rfl⟩
  | cons p r ih=>
   obtain⟨i,t⟩:=p
   obtain⟨B,hB⟩:=ih
   exact⟨B+i+1,fun k hk=>by simp only[get];rw[if_neg (by omega)];exact hB k (by omega)⟩
 obtain⟨B,hB⟩:=this
 exact⟨B,hB B (Nat.le_refl _)⟩
theorem ab.azv (Ye:dx.r=none) {g:Operand} {ps:Array Tmp} {assign body:Code} {gf:FuncId} {caps:List T} (hc:VA (bd s.t g)=some (gf,caps))
  (h:∀ cQ sR,cQ=assign→sR=body→∀ K:T→List AO→Prop,(∀ u l',am6 P w0 I0 n Q s s.l.length l'→K u l')→gZ P gf (.cE s.l.length::caps) (s.l++[.loop s.l.length n ps cQ sR s.t .ready none]) K) :
  ab P w0 I0 n (.rangeFunc g ps assign body) s Q:=fun a w hr=>by
 obtain⟨aS,I,m,hw,dZ,ht⟩:=hr
 obtain⟨vs,hgv,Mb,Xy⟩:=anP (Cz hw.sat.dS ht g) hc
 obtain⟨fb,LG⟩:=h assign body rfl rfl _ (fun _ _ h=>h)
 refine wpIn_rangeFunc ?_
 intro fn qp
 have Yh:dB.round=none:=Ye
 rw[Yh]
 obtain⟨J,qy,HV,hJD,hID⟩:=hw.am9
 obtain⟨rec,oX⟩:∃ rec:Loop,rec={ state:= .ready,pending:=none,fn,tmps:=a.tmps,params:=ps,assign,body,defers:=w.heap.size }:=⟨_,rfl⟩
 have fA:((w.alloc (.deferred (some []))).alloc (.loop rec)).heap[w.heap.size+1]?=some (.loop rec):=by
  have:=World.alloc_heap_new (w.alloc (.deferred (some []))) (.loop rec);rwa [World.size_alloc] at this
 have ca:=qy.sat.gp (b:=w.heap.size+1) (by simp)
 have fB:rI w0.heap.size ((w.alloc (.deferred (some []))).alloc (.loop rec)) J (bG m s.l.length (.func (.yield (w.heap.size+1)) #[] #[])) (s.l++[.loop s.l.length n ps assign body s.t .ready none]) (.func (.yield (w.heap.size+1)) #[] #[]) (.loop s.l.length n ps assign body s.t .ready none):=by
  refine⟨w.heap.size+1,rec,rfl,?_,fA,?_,by simp,fun k=>?_,ca⟩
  ·have:=hw.below.size;omega
  ·rw[oX];exact⟨rfl,rfl,rfl,rfl,rfl,aS⟩
  have e:(s.l++[AO.loop s.l.length n ps assign body s.t .ready none]).take s.l.length=s.l:=by simp
  rw[e,oX]
  exact((ht k).mono HV).mono ⟨.refl J,Nat.le_refl _,fun id aB hv=>⟨hv,eh m _ (by omega)⟩,fun id aB hr=>⟨hr,eh m _ (by omega)⟩,fun id e' s' els' aB hh=>⟨els',hh⟩⟩
 have A5:World.grownBy (w.alloc (.deferred (some []))) ((w.alloc (.deferred (some []))).alloc (.loop rec)) none:=World.grownBy_alloc _ _ _
 obtain⟨r9,Bh⟩:=qy.S9 (b0:=w.heap.size+1) rfl (by simp) A5 (Nat.le_refl _) (by simp) fB
 have aif:aw J (bG m s.l.length (.func (.yield (w.heap.size+1)) #[] #[])) (s.l++[.loop s.l.length n ps assign body s.t .ready none]) (.func (.yield (w.heap.size+1)) #[] #[]) (.cE s.l.length):=
  .cE _ _ (by simp[isVar,AO.isVar]) (nT m _ _)
 refine⟨w.heap.size+1,[mark w.heap.size],(w.alloc (.deferred (some []))).alloc (.loop rec),{ target:= .fn (.func gf) vs,args:= #[.func (.yield (w.heap.size+1)) #[] #[]] },(w.alloc (.deferred (some []))).alloc (.loop rec),gf,
  #[.func (.yield (w.heap.size+1)) #[] #[]]++vs,(w.alloc (.deferred (some []))).alloc (.loop rec),?_,?_,fun f' _=>Aw f',?_,fun h=>by simp[dB,Fence.wide] at h,?_⟩
 ·rw[oX];exact run_enterLoop_outer _ _ _ _ _
 ·simp only[resolve,hgv]
  simp[go_sem]
 ·simp[invoke,fb _ _]
 refine afh ?_ _
 obtain⟨N,hN⟩:=apj s.t
 have hA:∀ (i:Nat) v x,(#[Value.func (.yield (w.heap.size+1)) #[] #[]]++vs)[i]?=some v→(T.cE s.l.length::caps)[i]?=some x→aw J (bG m s.l.length (.func (.yield (w.heap.size+1)) #[] #[])) (s.l++[.loop s.l.length n ps assign body s.t .ready none]) v x:=fun i v x hv hx=>by
  rcases i with _ | i
  ·rw[Array.getElem?_append_left (by simp)] at hv
   simp at hv hx;subst hv;subst hx;exact aif
  have dW:vs[i]?=some v:=by
   rw[Array.getElem?_append_right (by simp)] at hv
   simpa using hv
  simp at hx
  exact((Xy i v x dW hx).mono HV).mono r9
 have hB:∀ k,aw J (bG m s.l.length (.func (.yield (w.heap.size+1)) #[] #[])) (s.l++[.loop s.l.length n ps assign body s.t .ready none]) (if k=N then .func (.yield (w.heap.size+1)) #[] #[] else a.tmps.getD k undef) (get ((N,.cE s.l.length)::s.t) k):=fun k=>by
  simp only[get]
  by_cases hk:N=k
  ·subst hk;simp only[if_true];exact aif
  rw[if_neg hk,if_neg (Ne.symm hk)]
  exact((ht k).mono HV).mono r9
 have hC:=LG w0 I0 _ J _ (#[Value.func (.yield (w.heap.size+1)) #[] #[]]++vs) (fun k=>if k=N then .func (.yield (w.heap.size+1)) #[] #[] else a.tmps.getD k undef) ((N,.cE s.l.length)::s.t) Bh (by simp[Mb];omega) hA hB
 refine hC.mono ?_
 rintro e w' ⟨v,rfl,t,l',J',m',hk,dc,hv,EO,ahX⟩
 obtain⟨base,k,ps',cQ,sR,tm,st,ed,iK,gQ,EN⟩:=hk
 have hy:=ahX N
 simp only[get,if_true] at hy
 have XY:m' s.l.length = .func (.yield (w.heap.size+1)) #[] #[]:=by
  cases hy with
  | cE _ _ _ h2=>exact h2
 obtain⟨r,q1,q2,q3,q4,q5,q6⟩:=dc.UN (st':= .exhausted) (pend':=ed) iK XY
 have cM:=run_endLoop (P:=P) q1 (by rw[q2.1];exact gQ)
 have oE:r.pending=ed:=q2.2.1
 refine⟨ed,_,by rw[←oE];exact cM,?_⟩
 have CP:Rel w0 I0 n ⟨s.t,l'.set s.l.length (.loop base k ps' cQ sR tm .exhausted ed)⟩ { a with defers:=[mark w.heap.size]++a.defers } (w'.putObj (w.heap.size+1) (.loop { r with state:= .exhausted })):=by
  refine⟨aS,J',m',?_,?_,fun k=>?_⟩
  ·have:({ r with state:= .exhausted }:Loop)={ r with state:= .exhausted,pending:=ed }:=by rw[←oE]
   rw[this];exact q6
  ·refine iS.Fu (I:=J) (iS.cons (dZ.Fu (J:=I) fun _ h=>h) (fun b hb=>HV.eR.df b hb) (by exact hw.below.size) hID hJD) EO
  have:=ahX k
  simp only[get] at this
  by_cases hk:N=k
  ·subst hk
   rw[hN];exact .undef _
  rw[if_neg hk,if_neg (Ne.symm hk)] at this
  exact this.mono q5
 cases ed with
 | none=>exact⟨_,EN,CP⟩
 | some c=>exact EN _ _ CP
def yZ (E:dh) (ρ:Operand→T) (o:Oper):Option (Nat×List T):=match o.op with
 | .call c=>(match c.callee with
  | .value f=>(match ρ f with
   | .cE id=>some (id,fm E c.argTypes.toList (c.args.toList.map ρ))
   | _=>none)
  | _=>none)
 | _=>none
theorem aA0 {E:dh} {ρ ρ':Operand→T} {o:Oper} (h:∀ x∈o.op.operands,ρ x=ρ' x):yZ E ρ o=yZ E ρ' o:=by
 unfold yZ
 split
 ·rename_i c ho
  split
  ·rename_i f hf
   have h1:=h f (by simp[ho,Op.operands,Call.operands,hf])
   have h2:c.args.toList.map ρ=c.args.toList.map ρ':=List.map_congr_left fun x hx=>h x (by simp[ho,Op.operands,Call.operands];right;simpa using hx)
   rw[h1,h2]
  rfl
 rfl
theorem aA1 {E:dh} {ρT:Operand→T} {o:Oper} {x:Nat×List T} (h:yZ E ρT o=some x):∀ c,o.op ≠ .defer c:=by
 intro c hc
 unfold yZ at h
 rw[hc] at h;cases h
theorem aA2 {E:dh} {o:Oper} {ρ:Operand→Value} {ρT:Operand→T} {id:Nat} {ts:List T} (hr:∀ x∈o.op.operands,aw I m l (ρ x) (ρT x)) (h:yZ E ρT o=some (id,ts)) :
  ∃ (b:Nat) (args:Array Value) (f:Operand),f∈o.op.operands∧ρ f = .func (.yield b) #[] #[]∧ρT f = .cE id∧m id = .func (.yield b) #[] #[]∧(execOp ρ o).run P w=(Instr.yield b args).run P w∧args.size=ts.length∧∀ (i:Nat) v x,args[i]?=some v→ts[i]?=some x→aw I m l v x:=by
 unfold yZ at h
 split at h
 ·rename_i c ho
  split at h
  ·rename_i f ep
   have qq:f∈o.op.operands:=by simp[ho,Op.operands,Call.operands,ep]
   have hf:=hr f qq
   have dV:∀ (i:Nat) v x,(c.args.toList.map ρ)[i]?=some v→(c.args.toList.map ρT)[i]?=some x→aw I m l v x:=by
    intro i v x hv hx
    rw[List.getElem?_map] at hv hx
    cases ha:c.args.toList[i]? with
    | none=>simp[ha] at hv
    | some a=>
     simp[ha] at hv hx
     subst hv;subst hx
     refine hr a ?_
     simp only[ho,Op.operands,Call.operands,ep]
     have:=List.mem_of_getElem? ha
     simp at this ⊢
     exact .inr this
   obtain⟨ke,CH⟩:=UO (E:=E) c.argTypes.toList _ _ dV
   generalize pn:ρ f=vf at hf
   split at h
   ·rename_i YJ hT
    rw[hT] at hf
    injection h with h;injection h with h1 h2;subst h1
    cases hf with
    | cE _ b q1 q2=>
     refine⟨b,c.args.map ρ,f,qq,pn,hT,q2,?_,?_,fun i v x hv hx=>?_⟩
     ·unfold execOp
      simp only[ho,resolve,ep,pn,Deferred.ofValue,Sem.run_bind,Sem.run_pure,Result.andThen_ok,invoke]
      simp
     ·rw[←h2];simp[ke]
     rw[←h2] at hx
     exact CH i v x (by simpa using hv) hx
   cases h
  cases h
 cases h
def BQ (ps:List Tmp) (ts:List T) (tm:Tm):Tm:=(ps.zip ts).foldl (fun s p=>(p.1,p.2)::s) tm
theorem akP:∀ (ps:List Tmp) (args:List Value) (ts:List T) (tmps:Array Value) (tm:Tm),args.length=ts.length→(∀ (i:Nat) v x,args[i]?=some v→ts[i]?=some x→aw I m l v x)→(∀ p∈ps,p < tmps.size)→(∀ k,aw I m l (tmps.getD k undef) (get tm k)) →
  ((ps.zip args).foldl (fun t (p:Tmp×Value)=>t.setIfInBounds p.1 p.2) tmps).size=tmps.size∧∀ k,aw I m l (((ps.zip args).foldl (fun t (p:Tmp×Value)=>t.setIfInBounds p.1 p.2) tmps).getD k undef) (get (BQ ps ts tm) k)
 | [],args,ts,tmps,tm,_,_,_,h=>⟨rfl,by simpa [BQ] using h⟩
 | p::ps,[],[],tmps,tm,_,_,_,h=>⟨by simp,by simpa [BQ] using h⟩
 | p::ps,v::args,t::ts,tmps,tm,hl,hr,hp,h=>by
  have Bd:p < tmps.size:=hp p (by simp)
  obtain⟨h1,h2⟩:=akP ps args ts (tmps.setIfInBounds p v) ((p,t)::tm) (by simpa using hl) (fun i u x hu hx=>hr (i+1) u x (by simpa using hu) (by simpa using hx)) (fun q hq=>by simpa using hp q (by simp[hq])) (fun k=>by
   simp only[get]
   by_cases hk:p=k
   ·subst hk
    rw[if_pos rfl,Array.getD_eq_getD_getElem?,Array.getElem?_setIfInBounds_self_of_lt Bd]
    exact hr 0 v t rfl rfl
   rw[if_neg hk,Array.getD_eq_getD_getElem?,Array.getElem?_setIfInBounds_ne hk,←Array.getD_eq_getD_getElem?]
   exact h k)
  refine⟨by simpa using h1,?_⟩
  simpa [BQ] using h2
 | p::ps,[],_::_,_,_,hl,_,_,_=>by simp at hl
 | p::ps,_::_,[],_,_,hl,_,_,_=>by simp at hl
def Mo:Exit→Option (Option Code)
 | .normal=>some none
 | .ret=>some (some .ret)
 | .exit id=>some (some (.exit id))
 | .goto t=>some (some (.goto t))
 | _=>none
def SU (K:St→Prop):Exit→St→Prop
 | .normal,s=>K s
 | _,_=>False
def O7 (s2:St) (at_:Nat) (vals:Nat→Value) (ft:Tm) (id base k:Nat) (ps:Array Tmp) (cQ body:Code) (tm:Tm) (jump:Option Code) (K:List AO→Prop):Prop:=
 ∃ s3,Sub s2 s3∧s3.l[at_]?=some (.frame at_ vals ft)∧s3.l[id]?=some (.loop base k ps cQ body tm .busy none)∧K (s3.l.set id (.loop base k ps cQ body tm (if jump.isNone then .ready else .done) jump))
theorem fJ.cE (hV:bO P V) {ops:List Oper} {K:St→Prop} {o:Oper} {r:List Oper} {s:St} {id base k:Nat} {ts:List T} {ps:Array Tmp} {cQ body:Code} {tm:Tm} {pc:PC} (hg:dU ops s.t o.guard=some pc) (hp:holds pc) (hd:cR n o.dst=true) (hy:yZ V.E (bd s.t) o=some (id,ts)) (hl:s.l[id]?=some (.loop base k ps cQ body tm .ready none)) (Bd:ps.size=ts.length) (X6:ps.toList.all (fun p=>decide (p < k))=true)
  (
   h:∀ KR:Option Code→List AO→Prop,(∀ jump l',fJ P n ops r ⟨bq s.t o.dst (.d (.bool jump.isNone)),l'⟩ K→KR jump l')→∀ (R:dx) (w0:World) (I0:aC) (vals:Nat→Value) (ft:Tm) (Q:Exit→St→Prop),(∀ e jump s2,Mo e=some jump→O7 s2 s.l.length vals ft id base k ps cQ body tm jump (KR jump)→Q e s2) →
   @ab _ R P w0 I0 k cQ ⟨BQ ps.toList ts tm,s.l++[.frame s.l.length vals ft]⟩ (SU fun s1=>∃ s2,Sub s1 s2∧s2.l[s.l.length]?=some (.frame s.l.length vals ft)∧s2.l[id]?=some (.loop base k ps cQ body tm .ready none)∧@ab _ R P w0 I0 k body ⟨s2.t,s2.l.set id (.loop base k ps cQ body tm .busy none)⟩ Q)):fJ P n ops (o::r) s K:=by
 intro st uZ ha w0 I0 a w Q Kn aq hK
 have hx:∀ x∈o.op.operands,bd st.t x=bd s.t x:=fun x hx=>KZ fun t ht=>ha t (List.mem_append_left _ (List.mem_filterMap.2 ⟨x,by simpa using hx,by rw[ht]⟩))
 obtain⟨aS,I,m,hw,dZ,ht⟩:=aq
 have fX:=(UQ (ops:=ops) (a:=a) ht ((Wo ha).trans hg)).2 hp
 rw[if_pos fX]
 rw[uZ] at hw ht
 obtain⟨b,args,f,XL,LO,CM,XY,dL,hlen,dV⟩:=aA2 (P:=P) (w:=w) (ρ:=a.eval) (fun x _=>Cz hw.sat.dS ht x) ((aA0 hx).trans hy)
 obtain⟨rec,hb,oX,zC,rb,_,_⟩:=hw.UN (st':= .ready) (pend':=none) hl XY
 obtain⟨gQ,Bc,EY,has,hbo,ah0⟩:=oX
 obtain⟨j,rfl⟩:∃ j,f = .tmp j:=by
  cases f with
  | tmp j=>exact⟨j,rfl⟩
  | const v=>
   exfalso
   simp only[bd,iI] at CM
   split at CM<;>cases CM
  | global g=>
   exfalso
   simp only[bd] at CM
   split at CM<;>cases CM
  | func g=>simp[bd] at CM
 have hjv:a.tmps.getD j undef = .func (.yield b) #[] #[]:=LO
 have hjT:get st.t j = .cE id:=CM
 have aB:∀ {I1:aC} {m1:Nat→Value} {w1:World} {l1:List AO},aI w0 I0 w1 I1 m1 l1→l1[s.l.length]?=some (.frame s.l.length (fun j=>a.tmps.getD j undef) st.t)→m1 id = .func (.yield b) #[] #[]:=fun {I1 m1 w1 l1} qy XG=>by
  have h1:=(qy.obj _ _ XG).2.2 j
  simp only[hjv,hjT] at h1
  cases h1 with
  | cE _ _ _ h2=>exact h2
 unfold Oper.wpIn
 refine⟨fun _ _=>Aw _,?_⟩
 rw[Oper.semAt_eq _ _ _ (aA1 hy),dL,run_yield hb (by rw[EY,hlen,Bd]),Oper.uponIn_round]
 refine⟨fun h=>by simp[dB,Fence.wide] at h,?_⟩
 obtain⟨E8,ahu⟩:=hw.frame (vals:=fun j=>a.tmps.getD j undef) (ft:=st.t) ht
 have dg:=akP (m:=bG m s.l.length (.bool false)) (l:=s.l++[.frame s.l.length (fun j=>a.tmps.getD j undef) st.t]) (I:=I) ps.toList args.toList ts rec.tmps tm (by simpa using hlen) (fun i v x hv hx=>(dV i v x (by simpa using hv) hx).mono ahu) (fun p hp=>by rw[ah0];simpa using List.all_eq_true.1 X6 p hp) (fun q=>((rb q).mono (Le.adg I m s.l base)).mono ahu)
 have XM:(rec.params.zip args).foldl (fun tmps (x:Tmp×Value)=>tmps.setIfInBounds x.1 x.2) rec.tmps=(ps.toList.zip args.toList).foldl (fun t (p:Tmp×Value)=>t.setIfInBounds p.1 p.2) rec.tmps:=by
  rw[←Array.foldl_toList,Array.toList_zip,EY]
 have Yo:@Rel _ ⟨some b,I.df⟩ w0 I0 k ⟨BQ ps.toList ts tm,s.l++[.frame s.l.length (fun j=>a.tmps.getD j undef) st.t]⟩ { tmps:=(rec.params.zip args).foldl (fun tmps (x:Tmp×Value)=>tmps.setIfInBounds x.1 x.2) rec.tmps,defers:=[] } w:=by
  rw[XM]
  exact @Rel.mk _ ⟨some b,I.df⟩ _ _ _ _ _ _ (dg.1.trans ah0) ⟨I,_,E8,@iS.nil _ ⟨some b,I.df⟩ _ _ fun _ h=>h,dg.2⟩
 have atg:=h (fun jump l'=>fJ P n ops r ⟨bq s.t o.dst (.d (.bool jump.isNone)),l'⟩ K) (fun _ _ h=>h) ⟨some b,I.df⟩ w0 I0 (fun j=>a.tmps.getD j undef) st.t (fun e s2=>∃ jump,Mo e=some jump∧@O7 _ ⟨some b,I.df⟩ s2 s.l.length (fun j=>a.tmps.getD j undef) st.t id base k ps cQ body tm jump (fun l'=>fJ P n ops r ⟨bq s.t o.dst (.d (.bool jump.isNone)),l'⟩ K)) (fun e jump s2 h1 h2=>⟨jump,h1,h2⟩) _ _ Yo
 refine roundIn_of_wpIn (F:=dB) (Aw _) ?_
 rw[has,hbo]
 refine Code.wpIn_mono (fun e a1 w1 hq=>?_) atg
 obtain⟨s1,hq,uX⟩:=hq
 cases e<;>simp only[SU] at hq
 obtain⟨s2,mo,oA,hlp,arw⟩:=hq
 obtain⟨ata,I1,m1,qy,ary,E5⟩:=mo _ _ _ _ _ uX
 obtain⟨r1,p1,p2,p3,p4,p5,p6⟩:=qy.UN (st':= .busy) (pend':=none) hlp (aB qy oA)
 have hbr:=run_beginRound (P:=P) p1 p2.1
 refine⟨_,hbr,?_⟩
 have e1:({ r1 with state:= .busy }:Loop)={ r1 with state:= .busy,pending:=none }:=by rw[←p2.2.1]
 rw[e1]
 refine Code.wpIn_mono (fun e a2 w2 hq=>?_) (arw a1 _ (@Rel.mk _ ⟨some b,I.df⟩ _ _ _ _ _ _ ata ⟨I1,m1,p6,ary,fun q=>(E5 q).mono p5⟩))
 obtain⟨s',⟨jump,hj,s3,as9,aho,asE,hK3⟩,Rp⟩:=hq
 obtain⟨_,I3,m3,Yw,arA,ht3⟩:=as9 _ _ _ _ _ Rp
 obtain⟨r3,q1,q2,q3,q4,q5,q6⟩:=Yw.UN (st':=if jump.isNone then .ready else .done) (pend':=jump) asE (aB Yw aho)
 have cM:=run_endRound (P:=P) jump q1
 have XO:∀ b,I.df b→I3.df b:=by
  obtain⟨_,_,_,_,h4⟩:=arA
  exact h4
 have yp:=(Yw.obj _ _ aho).2.2
 have fin:∃ v w',(Instr.endRound b jump).run P w2 = .ok v w'∧Kn (a.put o.dst v) w':=by
  refine⟨_,_,cM,hK _ _ _ _ hK3 (fun hk=>?_) ⟨by cases o.dst<;>simp[Act.put,aS],I3,m3,q6,dZ.abi XO,?_⟩⟩
  ·exfalso
   have yG:=hy
   unfold yZ at yG
   unfold vk wb at hk
   split at yG
   ·rename_i c ho
    rw[ho] at hk
    simp only[Bool.false_or] at hk
    split at yG
    ·rename_i f hf;rw[hf] at hk;simp at hk
    cases yG
   cases yG
  exact z6 aS hd (fun q=>((yp q).mono (Le.adg I3 m3 s3.l s.l.length)).mono q5) (.d _ _ (.bool _))
 cases e<;>simp only[Mo,Option.some.injEq] at hj<;>first | (subst hj;exact fin) | cases hj
theorem cm.cE (hV:bO P V) {i:Nat} {ops:List Oper} {live:List Nat} {K:St→Prop} {o:Oper} (id:Nat) (ts:List T) {base k:Nat} {ps:Array Tmp} {cQ body:Code} {tm:Tm} {pc:PC} (ho:ops[i]?=some o) (hg:dU ops s.t o.guard=some pc) (hp:holds pc) (hd:cR n o.dst=true) (hy:yZ V.E (bd s.t) o=some (id,ts))
  (hl:s.l[id]?=some (.loop base k ps cQ body tm .ready none)) (Bd:ps.size=ts.length) (X6:ps.toList.all (fun p=>decide (p < k))=true)
  (
   h:∀ KR:Option Code→List AO→Prop,(∀ jump l',cm P n ops (i+1) live ⟨bq s.t o.dst (.d (.bool jump.isNone)),l'⟩ K→KR jump l')→∀ (R:dx) (w0:World) (I0:aC) (vals:Nat→Value) (ft:Tm) (Q:Exit→St→Prop),(∀ e jump s2,Mo e=some jump→O7 s2 s.l.length vals ft id base k ps cQ body tm jump (KR jump)→Q e s2) →
   @ab _ R P w0 I0 k cQ ⟨BQ ps.toList ts tm,s.l++[.frame s.l.length vals ft]⟩ (SU fun s1=>∃ s2,Sub s1 s2∧s2.l[s.l.length]?=some (.frame s.l.length vals ft)∧s2.l[id]?=some (.loop base k ps cQ body tm .ready none)∧@ab _ R P w0 I0 k body ⟨s2.t,s2.l.set id (.loop base k ps cQ body tm .busy none)⟩ Q)):cm P n ops i live s K:=by
 unfold cm
 have hk:=(List.getElem?_eq_some_iff.1 ho).1
 rw[List.drop_eq_getElem_cons hk,(List.getElem?_eq_some_iff.1 ho).2]
 exact fJ.cE hV hg hp hd hy hl Bd X6 h
end
end Go.an
namespace Go.an
open Go Go.RowKit au
variable [ck]
structure Bx (α:Type) where
 v:α
instance {α:Type} [au α]:au (Bx α):=⟨fun b=> .box (enc b.v),fun d=>match d with | .box d=>⟨dec d⟩ | d=>⟨dec d⟩,1,fun b=>by simp only[lj],fun _=>rfl,by simp[D.cells,D.one]⟩
theorem lI {α:Type} [au α] (b:Bx α):enc b = .box (enc b.v):=rfl
theorem lh {α:Type} [au α] (d:D):(dec (.box d):Bx α)=⟨dec d⟩:=rfl
theorem nf {α:Type} [au α]:size (Bx α)=1:=rfl
def jS (g:FuncId):Option D→Bool
 | some (.aR g' _)=>g == g'
 | some (.fn g')=>g == g'
 | _=>false
def jg (i:Nat) (g:FuncId) (s t:Spec):Spec:=fun ds=>if jS g ds[i]?=true then s ds else t ds
section
variable [dx] {P:Program} {g:FuncId}
theorem aL.sel {i:Nat} {f:FuncId} {s t:Spec} (hs:aL P g s) (ht:aL P g t):aL P g (jg i f s t):=⟨hs.1,fun ds r ob h af=>by
 unfold jg at h;split at h
 ·exact hs.2 ds r ob h af
 exact ht.2 ds r ob h af⟩
end
section
variable {w0 w:World} {I0 I:aC} {m:Nat→Value} {l:List AO}
theorem aI.azT (h:aI w0 I0 w I m l) {g:Nat} {cur:Array Value} {e:TypeId} {fl:Nat×Nat} (hg:w0.heap.size≤g) (hh:w.heap[g]?=some (.cells cur e fl)) (ca:I.gp g) (yq:∀ id,alive l id=true→own (m id)≠some g) :
  aI w0 I0 w (I.fG g cur.toList) m l∧Le I m l (I.fG g cur.toList) m l:=by
 let J:=I.fG g cur.toList
 have oW:∀ b,b≠g→J.cell b=I.cell b:=fun b hb=>by funext o;simp[J,aC.fG,hb]
 have hle:I.le J:=⟨fun b o v hc=>by
  have hb:b≠g:=by rintro rfl;rw[ca.1 o] at hc;cases hc
  rw[oW b hb];exact hc,fun _ _ h=>h,fun _ h=>h⟩
 have Lx:Le I m l J m l:=⟨hle,Nat.le_refl _,fun _ _ h=>⟨h,rfl⟩,fun _ _ h=>⟨h,rfl⟩,fun _ _ _ els _ h=>⟨els,h⟩⟩
 have bX:eD w J:=⟨fun b o v hc=>by
  by_cases hb:b=g
  ·subst hb
   simp only[J,aC.fG,if_true] at hc
   cases hx:cur[o]? with
   | none=>simp[hx,ca.1 o] at hc
   | some x=>simp[hx] at hc;subst hc;simp[World.cell?,hh,hx]
  rw[oW b hb] at hc;exact h.sat.cell b o v hc,h.sat.mp,h.sat.df,fun g d hd=>(h.sat.dS g d hd).mono hle⟩
 refine⟨⟨h.below,bX,⟨fun b o v hc=>hle.cell b o v (h.ext.lc b o v hc),h.ext.lm,h.ext.ld,fun b hb=>(oW b (by omega)).trans (h.ext.cell b hb),h.ext.mp⟩,fun id o ho=>?_,h.sep⟩,Lx⟩
 have af:=h.obj id o ho
 have key:(∀ b,own (m id)=some b→b≠g)→rI w0.heap.size w J m l (m id) o:=fun hk=>af.pR Lx (fun _ _=>rfl) fun b hb=>⟨oW b (hk b hb),rfl⟩
 cases o with
 | dead=>trivial
 | frame base vals t=>exact key fun b hb=>by rw[af.1] at hb;cases hb
 | _=>exact key fun b hb e=>yq id (bZ.2 ⟨_,ho,by simp[AO.isVar,AO.isRow]⟩) (e▸hb)
variable [dx] {s:St}
theorem Sub.frz (j id:Nat) (d:D) (ids:List Nat) {ty:TypeId} {t':Tm} {l':List AO} (hj:get s.t j = .ptr id 0) (ho:s.l[id]?=some (.var ty (d.cells.map .d))) (hd:∀ x∈d.cells,x.one=true) (aB:id∉ids) (gj:ids.Nodup) (oA:mg ids s.l=true) (hl:ez ids s.l=l') (hf:mf ids s.t t') :
  Sub s ⟨(j,.d (.box d))::t',l'⟩:=by
 subst hl
 intro w0 I0 n a w hr
 obtain⟨h1,I,m,h3,h2,h4⟩:=hr
 obtain⟨b,vs,q1,q2,q3,q4,q5,q6⟩:=h3.obj id _ ho
 have as5:=h3.bY gj oA
 have dD:alive s.l id=true:=bZ.2 ⟨_,ho,by simp⟩
 have yq:∀ k,alive (ez ids s.l) k=true→own (m ((ids[k]?).getD 0))≠some b:=by
  intro k hk
  obtain⟨o,cv,_⟩:=bZ.1 hk
  have js:=(List.getElem?_eq_some_iff.1 cv).1
  have js:k < ids.length:=by simpa [ez] using js
  have gP:ids[k]?=some ids[k]:=List.getElem?_eq_getElem js
  have ba:ids[k]≠id:=fun e=>aB (e▸List.getElem_mem js)
  have hak:alive s.l ids[k]=true:=by
   unfold alive at hk ⊢;rw[BP gP,Dm gP] at hk;exact hk
  rw[gP]
  exact h3.sep id ids[k] b (Ne.symm ba) dD hak (by rw[q1];rfl)
 obtain⟨r1,r2⟩:=as5.azT q2 q3 q6 yq
 refine⟨h1,_,_,r1,h2.mono r2.eR,fun k=>?_⟩
 simp only[get]
 by_cases hk:j=k
 ·subst hk
  rw[if_pos rfl]
  have hv:=h4 j
  rw[hj] at hv
  generalize a.tmps.getD j undef=v at hv
  cases hv with
  | ptr _ b' _ p1 p2=>
   rw[p2] at q1;injection q1 with q1;injection q1 with q1;injection q1 with q1;subst q1
   refine .d _ _ (.box _ _ (fun k=>(vs[k]?).getD undef) hd (fun k hk=>?_) fun k x hx=>?_)
   ·have A8:k < vs.size:=by rw[q4];simpa using hk
    simp[aC.fG,A8]
   have A8:k < vs.size:=by rw[q4];simpa using (List.getElem?_eq_some_iff.1 hx).1
   have hv:vs[k]?=some vs[k]:=Array.getElem?_eq_getElem A8
   rw[hv]
   exact(dp (q5 k _ (.d x) hv (by simp[hx])).1).mono r2.eR
 rw[if_neg hk]
 rcases Wc hf k with h | h
 ·rw[h];exact .undef _
 rw[h];exact((h4 k).bY fun k id hk=>by simp[hk]).mono r2
end
end Go.an
namespace Go.an
open Go Go.RowKit au
variable [ck]
section
variable {w0 w:World} {I0 I:aC} {m:Nat→Value} {l:List AO}
theorem take_set {l:List AO} {k:Nat} {o:AO} (b:Nat):(l.set k o).take b=(l.take b).set k o:=by
 rw[List.take_set]
theorem Om {l:List AO} {k id:Nat} {o:AO} (h:(l.set id .dead)[k]?=some o):(k=id∧o = .dead)∨(k≠id∧l[k]?=some o):=by
 by_cases e:k=id
 ·subst e
  have hk:k < l.length:=by have:=(List.getElem?_eq_some_iff.1 h).1;simpa using this
  rw[List.getElem?_set_self hk] at h
  injection h with h;exact .inl ⟨rfl,h.symm⟩
 rw[List.getElem?_set_ne (Ne.symm e)] at h;exact .inr ⟨e,h⟩
theorem aw.C7 {k:Nat} (ho:own (m k)=none) (hr:isRow l k=false):∀ {v:Value} {t:T},aw I m l v t→aw I m (l.set k .dead) v t:=by
 have hv:∀ id,id≠k→isVar (l.set k .dead) id=isVar l id:=fun id h=>by unfold isVar;rw[List.getElem?_set,if_neg (Ne.symm h)]
 have hR:∀ id,isRow (l.set k .dead) id=true→isRow l id=true∧id≠k:=fun id h=>by
  unfold isRow at h
  cases ho:(l.set k .dead)[id]? with
  | none=>rw[ho] at h;simp at h
  | some o=>
   rw[ho] at h
   rcases Om ho with ⟨_,rfl⟩ | ⟨h1,h2⟩
   ·simp[AO.isRow] at h
   exact⟨by unfold isRow;rw[h2];exact h,h1⟩
 have ja:∀ (id:Nat) (e:TypeId) (size:Nat) (els:List D),((l.set k .dead)[id]?=some (.row e size els)∨(l.set k .dead)[id]?=some (.cF e size els))→l[id]?=some (.row e size els)∨l[id]?=some (.cF e size els):=fun id e size els h=>by
  have:id≠k:=(hR id (by unfold isRow;rcases h with h | h<;>simp[h,AO.isRow])).2
  rwa [List.getElem?_set,if_neg (Ne.symm this)] at h
 intro v t h
 induction h with
 | undef v=>exact .undef v
 | d v x r=>exact .d v x r
 | ao s=>exact .ao s
 | ptr id b off h1 h2=>exact .ptr id b off ((hv id (fun e=>by subst e;rw[h2] at ho;cases ho)).trans h1) h2
 | fy b o size els k off val h1 h2 h3 h4=>exact .fy b o size els k off val h1 h2 h3 h4
 | row A n c id h1 h2=>exact .row A n c id (by simpa using h1) fun hl=>h2 (hR id hl).1
 | fQ A n c id x h1 h2 h3=>exact .fQ A n c id x (by simpa using h1) (fun hl=>h2 (hR id hl).1) h3
 | dH a id q off h1 h2=>exact .dH a id q off (by simpa using h1) fun e size els hl=>h2 e size els (ja id e size els hl)
 | map r id h1 h2=>exact .map r id (by simpa using h1) fun hl=>h2 (hR id hl).1
 | bn vs ts h1 _ ih=>exact .bn vs ts h1 ih
 | cond v pc t _ hn ih=>exact .cond v pc t ih hn
 | aR g vs ts h1 _ ih=>exact .aR g vs ts h1 ih
 | cE id b h1 h2=>exact .cE id b ((hv id (fun e=>by subst e;rw[h2] at ho;cases ho)).trans h1) h2
 | sub A n c id lo hi h1 h2=>exact .sub A n c id lo hi (by simpa using h1) fun e size els hl=>h2 e size els (ja id e size els hl)
 | agg vs ts h1 h2 _ ih=>exact .agg vs ts h1 h2 ih
theorem aI.C7 (h:aI w0 I0 w I m l) {k base:Nat} {vals:Nat→Value} {ft:Tm} (hk:l[k]?=some (.frame base vals ft)):aI w0 I0 w I m (l.set k .dead):=by
 have cZ:own (m k)=none:=(h.obj k _ hk).1
 have ja:isRow l k=false:=by unfold isRow;rw[hk];rfl
 have ahU:∀ b,isRow (l.take b) k=false:=fun b=>by
  by_cases hb:k < b
  ·rw[RM hb];exact ja
  unfold isRow;rw[List.getElem?_take,if_neg hb];rfl
 refine⟨h.below,h.sat,h.ext,fun id o ho=>?_,fun i j b cj hi hj=>?_⟩
 ·rcases Om ho with ⟨_,rfl⟩ | ⟨e,ho⟩
  ·trivial
  have af:=h.obj id o ho
  cases o with
  | dead=>trivial
  | var ty cs=>
   obtain⟨b,vs,q1,q2,q3,q4,q5,q6⟩:=af
   exact⟨b,vs,q1,q2,q3,q4,fun i x t hx ht=>⟨(q5 i x t hx ht).1.C7 cZ ja,(q5 i x t hx ht).2⟩,q6⟩
  | row e size els=>exact af
  | cF e size els=>exact af
  | map ks vs=>exact af
  | oR ks vs=>exact af
  | iter ks vs done=>exact af
  | frame base vals t=>exact⟨af.1,by simpa using af.2.1,fun j=>by rw[take_set];exact(af.2.2 j).C7 cZ (ahU base)⟩
  | loop b n ps cQ body t st ed=>
   obtain⟨b',r,q0,q1,q2,q3,q4,q5,q6⟩:=af
   exact⟨b',r,q0,q1,q2,q3,by simpa using q4,fun j=>by rw[take_set];exact(q5 j).C7 cZ (ahU b),q6⟩
 have al:∀ q,alive (l.set k .dead) q=true→alive l q=true:=fun q hq=>by
  obtain⟨o,ho,hd⟩:=bZ.1 hq
  rcases Om ho with ⟨_,rfl⟩ | ⟨e,ho⟩
  ·exact absurd rfl hd
  exact bZ.2 ⟨o,ho,hd⟩
 exact h.sep i j b cj (al i hi) (al j hj)
def Fx (l:List AO) (k:Nat):T:=match l[k]? with
 | some (.var ..)=> .ptr k 0
 | some (.iter ..)=> .ptr k 0
 | some (.loop ..)=> .cE k
 | some (.row ..)=> .row k
 | some (.cF ..)=> .row k
 | some (.map ..)=> .map k
 | some (.oR ..)=> .map k
 | _=> .undef
def aau (l:List AO):Tm:=(List.range l.length).map fun k=>(k,Fx l k)
theorem aav (l:List AO) (k:Nat):get (aau l) k=if k < l.length then Fx l k else .undef:=by
 have:∀ (xs:List Nat),get (xs.map fun k=>(k,Fx l k)) k=if k∈xs then Fx l k else .undef:=by
  intro xs
  induction xs with
  | nil=>rfl
  | cons x xs ih=>
   simp only[List.map_cons,get]
   by_cases h:x=k
   ·subst h;simp
   rw[if_neg h,ih]
   have:(k∈x::xs)↔k∈xs:=by simp[Ne.symm h]
   simp only[this]
 unfold aau
 rw[this];simp
def AO.RK:AO→Bool | .frame .. =>true | _=>false
theorem qG.avT {P:Program} {g:FuncId} {ts:List T} {l l':List AO} {t:T} {k:Nat} (h:gZ P g ts l fun u l2=>u=t∧∃ base vals ft,l2[k]?=some (.frame base vals ft)∧l2.set k .dead=l')
  (hnf:l.all (fun o=> !o.RK)=true) (hlen:l.length≤l'.length) (atd:∀ id:Nat,id < l.length→isVar l id=true→isVar l' id=true) (ja:∀ id:Nat,id < l.length→isRow l' id=true→l'[id]?=l[id]?∨(∃ e size els els',l[id]?=some (.row e size els)∧l'[id]?=some (.row e size els'))):qG P g ts l t l':=by
 intro w0 I0 w I m args aq aS dV
 have CP:aI w0 I w I m l:=⟨aq.below,aq.sat,jn.refl _ _,aq.obj,aq.sep⟩
 refine(h.2 w0 I w I m args m (aau l) CP aS dV fun q=>?_).mono ?_
 ·rw[aav]
  split
  ·rename_i hq
   unfold Fx
   have ho:=List.getElem?_eq_getElem hq
   generalize l[q]=o at ho
   have af:=aq.obj q o ho
   rw[ho]
   cases o with
   | dead=>exact .undef _
   | frame base vals t=>exact .undef _
   | var ty cs=>
    obtain⟨b,vs,q1,_⟩:=af
    rw[q1];exact .ptr q b 0 (by unfold isVar;rw[ho];rfl) q1
   | iter ks vs done=>
    obtain⟨b,mb,es,seen,q1,_⟩:=af
    rw[q1];exact .ptr q b 0 (by unfold isVar;rw[ho];rfl) q1
   | loop b n ps cQ body t st ed=>
    obtain⟨b',r,q1,_⟩:=af
    rw[q1];exact .cE q b' (by unfold isVar;rw[ho];rfl) q1
   | row e size els=>
    obtain⟨xs,k1,_⟩:=af
    obtain⟨A,n,c,hm⟩:∃ A n c,m q = .slice A n c:=by rcases k1.2 with ⟨h1,_⟩ | ⟨g,cap,cur,h1,_⟩<;>exact⟨_,_,_,h1⟩
    rw[hm];exact .row A n c q hq fun _=>hm
   | cF e size els=>
    obtain⟨xs,k1,_⟩:=af
    obtain⟨A,n,c,hm⟩:∃ A n c,m q = .slice A n c:=by rcases k1.2 with ⟨h1,_⟩ | ⟨g,cap,cur,h1,_⟩<;>exact⟨_,_,_,h1⟩
    rw[hm];exact .row A n c q hq fun _=>hm
   | map ks vs=>
    obtain⟨b,es,q1,_⟩:=af
    rw[q1];exact .map _ q hq fun _=>q1
   | oR ks vs=>
    obtain⟨b,es,q1,_⟩:=af
    rw[q1];exact .map _ q hq fun _=>q1
  exact .undef _
 rintro e w' ⟨v,rfl,u,l2,J,m',⟨rfl,base,vals,ft,oA,rfl⟩,dc,hv,dZ,uZ⟩
 have cZ:own (m' k)=none:=(dc.obj k _ oA).1
 have L7:isRow l2 k=false:=by unfold isRow;rw[oA];rfl
 refine⟨v,rfl,J,m',⟨⟨dc.ext.lc,dc.ext.lm,dZ⟩,by simpa using hlen,fun id aB Rb=>⟨atd id aB Rb,?_⟩,fun id aB Q9=>?_,fun id e size els aB hh=>?_⟩,?_,hv.C7 cZ L7⟩
 ·have hs:=(uZ id).C7 cZ L7
  rw[aav,if_pos aB] at hs
  unfold Fx at hs
  have ho:=List.getElem?_eq_getElem aB
  generalize l[id]=o at ho
  have asH:=List.all_eq_true.1 hnf o (List.mem_of_getElem? ho)
  rw[ho] at hs
  unfold isVar at Rb
  rw[ho] at Rb
  generalize m id=mv at hs
  cases o<;>simp[AO.isVar,AO.RK] at Rb asH<;>(simp only at hs;cases hs;first | (rename_i h2 _;exact h2) | (rename_i h2;exact h2))
 ·have qu:isRow l id=true:=by
   rcases ja id aB Q9 with h | ⟨e,size,els,els',h1,h2⟩
   ·unfold isRow at Q9 ⊢;rw[←h];exact Q9
   unfold isRow;rw[h1];rfl
  refine⟨qu,?_⟩
  have hs:=(uZ id).C7 cZ L7
  rw[aav,if_pos aB] at hs
  unfold Fx at hs
  have ho:=List.getElem?_eq_getElem aB
  generalize l[id]=o at ho
  rw[ho] at hs
  unfold isRow at qu
  rw[ho] at qu
  generalize m id=mv at hs
  cases o<;>simp[AO.isRow] at qu<;>(simp only at hs;cases hs;rename_i h2;exact h2 Q9)
 ·rcases ja id aB (by unfold isRow;rcases hh with hh | hh<;>simp[hh,AO.isRow]) with h | ⟨e',Dn,afE,els',h1,h2⟩
  ·rw[h] at hh;exact⟨els,hh⟩
  rw[h2] at hh
  rcases hh with hh | hh
  ·injection hh with hh;injection hh with a b c;subst a;subst b;exact⟨afE,.inl h1⟩
  cases hh
 have h1:=dc.C7 oA
 exact⟨h1.below,h1.sat,aq.ext.trans h1.ext (Nat.le_refl _),h1.obj,h1.sep⟩
variable [dx] {s:St}
theorem Sub.aAf (j id hi:Nat) {e size:Nat} {els:List D} (hj:get s.t j = .sub id 0 hi) (ho:s.l[id]?=some (.row e size els)):Sub s ⟨(j,.row s.l.length)::s.t,s.l.set id .dead++[.row e size (els.take hi)]⟩:=by
 intro w0 I0 n a w hr
 obtain⟨h1,I,m,h3,h2,h4⟩:=hr
 have hv:=h4 j
 rw[hj] at hv
 generalize hvj:a.tmps.getD j undef=v at hv
 obtain⟨A,n',c,A0,n0,c0,rfl,hm,oD,yr,uZ⟩:∃ A n' c A0 n0 c0,v = .slice A n' c∧m id = .slice A0 n0 c0∧0≤hi∧hi≤n0∧Value.slice A n' c=sliced A0 0 hi c0 size:=by
  cases hv with
  | sub A n' c _ _ _ q1 q2=>
   obtain⟨A0,n0,c0,k1,k2,k3,k4⟩:=q2 e size els (.inl ho)
   exact⟨A,n',c,A0,n0,c0,rfl,k1,k2,k3,k4⟩
 obtain⟨xs,k1,k2,k3,k4⟩:=h3.obj id _ ho
 rw[hm] at k1
 obtain⟨cw,tX⟩:=k1
 have hY:id < s.l.length:=(List.getElem?_eq_some_iff.1 ho).1
 have EW:n0=els.length:=by
  rcases tX with ⟨h1,h2⟩ | ⟨g,cap,cur,h1,_⟩
  ·injection h1 with _ h3 h4;omega
  injection h1
 subst EW
 have hA:Value.slice A n' c = .slice A0 hi c0:=by
  rw[uZ];simp only[sliced,Nat.sub_zero,Nat.zero_mul]
  cases A0 with
  | none=>simp
  | some ad=>simp[Addr.add_lit];intro _;cases ad;simp[Addr.add]
 rw[hA] at hvj
 have asB:(s.l.set id .dead).length=s.l.length:=by simp
 have rZ:∀ (k:Nat) o,(s.l.set id .dead)[k]?=some o→o = .dead∨s.l[k]?=some o:=fun k o hk=>(Om hk).imp (·.2) (·.2)
 have qx:∀ (k:Nat) o,o.isVar=true→s.l[k]?=some o→(s.l.set id .dead)[k]?=some o:=fun k o hv hk=>by
  have:k≠id:=fun e=>by subst e;rw[ho] at hk;injection hk with hk;subst hk;cases hv
  rw[List.getElem?_set,if_neg (Ne.symm this)];exact hk
 have dD:∀ k,alive (s.l.set id .dead) k=true→alive s.l k=true∧k≠id:=fun k hk=>by
  obtain⟨o,hk,hd⟩:=bZ.1 hk
  rcases Om hk with ⟨_,rfl⟩ | ⟨e,hk⟩
  ·exact absurd rfl hd
  exact⟨bZ.2 ⟨o,hk,hd⟩,e⟩
 have ars:alive s.l id=true:=bZ.2 ⟨_,ho,by simp⟩
 have hlen:(els.take hi).length=hi:=by simp;omega
 have hmul:hi*size≤els.length*size:=Nat.mul_le_mul_right _ yr
 have cZ:own (.slice A0 hi c0)=own (m id):=by rw[hm];cases A0<;>rfl
 obtain⟨r1,r2,r3⟩:=h3.FC (w':=w) (e:=e) (size:=size) (els:=els.take hi) (v:= .slice A0 hi c0) (row:=none) (lo:=s.l.set id .dead) asB rZ qx ⟨rfl,rfl,rfl,Nat.le_refl _,fun _ _ _=>rfl⟩ (Nat.le_refl _) (by simp) (by simp)
  (fun b hb=>⟨((h3.obj id _ ho).lt (by simp) (by rw[←cZ];exact hb)).2,k4 b (by rw[←cZ];exact hb),fun k hk LD=>h3.sep k id b (dD k hk).2 (dD k hk).1 ars LD (by rw[←cZ];exact hb)⟩)
  (
   xs:=xs.take (hi*size)) (by
   refine⟨by rw[List.length_take,hlen];omega,?_⟩
   rw[hlen]
   rcases tX with ⟨h1,h2⟩ | ⟨g,cap,cur,h1,q2,q3,q4,q5,q6,q7⟩
   ·injection h1 with a b c';subst a;subst c'
    have:hi=0:=by omega
    subst this
    exact .inl ⟨rfl,rfl⟩
   injection h1 with a b c';subst a;subst c'
   refine .inr ⟨g,c0,cur,rfl,q2,q3,by omega,q5,q6,?_⟩
   rw[←q7,List.take_take,Nat.min_eq_left hmul])
  (
   fun d hd=>k2 d (List.mem_of_mem_take hd)) (fun q u y hu hy=>by
   rw[Qu els (fun d hd=>(k2 d hd).1)] at hy
   rw[List.getElem?_take] at hu hy
   split at hu
   ·rename_i hq;rw[if_pos hq] at hy;exact k3 q u y hu hy
   cases hu) ⟨_,_,_,rfl⟩
 refine⟨h1,I,_,r2,h2,fun k=>?_⟩
 simp only[get]
 by_cases hk:j=k
 ·subst hk;rw[if_pos rfl,hvj];exact r3
 rw[if_neg hk];exact(h4 k).mono r1
end
theorem au8 {k k':Nat} (h:k≤k') {t:T} (ht:t.By k=true):t.By k'=true:=by
 cases t<;>simp only[T.By,decide_eq_true_eq] at ht ⊢<;>first | exact ht | omega | cases ht
theorem au9 {k k':Nat} (h:k≤k') {t:T} (ht:t.fD k=true):t.fD k'=true:=by
 cases t<;>simp only[T.fD,decide_eq_true_eq] at ht ⊢<;>first | exact ht | omega | skip
 rw[List.all_eq_true] at *
 exact fun x hx=>au8 h (ht x hx)
theorem anb {k k':Nat} (h:k≤k') {o:AO} (ho:o.fD k=true):o.fD k'=true:=by
 cases o<;>simp only[AO.fD,decide_eq_true_eq] at ho ⊢<;>first | exact ho | omega | skip
 rw[List.all_eq_true] at *
 exact fun x hx=>au9 h (ho x hx)
def xQ (l:List AO):Prop:=l.all (AO.fD l.length)=true
theorem xQ.frame {l:List AO} (h:xQ l) (vals:Nat→Value) (ft:Tm):xQ (l++[.frame l.length vals ft]):=by
 unfold xQ at *
 rw[List.all_append]
 simp only[List.length_append,List.length_singleton,List.all_cons,List.all_nil,Bool.and_true,Bool.and_eq_true]
 refine⟨?_,by simp[AO.fD]⟩
 rw[List.all_eq_true] at *
 exact fun o ho=>anb (Nat.le_succ _) (h o ho)
theorem Sub.acu [dx] {L:List AO} {t t':Tm} (hf:zp t t'):Sub ⟨t,L⟩ ⟨t',L⟩:=by
 intro w0 I0 n a w hr
 obtain⟨h1,I,m,h3,h2,h4⟩:=hr
 refine⟨h1,I,m,h3,h2,fun j=>?_⟩
 rcases Wd hf j with h | h
 ·rw[h];exact .undef _
 rw[h];exact h4 j
theorem Sub.drop [dx] {L extra:List AO} {t t':Tm} (h:xQ L) (ht:t'.all (fun p=>T.fD L.length p.2)=true) (hf:zp t t'):Sub ⟨t,L++extra⟩ ⟨t',L⟩:=
 Sub.an4 L.length (by simp) (by simp) (by unfold xQ at h;simpa using h) ht hf
theorem af9 {L:List AO} {id:Nat} {o:AO} (h:L[id]?=some o) (x:List AO):(L++x)[id]?=some o:=by rw[List.getElem?_append_left (List.getElem?_eq_some_iff.1 h).1];exact h
theorem On {L:List AO} {id:Nat} (h:id < L.length) (a:AO) (x:List AO):(L++x).set id a=L.set id a++x:=by simp[List.set_append,h]
end Go.an
namespace Go.an
open Go Go.RowKit au Go.ChangeShapes Go.WideShapes
variable [ck]
open Classical in
noncomputable def allI (w:World):aC:=⟨fun b o=>w.cell? ⟨b,o,none⟩,fun b=>if h:∃ es,iT w.heap[b]? es then some (Classical.choose h) else none,fun _=>False⟩
theorem am7 (w:World) (hg:∀ g d,ck.uK g=some d→Rd (allI w) (.pointer (some ⟨g,0,none⟩)) (.box d)):eD w (allI w):=by
 refine⟨fun _ _ _ h=>h,fun b es h=>?_,fun b h=>h.elim,hg⟩
 unfold allI at h
 simp only at h
 split at h
 ·rename_i hx
  cases h
  exact Classical.choose_spec hx
 cases h
theorem Cr (I:aC) {cs:List Value} {n:Nat} (h:cs.length=n):Cells I (cs.drop n) []:=by
 refine⟨by simp[h],by simp,fun i v d _ hd=>by simp at hd⟩
theorem gg {I:aC} {cs:List Value} {o s:Nat} {ys zs:List D} (h1:Cells I ((cs.drop o).take s) ys) (h2:Cells I (cs.drop (o+s)) zs):Cells I (cs.drop o) (ys++zs):=by
 have e:cs.drop o=(cs.drop o).take s++cs.drop (o+s):=by rw[←List.drop_drop,List.take_append_drop]
 rw[e]
 obtain⟨a1,a2,a3⟩:=h1
 obtain⟨b1,b2,b3⟩:=h2
 refine⟨by simp only[List.length_append,a1,b1],fun d hd=>(List.mem_append.1 hd).elim (a2 d) (b2 d),fun i v d hv hd=>?_⟩
 by_cases hi:i < ys.length
 ·rw[List.getElem?_append_left (by omega)] at hv
  rw[List.getElem?_append_left hi] at hd
  exact a3 i v d hv hd
 rw[List.getElem?_append_right (by omega),a1] at hv
 rw[List.getElem?_append_right (by omega)] at hd
 exact b3 _ v d hv hd
theorem cells_one {I:aC} {v:Value} {d:D} (hd:d.one=true) (h:Rd I v d):Cells I [v] [d]:=
 ⟨rfl,by simpa using hd,fun i x y hx hy=>by
  rcases i with _ | i
  ·simp at hx hy;subst hx;subst hy;exact h
  simp at hx⟩
theorem am5 (b o k:Nat):(⟨b,o,none⟩:Addr).add k=⟨b,o+k,none⟩:=by
 unfold Addr.add;split
 ·rename_i h;subst h;rfl
 rfl
def qH (P:Program) (t:TypeId) (α:Type) [au α] (qU:(H:Type)→DataW H→α→Prop):Prop:=
 ∀ (H:Type) (en:TypeId×Value→H) (w:World) (base:Nat) (spare:Nat→Bool) (held:Bool) (fuel:Nat) (cs:List Value) (x:DataW H×List MemPlace),
  DataW.trod en P w base spare held fuel t cs=some x→∃ a:α,qU H x.1 a∧Cells (allI w) cs (enc a).cells
def zr {α:Type} (qU:(H:Type)→DataW H→α→Prop) (H:Type) (d:DataW H) (l:List α):Prop:=
 l.length≤maxLen∧(l=[]∨∃ elems spare,d = .slice elems spare∧elems.length=l.length∧∀ (i:Nat) a,l[i]?=some a→∃ d',elems[i]?=some d'∧qU H d' a)
section
variable {P:Program} {t e:TypeId}
theorem axx (ht:P.underlying t=some (.int .i64)):qH P t Int fun _ _ n=> -9223372036854775808≤n∧n≤9223372036854775807:=by
 intro H en w base spare held fuel cs x h
 obtain⟨n,rfl,_,hw⟩:=DataW.trod_int ht h
 refine⟨n,?_,cells_one rfl (.int _ _)⟩
 simp only[Lit.wf,IntKind.has,IntKind.min,IntKind.max,IntKind.signed,IntKind.bits,Bool.and_eq_true,decide_eq_true_eq] at hw
 simp at hw
 omega
theorem SY {α:Type} [au α] {qU:(H:Type)→DataW H→α→Prop} (ht:P.underlying t=some (.slice e)) (aS:P.cellsOf e=size α) (cC:0 < P.cellsOf e) (ho:qH P e α qU):qH P t (List α) (zr qU):=by
 intro H en w base spare held fuel cs x h
 have X7:0 < size α:=by rw[←aS];exact cC
 rcases Go.Deep.open_slice ht h with ⟨rfl,_⟩ | ⟨a,len,cap,m,n,D0,Pl,rfl,_,hl,hm,XZ,CS,hi⟩
 ·exact⟨[],⟨Nat.zero_le _,.inl rfl⟩,cells_one rfl (.uj _ _ _ (Nat.zero_le _))⟩
 have hlm:len≤m:=by rw[XZ];split<;>omega
 rcases Nat.eq_zero_or_pos len with h0 | h0
 ·subst h0
  exact⟨[],⟨Nat.zero_le _,.inl rfl⟩,cells_one rfl (.uj _ _ _ hm)⟩
 have qY:∀ i,i < len→∃ (y:α) (qJ:List Value),qU H (D0 i) y∧(∀ j,j < size α→w.cell? (a.add (i*size α+j))=qJ[j]?)∧qJ.length=size α∧Cells (allI w) qJ (enc y).cells:=fun i uT=>by
  obtain⟨qJ,hc,yB⟩:=hi i (by omega)
  obtain⟨y,hy,eW⟩:=ho H en w base spare held n qJ _ yB
  rw[aS] at hc
  obtain⟨_,fW,j7⟩:=World.cells?_some hc
  exact⟨y,qJ,hy,fun j hj=>by rw[←j7 j hj,Go.Deep.add_add],fW,eW⟩
 obtain⟨b,off,spot⟩:=a
 have as8:spot=none:=by
  obtain⟨y,qJ,_,j7,fW,_⟩:=qY 0 h0
  have h1:=j7 0 X7
  rw[List.getElem?_eq_getElem (by omega)] at h1
  simpa [Addr.add] using World.cell?_spot h1
 subst as8
 have hex:∀ k,k≤len→∃ l:List α,l.length=k∧(∀ (i:Nat) y,l[i]?=some y→qU H (D0 i) y)∧∀ (i:Nat) (y:α),l[i]?=some y→∀ j,j < size α→∃ v d,w.cell? ⟨b,off+(i*size α+j),none⟩=some v∧(enc y).cells[j]?=some d∧Rd (allI w) v d:=by
  intro k
  induction k with
  | zero=>exact fun _=>⟨[],rfl,by simp,by simp⟩
  | succ k ih=>
   intro hk
   obtain⟨l,h1,h2,h3⟩:=ih (by omega)
   obtain⟨y,qJ,hy,j7,fW,eW⟩:=qY k (by omega)
   refine⟨l++[y],by simp[h1],fun i z hz=>?_,fun i z hz j hj=>?_⟩
   ·by_cases uT:i < l.length
    ·rw[List.getElem?_append_left uT] at hz
     exact h2 i z hz
    rw[List.getElem?_append_right (by omega)] at hz
    have ER:i=k:=by
     have:=(List.getElem?_eq_some_iff.1 hz).1
     simp at this;omega
    subst ER
    rw[h1] at hz
    simp at hz
    subst hz
    exact hy
   by_cases uT:i < l.length
   ·rw[List.getElem?_append_left uT] at hz
    exact h3 i z hz j hj
   rw[List.getElem?_append_right (by omega)] at hz
   have ER:i=k:=by
    have:=(List.getElem?_eq_some_iff.1 hz).1
    simp at this;omega
   subst ER
   rw[h1] at hz
   simp at hz
   subst hz
   have hv:qJ[j]?=some (qJ[j]'(by omega)):=List.getElem?_eq_getElem (by omega)
   have hd:(enc y).cells[j]?=some ((enc y).cells[j]'(by rw[au.len];exact hj)):=List.getElem?_eq_getElem _
   refine⟨_,_,?_,hd,eW.2.2 j _ _ hv hd⟩
   have:=j7 j hj
   rw[hv,am5] at this
   exact this
 obtain⟨l,h1,h2,h3⟩:=hex len (Nat.le_refl _)
 refine⟨l,⟨by omega,.inr ⟨(List.range len).map D0,(List.range (m - len)).map fun j=>D0 (len+j),by rw[CS],by simp[h1],fun i y hy=>⟨D0 i,?_,h2 i y hy⟩⟩⟩,cells_one rfl ?_⟩
 ·have:i < len:=by rw[←h1];exact(List.getElem?_eq_some_iff.1 hy).1
  rw[List.getElem?_map,List.getElem?_range this];rfl
 rw[fL]
 have arH:(flat (l.map (enc:α→D))).length=len*size α:=by
  rw[ql (l.map (enc:α→D)) (size:=size α) fun d hd=>by obtain⟨y,_,rfl⟩:=List.mem_map.1 hd;exact au.len y]
  simp[h1]
 have bS:∀ k,k < len*size α→∃ v d,w.cell? ⟨b,off+k,none⟩=some v∧(flat (l.map (enc:α→D)))[k]?=some d∧Rd (allI w) v d:=fun k hk=>by
  have hi:k / size α < len:=(Nat.div_lt_iff_lt_mul X7).2 hk
  have hj:k % size α < size α:=Nat.mod_lt _ X7
  have hy:l[k / size α]?=some (l[k / size α]'(by omega)):=List.getElem?_eq_getElem (by omega)
  obtain⟨v,d,k1,k2,k3⟩:=h3 _ _ hy _ hj
  refine⟨v,d,?_,?_,k3⟩
  ·rw[Nat.mul_comm,Nat.div_add_mod] at k1;exact k1
  rw[show k=k / size α*size α+k % size α by rw[Nat.mul_comm];exact(Nat.div_add_mod k (size α)).symm]
  rw[flat_get (l.map (enc:α→D)) (fun d hd=>by obtain⟨y,_,rfl⟩:=List.mem_map.1 hd;exact au.len y) _ _ (enc (l[k / size α]'(by omega))) (by rw[List.getElem?_map,hy];rfl) hj]
  exact k2
 refine .slice b off len cap (size α) _ (fun k=>(w.cell? ⟨b,off+k,none⟩).getD undef) (by simp[h1]) hl hm (fun d hd=>?_) (fun k hk=>?_) (fun k x hx=>?_)
 ·obtain⟨y,_,rfl⟩:=List.mem_map.1 hd
  exact⟨au.len y,au.aj7 y⟩
 ·obtain⟨v,d,k1,_,_⟩:=bS k hk
  show w.cell? ⟨b,off+k,none⟩=_
  simp[k1]
 have hk:k < len*size α:=by rw[←arH];exact(List.getElem?_eq_some_iff.1 hx).1
 obtain⟨v,d,k1,k2,k3⟩:=bS k hk
 rw[hx] at k2;cases k2
 simpa [k1] using k3
theorem avJ {W:World} {r:Reach} {b:Nat} {v:Value} (h:Value.okWide P W r b t v) (hk:(match P.underlying t with | some (.struct _) | some (.array _ _)=>false | _=>true)=true):∀ cs,v ≠ .agg cs:=by
 rintro cs rfl
 cases hu:P.underlying t with
 | none=>simp[Value.okWide,hu,Cell.okWide,Cell.ok] at h
 | some d=>
  rw[hu] at hk
  cases d<;>first | (simp[Value.okWide,hu,Cell.okWide,Cell.ok] at h;done) | (simp at hk;done)
variable {H:Type} {en:TypeId×Value→H} {W:World} {base:Nat} {sp:Nat→Bool} {held:Bool} {v:Value} {d:DataW H} {ps:List MemPlace} {α:Type} [au α] {qU:(H:Type)→DataW H→α→Prop}
theorem Ax (hO:qH P t α qU) (h1:∀ a:α,(enc a).cells=[enc a]) {r:Reach} {b:Nat} (fB:Value.okWide P W r b t v) (hk:(match P.underlying t with | some (.struct _) | some (.array _ _)=>false | _=>true)=true)
  (h:DataW.Trod en P W base sp held t v d ps):∃ a:α,qU H d a∧Rd (allI W) v (enc a):=by
 obtain⟨fuel,hf⟩:=h
 have ub:=avJ fB hk
 have hc:v.cells.toList=[v]:=by cases v<;>first | rfl | exact absurd rfl (ub _)
 rw[hc] at hf
 obtain⟨a,ha,eW⟩:=hO H en W base sp held fuel _ _ hf
 rw[h1] at eW
 exact⟨a,ha,eW.2.2 0 _ _ rfl rfl⟩
theorem DP (hO:qH P t α qU) (h1:∀ a:α,enc a = .agg (enc a).cells) {fs:Array Field} (ht:P.underlying t=some (.struct fs)) {r:Reach} {b:Nat} (fB:Value.okWide P W r b t v)
  (h:DataW.Trod en P W base sp held t v d ps):∃ a:α,qU H d a∧Rd (allI W) v (enc a):=by
 obtain⟨fuel,hf⟩:=h
 obtain⟨cs,rfl,_⟩:=okWide_struct ht fB
 obtain⟨a,ha,eW⟩:=hO H en W base sp held fuel _ _ hf
 refine⟨a,ha,?_⟩
 rw[h1]
 exact .agg cs _ (by have:=eW.1;simpa [Value.cells] using this) eW.2.1 fun i v d hv hd=>eW.2.2 i v d (by simpa [Value.cells] using hv) hd
end
theorem F9 {H:Type} {en:TypeId×Value→H} {P:Program} (hl:laidOutB P=true) {W W':World} (hb:Below W.heap.size W W') :
  ∀ {ts:List TypeId} {vs:List Value} {ds:List (DataW H)} {ps:List MemPlace},(ts.all fun t=>P.readableRec t&&decide (t < P.types.size))=true→DataW.TrodAll en P W 0 (fun _=>true) true ts vs ds ps→(∀ x∈ps,x.block < W.heap.size)→DataW.TrodAll en P W' 0 (fun b=>decide (b < W.heap.size)) true ts vs ds ps
 | [],[],[],_,_,h,_=>h
 | t::ts,v::vs,d::ds,_,ht,⟨p,q,h1,h2,e⟩,aN=>by
  simp only[List.all_cons,Bool.and_eq_true,decide_eq_true_eq] at ht
  exact⟨p,q,Below.trod hl ht.1.1 ht.1.2 h1 hb (fun x hx=>aN x (by rw[e];exact List.mem_append_left _ hx)),F9 hl hb ht.2 h2 (fun x hx=>aN x (by rw[e];exact List.mem_append_right _ hx)),e⟩
 | [],_::_,_,_,_,h,_=>h.elim
 | [],[],_::_,_,_,h,_=>h.elim
 | _::_,[],_,_,_,h,_=>h.elim
 | _::_,_::_,[],_,_,h,_=>h.elim
theorem Jb {P:Program} {f:FuncId} {ds:List D} {r:D} (h:ee P f ds r) {W:World} (hg:∀ g d,ck.uK g=some d→Rd (allI W) (.pointer (some ⟨g,0,none⟩)) (.box d)) {vs:Array Value} (hs:vs.size=ds.length) (hr:∀ (i:Nat) v d,vs[i]?=some v→ds[i]?=some d→Rd (allI W) v d) :
  Calls P f vs W fun e w'=>∃ v J,e = .returned v∧Below W.heap.size W w'∧Rd J v r:=
 (h W (allI W) vs (am7 W hg) hs hr).mono fun _ _ ⟨v,J,h1,h2,_,_,h5⟩=>⟨v,J,h1,h2.below,h5⟩
end Go.an
namespace Go.an
open Go au
variable [ck] [dx] {s:St} {K:St→Prop}
theorem Sub.rn (ids:List Nat) (t':Tm) (l':List AO) (gj:ids.Nodup:=by decide) (oA:mg ids s.l=true:=by first | rfl | simp[mg])
  (hl:ez ids s.l=l':=by first | rfl | simp[ez,AO.bY,mf,T.bY,T.eU,T.BO,T.flat,T.data,mg,idx,an.get])
  (hf:mf ids s.t t':=by first | ((repeat (first | exact trivial | refine⟨rfl,?_⟩));done) | (simp[ez,AO.bY,mf,T.bY,T.eU,T.BO,T.flat,T.data,mg,idx,an.get]<;>grind)):Sub s ⟨t',l'⟩:=
 Sub.bY ids gj oA hl hf
theorem ai {p q:Prop} (h:q) (hp:p:=by first | omega | (simp[*];done) | grind):p∧q:=⟨hp,h⟩
theorem kc (t:Tm) (l:List AO) (k:K ⟨t,l⟩) (h:s=⟨t,l⟩:=by first | rfl | (simp<;>grind)):K s:=h▸k
theorem kd (t:Tm) (l:List AO) (h:s=⟨t,l⟩) (k:K ⟨t,l⟩):K s:=h▸k
theorem aF {α:Type} {a b:α} (h:some a=some b):a=b:=Option.some.inj h
theorem C4 {α β:Type} {f:α→β} {o:Option α} {b:β} (h:o.map f=some b):∃ a,o=some a∧f a=b:=Option.map_eq_some_iff.1 h
theorem bcj (b:Bool):b=true∨b=false:=Bool.eq_false_or_eq_true b
end Go.an
namespace Go.an
open Go au
variable {α:Type}
structure P2 where
 a0:Int
 a1:Int
 deriving DecidableEq
instance:au P2:=⟨fun r=> .agg [.int .i64 r.a0,.int .i64 r.a1],fun d=>match d with | .agg [.int _ x0,.int _ x1]=>⟨x0,x1⟩ | _=>⟨0,0⟩,2,fun _=>rfl,fun _=>rfl,by simp[D.cells,D.one]⟩
theorem lC (r:P2):enc r = .agg [.int .i64 r.a0,.int .i64 r.a1]:=rfl
theorem kY (k0 k1:IntKind) (x0 x1:Int):(dec (.agg [.int k0 x0,.int k1 x1]):P2)=⟨x0,x1⟩:=rfl
theorem mW:au.size P2=2:=rfl
theorem l6 (r:P2):(⟨r.a0,r.a1⟩:P2)=r:=rfl
def P2.list (r:P2):List Int:=[r.a0,r.a1]
def kP (p:P2×α):D:= .agg [.int .i64 p.1.a0,.int .i64 p.1.a1]
def vP [au α] (p:P2×α):D:=enc p.2
def kp (n:P2) (x:List (P2×α)):Option Nat:=x.findIdx? fun p=>decide (n=p.1)
def pV (x:List (P2×α)) (n:P2) (v:α):List (P2×α):=match kp n x with
 | some j=>x.set j (n,v)
 | none=>x++[(n,v)]
def o4 (x:List (P2×α)) (n:P2) (z:α):α:=match kp n x with
 | some j=>((x[j]?).map (·.2)).getD z
 | none=>z
def pU (x:List (P2×α)) (n:P2):Bool:=(kp n x).isSome
theorem auE (a b:Int) (p:P2×α):Im (.agg [.int .i64 a,.int .i64 b]) (kP p)=decide ((⟨a,b⟩:P2)=p.1):=by
 rw[Bool.eq_iff_iff]
 obtain⟨⟨c,d⟩,v⟩:=p
 simp[Im,kP,eO,pd]
theorem aiE (a b:Int):∀ (x:List (P2×α)) (i:Nat),yN (.agg [.int .i64 a,.int .i64 b]) (x.map kP) i=(kp ⟨a,b⟩ x).map (· + i)
 | [],i=>rfl
 | p::x,i=>by
  have ih:=aiE a b x (i+1)
  simp only[List.map_cons,yN,auE,kp,List.findIdx?_cons,decide_eq_true_eq]
  by_cases h:(⟨a,b⟩:P2)=p.1
  ·simp[h]
  rw[if_neg h,ih]
  simp only[h,decide_false,Bool.false_eq_true,if_false]
  unfold kp
  cases x.findIdx? (fun p=>decide ((⟨a,b⟩:P2)=p.1)) with
  | none=>rfl
  | some j=>simp;omega
theorem mw (a b:Int) (x:List (P2×α)):yN (.agg [.int .i64 a,.int .i64 b]) (x.map kP) 0=kp ⟨a,b⟩ x:=by
 rw[aiE];cases kp ⟨a,b⟩ x<;>simp
theorem mu (a b:Int):Br 2 .i64 (.agg [.int .i64 a,.int .i64 b])=true:=by simp[Br,Ia]
theorem mz (x:List (P2×α)):Io 2 .i64 (x.map kP)=true:=by
 simp[Io,kP,Br,Ia]
theorem mA (n:Nat) (k:IntKind):Io n k []=true:=rfl
theorem akg {n:P2} {x:List (P2×α)} {j:Nat} (h:kp n x=some j):∃ v,x[j]?=some (n,v):=by
 unfold kp at h
 obtain⟨hj,h1,h2⟩:=List.findIdx?_eq_some_iff_getElem.1 h
 simp at h1
 exact⟨x[j].2,by rw[List.getElem?_eq_getElem hj];simp[h1]⟩
theorem azR {n:P2} {x:List (P2×α)} {j:Nat} (h:kp n x=some j) (v:α):(x.set j (n,v)).map kP=x.map kP:=by
 obtain⟨u,hu⟩:=akg h
 rw[List.map_set]
 apply List.ext_getElem?
 intro i
 by_cases hi:j=i
 ·subst hi;rw[List.getElem?_set_self' ,List.getElem?_map,hu];rfl
 rw[List.getElem?_set_ne hi]
theorem kr [au α] (a b:Int) (x:List (P2×α)) (d:D) (hd:uC α d) :
  ff.match_1 (fun _=>AO) (kp ⟨a,b⟩ x) (fun j=>AO.map (x.map kP) ((x.map vP).set j d)) (fun _=>AO.map (x.map kP++[.agg [.int .i64 a,.int .i64 b]]) (x.map vP++[d]))=AO.map ((pV x ⟨a,b⟩ (dec d)).map kP) ((pV x ⟨a,b⟩ (dec d)).map vP):=by
 unfold uC at hd
 unfold pV
 cases h:kp ⟨a,b⟩ x with
 | none=>simp[kP,vP,hd]
 | some j=>simp only[azR h];rw[List.map_set];simp[vP,hd]
theorem mF [au α] (n:P2) (x:List (P2×α)) (d:D) (hd:uC α d) :
  ff.match_1 (fun _=>AO) (kp n x) (fun j=>AO.map (x.map kP) ((x.map vP).set j d)) (fun _=>AO.map (x.map kP++[.agg [.int .i64 n.a0,.int .i64 n.a1]]) (x.map vP++[d]))=AO.map ((pV x n (dec d)).map kP) ((pV x n (dec d)).map vP):=kr n.a0 n.a1 x d hd
theorem afD [au α] {n:P2} {x:List (P2×α)} {j:Nat} (h:kp n x=some j) (z:α):jU (x.map vP) j=enc (o4 x n z):=by
 obtain⟨v,hv⟩:=akg h
 simp[jU,o4,h,hv,vP]
theorem mh [au α] (n:P2) (x:List (P2×α)) (z:D) (p:Prop) (hd:uC α z) :
  ff.match_1 (fun _=>R) (kp n x) (fun j=>(⟨.d (jU (x.map vP) j),.none,p⟩:R)) (fun _=>⟨.d z,.none,p⟩)=⟨.d (enc (o4 x n (dec z))),.none,p⟩:=by
 unfold uC at hd
 cases h:kp n x with
 | none=>simp[o4,h,hd]
 | some j=>simp only[afD h (dec z)]
theorem mj [au α] (n:P2) (x:List (P2×α)) (z:D) (p:Prop) (hd:uC α z) :
  ff.match_1 (fun _=>R) (kp n x) (fun j=>(⟨.d (.bn [jU (x.map vP) j,.bool true]),.none,p⟩:R)) (fun _=>⟨.d (.bn [z,.bool false]),.none,p⟩)=⟨.d (.bn [enc (o4 x n (dec z)),.bool (pU x n)]),.none,p⟩:=by
 unfold uC at hd
 cases h:kp n x with
 | none=>simp[o4,pU,h,hd]
 | some j=>simp only[afD h (dec z)];simp[pU,h]
theorem aeN [au α]:∀ (x:List (Int×α)),((x.map kE).zip (x.map vE)).map (fun p=>((dec p.1:Int),(dec p.2:α)))=x
 | []=>rfl
 | p::x=>by
  simp only[List.map_cons,List.zip_cons_cons,aeN x]
  simp[kE,vE,jq,au.lj]
instance aBc [au α]:au (List (Int×α)):=⟨fun x=> .map (x.map kE) (x.map vE),fun d=>match d with | .map ks vs=>(ks.zip vs).map fun p=>(dec p.1,dec p.2) | _=>[],1,aeN,fun _=>rfl,by simp[D.cells,D.one]⟩
theorem lB [au α] (x:List (Int×α)):enc x = .map (x.map kE) (x.map vE):=rfl
theorem kW [au α] (x:List (Int×α)):(dec (.map (x.map kE) (x.map vE)):List (Int×α))=x:=aeN x
theorem mU [au α]:au.size (List (Int×α))=1:=rfl
end Go.an
namespace Go.an
open Go au
def se {α:Type} [au α] (i:Nat) (x:α):Nat×T:=(i,.d (enc x))
def AO.w {α:Type} [au α] (ty:TypeId) (x:α):AO:= .var ty (bf (.d (enc x)))
def AO.ro {α:Type} [au α] (e size:Nat) (x:List α):AO:= .row e size (x.map enc)
def AO.bz {α:Type} [au α] (e size:Nat) (x:List α):AO:= .cF e size (x.map enc)
@[simp] theorem aEv {α:Type} [au α] (i:Nat) (x:α):se i x=(i,.d (enc x)):=rfl
@[simp] theorem AO.aEz {α:Type} [au α] (ty:TypeId) (x:α):AO.w ty x = .var ty (bf (.d (enc x))):=rfl
@[simp] theorem AO.aEr {α:Type} [au α] (e size:Nat) (x:List α):AO.ro e size x = .row e size (x.map enc):=rfl
@[simp] theorem AO.aBe {α:Type} [au α] (e size:Nat) (x:List α):AO.bz e size x = .cF e size (x.map enc):=rfl
theorem ay {β:Type} {c:Bool} {a b:Option β} {r:β} (h:ak c a b=some r):(c=true∧a=some r)∨(c=false∧b=some r):=by
 cases c
 ·exact .inr ⟨rfl,h⟩
 exact .inl ⟨rfl,h⟩
variable [ck] [dx] {s:St} {K:St→Prop} {P:Program} {w0:World} {I0:aC} {n:Nat} {x y:Code} {Q:Exit→St→Prop}
theorem rk {p:Prop} [Decidable p] (h:(!decide p)=false):p=True:=by simpa using h
theorem aY {α:Type} [au α] {l:List α} {i:Int} {x:α} (h:aP l i=some x):0≤i∧i < l.length∧jU (l.map enc) i.toNat=enc x:=
 ⟨(Pa h).1,(Pa h).2.1,aop (Pa h).2.2⟩
theorem ab.cnd {β:Type} {c:Operand} {b:Bool} {p q:Option β} {r:β} (hg:ak b p q=some r) (hc:G3 (bd s.t c)=some b) (h1:b=true→p=some r→ab P w0 I0 n x s Q) (h2:b=false→q=some r→ab P w0 I0 n y s Q):ab P w0 I0 n (.cond c x y) s Q:=
 ab.cond hc (fun h=>h1 h (aij h hg)) fun h=>h2 h (aii h hg)
theorem afS (ids:List Nat) (s:Tm):mf ids s []:=trivial
theorem afR {ids:List Nat} {s r:Tm} {i:Nat} {t:T} (h:(get s i).bY ids=t) (k:mf ids s r):mf ids s ((i,t)::r):=⟨h,k⟩
theorem afT {α:Type} [au α] {ids:List Nat} {s r:Tm} {i:Nat} {v:α} (h:(get s i).bY ids = .d (enc v)) (k:mf ids s r):mf ids s (se i v::r):=⟨h,k⟩
theorem Sub.rm (ids:List Nat) {t':Tm} {l':List AO} (gj:ids.Nodup:=by decide) (oA:mg ids s.l=true:=by first | rfl | simp[mg])
  (hl:ez ids s.l=l':=by first | rfl | (simp[ez,AO.bY,mf,T.bY,T.eU,T.BO,T.flat,T.data,mg,idx,an.get]<;>grind))
  (hf:mf ids s.t t':=by first | ((repeat (first | exact afS _ _ | refine afT rfl ?_ | refine afR rfl ?_));done) | (simp[ez,AO.bY,mf,T.bY,T.eU,T.BO,T.flat,T.data,mg,idx,an.get]<;>grind)):Sub s ⟨t',l'⟩:=
 Sub.bY ids gj oA hl hf
theorem Sub.ac7 (j:Nat) {d:D} {l':List AO} (h:dY s.l (get s.t j)=some (d,l'):=by simp[dY,an.get];first | rfl | exact⟨rfl,rfl⟩):Sub s ⟨(j,.d d)::s.t,l'⟩:=Sub.aAl j h
theorem Sub.fz {α:Type} [au α] (j id:Nat) (x:α) (ids:List Nat) {ty:TypeId} {t':Tm} {l':List AO} (hj:get s.t j = .ptr id 0:=by rfl) (ho:s.l[id]?=some (.var ty ((enc x).cells.map .d)):=by rfl) (aB:id∉ids:=by decide) (gj:ids.Nodup:=by decide) (oA:mg ids s.l=true:=by first | rfl | simp[mg])
  (hl:ez ids s.l=l':=by first | rfl | (simp[ez,AO.bY,mf,T.bY,T.eU,T.BO,T.flat,T.data,mg,idx,an.get]<;>grind))
  (hf:mf ids s.t t':=by first | ((repeat (first | exact afS _ _ | refine afT rfl ?_ | refine afR rfl ?_));done) | (simp[ez,AO.bY,mf,T.bY,T.eU,T.BO,T.flat,T.data,mg,idx,an.get]<;>grind)) :
  Sub s ⟨se j (⟨x⟩:Bx α)::t',l'⟩:=Sub.frz j id (enc x) ids hj ho (au.aj7 _) aB gj oA hl hf
theorem ee.Dc {V:Env} {f N:Nat} {fn:Func} {c:Code} {ds:List D} {r:D} (hV:bO P V) (hf:P.funcs[f]?=some fn) (hb:fn.body=some c) (hN:fn.ntmps=N)
  (h:∀ (R:dx),R.r=none→∀ w0 I0 (Q:Exit→St→Prop),(∀ e s,(e = .ret∨e = .normal)→uh V s fn.results.toList r→Q e s)→ab P w0 I0 N c ⟨fk 0 ds,[]⟩ Q) (hn:ds.length≤N:=by simp):ee P f ds r:=
 ee.SP hV hf hb (hN.symm▸hn) (hN.symm▸h)
theorem rt {V:Env} {rv:List ResultVar} {r:D} (h:uh V s rv r:=by simp[uh,dN,eI]<;>grind):uh V s rv r:=h
theorem Sub.amv (id k:Nat) {ty:TypeId} {cs:List T} {t0:T} {d:D} {l':List AO} (ho:s.l[id]?=some (.var ty cs)) (hk:cs[k]?=some t0) (hd:dY s.l t0=some (d,l')) (cv:l'[id]?=some (.var ty cs)) :
  Sub s ⟨s.t,l'.set id (.var ty (cs.set k (.d d)))⟩:=by
 intro w0 I0 n a w hr
 obtain⟨h1,I,m,h3,h2,h4⟩:=hr
 obtain⟨b0,vs0,e1,e2,e3,e4,e5,e6⟩:=h3.obj id _ ho
 have js:k < cs.length:=(List.getElem?_eq_some_iff.1 hk).1
 have hkv:k < vs0.size:=by omega
 have CS:=e5 k _ _ (Array.getElem?_eq_getElem hkv) hk
 obtain⟨J,le,r1,dg,_⟩:=Jw h3 CS.1 hd
 have r9:Le J m l' J m (l'.set id (.var ty (cs.set k (.d d)))):=Le.setKind cv rfl rfl (fun e size els h=>by rcases h with h | h<;>cases h)
 obtain⟨b,vs,q1,q2,q3,q4,q5,q6⟩:=r1.obj id _ cv
 have hb:b=b0:=by rw[q1] at e1;injection e1 with e1;injection e1 with e1;injection e1
 subst hb
 have Mb:vs=vs0:=by rw[q3] at e3;injection e3 with e3;injection e3
 subst Mb
 refine⟨h1,J,m,r1.Ag cv (by simp) (b:=b) (by rw[q1];rfl) q6 rfl rfl r9 rfl rfl rfl (Nat.le_refl _) (Nat.le_refl _) (fun _ _=>rfl) ⟨b,vs,q1,q2,q3,by simpa using q4,fun i x t hx ht=>?_,q6⟩,h2.mono le.eR,fun j=>((h4 j).mono le).mono r9⟩
 rw[List.getElem?_set] at ht
 split at ht
 ·rename_i gP
  subst gP
  injection ht with ht;subst ht
  rw[Array.getElem?_eq_getElem hkv] at hx
  injection hx with hx;subst hx
  exact⟨.d _ _ dg,CS.2⟩
 exact⟨(q5 i x t hx ht).1.mono r9,(q5 i x t hx ht).2⟩
end Go.an
namespace Go.an
open Go au
@[simp] def ids:Tm→List Nat
 | []=>[]
 | a::r=>a.1::ids r
def pt (i k:Nat):Nat×T:=(i,.ptr k 0)
@[simp] theorem aEp (i k:Nat):pt i k=(i,.ptr k 0):=rfl
def AO.mp {α:Type} [au α] (m:List (Int×α)):AO:= .map (m.map kE) (m.map vE)
def AO.fp {α:Type} [au α] (m:List (Int×α)):AO:= .oR (m.map kE) (m.map vE)
@[simp] theorem AO.aEh {α:Type} [au α] (m:List (Int×α)):AO.mp m = .map (m.map kE) (m.map vE):=rfl
@[simp] theorem AO.aBd {α:Type} [au α] (m:List (Int×α)):AO.fp m = .oR (m.map kE) (m.map vE):=rfl
variable [ck] [dx] {P:Program} {V:Env} {w0:World} {I0:aC} {n:Nat} {Q:Exit→St→Prop} {s s':St} {x y:Code} {t:Tm} {l:List AO}
theorem kx {K:St→Prop} (k:K ⟨t,l⟩) (h:s=⟨t,l⟩:=by first | rfl | (simp<;>grind)):K s:=h▸k
theorem ky {K:St→Prop} (k:K ⟨t,l⟩) (h:s=⟨t,l⟩):K s:=h▸k
theorem rG (hV:bO P V) (t:Tm) (l:List AO) {id:Nat} {ops:List Oper} (k:ab P w0 I0 n y ⟨t,l⟩ Q)
  (h:∀ K:St→Prop,K ⟨t,l⟩→bu V n ops none ops s (fun s'=>K ⟨an.bR (ids t) s'.t,s'.l⟩):=by intro K k;simp;(repeat refine ai ?_);exact kx k):ab P w0 I0 n ((Code.region id ops.toArray false).seq y) s Q:=
 ab.rS hV none (ids t) fun K kk=>h K (kk _ k)
theorem rH (hV:bO P V) (t:Tm) (l:List AO) {id:Nat} {ops:List Oper} (k:Q .normal ⟨t,l⟩)
  (h:∀ K:St→Prop,K ⟨t,l⟩→bu V n ops none ops s (fun s'=>K ⟨an.bR (ids t) s'.t,s'.l⟩):=by intro K k;simp;(repeat refine ai ?_);exact kx k):ab P w0 I0 n (Code.region id ops.toArray false) s Q:=
 ab.vp hV none (ids t) fun K kk=>h K (kk _ k)
theorem ic (hV:bO P V) (hm:P.follows .mixedOrders=true) (t:Tm) (l:List AO) (n1:Nat) (F:List Nat) {id:Nat} {ops:List Oper} (k:ab P w0 I0 n y ⟨t,l⟩ Q)
  (h:∀ K:St→Prop,K ⟨t,l⟩→dr V n ops none s.l (ops.take n1) 0 s.t [] fun tm news=>bu V n ops none (ops.drop n1) ⟨tm,s.l++news.map (·.2)⟩ (fun s'=>K ⟨an.bR (ids t) s'.t,s'.l⟩):=by intro K k;simp;(repeat refine ai ?_);exact kx k)
  (hd:zh ops n1 F=true:=by decide):ab P w0 I0 n ((Code.region id ops.toArray true).seq y) s Q:=
 ab.rDF hV hm none n1 F (ids t) hd fun K kk=>h K (kk _ k)
theorem rJ (hV:bO P V) (md:Way) {J:St→Prop} (k:∀ s',Sub s' ⟨t,l⟩→J s') {id:Nat} {ops:List Oper}
  (h:∀ K:St→Prop,(∀ s',Sub s' ⟨t,l⟩→K s')→bu V n ops md ops s (fun s'=>K ⟨an.bR (ids t) s'.t,s'.l⟩)):ab P w0 I0 n (Code.region id ops.toArray false) s (um J Q):=
 ab.vp hV md (ids t) fun K kk=>h K fun s' hs=>kk s' (k s' hs)
theorem cU (hV:bO P V) (hm:P.follows .mixedOrders=true) (md:Way) (n1:Nat) (F:List Nat) {J:St→Prop} (k:∀ s',Sub s' ⟨t,l⟩→J s') {id:Nat} {ops:List Oper}
  (h:∀ K:St→Prop,(∀ s',Sub s' ⟨t,l⟩→K s')→dr V n ops md s.l (ops.take n1) 0 s.t [] fun tm news=>bu V n ops md (ops.drop n1) ⟨tm,s.l++news.map (·.2)⟩ (fun s'=>K ⟨an.bR (ids t) s'.t,s'.l⟩))
  (hd:zh ops n1 F=true:=by decide):ab P w0 I0 n (Code.region id ops.toArray true) s (um J Q):=
 ab.BN hV hm md n1 F (ids t) hd fun K kk=>h K fun s' hs=>kk s' (k s' hs)
theorem sq (t:Tm) (l:List AO) (h:∀ J:St→Prop,(∀ s',Sub s' ⟨t,l⟩→J s')→ab P w0 I0 n x s (um J Q)) (k:ab P w0 I0 n y ⟨t,l⟩ Q):ab P w0 I0 n (x.seq y) s Q:=
 ab.sm _ h fun _ hs=>ab.sub hs k
theorem ch (p:Prop) (t:Tm) (l:List AO) (h:∀ J:St→Prop,(∀ s',p∧Sub s' ⟨t,l⟩→J s')→ab P w0 I0 n x s (um J Q)) (k:p→ab P w0 I0 n y ⟨t,l⟩ Q):ab P w0 I0 n (x.seq y) s Q:=
 ab.sm _ h fun _ hs=>ab.sub hs.2 (k hs.1)
theorem cH {X:Type} (p:X→Prop) (f:X→St) (h:∀ J:St→Prop,(∀ s',(∃ z,p z∧Sub s' (f z))→J s')→ab P w0 I0 n x s (um J Q)) (k:∀ z,p z→ab P w0 I0 n y (f z) Q):ab P w0 I0 n (x.seq y) s Q:=
 ab.sm _ h fun _ hs=>hs.elim fun z hz=>ab.sub hz.2 (k z hz.1)
theorem rz {V:Env} {rv:List ResultVar} {r:D} {Q':Exit→St→Prop} (hQ:∀ e s,(e = .ret∨e = .normal)→uh V s rv r→Q' e s) (h:uh V s rv r:=by simp[uh,dN,eI]<;>grind) (q:Q' .ret s→Q .ret s:=by exact fun h=>h):ab P w0 I0 n .ret s Q:=ab.ret (q (hQ _ _ (.inl rfl) h))
theorem sk {K:St→Prop} (k:∀ s',ab P w0 I0 n y s' Q→K s') (h:ab P w0 I0 n y s Q):ab P w0 I0 n .skip s (um K Q):=ab.skip (k _ h)
theorem cN {β:Type} {c:Operand} {b:Bool} {p q:Option β} {r:β} (hg:ak b p q=some r) (h1:b=true→p=some r→ab P w0 I0 n x s Q) (h2:b=false→q=some r→ab P w0 I0 n y s Q) (hc:G3 (bd s.t c)=some b:=by rfl):ab P w0 I0 n (.cond c x y) s Q:=ab.cnd hg hc h1 h2
theorem sG (h:∀ K:St→Prop,(∀ s',ab P w0 I0 n y s' Q→K s')→ab P w0 I0 n x s (um K Q)):ab P w0 I0 n (x.seq y) s Q:=ab.wA h
theorem cs {f:FuncId} {S:an.Spec} {r:List (FuncId×an.Spec)} (h:aL P f S) (k:vF P r):vF P ((f,S)::r):=⟨h,k⟩
theorem cn:vF P []:=trivial
section
variable {ρ α β γ:Type} [au ρ] [au α] [au β] [au γ]
def eA (X:α→Option ρ):an.Spec:=fh fun a=>(X a).map fun r=>enc r
def eY (X:α→β→Option ρ):an.Spec:=du fun a b=>(X a b).map fun r=>enc r
def vr (X:α→β→γ→Option ρ):an.Spec:=fj fun a b c=>(X a b c).map fun r=>enc r
@[simp] theorem aEs (X:α→Option ρ):eA X=fh fun a=>(X a).map fun r=>enc r:=rfl
@[simp] theorem aEt (X:α→β→Option ρ):eY X=du fun a b=>(X a b).map fun r=>enc r:=rfl
@[simp] theorem aEu (X:α→β→γ→Option ρ):vr X=fj fun a b c=>(X a b c).map fun r=>enc r:=rfl
end
section
variable {g N:Nat} {fn:Func} {c:Code} {ρ α β γ δ:Type} [au α] [au β] [au γ] [au δ] {e:ρ→D}
theorem dT {X:α→Option ρ} (hV:bO P V) (hf:P.funcs[g]?=some fn) (hb:fn.body=some c) (hN:fn.ntmps=N)
  (h:∀ a r,X a=some r→∀ (R:dx),R.r=none→∀ w0 I0 (Q:Exit→St→Prop),(∀ x s,(x = .ret∨x = .normal)→uh V s fn.results.toList (e r)→Q x s)→ab P w0 I0 N c ⟨fk 0 [enc a],[]⟩ Q)
  (hn:1≤N:=by simp) (he:(fn.name == "runtime.NumGoroutine")=false∧fn.body.isNone=false:=by decide):aL P g (fh fun a=>(X a).map e):=
 aL.SO (Enters.of hf he) fun a r hr=>by
  obtain⟨r,hg,rfl⟩:=C4 hr
  exact ee.Dc hV hf hb hN (h a r hg) hn
theorem go2 {X:α→β→Option ρ} (hV:bO P V) (hf:P.funcs[g]?=some fn) (hb:fn.body=some c) (hN:fn.ntmps=N)
  (h:∀ a b r,X a b=some r→∀ (R:dx),R.r=none→∀ w0 I0 (Q:Exit→St→Prop),(∀ x s,(x = .ret∨x = .normal)→uh V s fn.results.toList (e r)→Q x s)→ab P w0 I0 N c ⟨fk 0 [enc a,enc b],[]⟩ Q)
  (hn:2≤N:=by simp) (he:(fn.name == "runtime.NumGoroutine")=false∧fn.body.isNone=false:=by decide):aL P g (du fun a b=>(X a b).map e):=
 aL.avR (Enters.of hf he) fun a b r hr=>by
  obtain⟨r,hg,rfl⟩:=C4 hr
  exact ee.Dc hV hf hb hN (h a b r hg) hn
theorem pL {X:α→β→γ→Option ρ} (hV:bO P V) (hf:P.funcs[g]?=some fn) (hb:fn.body=some c) (hN:fn.ntmps=N)
  (h:∀ a b d r,X a b d=some r→∀ (R:dx),R.r=none→∀ w0 I0 (Q:Exit→St→Prop),(∀ x s,(x = .ret∨x = .normal)→uh V s fn.results.toList (e r)→Q x s)→ab P w0 I0 N c ⟨fk 0 [enc a,enc b,enc d],[]⟩ Q)
  (hn:3≤N:=by simp) (he:(fn.name == "runtime.NumGoroutine")=false∧fn.body.isNone=false:=by decide):aL P g (fj fun a b d=>(X a b d).map e):=
 aL.avS (Enters.of hf he) fun a b d r hr=>by
  obtain⟨r,hg,rfl⟩:=C4 hr
  exact ee.Dc hV hf hb hN (h a b d r hg) hn
end
end Go.an
