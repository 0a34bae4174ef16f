import Derived.Test.YtjigeffmmcmlnaaGreatDoorX3
import Derived.RangeFuncRecord
import Derived.Deep.LoopGhost
import Derived.KernelRfl
set_option linter.all false
set_option linter.unnecessarySimpa false
set_option linter.deprecated false
set_option linter.unusedVariables false
set_option linter.unusedSimpArgs false
set_option linter.unusedSectionVars false
namespace Go.an
open Go Go.RowKit
variable [ck]
def waits (o:Oper):List Nat:=(o.after.toList.filter (Region.binds .any)).map (·.on)
def tmpsOf (o:Oper):List Nat:=o.op.operands.toList.filterMap fun | .tmp t=>some t | _=>none
def o5 (ops:List Oper) (o:Oper):List Nat:=tmpsOf o++(match o.guard with | some (j,_)=>((ops[j]?).bind (·.dst)).toList | none=>[])
def ud (ops:List Oper):Bool:=(List.range ops.length).all fun i=>match ops[i]? with | some o=>(waits o).all (· < i) | none=>true
def OM (ops:List Oper) (n1:Nat):Bool:=(List.range ops.length).all fun i=>decide (i < n1)||match ops[i]? with | some o=>(List.range i).all (fun j=>(waits o).contains j) | none=>true
def qC (ops:List Oper) (n1:Nat):Bool:=(List.range n1).all fun i=>match ops[i]? with
 | some o=>(List.range n1).all fun j=>match ops[j]? with
  | some q=>(match q.dst with
   | some d=>(decide (i=j)||o.dst != some d)&&(!(o5 ops o).contains d||(decide (j < i)&&(waits o).contains j))
   | none=>true)
  | none=>true
 | none=>false
def dr (V:Env) (n:Nat) (ops:List Oper) (md:Way) (l0:List AO):List Oper→(k:Nat)→Tm→List (Nat×AO)→(Tm→List (Nat×AO)→Prop)→Prop
 | [],_,tm,news,K=>K tm news
 | o::r,k,tm,news,K=>
  match dU ops tm o.guard with
  | none=>False
  | some pc=>
   match md with
   | none=>
    let ρ:=fun x=>strip pc (bd tm x)
    (match evalOp V (fun x=>(ρ x).1) l0 (l0.length+news.length) o with
    | ⟨t,bI,ob⟩=>
     (holds pc→ob∧gr (o.op.operands.toList.map fun x=>(ρ x).2))∧cR n o.dst=true ∧
     match pc,bI with
     | [],.none=>dr V n ops md l0 r (k+1) (bq tm o.dst t) news K
     | [],.new a=>dr V n ops md l0 r (k+1) (bq tm o.dst t) (news++[(k,a)]) K
     | pc,.none=>dr V n ops md l0 r (k+1) (bq tm o.dst (.cond pc t)) news K
     | _,_=>False)
   | some sk=>
    if jB sk o.dst=true then o.guard.isSome=true∧(holds pc→False)∧cR n o.dst=true∧dr V n ops md l0 r (k+1) (bq tm o.dst gone) news K
    else holds pc∧(match evalOp V (fun x=>(strip [] (bd tm x)).1) l0 (l0.length+news.length) o with
    | ⟨t,bI,ob⟩=>
     (ob∧gr (o.op.operands.toList.map fun x=>(strip [] (bd tm x)).2))∧cR n o.dst=true ∧
     match bI with
     | .none=>dr V n ops md l0 r (k+1) (bq tm o.dst t) news K
     | .new a=>dr V n ops md l0 r (k+1) (bq tm o.dst t) (news++[(k,a)]) K
     | _=>False)
structure Rec where
 tm:Tm
 pc:PC
 t:T
 ob:Prop
 new:Option AO
 nid:Nat
def Rec.out (r:Rec):T:=if r.pc=[] then r.t else .cond r.pc r.t
structure aeO (V:Env) (n:Nat) (ops:List Oper) (l0:List AO) (o:Oper) (r:Rec):Prop where
 guard:∃ qc,dU ops r.tm o.guard=some qc∧(holds qc↔holds r.pc)
 Wm:o.guard=none→r.pc=[]
 res:holds r.pc→evalOp V (fun x=>(strip r.pc (bd r.tm x)).1) l0 r.nid o=⟨r.t,(match r.new with | some a=> .new a | none=> .none),r.ob⟩
 ob:holds r.pc→r.ob∧gr (o.op.operands.toList.map fun x=>(strip r.pc (bd r.tm x)).2)
 dst:cR n o.dst=true
 new:r.new.isSome=true→r.pc=[]
 gone:¬ holds r.pc→r.new=none
def bp:Nat→List Rec→List (Nat×AO)
 | _,[]=>[]
 | k,r::rs=>(match r.new with | some a=>[(k,a)] | none=>[])++bp (k+1) rs
def fF:Tm→List Oper→List Rec→Tm
 | tm,o::os,r::rs=>fF (bq tm o.dst r.out) os rs
 | tm,_,_=>tm
def oP (V:Env) (n:Nat) (ops:List Oper) (l0:List AO):List Oper→Nat→Tm→Nat→List Rec→Prop
 | [],_,_,_,rs=>rs=[]
 | o::os,k,tm,c,rs=>∃ r I9,rs=r::I9∧r.tm=tm∧r.nid=l0.length+c∧aeO V n ops l0 o r∧oP V n ops l0 os (k+1) (bq tm o.dst r.out) (c+(if r.new.isSome then 1 else 0)) I9
theorem zm {V:Env} {n:Nat} {ops:List Oper} {md:Way} {l0:List AO} {K:Tm→List (Nat×AO)→Prop}:∀ (r:List Oper) (k:Nat) (tm:Tm) (news:List (Nat×AO)),dr V n ops md l0 r k tm news K →
  ∃ rs,oP V n ops l0 r k tm news.length rs∧K (fF tm r rs) (news++bp k rs)
 | [],k,tm,news,h=>⟨[],rfl,by simpa [fF,bp,dr] using h⟩
 | o::r,k,tm,news,h=>by
  simp only[dr] at h
  split at h
  ·exact h.elim
  rename_i pc hg
  have HS:o.guard=none→pc=[]:=fun e=>by rw[e] at hg;simpa [dU] using hg.symm
  cases md with
  | none=>
   simp only at h
   generalize dt:evalOp V (fun x=>(strip pc (bd tm x)).1) l0 (l0.length+news.length) o=res at h
   obtain⟨t,bI,ob⟩:=res
   simp only at h
   obtain⟨af,eQ,h⟩:=h
   split at h
   ·obtain⟨rs,h1,h2⟩:=zm r (k+1) _ _ h
    refine⟨⟨tm,[],t,ob,none,l0.length+news.length⟩::rs,⟨_,rs,rfl,rfl,rfl,⟨⟨_,hg,Iff.rfl⟩,fun _=>rfl,fun _=>dt,af,eQ,by simp,fun _=>rfl⟩,by simpa [Rec.out] using h1⟩,?_⟩
    simpa [fF,bp,Rec.out] using h2
   ·rename_i a
    obtain⟨rs,h1,h2⟩:=zm r (k+1) _ _ h
    refine⟨⟨tm,[],t,ob,some a,l0.length+news.length⟩::rs,⟨_,rs,rfl,rfl,rfl,⟨⟨_,hg,Iff.rfl⟩,fun _=>rfl,fun _=>dt,af,eQ,by simp,fun h=>(h trivial).elim⟩,by simpa [Rec.out] using h1⟩,?_⟩
    simpa [fF,bp,Rec.out] using h2
   ·rename_i ba
    obtain⟨rs,h1,h2⟩:=zm r (k+1) _ _ h
    have eG:pc≠[]:=fun e=>ba e
    refine⟨⟨tm,pc,t,ob,none,l0.length+news.length⟩::rs,⟨_,rs,rfl,rfl,rfl,⟨⟨_,hg,Iff.rfl⟩,HS,fun _=>dt,af,eQ,by simp,fun _=>rfl⟩,by simpa [Rec.out,eG] using h1⟩,?_⟩
    simpa [fF,bp,Rec.out,eG] using h2
   exact h.elim
  | some sk=>
   simp only at h
   split at h
   ·obtain⟨hgs,ca,eQ,h⟩:=h
    obtain⟨rs,h1,h2⟩:=zm r (k+1) _ _ h
    have XH:¬ holds [((0:Nat),true,false)]:=by simp[holds]
    refine⟨⟨tm,[(0,true,false)],.undef,True,none,l0.length+news.length⟩::rs,⟨_,rs,rfl,rfl,rfl,⟨⟨_,hg,⟨fun h=>(ca h).elim,fun h=>(XH h).elim⟩⟩,fun e=>(by rw[e] at hgs;cases hgs),fun h=>(XH h).elim,fun h=>(XH h).elim,eQ,by simp,fun _=>rfl⟩,by simpa [Rec.out,gone] using h1⟩,?_⟩
    simpa [fF,bp,Rec.out,gone] using h2
   obtain⟨CY,h⟩:=h
   generalize dt:evalOp V (fun x=>(strip [] (bd tm x)).1) l0 (l0.length+news.length) o=res at h
   obtain⟨t,bI,ob⟩:=res
   simp only at h
   obtain⟨af,eQ,h⟩:=h
   split at h
   ·obtain⟨rs,h1,h2⟩:=zm r (k+1) _ _ h
    refine⟨⟨tm,[],t,ob,none,l0.length+news.length⟩::rs,⟨_,rs,rfl,rfl,rfl,⟨⟨_,hg,⟨fun _=>trivial,fun _=>CY⟩⟩,fun _=>rfl,fun _=>dt,fun _=>af,eQ,by simp,fun _=>rfl⟩,by simpa [Rec.out] using h1⟩,?_⟩
    simpa [fF,bp,Rec.out] using h2
   ·rename_i a
    obtain⟨rs,h1,h2⟩:=zm r (k+1) _ _ h
    refine⟨⟨tm,[],t,ob,some a,l0.length+news.length⟩::rs,⟨_,rs,rfl,rfl,rfl,⟨⟨_,hg,⟨fun _=>trivial,fun _=>CY⟩⟩,fun _=>rfl,fun _=>dt,fun _=>af,eQ,by simp,fun h=>(h trivial).elim⟩,by simpa [Rec.out] using h1⟩,?_⟩
    simpa [fF,bp,Rec.out] using h2
   exact h.elim
theorem oP.len {V:Env} {n:Nat} {ops:List Oper} {l0:List AO}:∀ {r:List Oper} {k:Nat} {tm:Tm} {c:Nat} {rs:List Rec},oP V n ops l0 r k tm c rs→rs.length=r.length
 | [],_,_,_,rs,h=>by simp only[oP] at h;subst h;rfl
 | o::r,k,tm,c,rs,h=>by
  obtain⟨x,I9,rfl,_,_,_,h'⟩:=h
  simp[h'.len]
theorem oP.at_ {V:Env} {n:Nat} {ops:List Oper} {l0:List AO}:∀ {r:List Oper} {k:Nat} {tm:Tm} {c:Nat} {rs:List Rec},oP V n ops l0 r k tm c rs→∀ (i:Nat) o x,r[i]?=some o→rs[i]?=some x →
  aeO V n ops l0 o x∧x.tm=fF tm (r.take i) (rs.take i)∧x.nid=l0.length+c+(bp k (rs.take i)).length
 | [],_,_,_,rs,h,i,o,x,ho,hx=>by simp at ho
 | q::r,k,tm,c,rs,h,i,o,x,ho,hx=>by
  obtain⟨y,I9,rfl,h1,h2,h3,h4⟩:=h
  rcases i with _ | i
  ·simp at ho hx;subst ho;subst hx
   exact⟨h3,by simp[fF];exact h1,by simp[bp];omega⟩
  simp at ho hx
  obtain⟨g1,g2,g3⟩:=h4.at_ i o x ho hx
  refine⟨g1,by simpa [fF] using g2,?_⟩
  rw[g3]
  cases hn:y.new<;>simp[bp,hn]<;>omega
theorem yc:∀ (r:List Oper) (rs:List Rec) (tm:Tm) (t:Nat),(∀ o∈r,o.dst≠some t)→get (fF tm r rs) t=get tm t
 | [],rs,tm,t,_=>by cases rs<;>rfl
 | o::r,[],tm,t,_=>rfl
 | o::r,x::rs,tm,t,h=>by
  simp only[fF]
  rw[yc r rs _ t (fun q hq=>h q (by simp[hq]))]
  have:=h o (by simp)
  cases hd:o.dst with
  | none=>rfl
  | some d=>simp only[bq,Wl];rw[if_neg (fun e=>this (by rw[hd,e]))]
theorem zq:∀ (r:List Oper) (rs:List Rec) (tm:Tm) (t i:Nat) (o:Oper) (x:Rec),r[i]?=some o→rs[i]?=some x→o.dst=some t→(∀ j q,r[j]?=some q→j≠i→q.dst≠some t)→get (fF tm r rs) t=x.out
 | [],rs,tm,t,i,o,x,ho,_,_,_=>by simp at ho
 | q::r,[],tm,t,i,o,x,_,hx,_,_=>by simp at hx
 | q::r,y::rs,tm,t,i,o,x,ho,hx,hd,hu=>by
  simp only[fF]
  rcases i with _ | i
  ·simp at ho hx;subst ho;subst hx
   rw[yc r rs _ t (fun q' jt=>by
    obtain⟨j,hj,rfl⟩:=List.mem_iff_getElem.1 jt
    exact hu (j+1) _ (by simpa using List.getElem?_eq_getElem hj) (by omega))]
   rw[hd];simp[bq,Wl]
  simp at ho hx
  exact zq r rs _ t i o x ho hx hd (fun j q' jt hj=>hu (j+1) q' (by simpa using jt) (by omega))
theorem zY:∀ (rs:List Rec) (k:Nat),(∀ p∈bp k rs,k≤p.1∧p.1 < k+rs.length)∧(∀ (i:Nat) x a,rs[i]?=some x→x.new=some a→(bp k rs)[(bp k (rs.take i)).length]?=some (k+i,a)) ∧
  (∀ (p q:Nat) x y,(bp k rs)[p]?=some x→(bp k rs)[q]?=some y→x.1=y.1→p=q)
 | [],k=>by simp[bp]
 | r::rs,k=>by
  obtain⟨h1,h2,h3⟩:=zY rs (k+1)
  cases hn:r.new with
  | none=>
   simp only[bp,hn,List.nil_append]
   refine⟨fun p hp=>by have:=h1 p hp;simp;omega,fun i x a hx ha=>?_,h3⟩
   rcases i with _ | i
   ·simp at hx;subst hx;rw[hn] at ha;cases ha
   simp at hx
   have:=h2 i x a hx ha
   simp only[List.take_succ_cons,bp,hn,List.nil_append]
   rw[this];congr 2;omega
  | some b=>
   simp only[bp,hn,List.cons_append,List.nil_append]
   refine⟨fun p hp=>?_,fun i x a hx ha=>?_,fun p q x y hx hy he=>?_⟩
   ·rcases List.mem_cons.1 hp with rfl | hp
    ·simp
    have:=h1 p hp;simp;omega
   ·rcases i with _ | i
    ·simp at hx;subst hx;rw[hn] at ha;injection ha with ha;subst ha;simp[bp]
    simp at hx
    have:=h2 i x a hx ha
    simp only[List.take_succ_cons,bp,hn,List.cons_append,List.nil_append,List.length_cons,List.getElem?_cons_succ]
    rw[this];congr 2;omega
   rcases p with _ | p<;>rcases q with _ | q
   ·rfl
   ·simp at hx hy;subst hx
    have:=(h1 y (List.mem_of_getElem? hy)).1;simp at he;omega
   ·simp at hx hy;subst hy
    have:=(h1 x (List.mem_of_getElem? hx)).1;simp at he;omega
   simp at hx hy
   rw[h3 p q x y hx hy he]
theorem IB:∀ (rs:List Rec) (k:Nat) p,p∈bp k rs→∃ i x,p.1=k+i∧rs[i]?=some x∧x.new=some p.2
 | [],k,p,h=>by simp[bp] at h
 | r::rs,k,p,h=>by
  simp only[bp,List.mem_append] at h
  rcases h with h | h
  ·cases hn:r.new with
   | none=>simp[hn] at h
   | some a=>simp[hn] at h;subst h;exact⟨0,r,rfl,rfl,hn⟩
  obtain⟨i,x,h1,h2,h3⟩:=IB rs (k+1) p h
  exact⟨i+1,x,by omega,by simpa using h2,h3⟩
def cp (l0:List AO) (news:List (Nat×AO)) (L:Nat→Bool):List AO:=l0++news.map fun p=>if L p.1=true then p.2 else .dead
theorem SN {l0:List AO} {news:List (Nat×AO)} {L:Nat→Bool} {p:Nat} {k:Nat} {a:AO} (h:news[p]?=some (k,a)):(cp l0 news L)[l0.length+p]?=some (if L k=true then a else .dead):=by
 unfold cp
 rw[List.getElem?_append_right (by omega),Nat.add_sub_cancel_left,List.getElem?_map,h];rfl
theorem aaD {l0:List AO} {news:List (Nat×AO)} {L:Nat→Bool}:jm l0 (cp l0 news L):=fun _ aB=>List.getElem?_append_left aB
theorem aaF {l0:List AO} {news:List (Nat×AO)} {L L':Nat→Bool} {p k:Nat} {a:AO} (h:news[p]?=some (k,a)) (hu:∀ q x,news[q]?=some x→x.1=k→q=p) (hL:∀ j,L' j=if j=k then true else L j) :
  (cp l0 news L).set (l0.length+p) a=cp l0 news L':=by
 apply List.ext_getElem?
 intro i
 rw[List.getElem?_set]
 by_cases hi:l0.length+p=i
 ·subst hi
  rw[if_pos rfl,if_pos (by unfold cp;have:=(List.getElem?_eq_some_iff.1 h).1;simp;omega),SN h,hL k];simp
 rw[if_neg hi]
 unfold cp
 by_cases h0:i < l0.length
 ·rw[List.getElem?_append_left h0,List.getElem?_append_left h0]
 rw[List.getElem?_append_right (by omega),List.getElem?_append_right (by omega),List.getElem?_map,List.getElem?_map]
 cases hx:news[i - l0.length]? with
 | none=>rfl
 | some x=>
  have:x.1≠k:=fun e=>hi (by have:=hu _ x hx e;omega)
  simp[hL,this]
theorem aaE {l0:List AO} {news:List (Nat×AO)} {L L':Nat→Bool} (h:∀ x∈news,L x.1=L' x.1):cp l0 news L=cp l0 news L':=by
 unfold cp
 congr 1
 apply List.map_congr_left
 intro x hx
 rw[h x hx]
end Go.an
namespace Go.an
open Go Go.RowKit
variable [ck] [dx]
theorem afU {α:Type} [DecidableEq α]:∀ (l:List α) (f:α→Bool) (i:α),l.Nodup→i∈l→f i=true→(l.filter fun k=>f k&&decide (k≠i)).length+1=(l.filter f).length
 | [],f,i,_,hi,_=>by cases hi
 | x::l,f,i,hn,hi,hf=>by
  have hx:x∉l:=(List.nodup_cons.1 hn).1
  by_cases h:x=i
  ·subst h
   have:l.filter (fun k=>f k&&decide (k≠x))=l.filter f:=by
    apply List.filter_congr
    intro k hk
    have:k≠x:=fun e=>hx (e▸hk)
    simp[this]
   have:=congrArg List.length this
   simp at this
   simp[hf,this]
  have gi:i∈l:=by
   rcases List.mem_cons.1 hi with e | e
   ·exact absurd e.symm h
   exact e
  have ih:=afU l f i (List.nodup_cons.1 hn).2 gi hf
  cases Q5:f x<;>simp[Q5,h]<;>simp at ih<;>omega
def oq (N:Nat) (listed:Array Bool):Nat:=((List.range N).filter fun i=> !listed.getD i false).length
theorem OP {N i:Nat} {listed:Array Bool} (hs:listed.size=N) (hi:i < N) (hu:listed.getD i false=false):oq N (listed.setIfInBounds i true)+1=oq N listed:=by
 unfold oq
 rw[←afU (List.range N) (fun i=> !listed.getD i false) i List.nodup_range (List.mem_range.2 hi) (by simp only[hu];rfl)]
 congr 2
 apply List.filter_congr
 intro k hk
 have hk:=List.mem_range.1 hk
 simp only[Array.getD_eq_getD_getElem?,Array.getElem?_setIfInBounds]
 by_cases h:i=k
 ·subst h;simp[hs,hi]
 simp[h,Ne.symm h]
theorem yb {N i k:Nat} {listed:Array Bool} (hs:listed.size=N) (hi:i < N):(listed.setIfInBounds i true).getD k false=if k=i then true else listed.getD k false:=by
 simp only[Array.getD_eq_getD_getElem?,Array.getElem?_setIfInBounds]
 by_cases h:i=k
 ·subst h;simp[hs,hi]
 simp[h,Ne.symm h]
theorem Wk {N i:Nat} {listed:Array Bool} (hs:listed.size=N) (hi:i < N):listed.getD i true=listed.getD i false:=by
 simp[Array.getD_eq_getD_getElem?,Array.getElem?_eq_getElem (show i < listed.size by omega)]
section
variable {P:Program} {V:Env} {w0:World} {I0:aC} {n:Nat} {md:Way} {ops:List Oper} {Q:Exit→Act→World→Prop} {K:St→Prop}
theorem Iu (h:ud ops=true) {i:Nat} {o:Oper} (ho:ops[i]?=some o):∀ j∈waits o,j < i:=by
 have:=List.all_eq_true.1 h i (List.mem_range.2 (List.getElem?_eq_some_iff.1 ho).1)
 simp only[ho,List.all_eq_true,decide_eq_true_eq] at this
 exact this
theorem tail_at {n1:Nat} (h:OM ops n1=true) {i:Nat} {o:Oper} (ho:ops[i]?=some o) (hi:n1≤i):∀ j,j < i→j∈waits o:=by
 intro j hj
 have:=List.all_eq_true.1 h i (List.mem_range.2 (List.getElem?_eq_some_iff.1 ho).1)
 simp only[ho,Bool.or_eq_true,decide_eq_true_eq,List.all_eq_true,List.mem_range,List.contains_iff_mem] at this
 rcases this with h | h
 ·omega
 exact h j hj
theorem pW {n1:Nat} (h:qC ops n1=true) {i j:Nat} {o q:Oper} (hi:i < n1) (hj:j < n1) (ho:ops[i]?=some o) (hq:ops[j]?=some q) {d:Nat} (hd:q.dst=some d) :
  (i≠j→o.dst≠some d)∧(d∈o5 ops o→j < i∧j∈waits o):=by
 have:=List.all_eq_true.1 h i (List.mem_range.2 hi)
 simp only[ho] at this
 have:=List.all_eq_true.1 this j (List.mem_range.2 hj)
 simp only[hq,hd,Bool.and_eq_true,Bool.or_eq_true,decide_eq_true_eq,Bool.not_eq_true',bne_iff_ne,ne_eq,List.contains_iff_mem] at this
 obtain⟨h1,h2⟩:=this
 refine⟨fun ba=>h1.resolve_left ba,fun hr=>?_⟩
 rcases h2 with h2 | h2
 ·have:=List.contains_iff_mem.2 hr
  rw[h2] at this;cases this
 exact h2
theorem ug {listed:Array Bool} {i:Nat} (hs:listed.size=ops.length) (hi:i < ops.length) {o:Oper} (ho:ops[i]?=some o):i∈Region.ready .any ops.toArray listed↔listed.getD i false=false∧∀ j∈waits o,listed.getD j false=true:=by
 rw[mem_ready]
 rw[Wk hs hi]
 refine and_congr_right fun _=>⟨?_,fun h=>⟨o,by simpa using ho,fun e he hb=>h e.on ?_⟩⟩
 ·rintro⟨o',cv,h⟩ j hj
  have:o'=o:=by simp[ho] at cv;exact cv.symm
  subst this
  obtain⟨e,he,rfl⟩:=List.mem_map.1 hj
  have he:=List.mem_filter.1 he
  exact h e (by simpa using he.1) he.2
 exact List.mem_map.2 ⟨e,List.mem_filter.2 ⟨by simpa using he,hb⟩,rfl⟩
theorem yR {listed:Array Bool} {i:Nat} (h:i∈Region.ready .any ops.toArray listed):i < ops.length:=by
 obtain⟨_,o,ho,_⟩:=mem_ready.1 h
 have:=(Array.getElem?_eq_some_iff.1 ho).1
 simpa using this
theorem ac2 (hV:bO P V) (hK:∀ s a w,K s→Rel w0 I0 n s a w→Q .normal a w) {n1:Nat} (fM:ud ops=true) (iu:OM ops n1=true) :
  ∀ (fuel j:Nat) (s:St) (a:Act) (w:World) (listed:Array Bool),listed.size=ops.length→(∀ i,i < ops.length→listed.getD i false=decide (i < j))→n1≤j→j+fuel=ops.length→Rel w0 I0 n s a w→bu V n ops md (ops.drop j) s K →
   wpAnyIn dB 0 P .any ops.toArray Q fuel listed a w
 | 0,j,s,a,w,listed,hs,hl,hj,hf,aq,h=>by
  have:ops.drop j=[]:=List.drop_eq_nil_of_le (by omega)
  rw[this] at h
  refine⟨?_,hK s a w h aq⟩
  refine List.eq_nil_iff_forall_not_mem.2 fun i hi=>?_
  have aN:=yR hi
  have:=(ug hs aN (List.getElem?_eq_getElem aN)).1 hi
  rw[hl i aN] at this
  simp at this;omega
 | fuel+1,j,s,a,w,listed,hs,hl,hj,hf,aq,h=>by
  have ra:j < ops.length:=by omega
  have Bb:ops[j]?=some ops[j]:=List.getElem?_eq_getElem ra
  have ahR:j∈Region.ready .any ops.toArray listed:=(ug hs ra Bb).2 ⟨by rw[hl j ra];simp,fun i hi=>by have:=Iu fM Bb i hi;rw[hl i (by omega)];simpa using this⟩
  refine⟨fun h0=>(by rw[h0] at ahR;cases ahR),fun i hi=>?_⟩
  have aN:=yR hi
  have cg:ops[i]?=some ops[i]:=List.getElem?_eq_getElem aN
  obtain⟨h1,h2⟩:=(ug hs aN cg).1 hi
  have cj:i=j:=by
   rw[hl i aN] at h1
   have h1:¬ i < j:=by simpa using h1
   rcases Nat.lt_or_ge j i with HW | qZ
   ·have:=h2 j (tail_at iu cg (by omega) j HW)
    rw[hl j ra] at this;simp at this
   omega
  subst cj
  unfold wpOpIn
  have:ops.toArray[i]?=some ops[i]:=by simp[cg]
  rw[this]
  rw[List.drop_eq_getElem_cons ra] at h
  refine K0 hV aq h fun s' a' w' h' oE=>?_
  exact ac2 hV hK fM iu fuel (i+1) s' a' w' _ (by simp[hs]) (fun k hk=>by rw[yb hs ra,hl k hk];by_cases e:k=i<;>simp[e];omega) (by omega) (by omega) oE h'
structure Inv (w0:World) (I0:aC) (n n1:Nat) (ops:List Oper) (s0:St) (rs:List Rec) (listed:Array Bool) (a:Act) (w:World):Prop where
 size:a.tmps.size=n
 rel:∃ I m,aI w0 I0 w I m (cp s0.l (bp 0 rs) fun i=>listed.getD i false)∧iS w0.heap.size I a.defers ∧
  (∀ (i:Nat) o x d,i < n1→ops[i]?=some o→rs[i]?=some x→listed.getD i false=true→o.dst=some d→aw I m (cp s0.l (bp 0 rs) fun i=>listed.getD i false) (a.tmps.getD d undef) x.out) ∧
  (∀ d,(∀ (i:Nat) o,i < n1→ops[i]?=some o→listed.getD i false=true→o.dst≠some d)→aw I m (cp s0.l (bp 0 rs) fun i=>listed.getD i false) (a.tmps.getD d undef) (get s0.t d))
theorem aAy (listed:Array Bool) (n1:Nat):∀ N,n1≤N→(∀ i,i < N→listed.getD i false=decide (i < n1))→oq N listed=N - n1:=by
 intro N
 induction N with
 | zero=>intro _ _;simp[oq]
 | succ N ih=>
  intro hN h
  unfold oq
  rw[List.range_succ,List.filter_append,List.length_append]
  rcases Nat.lt_or_ge N n1 with aN | qZ
  ·have hn:n1=N+1:=by omega
   subst hn
   have h1:(List.range N).filter (fun i=> !listed.getD i false)=[]:=List.filter_eq_nil_iff.2 fun i hi=>by
    have hi:=List.mem_range.1 hi
    rw[h i (by omega)];simp;omega
   have h2:listed.getD N false=true:=by rw[h N (by omega)];simp
   rw[h1];simp only[List.filter_cons,h2];simp
  have:=ih qZ (fun i hi=>h i (by omega))
  unfold oq at this
  have h2:listed.getD N false=false:=by rw[h N (by omega)];simpa using qZ
  rw[this];simp only[List.filter_cons,h2];simp;omega
theorem akL {n1:Nat} (cG:qC ops n1=true) (eg:n1≤ops.length) {s0:St} {rs:List Rec} (qu:rs.length=n1) {listed:Array Bool} {a:Act} {w:World} (hinv:Inv w0 I0 n n1 ops s0 rs listed a w) (bL:∀ i,i < n1→listed.getD i false=true) :
  Rel w0 I0 n ⟨fF s0.t (ops.take n1) rs,s0.l++(bp 0 rs).map (·.2)⟩ a w:=by
 obtain⟨h1,I,m,h3,h2,h4,h5⟩:=hinv
 have hL:cp s0.l (bp 0 rs) (fun i=>listed.getD i false)=s0.l++(bp 0 rs).map (·.2):=by
  unfold cp
  congr 1
  apply List.map_congr_left
  intro p hp
  have:=(zY rs 0).1 p hp
  rw[if_pos (bL p.1 (by omega))]
 rw[hL] at h3 h4 h5
 refine⟨h1,I,m,h3,h2,fun k=>?_⟩
 by_cases hk:∃ i o,i < n1∧ops[i]?=some o∧o.dst=some k
 ·obtain⟨i,o,hi,ho,hd⟩:=hk
  have hx:rs[i]?=some rs[i]:=List.getElem?_eq_getElem (by omega)
  rw[zq (ops.take n1) rs s0.t k i o _ (by rw[List.getElem?_take,if_pos hi];exact ho) hx hd (fun j q hq hj=>by
   have tZ:j < n1:=by have:=(List.getElem?_eq_some_iff.1 hq).1;simp at this;omega
   rw[List.getElem?_take,if_pos tZ] at hq
   exact(pW cG tZ hi hq ho hd).1 hj)]
  exact h4 i o _ k hi ho hx (bL i hi) hd
 rw[yc (ops.take n1) rs s0.t k (fun o ho hd=>hk (by
  obtain⟨i,hi,rfl⟩:=List.mem_iff_getElem.1 ho
  have gi:i < n1:=by simp at hi;omega
  exact⟨i,_,gi,by rw[List.getElem?_eq_getElem (by omega)],by simpa using hd⟩))]
 exact h5 k (fun i o hi ho _ hd=>hk ⟨i,o,hi,ho,hd⟩)
theorem axT (hV:bO P V) (hK:∀ s a w,K s→Rel w0 I0 n s a w→Q .normal a w) {n1:Nat} (fM:ud ops=true) (iu:OM ops n1=true) (cG:qC ops n1=true) (eg:n1≤ops.length) {s0:St} {rs:List Rec}
  (cD:oP V n ops s0.l (ops.take n1) 0 s0.t 0 rs) (cM:bu V n ops md (ops.drop n1) ⟨fF s0.t (ops.take n1) rs,s0.l++(bp 0 rs).map (·.2)⟩ K) :
  ∀ (fuel:Nat) (a:Act) (w:World) (listed:Array Bool),listed.size=ops.length→oq ops.length listed=fuel→(∀ i,n1≤i→i < ops.length→listed.getD i false=false)→Inv w0 I0 n n1 ops s0 rs listed a w →
   wpAnyIn dB 0 P .any ops.toArray Q fuel listed a w:=by
 have qu:rs.length=n1:=by rw[cD.len];simp;omega
 have jc:∀ i,i < n1→(ops.take n1)[i]?=ops[i]?:=fun i hi=>by rw[List.getElem?_take,if_pos hi]
 intro fuel
 induction fuel with
 | zero=>
  intro a w listed hs hu ke hinv
  have bL:∀ i,i < ops.length→listed.getD i false=true:=by
   intro i hi
   have:=List.length_eq_zero_iff.1 hu
   have:=(List.filter_eq_nil_iff.1 this) i (List.mem_range.2 hi)
   simpa using this
  have hN:n1=ops.length:=by
   rcases Nat.lt_or_ge n1 ops.length with h | h
   ·have:=ke n1 (Nat.le_refl _) h;rw[bL n1 h] at this;cases this
   omega
  exact ac2 hV hK fM iu 0 n1 _ a w listed hs (fun i hi=>by rw[bL i hi];simp;omega) (Nat.le_refl _) (by omega) (akL cG eg qu hinv (fun i hi=>bL i (by omega))) cM
 | succ fuel ih=>
  intro a w listed hs hu ke hinv
  by_cases bL:∀ i,i < n1→listed.getD i false=true
  ·have hl:∀ i,i < ops.length→listed.getD i false=decide (i < n1):=by
    intro i hi
    by_cases h:i < n1
    ·rw[bL i h];simp[h]
    rw[ke i (by omega) hi];simp[h]
   have:=aAy listed n1 ops.length eg hl
   exact ac2 hV hK fM iu (fuel+1) n1 _ a w listed hs hl (Nat.le_refl _) (by omega) (akL cG eg qu hinv bL) cM
  obtain⟨aS,I,m,hw,dZ,yl,CJ⟩:=hinv
  have hex:∃ i,i < n1∧listed.getD i false=false:=by
   refine Classical.byContradiction fun h=>bL fun i hi=>?_
   cases hb:listed.getD i false with
   | true=>rfl
   | false=>exact absurd ⟨i,hi,hb⟩ h
  have A9:∃ i,i < n1∧listed.getD i false=false∧∀ j,j < i→listed.getD j false=true:=by
   obtain⟨i,hi⟩:=hex
   induction i using Nat.strongRecOn with
   | ind i Bk=>
    by_cases h:∃ j,j < i∧listed.getD j false=false
    ·obtain⟨j,hj,hb⟩:=h
     exact Bk j hj ⟨by omega,hb⟩
    refine⟨i,hi.1,hi.2,fun j hj=>?_⟩
    cases hb:listed.getD j false with
    | true=>rfl
    | false=>exact absurd ⟨j,hj,hb⟩ h
  obtain⟨i0,Q7,pO,yk⟩:=A9
  have uW:ops[i0]?=some ops[i0]:=List.getElem?_eq_getElem (by omega)
  have uY:i0∈Region.ready .any ops.toArray listed:=(ug hs (by omega) uW).2 ⟨pO,fun j hj=>yk j (Iu fM uW j hj)⟩
  refine⟨fun h0=>(by rw[h0] at uY;cases uY),fun i hi=>?_⟩
  have aN:=yR hi
  have cg:ops[i]?=some ops[i]:=List.getElem?_eq_getElem aN
  obtain⟨h1,h2⟩:=(ug hs aN cg).1 hi
  have iJ:i < n1:=by
   rcases Nat.lt_or_ge i n1 with h | h
   ·exact h
   have:=h2 i0 (tail_at iu cg h i0 (by omega));rw[pO] at this;cases this
  generalize ops[i]=o at cg h2
  have hx:rs[i]?=some rs[i]:=List.getElem?_eq_getElem (by omega)
  generalize rs[i]=x at hx
  obtain⟨oX,rb,sZ⟩:=cD.at_ i o x (by rw[jc i iJ];exact cg) hx
  obtain⟨⟨qc,hg,xf⟩,HS,dt,af,eQ,fA,Q6⟩:=oX
  unfold wpOpIn
  have:ops.toArray[i]?=some o:=by simpa using cg
  simp only[this]
  have u0:∀ t,t∈o5 ops o→aw I m (cp s0.l (bp 0 rs) fun i=>listed.getD i false) (a.tmps.getD t undef) (get x.tm t):=by
   intro t ht
   rw[rb]
   rw[show(ops.take n1).take i=ops.take i by rw[List.take_take];congr 1;omega]
   by_cases hk:∃ j q,j < n1∧ops[j]?=some q∧q.dst=some t
   ·obtain⟨j,q,hj,hq,hd⟩:=hk
    obtain⟨ec,ET⟩:=(pW cG iJ hj cg hq hd).2 ht
    have wa:rs[j]?=some rs[j]:=List.getElem?_eq_getElem (by omega)
    rw[zq (ops.take i) (rs.take i) s0.t t j q _ (by rw[List.getElem?_take,if_pos ec];exact hq) (by rw[List.getElem?_take,if_pos ec];exact wa) hd (fun k q' jt hk=>by
     have gP:k < i:=by have:=(List.getElem?_eq_some_iff.1 jt).1;simp at this;omega
     rw[List.getElem?_take,if_pos gP] at jt
     exact(pW cG (by omega) hj jt hq hd).1 hk)]
    exact yl j q _ t hj hq wa (h2 j ET) hd
   rw[yc (ops.take i) (rs.take i) s0.t t (fun q hq hd=>hk (by
    obtain⟨j,hj,rfl⟩:=List.mem_iff_getElem.1 hq
    have gO:j < i:=by simp at hj;omega
    exact⟨j,_,by omega,by rw[List.getElem?_eq_getElem (by omega)],by simpa using hd⟩))]
   exact CJ t (fun j q hj hq _ hd=>hk ⟨j,q,hj,hq,hd⟩)
  have sY:∀ y∈o.op.operands,aw I m (cp s0.l (bp 0 rs) fun i=>listed.getD i false) (a.eval y) (bd x.tm y):=by
   intro y hy
   cases y with
   | tmp t=>exact u0 t (List.mem_append_left _ (List.mem_filterMap.2 ⟨.tmp t,by simpa using hy,rfl⟩))
   | const v=>exact Hs v
   | global g=>exact Hz hw.sat.dS g
   | func f=>exact .d _ _ (.fn f)
  have fX:=Jz (ops:=ops) (a:=a) (fun j b d tY hd=>u0 d (List.mem_append_right _ (by rw[tY];simp only;rw[hd];simp))) hg
  have fX:=fX.trans xf
  have dm:oq ops.length (listed.setIfInBounds i true)=fuel:=by have:=OP hs aN h1;omega
  have L9:∀ k,n1≤k→k < ops.length→(listed.setIfInBounds i true).getD k false=false:=fun k hk js=>by
   rw[yb hs aN,if_neg (by omega)];exact ke k hk js
  have ef:∀ j,(listed.setIfInBounds i true).getD j false=if j=i then true else listed.getD j false:=fun j=>yb hs aN
  have next:∀ (J:aC) (m':Nat→Value) (v:Value) (w':World),Le I m (cp s0.l (bp 0 rs) fun i=>listed.getD i false) J m' (cp s0.l (bp 0 rs) fun k=>(listed.setIfInBounds i true).getD k false) →
    aI w0 I0 w' J m' (cp s0.l (bp 0 rs) fun k=>(listed.setIfInBounds i true).getD k false)→aw J m' (cp s0.l (bp 0 rs) fun k=>(listed.setIfInBounds i true).getD k false) v x.out →
    wpAnyIn dB 0 P .any ops.toArray Q fuel (listed.setIfInBounds i true) (a.put o.dst v) w':=by
   intro J m' v w' hle dc hv
   refine ih _ _ _ (by simp[hs]) dm L9 ⟨by cases o.dst<;>simp[Act.put,aS],J,m',dc,dZ.put hle.eR,fun j q y d hj hq hy hl hd=>?_,fun d hd=>?_⟩
   ·by_cases ec:j=i
    ·subst ec
     rw[cg] at hq;injection hq with hq;subst hq
     rw[hx] at hy;injection hy with hy;subst hy
     have yn:d < n:=by rw[hd] at eQ;simpa [cR] using eQ
     have:(a.put o.dst v).tmps.getD d undef=v:=by simp[hd,Act.put,Array.getD_eq_getD_getElem?,aS,yn]
     rw[this];exact hv
    have LX:listed.getD j false=true:=by rw[ef j,if_neg ec] at hl;exact hl
    have ba:o.dst≠some d:=(pW cG iJ hj cg hq hd).1 (Ne.symm ec)
    have:(a.put o.dst v).tmps.getD d undef=a.tmps.getD d undef:=by
     cases qt:o.dst with
     | none=>rfl
     | some d'=>
      have:d'≠d:=fun e=>ba (by rw[qt,e])
      simp[Act.put,Array.getD_eq_getD_getElem?,this]
    rw[this];exact(yl j q y d hj hq hy LX hd).mono hle
   have ba:o.dst≠some d:=hd i o iJ cg (by rw[ef i,if_pos rfl])
   have:(a.put o.dst v).tmps.getD d undef=a.tmps.getD d undef:=by
    cases qt:o.dst with
    | none=>rfl
    | some d'=>
     have:d'≠d:=fun e=>ba (by rw[qt,e])
     simp[Act.put,Array.getD_eq_getD_getElem?,this]
   rw[this]
   exact(CJ d (fun j q hj hq hl=>hd j q hj hq (by rw[ef j];split<;>first | rfl | exact hl))).mono hle
  have sb:x.new=none→(cp s0.l (bp 0 rs) fun i=>listed.getD i false)=cp s0.l (bp 0 rs) fun k=>(listed.setIfInBounds i true).getD k false:=by
   intro dj
   refine aaE fun p hp=>?_
   rw[ef p.1,if_neg]
   intro he
   obtain⟨i',x',e1,e2,e3⟩:=IB rs 0 p hp
   have:i'=i:=by omega
   subst this
   rw[hx] at e2;injection e2 with e2;subst e2
   rw[dj] at e3;cases e3
  by_cases hp:holds x.pc
  ·rw[if_pos (fX.2 hp)]
   obtain⟨qs,Ba⟩:=af hp
   have dt:=dt hp
   have xc:=Hv (show(evalOp V (fun y=>(strip x.pc (bd x.tm y)).1) s0.l x.nid o).ob by rw[dt];exact qs)
   have vY:∀ y∈o.op.operands,aw I m (cp s0.l (bp 0 rs) fun i=>listed.getD i false) (a.eval y) (strip x.pc (bd x.tm y)).1:=fun y hy=>
    Ju (sY y hy) hp (Fz Ba _ (List.mem_map.2 ⟨y,by simpa using hy,rfl⟩))
   have ir:=AK (nid:=x.nid) hV hw (aaD (l0:=s0.l)) vY (by rw[dt];exact qs)
   rw[dt] at ir
   unfold cy at ir
   cases dj:x.new with
   | none=>
    simp only[dj] at ir
    refine cz.wpIn xc (ir.mono fun v w' ⟨J,hle,dc,hv⟩=>?_)
    rw[sb dj] at hle dc hv
    refine next J m v w' (by rw[sb dj];exact hle) dc ?_
    unfold Rec.out
    split
    ·exact hv
    exact .cond _ _ _ (fun _=>hv) (fun hn=>absurd hp hn)
   | some b=>
    simp only[dj] at ir
    have eG:x.pc=[]:=fA (by rw[dj];rfl)
    have cC:=(zY rs 0).2.1 i x b hx dj
    simp only[Nat.zero_add] at cC
    have A2:(cp s0.l (bp 0 rs) fun i=>listed.getD i false)[x.nid]?=some .dead:=by
     rw[sZ,Nat.add_zero]
     have:=SN (l0:=s0.l) (L:=fun i=>listed.getD i false) cC
     simp only[h1] at this
     simpa using this
    have j9:(cp s0.l (bp 0 rs) fun i=>listed.getD i false).set x.nid b=cp s0.l (bp 0 rs) fun k=>(listed.setIfInBounds i true).getD k false:=by
     rw[sZ,Nat.add_zero]
     exact aaF cC (fun q y hq hy=>(zY rs 0).2.2 q _ y _ hq cC hy) ef
    refine cz.wpIn xc ((ir A2).mono fun v w' ⟨m',hle,dc,hv⟩=>?_)
    rw[j9] at hle dc hv
    refine next I m' v w' hle dc ?_
    unfold Rec.out
    rw[if_pos eG];exact hv
  rw[if_neg (fun hh=>hp (fX.1 hh))]
  have eG:x.pc≠[]:=by intro e;rw[e] at hp;exact hp trivial
  have dj:x.new=none:=by
   cases yw:x.new with
   | none=>rfl
   | some b=>exact absurd (fA (by rw[yw];rfl)) eG
  have dc:=hw
  rw[sb dj] at dc
  refine⟨fun f _=>Aw f,next I m undef w (by rw[sb dj];exact .refl ..) dc ?_⟩
  unfold Rec.out
  rw[if_neg eG]
  exact .cond _ _ _ (fun h=>absurd h hp) (fun _=>rfl)
theorem aoe (hV:bO P V) (hm:P.follows .mixedOrders=true) (hK:∀ s a w,K s→Rel w0 I0 n s a w→Q .normal a w) {id:Nat} {s:St} {a:Act} {w:World} {n1:Nat} (fM:ud ops=true) (iu:OM ops n1=true) (cG:qC ops n1=true) (eg:n1≤ops.length)
  (aq:Rel w0 I0 n s a w) {rs:List Rec} (cD:oP V n ops s.l (ops.take n1) 0 s.t ([]:List (Nat×AO)).length rs) (cM:bu V n ops md (ops.drop n1) ⟨fF s.t (ops.take n1) rs,s.l++(([]:List (Nat×AO))++bp 0 rs).map (·.2)⟩ K):(Code.region id ops.toArray true).wpIn dB 0 P Q a w:=by
 obtain⟨aS,I,m,hw,dZ,ht⟩:=aq
 refine wpIn_region_any hm ?_
 have r8:∀ i,(Array.replicate ops.length false).getD i false=false:=fun i=>by
  rw[Array.getD_eq_getD_getElem?]
  cases hx:(Array.replicate ops.length false)[i]? with
  | none=>rfl
  | some b=>have:=Array.getElem?_eq_some_iff.1 hx;simp at this;simp[←this.2]
 have qy:aI w0 I0 { w with drawn:=w.drawn+1 } I m s.l:=(hw.call (w':={ w with drawn:=w.drawn+1 }) ⟨rfl,rfl,rfl,Nat.le_refl _,fun _ _=>rfl,fun _=>Nat.le_succ _⟩ (jn.refl _ _) ⟨hw.sat.cell,hw.sat.mp,hw.sat.df,hw.sat.dS⟩).1
 obtain⟨Bh,hle⟩:aI w0 I0 { w with drawn:=w.drawn+1 } I m (cp s.l (bp 0 rs) fun i=>(Array.replicate ops.length false).getD i false)∧Le I m s.l I m (cp s.l (bp 0 rs) fun i=>(Array.replicate ops.length false).getD i false):=by
  have:(cp s.l (bp 0 rs) fun i=>(Array.replicate ops.length false).getD i false)=s.l++List.replicate (bp 0 rs).length .dead:=by
   unfold cp
   congr 1
   rw[List.eq_replicate_iff]
   refine⟨by simp,fun b hb=>?_⟩
   obtain⟨p,_,rfl⟩:=List.mem_map.1 hb
   rw[if_neg (by simp only[r8];simp)]
  rw[this]
  generalize (bp 0 rs).length=c
  induction c with
  | zero=>simp;exact⟨qy,.refl ..⟩
  | succ c ih=>
   obtain⟨q1,q2⟩:=ih
   obtain⟨r1,r2⟩:=q1.push
   rw[List.replicate_succ',←List.append_assoc]
   exact⟨r1,q2.trans r2⟩
 have:=axT (Q:=Q) (K:=K) hV hK fM iu cG eg (s0:=s) (rs:=rs) (by simpa using cD) (by simpa using cM) ops.length a { w with drawn:=w.drawn+1 } (Array.replicate ops.length false) (by simp)
  (by unfold oq;rw[List.filter_eq_self.2 (fun i _=>by rw[r8];rfl)];simp) (fun i _ _=>r8 i)
  ⟨aS,I,m,Bh,dZ.mono hle.eR,fun i o x d hi ho hx hl=>(by rw[r8] at hl;cases hl),fun d _=>(ht d).mono hle⟩
 simpa using this
end
end Go.an
namespace Go.an
open Go Go.RowKit
variable [ck] [dx]
def aC.oJ (I:aC) (D:Nat):aC:=⟨I.cell,I.mp,fun b=>I.df b∧b≠D⟩
theorem Rd.oJ {I:aC} {D:Nat} {v:Value} {d:an.D} (h:Rd I v d):Rd (I.oJ D) v d:=Rd.Fu (J:=I.oJ D) (I:=I) (fun _ _ _ h=>h) (fun _ _ h=>h) h
theorem aw.oJ {I:aC} {m:Nat→Value} {l:List AO} {D:Nat} {v:Value} {t:T} (h:aw I m l v t):aw (I.oJ D) m l v t:=by
 induction h with
 | undef v=>exact .undef v
 | d v x r=>exact .d v x r.oJ
 | ao s=>exact .ao s
 | ptr id b off h1 h2=>exact .ptr id b off h1 h2
 | fy b o size els k off val h1 h2 h3 h4=>exact .fy b o size els k off val h1 h2 h3 (fun j x hx=>(h4 j x hx).oJ)
 | row A n c id h1 h2=>exact .row A n c id h1 h2
 | fQ A n c id x h1 h2 h3=>exact .fQ A n c id x h1 h2 h3.oJ
 | dH a id k off h1 h2=>exact .dH a id k off h1 h2
 | map r id h1 h2=>exact .map r id h1 h2
 | bn vs ts h1 _ ih=>exact .bn vs ts h1 ih
 | cond v pc t _ hn ih=>exact .cond v pc t ih hn
 | aR g vs ts h1 _ ih=>exact .aR g vs ts h1 ih
 | cE id b h1 h2=>exact .cE id b h1 h2
 | sub A n c id lo hi h1 h2=>exact .sub A n c id lo hi h1 h2
 | agg vs ts h1 h2 _ ih=>exact .agg vs ts h1 h2 ih
theorem aI.shut {w0 w:World} {I0 I:aC} {m:Nat→Value} {l:List AO} (h:aI w0 I0 w I m l) {D:Nat} (hD:I.df D) (hB:w0.heap.size≤D) (o':Obj):aI w0 I0 (w.putObj D o') (I.oJ D) m l:=by
 have aN:=h.sat.tu hD
 have yy:∀ b,b≠D→(w.putObj D o').heap[b]?=w.heap[b]?:=fun b hb=>World.putObj_heap_other hb
 have gE:∀ {b o v},I.cell b o=some v→b≠D:=fun {b o v} hc e=>by
  subst e
  have:=h.sat.cell b o v hc
  unfold World.cell? at this
  rw[h.sat.df b hD] at this;simp at this
 have X2:∀ {b es},I.mp b=some es→b≠D:=fun {b es} hc e=>by
  subst e
  have:=(h.sat.mp b es hc).1
  rw[h.sat.df b hD] at this;cases this
 refine⟨h.below.trans ⟨rfl,rfl,rfl,by simp,fun k hk=>yy k (by omega),fun _=>Nat.le_refl _⟩,⟨fun b o v hc=>?_,fun b es hc=>iT.to (yy b (X2 hc)) (h.sat.mp b es hc),fun b hd=>(yy b hd.2).trans (h.sat.df b hd.1),fun g d hg=>(h.sat.dS g d hg).oJ⟩,
  ⟨h.ext.lc,h.ext.lm,fun b hb hd=>⟨h.ext.ld b hb hd,by omega⟩,h.ext.cell,h.ext.mp⟩,fun id o ho=>?_,h.sep⟩
 ·exact(World.cell?_of_block (w:=w) (a:=⟨b,o,none⟩) (yy b (gE hc))).trans (h.sat.cell b o v hc)
 have yx:=h.obj id o ho
 by_cases LI:o = .dead
 ·subst LI;trivial
 have hw:∀ b,own (m id)=some b→(w.putObj D o').heap[b]?=w.heap[b]?:=fun b hb=>yy b (fun e=>by subst e;exact yx.yO h.sat LI hb hD)
 cases o with
 | dead=>trivial
 | var ty cs=>
  obtain⟨b,vs,q0,q1,q2,q3,q4,q5⟩:=yx
  exact⟨b,vs,q0,q1,(hw b (by rw[q0];rfl)).trans q2,q3,fun i x t hx ht=>⟨(q4 i x t hx ht).1.oJ,(q4 i x t hx ht).2⟩,q5⟩
 | row e size els=>
  obtain⟨xs,q1,q2,q3,q4⟩:=yx
  exact⟨xs,S2 q1 hw,q2,fun j x y hx hy=>(q3 j x y hx hy).oJ,q4⟩
 | cF e size els=>
  obtain⟨xs,q1,q2,q3,q4⟩:=yx
  exact⟨xs,S2 q1 hw,q2,fun j x y hx hy=>(q3 j x y hx hy).oJ,q4⟩
 | map ks vs=>
  obtain⟨b,es,q0,q1,q2,q3,q4,q5,q6,q7⟩:=yx
  exact⟨b,es,q0,q1,iT.to (hw b (by rw[q0];rfl)) q2,q3,q4,fun i e d he hd=>(q5 i e d he hd).oJ,fun i e d he hd=>(q6 i e d he hd).oJ,q7⟩
 | oR ks vs=>
  obtain⟨b,es,q0,q1,q2,q3,q4,q5,q6,q7,q8⟩:=yx
  exact⟨b,es,q0,q1,iT.to (hw b (by rw[q0];rfl)) q2,q3,q4,fun i e d he hd=>(q5 i e d he hd).oJ,fun i e d he hd=>(q6 i e d he hd).oJ,q7,q8⟩
 | iter ks vs done=>
  obtain⟨b,mb,es,seen,q0,q1,q2,q3,q4,q5,q6,q7,q8,q9⟩:=yx
  exact⟨b,mb,es,seen,q0,q1,(hw b (by rw[q0];rfl)).trans q2,q3,q4,q5,fun i e d he hd=>(q6 i e d he hd).oJ,fun i e d he hd=>(q7 i e d he hd).oJ,q8,q9⟩
 | frame base vals t=>exact⟨yx.1,yx.2.1,fun k=>(yx.2.2 k).oJ⟩
 | loop base n ps cQ body t st ed=>
  obtain⟨b,r,q0,q1,q2,q3,q4,q5,q6⟩:=yx
  exact⟨b,r,q0,q1,(hw b (by rw[q0];rfl)).trans q2,q3,q4,fun k=>(q5 k).oJ,q6⟩
theorem ald {P:Program} {F:Fence} {n:Nat} {w0:World} {I0:aC} {m:Nat→Value} {l:List AO}:∀ (Ds:List Nat) (w:World) (I:aC),aI w0 I0 w I m l→Ds.Nodup→(∀ D∈Ds,w0.heap.size≤D∧I.df D) →
  ∃ w' J,aI w0 I0 w' J m l∧(∀ b,b∉Ds→I.df b→J.df b)∧(∀ v t,aw I m l v t→aw J m l v t)∧∀ (fn:Func) (tmps:Array Value) (R:Ending→World→Prop),(∃ v,(results fn tmps).run P w' = .ok v w'∧R (.returned v) w')→LeavesInM F n P fn tmps R (Ds.map mark) .returning w
 | [],w,I,h,_,_=>⟨w,I,h,fun _ _ h=>h,fun _ _ h=>h,fun _ _ _ hr=>hr⟩
 | D::Ds,w,I,h,gj,oU=>by
  obtain⟨hB,hD⟩:=oU D (by simp)
  obtain⟨eg,hn2⟩:=List.nodup_cons.1 gj
  obtain⟨w',J,r1,r2,r3,r4⟩:=ald (P:=P) (F:=F) (n:=n) Ds (w.putObj D (.deferred none)) (I.oJ D) (h.shut hD hB _) hn2 fun x hx=>⟨(oU x (by simp[hx])).1,(oU x (by simp[hx])).2,fun e=>eg (e▸hx)⟩
  refine⟨w',J,r1,fun b hb hd=>r2 b (fun hm=>hb (by simp[hm])) ⟨hd,fun e=>hb (by simp[e])⟩,fun v t hv=>r3 v t hv.oJ,fun fn tmps R hr=>?_⟩
  exact⟨by simp,.inl ⟨D,_,rfl,run_takeDeferred (h.sat.df D hD),r4 fn tmps R hr⟩⟩
theorem Vx {P:Program} {f:FuncId} {fn:Func} {c:Code} {args:Array Value} {w:World} {R:Ending→World→Prop} (Ye:dx.r=none) (hf:P.funcs[f]?=some fn) (hb:fn.body=some c)
  (h:c.wpIn dB 0 P (bodyPostM dB 0 P fn R) { tmps:=args++Array.replicate (fn.ntmps - args.size) undef,defers:=[] } w):Calls P f args w R:=by
 have e:dB=Fence.wide:=by unfold dB;rw[Ye];rfl
 rw[e] at h
 exact(callsIn_wide (n:=0)).1 (callsIn_of_wp_marks hf hb trivial h)
theorem VP {P:Program} {fn:Func} {e:Exit} {a:Act} {w0 w:World} {I0 I:aC} {m:Nat→Value} {l:List AO} (he:e = .ret∨e = .normal) (h:aI w0 I0 w I m l) (hd:iS w0.heap.size I a.defers) :
  ∃ w' J,aI w0 I0 w' J m l∧(∀ b,dx.pR b→J.df b)∧(∀ v t,aw I m l v t→aw J m l v t)∧∀ (R:Ending→World→Prop),(∃ v,(results fn a.tmps).run P w' = .ok v w'∧R (.returned v) w')→bodyPostM dB 0 P fn R e a w:=by
 obtain⟨Ds,h1,h2,h3,h4⟩:=hd
 obtain⟨w',J,r1,r2,r3,r4⟩:=ald (P:=P) (F:=dB) (n:=0) Ds w I h h2 fun D hD=>⟨(h3 D hD).1,(h3 D hD).2.2⟩
 refine⟨w',J,r1,fun b hk=>r2 b (fun hm=>(h3 b hm).2.1 hk) (h4 b hk),r3,fun R hr=>?_⟩
 have:=r4 fn a.tmps R hr
 rw[←h1] at this
 rcases he with rfl | rfl<;>exact this
def ab (P:Program) (w0:World) (I0:aC) (n:Nat) (c:Code) (s:St) (Q:Exit→St→Prop):Prop:=
 ∀ a w,Rel w0 I0 n s a w→c.wpIn dB 0 P (fun e a' w'=>∃ s',Q e s'∧Rel w0 I0 n s' a' w') a w
def Sub (s s':St):Prop:=∀ w0 I0 n a w,Rel w0 I0 n s a w→Rel w0 I0 n s' a w
theorem Sub.refl (s:St):Sub s s:=fun _ _ _ _ _ h=>h
section
variable {P:Program} {V:Env} {w0:World} {I0:aC} {n:Nat} {Q Q':Exit→St→Prop} {s s':St} {x y:Code}
theorem ab.mono (h:ab P w0 I0 n x s Q) (hq:∀ e s,Q e s→Q' e s):ab P w0 I0 n x s Q':=fun a w hr=>
 Code.wpIn_mono (fun e _ _ ⟨s',h1,h2⟩=>⟨s',hq e s' h1,h2⟩) (h a w hr)
theorem ab.sub (hs:Sub s s') (h:ab P w0 I0 n x s' Q):ab P w0 I0 n x s Q:=fun a w hr=>h a w (hs _ _ _ _ _ hr)
def um (K:St→Prop) (Q:Exit→St→Prop):Exit→St→Prop
 | .normal,s=>K s
 | e,s=>Q e s
theorem ab.seq (h:ab P w0 I0 n x s (um (fun s'=>ab P w0 I0 n y s' Q) Q)):ab P w0 I0 n (x.seq y) s Q:=fun a w hr=>
 wpIn_seq (Code.wpIn_mono (fun e a' w' ⟨s',h1,h2⟩=>by
  cases e<;>first | exact h1 a' w' h2 | exact⟨s',h1,h2⟩) (h a w hr))
@[reducible] def cJ:dx:=⟨none,fun _=>False⟩
def G3:T→Option Bool
 | .d (.bool b)=>some b
 | _=>none
theorem ab.cond {c:Operand} {b:Bool} (hc:G3 (bd s.t c)=some b) (h1:b=true→ab P w0 I0 n x s Q) (h2:b=false→ab P w0 I0 n y s Q):ab P w0 I0 n (.cond c x y) s Q:=fun a w hr=>by
 have oE:=hr
 obtain⟨_,I,m,hw,_,ht⟩:=oE
 have hv:=Cz hw.sat.dS ht c
 have vT:bd s.t c = .d (.bool b):=by
  unfold G3 at hc
  split at hc
  ·rename_i b' hb;injection hc with hc;rw[hb,hc]
  cases hc
 rw[vT] at hv
 have:=dp hv
 generalize AY:a.eval c=v at this
 cases this
 refine wpIn_cond AY ?_
 cases b with
 | true=>exact h1 rfl a w hr
 | false=>exact h2 rfl a w hr
def aik (id:Nat) (Q:Exit→St→Prop):Exit→St→Prop
 | .exit YJ,s=>if YJ=id then Q .normal s else Q (.exit YJ) s
 | e,s=>Q e s
theorem ab.block {id:Nat} (h:ab P w0 I0 n x s (aik id Q)):ab P w0 I0 n (.block id x) s Q:=fun a w hr=>
 wpIn_block (Code.wpIn_mono (fun e a' w' ⟨s',h1,h2⟩=>by
  cases e<;>first | exact⟨s',h1,h2⟩ | skip
  simp only[aik] at h1
  simp only[Exit.inBlock]
  split<;>rename_i hh
  ·rw[if_pos hh] at h1;exact⟨s',h1,h2⟩
  rw[if_neg hh] at h1;exact⟨s',h1,h2⟩) (h a w hr))
theorem ab.exit {id:Nat} (h:Q (.exit id) s):ab P w0 I0 n (.exit id) s Q:=fun _ _ hr=>wpIn_exit ⟨s,h,hr⟩
theorem ab.ret (h:Q .ret s):ab P w0 I0 n .ret s Q:=fun _ _ hr=>wpIn_ret ⟨s,h,hr⟩
theorem ab.skip (h:Q .normal s):ab P w0 I0 n .skip s Q:=fun _ _ hr=>wpIn_skip ⟨s,h,hr⟩
theorem ab.loop {X:Type} (F:X→St) (p:X→Prop) (μ:X→Nat) (x0:X) (h0:p x0) (hs:Sub s (F x0))
  (round:∀ z,p z→ab P w0 I0 n x (F z) (um (fun s'=>∃ z',p z'∧μ z' < μ z∧Sub s' (F z')) Q)):ab P w0 I0 n (.loop x) s Q:=fun a w hr=>by
 refine wpIn_loop_ghost (fun k a w=>∃ z,p z∧μ z=k∧Rel w0 I0 n (F z) a w) (μ x0) ⟨x0,h0,rfl,hs _ _ _ _ _ hr⟩ fun k a w ⟨z,hz,hk,hr⟩=>?_
 refine Code.wpIn_mono (fun e a' w' ⟨s',h1,h2⟩=>?_) (round z hz a w hr)
 cases e<;>first | exact⟨s',h1,h2⟩ | skip
 obtain⟨z',q1,q2,q3⟩:=h1
 exact⟨μ z',by omega,z',q1,rfl,q3 _ _ _ _ _ h2⟩
def dN (V:Env) (s:St):ResultVar→T×Prop
 | .tmp t=>(get s.t t,True)
 | .cell a ty=>match eI V.E ty s.l (get s.t a) with | ⟨t,.none,ob⟩=>(t,ob) | _=>(.undef,False)
def uh (V:Env) (s:St) (rv:List ResultVar) (r:D):Prop:=
 gr (rv.map fun v=>(dN V s v).2)∧match dQ s.l (rv.map fun v=>(dN V s v).1) with
  | some ([d],_)=>d=r
  | some (ds,_)=>D.bn ds=r
  | none=>False
def I8 (tmps:Array Value):ResultVar→Sem Value
 | .tmp t=>pure (tmps.getD t undef)
 | .cell b t=>do loadVar t (←asAddr (tmps.getD b undef))
theorem acf (fn:Func) (tmps:Array Value):results fn tmps=(do
  let vs ←fn.results.mapM (I8 tmps)
  pure (if h:vs.size=1 then vs[0] else .tuple vs)):=by
 unfold results
 congr 1
theorem aca (hE:cP P V.E) {I:aC} {m:Nat→Value} {w:World} {a:Act} (hw:aI w0 I0 w I m s.l) (ht:∀ k,aw I m s.l (a.tmps.getD k undef) (get s.t k)):∀ (rv:List ResultVar),gr (rv.map fun v=>(dN V s v).2) →
  ∃ vs:List Value,(rv.mapM (I8 a.tmps)).run P w = .ok vs w∧vs.length=rv.length∧∀ (i:Nat) v t,vs[i]?=some v→(rv.map fun v=>(dN V s v).1)[i]?=some t→aw I m s.l v t
 | [],_=>⟨[],by simp,rfl,by simp⟩
 | q::rv,h=>by
  obtain⟨h1,h2⟩:=h
  obtain⟨vs,k1,k2,k3⟩:=aca hE hw ht rv h2
  have hd:∃ v,(I8 a.tmps q).run P w = .ok v w∧aw I m s.l v (dN V s q).1:=by
   cases q with
   | tmp t=>exact⟨_,by simp[I8],ht t⟩
   | cell b ty=>
    simp only[dN] at h1 ⊢
    have hx:=ht b
    split at h1
    ·rename_i t ob hl
     obtain⟨_,u,q1,q2⟩:=aiP hE hw (jm.refl _) (ty:=ty) hx (by rw[hl];exact h1)
     rw[hl] at q2
     refine⟨u,?_,by simpa [hl] using q2⟩
     have:∃ ad,a.tmps.getD b undef = .pointer (some ad):=by
      generalize a.tmps.getD b undef=v at hx
      generalize get s.t b=tb at hx hl
      cases hx<;>first | exact⟨_,rfl⟩ | (simp only[eI,R.bad,R.mk.injEq] at hl;rw[←hl.2.2] at h1;exact h1.elim)
     obtain⟨ad,had⟩:=this
     rw[had] at q1
     simp only[Instr.loadAt,Instr.sureAddr,Sem.run_bind,Sem.run_pure,Result.andThen_ok] at q1
     simp only[I8,had,asAddr,Sem.run_bind,Sem.run_pure,Result.andThen_ok]
     exact q1
    exact h1.elim
  obtain⟨v,q1,q2⟩:=hd
  refine⟨v::vs,?_,by simp[k2],fun i u t hu hT=>?_⟩
  ·rw[List.mapM_cons]
   simp only[Sem.run_bind,q1,Result.andThen_ok,k1,Sem.run_pure]
  rcases i with _ | i
  ·simp at hu hT;subst hu;subst hT;exact q2
  simp at hu hT;exact k3 i u t hu (by simpa using hT)
def fk:Nat→List D→Tm
 | _,[]=>[]
 | k,d::ds=>(k,.d d)::fk (k+1) ds
theorem acX:∀ (ds:List D) (k j:Nat),get (fk k ds) j=if k≤j then(match ds[j - k]? with | some d=> .d d | none=> .undef) else .undef
 | [],k,j=>by simp[fk,get]
 | d::ds,k,j=>by
  simp only[fk,get]
  by_cases h:k=j
  ·subst h;simp
  rw[if_neg h,acX ds (k+1) j]
  by_cases h1:k≤j
  ·rw[if_pos (by omega),if_pos h1,show j - k=(j - (k+1))+1 by omega];simp
  rw[if_neg (by omega),if_neg h1]
def yS:Nat→List T→Tm
 | _,[]=>[]
 | k,t::ts=>(k,t)::yS (k+1) ts
theorem amf:∀ (ts:List T) (k j:Nat),get (yS k ts) j=if k≤j then(ts[j - k]?).getD .undef else .undef
 | [],k,j=>by simp[yS,get]
 | d::ds,k,j=>by
  simp only[yS,get]
  by_cases h:k=j
  ·subst h;simp
  rw[if_neg h,amf ds (k+1) j]
  by_cases h1:k≤j
  ·rw[if_pos (by omega),if_pos h1,show j - k=(j - (k+1))+1 by omega];simp
  rw[if_neg (by omega),if_neg h1]
def sw:List T→T
 | [t]=>t
 | ts=> .bn ts
def aeP (V:Env) (s2:St) (rv:List ResultVar) (base:Nat) (vals:Nat→Value) (ft:Tm) (K:T→List AO→Prop):Prop:=
 ∃ s3,Sub s2 s3∧gr (rv.map fun v=>(dN V s3 v).2)∧s3.l[base]?=some (.frame base vals ft)∧K (sw (rv.map fun v=>(dN V s3 v).1)) s3.l
theorem gZ.of {f:FuncId} {fn:Func} {c:Code} {ts:List T} {l:List AO} {K:T→List AO→Prop} (hV:bO P V) (fb:Enters P f) (hf:P.funcs[f]?=some fn) (hb:fn.body=some c) (hn:ts.length≤fn.ntmps)
  (h:∀ (R:dx),R.r=none→∀ w0 I0 vals ft (Q:Exit→St→Prop),(∀ e s2,(e = .ret∨e = .normal)→aeP V s2 fn.results.toList l.length vals ft K→Q e s2)→ab P w0 I0 fn.ntmps c ⟨yS 0 ts,l++[.frame l.length vals ft]⟩ Q):gZ P f ts l K:=by
 refine⟨fb,fun w0 I0 w I m args vals ft aq hlen dV LN=>?_⟩
 let R:dx:=⟨none,I.df⟩
 refine Vx (R:=fun e w'=>∃ v,e = .returned v∧∃ t l' J m',K t l'∧aI w0 I0 w' J m' l'∧aw J m' l' v t∧(∀ b,I.df b→J.df b)∧∀ k,aw J m' l' (vals k) (get ft k)) rfl hf hb ?_
 have CP:aI w0 I0 w I (bG m l.length (.bool false)) (l++[.frame l.length vals ft])∧Le I m l I (bG m l.length (.bool false)) (l++[.frame l.length vals ft]):=by
  have cB:∀ k,k < l.length→(l++[AO.frame l.length vals ft])[k]?=l[k]?:=fun k hk=>List.getElem?_append_left hk
  have vW:(l++[AO.frame l.length vals ft])[l.length]?=some (.frame l.length vals ft):=by simp
  have hle:Le I m l I (bG m l.length (.bool false)) (l++[.frame l.length vals ft]):=by
   refine⟨.refl I,by simp,fun id aB hv=>⟨?_,eh m _ (by omega)⟩,fun id aB hr=>⟨?_,eh m _ (by omega)⟩,fun id e' s' els' aB hh=>⟨els',?_⟩⟩
   ·unfold isVar at hv ⊢;rw[cB id aB];exact hv
   ·unfold isRow at hr ⊢;rw[cB id aB] at hr;exact hr
   rw[cB id aB] at hh;exact hh
  have dD:∀ k,k≠l.length→alive (l++[AO.frame l.length vals ft]) k=true→alive l k=true:=by
   intro k hk ha
   obtain⟨o,ho,hd⟩:=bZ.1 ha
   have js:k < l.length:=by have:=(List.getElem?_eq_some_iff.1 ho).1;simp at this;omega
   rw[cB k js] at ho
   exact bZ.2 ⟨o,ho,hd⟩
  refine⟨⟨aq.below,aq.sat,aq.ext,fun id o ho=>?_,fun i j b cj hi hj cY cT=>?_⟩,hle⟩
  ·by_cases aB:id < l.length
   ·rw[cB id aB] at ho;rw[eh m _ (by omega)]
    by_cases hd:o = .dead
    ·subst hd;trivial
    exact(aq.obj id o ho).pR hle (fun _ _=>rfl) (fun _ _=>⟨rfl,rfl⟩)
   have:id=l.length:=by
    have:=(List.getElem?_eq_some_iff.1 ho).1;simp at this;omega
   subst this
   rw[vW] at ho;injection ho with ho;subst ho
   rw[nT]
   refine⟨rfl,by simp,fun k=>?_⟩
   have e:(l++[AO.frame l.length vals ft]).take l.length=l:=by simp
   rw[e]
   refine(LN k).mono ⟨.refl I,Nat.le_refl _,fun id aB hv=>⟨hv,eh m _ (by omega)⟩,fun id aB hr=>⟨hr,eh m _ (by omega)⟩,fun id e' s' els' aB hh=>⟨els',hh⟩⟩
  by_cases h1:i=l.length
  ·subst h1;rw[nT] at cY;cases cY
  by_cases h2:j=l.length
  ·subst h2;rw[nT] at cT;cases cT
  rw[eh m _ h1] at cY;rw[eh m _ h2] at cT
  exact aq.sep i j b cj (dD i h1 hi) (dD j h2 hj) cY cT
 obtain⟨CP,hle⟩:=CP
 have Yo:Rel w0 I0 fn.ntmps ⟨yS 0 ts,l++[.frame l.length vals ft]⟩ { tmps:=args++Array.replicate (fn.ntmps - args.size) undef,defers:=[] } w:=by
  refine⟨by simp;omega,I,_,CP,iS.nil fun _ h=>h,fun k=>?_⟩
  rw[amf]
  simp only[Nat.zero_le,if_true,Nat.sub_zero]
  cases hd:ts[k]? with
  | none=>exact .undef _
  | some d=>
   have hk:k < args.size:=by rw[hlen];exact(List.getElem?_eq_some_iff.1 hd).1
   have hv:args[k]?=some args[k]:=Array.getElem?_eq_getElem hk
   have:(args++Array.replicate (fn.ntmps - args.size) undef).getD k undef=args[k]:=by
    rw[Array.getD_eq_getD_getElem?,Array.getElem?_append_left hk,hv];rfl
   rw[this]
   exact(dV k _ d hv hd).mono hle
 refine Code.wpIn_mono (fun e a w1 ⟨s2,⟨he,s3,mo,af,oA,hk⟩,hr⟩=>?_) (h R rfl w0 I0 vals ft (fun e s2=>(e = .ret∨e = .normal)∧aeP V s2 fn.results.toList l.length vals ft K) (fun e s2 he hx=>⟨he,hx⟩) _ _ Yo)
 obtain⟨_,J1,m',qy,dZ,E5⟩:=mo _ _ _ _ _ hr
 obtain⟨w',J,hw,XO,CL,cM⟩:=VP (P:=P) (fn:=fn) (a:=a) he qy dZ
 refine cM _ ?_
 have ht:∀ k,aw J m' s3.l (a.tmps.getD k undef) (get s3.t k):=fun k=>CL _ _ (E5 k)
 obtain⟨wz,q1,q2,q3⟩:=aca (P:=P) hV.E hw ht fn.results.toList af
 have dL:(results fn a.tmps).run P w' = .ok (if h:wz.length=1 then wz[0] else .tuple wz.toArray) w':=by
  rw[acf]
  simp only[Sem.run_bind,Array.mapM_eq_mapM_toList,Sem.run_map,q1,Result.andThen_ok,Sem.run_pure]
  simp
 have yp:=hw.obj _ _ oA
 refine⟨_,dL,_,rfl,_,_,J,m',hk,hw,?_,XO,fun k=>(yp.2.2 k).mono (Le.adg J m' s3.l l.length)⟩
 have iZ:wz.length=(fn.results.toList.map fun v=>(dN V s3 v).1).length:=by simp[q2]
 generalize (fn.results.toList.map fun v=>(dN V s3 v).1)=tl at iZ q3
 match tl,iZ with
 | [t],iZ=>
  have hl3:wz.length=1:=iZ
  rw[dif_pos hl3]
  exact q3 0 _ t (List.getElem?_eq_getElem (by omega)) rfl
 | [],iZ=>
  rw[dif_neg (by simp at iZ;simp[iZ])]
  exact .bn _ _ (by simpa using iZ) (fun i v d hv hd=>q3 i v d (by simpa using hv) hd)
 | t1::t2::tr,iZ=>
  rw[dif_neg (by rw[iZ];simp)]
  exact .bn _ _ (by simpa using iZ) (fun i v d hv hd=>q3 i v d (by simpa using hv) hd)
theorem ee.of {f:FuncId} {fn:Func} {c:Code} {ds:List D} {r:D} (hV:bO P V) (hf:P.funcs[f]?=some fn) (hb:fn.body=some c) (hn:ds.length≤fn.ntmps)
  (h:∀ (R:dx),R.r=none→∀ w0 I0,ab P w0 I0 fn.ntmps c ⟨fk 0 ds,[]⟩ fun e s=>(e = .ret∨e = .normal)∧uh V s fn.results.toList r):ee P f ds r:=by
 intro w I vs bX hlen dg
 let R:dx:=⟨none,I.df⟩
 refine Vx (R:=fun e w'=>∃ v J,e = .returned v∧eL w.heap.size w w'∧jn w.heap.size I J∧eD w' J∧Rd J v r) rfl hf hb ?_
 have aq:Rel w I fn.ntmps ⟨fk 0 ds,[]⟩ { tmps:=vs++Array.replicate (fn.ntmps - vs.size) undef,defers:=[] } w:=by
  refine⟨by simp;omega,I,fun _=>undef,⟨eL.refl _ _,bX,jn.refl _ _,by simp,by simp[alive,isVar,isRow]⟩,iS.nil fun _ h=>h,fun k=>?_⟩
  rw[acX]
  simp only[Nat.zero_le,if_true,Nat.sub_zero]
  cases hd:ds[k]? with
  | none=>exact .undef _
  | some d=>
   have hk:k < vs.size:=by rw[hlen];exact(List.getElem?_eq_some_iff.1 hd).1
   have hv:vs[k]?=some vs[k]:=Array.getElem?_eq_getElem hk
   have:(vs++Array.replicate (fn.ntmps - vs.size) undef).getD k undef=vs[k]:=by
    rw[Array.getD_eq_getD_getElem?,Array.getElem?_append_left hk,hv];rfl
   rw[this]
   exact .d _ _ (dg k _ d hv hd)
 refine Code.wpIn_mono (fun e a w1 ⟨s,⟨he,af,HX⟩,hr⟩=>?_) (h R rfl w I _ _ aq)
 obtain⟨_,J1,m,qy,dZ,E5⟩:=hr
 obtain⟨w',J,hw,_,CL,cM⟩:=VP (P:=P) (fn:=fn) (a:=a) he qy dZ
 refine cM _ ?_
 have ht:∀ k,aw J m s.l (a.tmps.getD k undef) (get s.t k):=fun k=>CL _ _ (E5 k)
 obtain⟨wz,q1,q2,q3⟩:=aca (P:=P) hV.E hw ht fn.results.toList af
 have fin:∃ v,(results fn a.tmps).run P w' = .ok v w'∧∃ J',jn w.heap.size I J'∧eD w' J'∧Rd J' v r:=by
  have dL:(results fn a.tmps).run P w' = .ok (if h:wz.length=1 then wz[0] else .tuple wz.toArray) w':=by
   rw[acf]
   simp only[Sem.run_bind,Array.mapM_eq_mapM_toList,Sem.run_map,q1,Result.andThen_ok,Sem.run_pure]
   simp
  refine⟨_,dL,?_⟩
  split at HX
  ·rename_i d l' hd
   obtain⟨J',le,r1,hl,Yf,_⟩:=DQ _ _ _ wz [d] l' hw (by simp[q2]) q3 hd
   subst HX
   have hl:wz.length=1:=hl
   refine⟨J',r1.ext,r1.sat,?_⟩
   rw[dif_pos hl]
   exact Yf 0 _ d (List.getElem?_eq_getElem (by omega)) rfl
  ·rename_i zi l' ba hd
   obtain⟨J',le,r1,hl,Yf,_⟩:=DQ _ _ _ wz zi l' hw (by simp[q2]) q3 hd
   subst HX
   refine⟨J',r1.ext,r1.sat,?_⟩
   by_cases h1:wz.length=1
   ·rw[h1] at hl
    match zi,hl with
    | [d],_=>exact(ba d rfl).elim
   rw[dif_neg h1]
   exact .bn _ _ (by simp[hl]) (fun i v d hv hd=>Yf i v d (by simpa using hv) hd)
  exact HX.elim
 obtain⟨v,p1,J',p2,p3,p4⟩:=fin
 exact⟨v,p1,v,J',rfl,hw.below,p2,p3,p4⟩
end
end Go.an
namespace Go.an
open Go Go.RowKit
theorem cP.aaG {P:Program} {wF:List (Nat×TI)} (h:wF.all (fun p=>ON P p.1 p.2)=true):cP P (fun t=>(wF.find? fun p=>p.1 == t).map (·.2)):=by
 intro t i ht
 cases hf:wF.find? (fun p=>p.1 == t) with
 | none=>simp[hf] at ht
 | some p=>
  simp[hf] at ht
  have h1:=List.find?_some hf
  have h2:=List.all_eq_true.1 h p (List.mem_of_find?_eq_some hf)
  simp at h1
  subst h1;subst ht
  exact h2
theorem Enters.of {P:Program} {f:FuncId} {fn:Func} (hf:P.funcs[f]?=some fn) (h:(fn.name == "runtime.NumGoroutine")=false∧fn.body.isNone=false):Enters P f:=by
 intro args w
 simp only[callFunc,Sem.run_bind,run_program,Result.andThen_ok,hf,h.1,h.2,Bool.false_eq_true,if_false,Sem.run_pure]
variable [ck] [dx]
section
variable {P:Program} {V:Env} {w0:World} {I0:aC} {n:Nat} {Q:Exit→St→Prop} {s s1:St} {y:Code}
end
end Go.an
namespace Go.an
open Go Go.RowKit
def K4 (sh:TypeId→Option (List Lf)):List Field→Nat→Option (List Lf)
 | [],_=>some []
 | f::r,off=>if f.name = "_" ∨ f.offset≠off then none else match sh f.type with
  | some ls=>(match K4 sh r (off+ls.length) with | some rs=>some (ls++rs) | none=>none)
  | none=>none
def zl (P:Program):Nat→TypeId→Option (List Lf)
 | 0,_=>none
 | d+1,t=>match P.info? t with
  | none=>none
  | some i=>match P.underlying t with
   | some .bool=>some [.bool]
   | some (.int k)=>some [.int k]
   | some .string=>some [.str]
   | some (.struct fs)=>if P.stoodInHeld t then none else match K4 (zl P d) fs.toList 0 with
    | some ls=>if i.size=ls.length then some ls else none
    | none=>none
   | _=>none
def Bu:Lf→Value→Bool
 | .bool,.bool _=>true
 | .int k,.int k' _=>k == k'
 | .str,.string _=>true
 | _,_=>false
def om:List Lf→List Value→Bool
 | [],[]=>true
 | x::xs,d::ds=>Bu x d&&om xs ds
 | _,_=>false
def KY:Value→Value→Bool
 | .bool a,.bool b=>a == b
 | .int _ a,.int _ b=>a == b
 | .string a,.string b=>a == b
 | _,_=>false
def qk:List Value→List Value→Bool
 | [],[]=>true
 | x::xs,y::ys=>KY x y&&qk xs ys
 | _,_=>false
theorem aaa:∀ {ls:List Lf} {vs:List Value},om ls vs=true→vs.length=ls.length
 | [],[],_=>rfl
 | _::_,_::_,h=>by simp only[om,Bool.and_eq_true] at h;simp[aaa h.2]
 | [],_::_,h=>by simp[om] at h
 | _::_,[],h=>by simp[om] at h
theorem Z9:∀ {a b:List Lf} {vs:List Value},om (a++b) vs=true→om a (vs.take a.length)=true∧om b (vs.drop a.length)=true
 | [],b,vs,h=>by simp[om];exact h
 | x::a,b,v::vs,h=>by
  simp only[List.cons_append,om,Bool.and_eq_true] at h
  obtain⟨h1,h2⟩:=Z9 h.2
  simp[om,h.1,h1,h2]
 | _::_,_,[],h=>by simp[om] at h
theorem afJ:∀ {a c:List Value} {b d:List Value},a.length=c.length→qk (a++b) (c++d)=(qk a c&&qk b d)
 | [],[],b,d,_=>by simp[qk]
 | x::a,y::c,b,d,h=>by simp only[List.cons_append,qk,afJ (a:=a) (c:=c) (by simpa using h),Bool.and_assoc]
 | [],_::_,_,_,h=>by simp at h
 | _::_,[],_,_,h=>by simp at h
section
variable {P:Program}
def wu (P:Program) (t:TypeId) (vs:List Value):Value:=match P.underlying t with
 | some (.struct _)=> .agg vs.toArray
 | _=>vs.headD undef
theorem azS {d:Nat} {t:TypeId} {ls:List Lf} (h:zl P d t=some ls):∃ i,P.info? t=some i∧((∃ fs,P.underlying t=some (.struct fs))→i.size=ls.length)∧((∀ fs,P.underlying t≠some (.struct fs))→ls.length=1)∧(∀ n e,P.underlying t≠some (.array n e))∧P.underlying t≠none:=by
 cases d with
 | zero=>simp[zl] at h
 | succ d=>
  simp only[zl] at h
  split at h
  ·cases h
  rename_i i hi
  refine⟨i,hi,?_⟩
  split at h
  ·rename_i hu;injection h with h;subst h;simp[hu]
  ·rename_i hu;injection h with h;subst h;simp[hu]
  ·rename_i hu;injection h with h;subst h;simp[hu]
  ·rename_i fs hu
   split at h
   ·cases h
   split at h
   ·split at h
    ·rename_i hs;injection h with h;subst h;simp[hu,hs]
    cases h
   cases h
  cases h
theorem ak2 {d:Nat} {t:TypeId} {ls:List Lf} (h:zl P d t=some ls) (xs:Array Value) (off:Nat) (hle:off+ls.length≤xs.size) (w:World) :
  (part t xs off).run P w = .ok (wu P t ((xs.toList.drop off).take ls.length)) w:=by
 obtain⟨i,hi,h1,h2,h3,h4⟩:=azS h
 cases hu:P.underlying t with
 | none=>exact absurd hu h4
 | some desc=>
  have EM:(isAgg t).run P w = .ok (match desc with | .struct _ | .array _ _=>true | _=>false) w:=by
   unfold isAgg;simp only[Sem.run_bind,run_underlying hu,Result.andThen_ok];cases desc<;>rfl
  have aS:(sizeOf t).run P w = .ok i.size w:=by simp[sizeOf,typeInfo,hi]
  cases desc with
  | struct fs=>
   have:=h1 ⟨fs,hu⟩
   simp only[part,Sem.run_bind,EM,Result.andThen_ok,if_true,aS,Sem.run_pure,wu,hu]
   congr 2
   apply Array.toList_inj.1
   rw[Array.toList_extract]
   simp[List.extract_eq_take_drop,this]
  | array n e=>exact absurd hu (h3 n e)
  | _=>
   have uN:=h2 (by simp[hu])
   have aN:off < xs.size:=by omega
   simp only[part,Sem.run_bind,EM,Result.andThen_ok,Bool.false_eq_true,if_false,Array.getElem?_eq_getElem aN,Sem.run_pure,wu,hu]
   congr 1
   rw[uN,List.drop_eq_getElem_cons (by simpa using aN)]
   simp
theorem akZ:∀ (d D:Nat) (t:TypeId) (ls:List Lf),zl P d t=some ls→d≤D→∀ (xs ys:List Value),om ls xs=true→om ls ys=true→∀ w,(Op.equalIn D t (wu P t xs) (wu P t ys)).run P w = .ok (qk xs ys) w:=by
 intro d
 induction d with
 | zero=>intro D t ls h;simp[zl] at h
 | succ d ih=>
  intro D t ls h hD xs ys hx hy w
  obtain⟨D,rfl⟩:∃ D',D=D'+1:=⟨D - 1,by omega⟩
  have hs:=h
  simp only[zl] at h
  split at h
  ·cases h
  rename_i i hi
  have one:∀ {x:Lf} {vs:List Value},om [x] vs=true→∃ v,vs=[v]∧Bu x v=true:=by
   intro x vs h
   match vs,h with
   | [v],h=>simp[om] at h;exact⟨v,rfl,h⟩
   | [],h=>simp[om] at h
   | _::_::_,h=>simp[om] at h
  split at h
  ·rename_i hu
   injection h with h;subst h
   obtain⟨u,rfl,HY⟩:=one hx
   obtain⟨v,rfl,jd⟩:=one hy
   cases u<;>simp[Bu] at HY
   cases v<;>simp[Bu] at jd
   simp only[wu,hu,List.headD,qk,KY,Bool.and_true]
   exact run_equalIn_bool w D t _ _ hu
  ·rename_i k hu
   injection h with h;subst h
   obtain⟨u,rfl,HY⟩:=one hx
   obtain⟨v,rfl,jd⟩:=one hy
   cases u<;>simp[Bu] at HY
   cases v<;>simp[Bu] at jd
   subst HY;subst jd
   simp only[wu,hu,List.headD,qk,KY,Bool.and_true]
   exact run_equalIn_int w D t _ _ _ _ hu
  ·rename_i hu
   injection h with h;subst h
   obtain⟨u,rfl,HY⟩:=one hx
   obtain⟨v,rfl,jd⟩:=one hy
   cases u<;>simp[Bu] at HY
   cases v<;>simp[Bu] at jd
   simp only[wu,hu,List.headD,qk,KY,Bool.and_true]
   rw[run_equalIn_string w D t _ _ hu,beq_toListBytes]
  ·rename_i fs hu
   split at h
   ·cases h
   rename_i gQ
   split at h
   ·rename_i ls' hf
    split at h
    ·injection h with h;subst h
     have yp:P.underlying t=some (.struct (P.fieldsOf t)):=by simp[Program.fieldsOf,hu]
     have Q4:P.fieldsOf t=fs:=by simp[Program.fieldsOf,hu]
     simp only[wu,hu]
     rw[run_equalIn_struct w D t _ _ yp (by simpa using gQ),Q4]
     have key:∀ (fl:List Field) (off:Nat) (rs:List Lf),K4 (zl P d) fl off=some rs→∀ (xs ys:List Value),off+rs.length=xs.length→xs.length=ys.length→om rs (xs.drop off)=true→om rs (ys.drop off)=true →
       (Op.eqFields D xs.toArray ys.toArray fl).run P w = .ok (qk (xs.drop off) (ys.drop off)) w:=by
      intro fl
      induction fl with
      | nil=>
       intro off rs hr xs ys h1 h2 h3 h4
       simp[K4] at hr;subst hr
       have e1:xs.drop off=[]:=List.drop_eq_nil_of_le (by simp at h1;omega)
       have e2:ys.drop off=[]:=List.drop_eq_nil_of_le (by simp at h1;omega)
       rw[e1,e2];simp[Op.eqFields,qk]
      | cons f fl ihf=>
       intro off rs hr xs ys h1 h2 h3 h4
       simp only[K4] at hr
       split at hr
       ·cases hr
       rename_i oT
       have X2:f.name ≠ "_" := fun e=>oT (.inl e)
       have Rh:f.offset=off:=Decidable.not_not.1 fun e=>oT (.inr e)
       split at hr
       ·rename_i ls Yn
        split at hr
        ·rename_i I9 cD
         injection hr with hr;subst hr
         rw[List.length_append] at h1
         obtain⟨a1,a2⟩:=Z9 h3
         obtain⟨b1,b2⟩:=Z9 h4
         rw[List.drop_drop] at a2 b2
         simp only[Op.eqFields,if_pos X2,Sem.run_bind,Rh]
         rw[ak2 Yn xs.toArray off (by simp;omega) w]
         simp only[Result.andThen_ok]
         rw[ak2 Yn ys.toArray off (by simp;omega) w]
         simp only[Result.andThen_ok]
         rw[ih D f.type ls Yn (by omega) _ _ a1 b1 w]
         simp only[Result.andThen_ok,Sem.run_ite]
         have ex:qk (xs.drop off) (ys.drop off)=(qk ((xs.drop off).take ls.length) ((ys.drop off).take ls.length)&&qk (xs.drop (off+ls.length)) (ys.drop (off+ls.length))):=by
          conv=>lhs;rw[←List.take_append_drop ls.length (xs.drop off),←List.take_append_drop ls.length (ys.drop off)]
          rw[afJ (by simp;omega),List.drop_drop,List.drop_drop]
         rw[ex]
         cases hb:qk ((xs.drop off).take ls.length) ((ys.drop off).take ls.length) with
         | false=>simp
         | true=>
          simp only[Bool.not_true,Bool.false_eq_true,if_false,Bool.true_and]
          exact ihf (off+ls.length) I9 cD xs ys (by omega) h2 a2 b2
        cases hr
       cases hr
     have cw:=aaa hx
     have hyl:=aaa hy
     have:=key fs.toList 0 ls' hf xs ys (by omega) (by omega) (by simpa using hx) (by simpa using hy)
     simpa using this
    cases h
   cases h
  cases h
def VR (P:Program) (t:TypeId) (ls:List Lf):Bool:=decide (zl P 30 t=some ls) && !P.eqGuardType P.depth t&&(match P.underlying t with | some .bool=>decide (ls=[.bool]) | some (.struct _)=>decide (ls≠[.bool]) | _=>false)
theorem aab {I:aC}:∀ {ls:List Lf} {vs:List Value} {ds:List D},vs.length=ds.length→(∀ (i:Nat) v d,vs[i]?=some v→ds[i]?=some d→Rd I v d)→et ls ds=true→om ls vs=true
 | [],[],[],_,_,_=>rfl
 | x::ls,v::vs,d::ds,hl,hr,h=>by
  simp only[et,Bool.and_eq_true] at h
  simp only[om,Bool.and_eq_true]
  refine⟨?_,aab (by simpa using hl) (fun i u e hu he=>hr (i+1) u e (by simpa using hu) (by simpa using he)) h.2⟩
  have h0:=hr 0 v d rfl rfl
  cases h0<;>cases x<;>simp[iM] at h<;>simp[Bu,h]
 | [],_::_,[],hl,_,_=>by simp at hl
 | [],[],_::_,hl,_,_=>by simp at hl
 | [],_::_,_::_,_,_,h=>by simp[et] at h
 | _::_,[],_::_,hl,_,_=>by simp at hl
 | _::_,_::_,[],hl,_,_=>by simp at hl
 | _::_,[],[],_,_,h=>by simp[et] at h
theorem afK {I:aC}:∀ {ls:List Lf} {vs us:List Value} {ds es:List D},vs.length=ds.length→us.length=es.length→(∀ (i:Nat) v d,vs[i]?=some v→ds[i]?=some d→Rd I v d)→(∀ (i:Nat) v d,us[i]?=some v→es[i]?=some d→Rd I v d) →
  et ls ds=true→et ls es=true→qk vs us=eO ds es
 | [],[],[],[],[],_,_,_,_,_,_=>rfl
 | x::ls,v::vs,u::us,d::ds,e::es,h1,h2,r1,r2,k1,k2=>by
  simp only[et,Bool.and_eq_true] at k1 k2
  simp only[qk,eO]
  rw[afK (ls:=ls) (by simpa using h1) (by simpa using h2) (fun i a b ha hb=>r1 (i+1) a b (by simpa using ha) (by simpa using hb)) (fun i a b ha hb=>r2 (i+1) a b (by simpa using ha) (by simpa using hb)) k1.2 k2.2]
  congr 1
  have a0:=r1 0 v d rfl rfl
  have b0:=r2 0 u e rfl rfl
  cases a0<;>cases x<;>simp[iM] at k1<;>cases b0<;>simp[iM] at k2<;>rfl
 | [],v::vs,_,[],_,h,_,_,_,_,_=>by simp at h
 | [],[],_,d::ds,_,h,_,_,_,_,_=>by simp at h
 | [],v::vs,_,d::ds,_,_,_,_,_,h,_=>by simp[et] at h
 | [],[],u::us,[],[],_,h,_,_,_,_=>by simp at h
 | [],[],[],[],e::es,_,h,_,_,_,_=>by simp at h
 | [],[],u::us,[],e::es,_,_,_,_,_,h=>by simp[et] at h
 | x::ls,[],_,d::ds,_,h,_,_,_,_,_=>by simp at h
 | x::ls,v::vs,_,[],_,h,_,_,_,_,_=>by simp at h
 | x::ls,[],_,[],_,_,_,_,_,h,_=>by simp[et] at h
 | x::ls,v::vs,[],d::ds,e::es,_,h,_,_,_,_=>by simp at h
 | x::ls,v::vs,u::us,d::ds,[],_,h,_,_,_,_=>by simp at h
 | x::ls,v::vs,[],d::ds,[],_,_,_,_,_,h=>by simp[et] at h
theorem GZ.aaG {wF:List (Nat×List Lf)} (h:wF.all (fun p=>VR P p.1 p.2)=true):GZ P (fun t=>(wF.find? fun p=>p.1 == t).map (·.2)):=by
 intro t ls ht op x y I u v a b w ha hb cA hZ
 have hsh:VR P t ls=true:=by
  cases hf:wF.find? (fun p=>p.1 == t) with
  | none=>simp[hf] at ht
  | some p=>
   simp[hf] at ht
   have h1:=List.find?_some hf
   have h2:=List.all_eq_true.1 h p (List.mem_of_find?_eq_some hf)
   simp at h1;subst h1;subst ht;exact h2
 simp only[VR,Bool.and_eq_true,decide_eq_true_eq,Bool.not_eq_true'] at hsh
 obtain⟨⟨h1,h2⟩,h3⟩:=hsh
 rcases cA with ⟨p,q,rfl,rfl,rfl⟩ | ⟨xs,ys,rfl,rfl,ba,hx,hy⟩
 ·cases ha;cases hb
  have hu:P.underlying t=some .bool:=by
   split at h3
   ·assumption
   ·simp at h3
   cases h3
  have hr:=akZ 30 10000 t _ h1 (by omega) [.bool p] [.bool q] rfl rfl w
  have e1:∀ p,wu P t [.bool p] = .bool p:=fun p=>by unfold wu;rw[hu];rfl
  rw[e1,e1] at hr
  simp only[Sem.run_bind,eqGuard_at_bool,Sem.run_pure,Result.andThen_ok]
  rcases hZ with rfl | rfl<;>simp[binOp,Op.equal,Op.maxDepth,hr,qk,KY,pd]
 have gQ:∃ fs,P.underlying t=some (.struct fs):=by
  split at h3
  ·exact absurd (of_decide_eq_true h3) ba
  ·rename_i fs hu;exact⟨fs,hu⟩
  cases h3
 obtain⟨fs,hu⟩:=gQ
 generalize Rs:D.agg xs=da at ha
 generalize Rt:D.agg ys=db at hb
 cases ha<;>first | (cases Rs;done) | skip
 rename_i cs ds p1 p2 p3
 injection Rs with Rs;subst Rs
 cases hb<;>first | (cases Rt;done) | skip
 rename_i qJ zi q1 q2 q3
 injection Rt with Rt;subst Rt
 have r1:om ls cs.toList=true:=aab (by simpa using p1) (fun i v d hv hd=>p3 i v d (by simpa using hv) hd) hx
 have r2:om ls qJ.toList=true:=aab (by simpa using q1) (fun i v d hv hd=>q3 i v d (by simpa using hv) hd) hy
 have hr:=akZ 30 10000 t _ h1 (by omega) cs.toList qJ.toList r1 r2 w
 have e1:∀ cs:Array Value,wu P t cs.toList = .agg cs:=fun cs=>by unfold wu;rw[hu]
 rw[e1,e1,afK (by simpa using p1) (by simpa using q1) (fun i v d hv hd=>p3 i v d (by simpa using hv) hd) (fun i v d hv hd=>q3 i v d (by simpa using hv) hd) hx hy] at hr
 simp only[Sem.run_bind,run_eqGuard_agg w op t x y cs qJ h2,Result.andThen_ok]
 rcases hZ with rfl | rfl
 ·rw[run_eql_struct w];simp[hr,pd]
 rw[run_neq_struct w];simp[hr,pd]
end
end Go.an
namespace Go.an
open Go Go.RowKit
variable [ck]
theorem afM {V:Env} {ρ ρ':Operand→T} {l:List AO} {nid:Nat} {o:Oper} (h:∀ x∈o.op.operands,ρ x=ρ' x):evalOp V ρ l nid o=evalOp V ρ' l nid o:=by
 obtain⟨dst,op,ty,pos,JS,g⟩:=o
 cases op with
 | build t parts=>
  have:parts.toList.map (fun p=>(p.1,ρ p.2))=parts.toList.map (fun p=>(p.1,ρ' p.2)):=List.map_congr_left fun p hp=>by
   rw[h p.2 (by simp only[Op.operands];simp;exact⟨p.1,by simpa using hp⟩)]
  simp only[evalOp,this]
 | buildSlice t len parts=>
  have:parts.toList.map (fun p=>fo (ρ p.2))=parts.toList.map (fun p=>fo (ρ' p.2)):=List.map_congr_left fun p hp=>by
   rw[h p.2 (by simp only[Op.operands];simp;exact⟨p.1,by simpa using hp⟩)]
  have h2:parts.toList.mapM (fun p=>fo (ρ p.2))=parts.toList.mapM (fun p=>fo (ρ' p.2)):=by
   have e:∀ (f:Nat×Operand→Option D) (ps:List (Nat×Operand)),ps.mapM f=(ps.map f).mapM id:=fun f ps=>by
    induction ps with
    | nil=>rfl
    | cons p ps ih=>simp only[List.mapM_cons,List.map_cons,ih,id]
   rw[e,e,this]
  have h3:parts.toList.map (fun p=>ρ p.2)=parts.toList.map (fun p=>ρ' p.2):=List.map_congr_left fun p hp=>by
   rw[h p.2 (by simp only[Op.operands];simp;exact⟨p.1,by simpa using hp⟩)]
  simp only[evalOp,h2,h3]
 | slice t x lo hi mx=>
  have hx:=h x (by simp[Op.operands])
  have oD:lo.map ρ=lo.map ρ':=by cases lo with | none=>rfl | some a=>simp;exact h a (by simp[Op.operands])
  have yr:hi.map ρ=hi.map ρ':=by cases hi with | none=>rfl | some a=>simp;exact h a (by simp[Op.operands])
  cases mx with
  | none=>simp only[evalOp,hx,oD,yr]
  | some m=>
   have hm:=h m (by simp[Op.operands])
   simp only[evalOp,hx,oD,yr,hm]
 | call c=>
  have dV:c.args.toList.map ρ=c.args.toList.map ρ':=List.map_congr_left fun x hx=>h x (by simp[Op.operands,Call.operands];right;simpa using hx)
  have qq:∀ x∈c.args.toList,ρ x=ρ' x:=fun x hx=>h x (by simp[Op.operands,Call.operands];right;simpa using hx)
  obtain⟨callee,args,argTypes⟩:=c
  cases callee with
  | value f=>
   have hf:=h f (by simp[Op.operands,Call.operands])
   simp only[evalOp,hf,dV]
  | invoke r n=>simp only[evalOp]
  | builtin b=>
   cases b<;>simp only[evalOp]<;>first | rfl | (simp only at dV qq;(try rw[dV]);done) | (simp only at dV qq;split<;>first | rfl | (rename_i ha _;simp only[ha,List.mem_cons,List.mem_singleton,List.not_mem_nil,or_false] at qq;first | rw[qq _ rfl] | rw[qq _ (.inl rfl),qq _ (.inr rfl)]))
 | makeMap t r=>cases r<;>simp only[evalOp]
 | makeFunc fn first caps=>
  have Xy:caps.toList.map ρ=caps.toList.map ρ':=List.map_congr_left fun x hx=>h x (by simp[Op.operands];right;simpa using hx)
  cases fn<;>simp only[evalOp]
  rw[Xy]
 | _=>simp only[evalOp]<;>first | rfl | (simp only[Op.operands] at h;simp[h])
def wb (o:Oper):Bool:=match o.op with
 | .move _ | .assign _ | .pick .. | .field .. | .binOp .. | .unOp .. | .extract .. | .slice .. =>true
 | _=>false
theorem afN {V:Env} {ρ:Operand→T} {l l':List AO} {nid nid':Nat} {o:Oper} (h:wb o=true) (dI:(evalOp V ρ l nid o).bI = .none) (af:(evalOp V ρ l nid o).ob):evalOp V ρ l' nid' o=evalOp V ρ l nid o:=by
 obtain⟨dst,op,ty,pos,JS,g⟩:=o
 cases op<;>simp[wb] at h
 case slice t x lo hi mx=>
  cases mx with
  | some m=>
   exfalso
   simp only[evalOp] at dI af
   split at af
   ·rename_i hs hx
    simp only[hs,hx] at dI
    rcases UE (E:=V.E) (l:=l) (lo:=lo.map ρ) (hi:=hi.map ρ) (mx:=ρ m) with h | h
    ·rw[h] at dI;cases dI
    rw[h] at af;exact af.elim
   exact af.elim
  | none=>
   simp only[evalOp] at dI af ⊢
   split at af
   ·rfl
   ·rename_i hs hx
    exfalso
    simp only[hs,hx] at dI
    split at af
    ·rename_i mo
     rw[if_pos mo] at dI
     rcases acY (E:=V.E) (l:=l) (lo:=lo.map ρ) (hi:=hi.map ρ) with h | h
     ·rw[h] at dI;cases dI
     rw[h] at af;exact af.elim
    rename_i mo
    rw[if_neg mo] at dI
    split at af
    ·split at af
     ·simp_all
     exact af.elim
    exact af.elim
   ·rfl
   exact af.elim
 all_goals simp only[evalOp]
theorem aoy {V:Env} {ρ:Operand→T} {l:List AO} {nid:Nat} {o:Oper} (h:wb o=true) (b:AO):(evalOp V ρ l nid o).bI ≠ .new b:=by
 obtain⟨dst,op,ty,pos,JS,g⟩:=o
 cases op<;>simp[wb] at h<;>simp only[evalOp,R.ok]
 ·simp
 ·simp
 ·unfold gW;simp only
  repeat' split
  all_goals simp[R.bad]
 ·unfold gI;repeat' split
  all_goals simp[R.bad]
 ·unfold gI;repeat' split
  all_goals simp[R.bad]
 ·rename_i mx
  cases mx
  ·simp only
   repeat' split
   all_goals first | (simp[R.bad];done) | (intro hc;rcases acY (E:=V.E) (l:=l) with h | h<;>rw[h] at hc<;>cases hc;done) | (unfold gv;(repeat' split)<;>simp[R.bad,R.ok];done) | (unfold gX;split<;>simp[R.bad,R.ok];done)
  simp only
  split
  ·intro hc;rcases UE (E:=V.E) (l:=l) with h | h<;>rw[h] at hc<;>cases hc
  simp[R.bad]
 ·unfold gN;repeat' split
  all_goals simp[R.bad,R.ok]
 repeat' split
 all_goals simp[R.bad]
def eM (l l':List AO):Prop:=∀ id,isVar l id=true→l'[id]?=l[id]?
theorem eM.refl (l:List AO):eM l l:=fun _ _=>rfl
theorem eM.trans {l l' uc:List AO} (h:eM l l') (k:eM l' uc):eM l uc:=fun id aB=>(k id (by have:=h id aB;unfold isVar at aB ⊢;rw[this];exact aB)).trans (h id aB)
theorem eM.append (l r:List AO):eM l (l++r):=fun _ aB=>List.getElem?_append_left (YT aB)
theorem eM.set {l:List AO} {id:Nat} (o:AO) (h:isVar l id=false):eM l (l.set id o):=fun k hk=>by
 rw[List.getElem?_set]
 by_cases e:id=k
 ·subst e;rw[h] at hk;cases hk
 simp[e]
theorem amu {l l':List AO} {t:T} {d:D} (h:dA l t=some (d,l')):eM l l':=by
 cases t<;>simp only[dA] at h
 case d x=>simp at h;rw[←h.2];exact .refl _
 case ao s=>simp at h;rw[←h.2];exact .refl _
 case fQ id x=>simp at h;rw[←h.2];exact .refl _
 case row id=>
  split at h
  ·simp at h;rw[←h.2];exact .refl _
  ·rename_i hl;simp at h;rw[←h.2];exact .set _ (by unfold isVar;rw[hl];rfl)
  cases h
 case map id=>
  split at h
  ·simp at h;rw[←h.2];exact .refl _
  ·rename_i hl;simp at h;rw[←h.2];exact .set _ (by unfold isVar;rw[hl];rfl)
  cases h
 all_goals cases h
theorem ae2:∀ (ts:List T) {l l':List AO} {ds:List D},dR l ts=some (ds,l')→eM l l'
 | [],l,l',ds,h=>by simp[dR] at h;rw[←h.2];exact .refl _
 | t::ts,l,l',ds,h=>by
  simp only[dR] at h
  cases h1:dA l t with
  | none=>simp[h1] at h
  | some p=>
   obtain⟨x,l1⟩:=p
   simp only[h1] at h
   cases h2:dR l1 ts with
   | none=>simp[h2] at h
   | some q=>
    obtain⟨xs,l2⟩:=q
    simp only[h2,Option.some.injEq,Prod.mk.injEq] at h
    rw[←h.2]
    exact(amu h1).trans (ae2 ts h2)
theorem ac6 {l l':List AO} {t:T} {d:D} (h:dY l t=some (d,l')):eM l l':=by
 by_cases ha:∃ ts,t = .agg ts
 ·obtain⟨ts,rfl⟩:=ha
  obtain⟨ds,rfl,oU⟩:=UL h
  exact ae2 ts oU
 rw[UM fun ts h=>ha ⟨ts,h⟩] at h
 exact amu h
theorem ae4:∀ (ts:List T) {l l':List AO} {ds:List D},dQ l ts=some (ds,l')→eM l l'
 | [],l,l',ds,h=>by simp[dQ] at h;rw[←h.2];exact .refl _
 | t::ts,l,l',ds,h=>by
  simp only[dQ] at h
  cases h1:dY l t with
  | none=>simp[h1] at h
  | some p=>
   obtain⟨x,l1⟩:=p
   simp only[h1] at h
   cases h2:dQ l1 ts with
   | none=>simp[h2] at h
   | some q=>
    obtain⟨xs,l2⟩:=q
    simp only[h2,Option.some.injEq,Prod.mk.injEq] at h
    rw[←h.2]
    exact(ac6 h1).trans (ae4 ts h2)
theorem ane {E:dh} {t:TypeId} {l:List AO} {nid:Nat} {s x:T}:(∀ l',(fU E t l nid s x).bI = .bG l'→eM l l')∧∀ a,(fU E t l nid s x).bI ≠ .new a:=by
 unfold fU
 split;rotate_left
 ·exact⟨by simp[R.bad],by simp[R.bad]⟩
 split;rotate_left
 ·exact⟨by simp[R.bad],by simp[R.bad]⟩
 split;rotate_left
 ·exact⟨by simp[R.bad],by simp[R.bad]⟩
 rename_i hx
 have hv:=ac6 hx
 split;rotate_left
 ·exact⟨by simp[R.bad],by simp[R.bad]⟩
 split
 ·refine⟨fun l' h=>?_,by simp⟩
  simp at h;rw[←h];exact hv.trans (.append _ _)
 ·split;rotate_left
  ·exact⟨by simp[R.bad],by simp[R.bad]⟩
  rename_i hl
  split;rotate_left
  ·exact⟨by simp[R.bad],by simp[R.bad]⟩
  refine⟨fun l' h=>?_,by simp⟩
  simp at h;rw[←h]
  exact(hv.trans (.set _ (by unfold isVar;rw[hl];rfl))).trans (.append _ _)
 ·split;rotate_left
  ·exact⟨by simp[R.bad],by simp[R.bad]⟩
  rename_i hl
  split;rotate_left
  ·exact⟨by simp[R.bad],by simp[R.bad]⟩
  refine⟨fun l' h=>?_,by simp⟩
  simp at h;rw[←h]
  exact(hv.trans (.set _ (by unfold isVar;rw[hl];rfl))).trans (.append _ _)
 exact⟨by simp[R.bad],by simp[R.bad]⟩
def vk (o:Oper):Bool:=wb o||match o.op with
 | .buildSlice _ n _=>n != 0
 | .call c=>(match c.callee with | .builtin .append=>true | _=>false)
 | .load .. =>true
 | _=>false
theorem au0 {i:TI} {size:Nat} {els:List D} {k off:Nat}:(fC i size els k off).bI = .none:=by
 unfold fC;repeat' split
 all_goals simp[R.ok,R.bad]
theorem auZ {E:dh} {t:TypeId} {l:List AO} {a:T}:(eI E t l a).bI = .none:=by
 unfold eI;repeat' split
 all_goals first | exact au0 | simp[R.ok,R.bad]
theorem aiD {V:Env} {ρ:Operand→T} {l:List AO} {nid:Nat} {o:Oper} (h:vk o=true):(∀ l',(evalOp V ρ l nid o).bI = .bG l'→eM l l')∧∀ a,(evalOp V ρ l nid o).bI ≠ .new a:=by
 obtain⟨dst,op,ty,pos,JS,g⟩:=o
 have nn:∀ {r:R},r.bI = .none→(∀ l',r.bI = .bG l'→eM l l')∧∀ a,r.bI ≠ .new a:=fun e=>⟨by rw[e];simp,by rw[e];simp⟩
 cases op<;>simp[vk,wb] at h<;>simp only[evalOp]
 case call c=>
  obtain⟨cal,args,ats⟩:=c
  cases cal<;>simp at h
  rename_i b
  cases b<;>simp at h
  simp only
  split
  ·split
   ·exact ane
   exact nn rfl
  exact nn rfl
 case slice t x lo hi mx=>
  cases mx with
  | some m=>
   simp only
   split
   ·rcases UE (E:=V.E) (l:=l) (lo:=lo.map ρ) (hi:=hi.map ρ) (mx:=ρ m) with h | h
    ·refine⟨fun l' h'=>?_,by rw[h];simp⟩
     rw[h] at h';injection h' with h';subst h';exact .refl _
    rw[h];exact nn rfl
   exact nn rfl
  | none=>
   simp only
   split
   ·split
    ·refine nn ?_
     unfold gv;repeat' split
     all_goals simp[R.ok,R.bad]
    exact nn rfl
   ·split
    ·rcases acY (E:=V.E) (l:=l) (lo:=lo.map ρ) (hi:=hi.map ρ) with h | h
     ·refine⟨fun l' h'=>?_,by rw[h];simp⟩
      rw[h] at h';injection h' with h';subst h';exact .refl _
     rw[h];exact nn rfl
    split
    ·rename_i hx
     split
     ·refine⟨fun l' h=>?_,by simp⟩
      simp at h;rw[←h];exact ac6 hx
     exact nn rfl
    exact nn rfl
   ·refine nn ?_
    unfold gX;(repeat' split)<;>simp[R.ok,R.bad]
   exact nn rfl
 case buildSlice t n parts=>
  simp only[if_neg h]
  split
  ·split
   ·split
    ·split<;>exact nn rfl
    split
    ·rename_i hd
     split
     ·refine⟨fun l' h=>?_,by simp⟩
      simp at h;rw[←h];exact ae4 _ hd
     exact nn rfl
    exact nn rfl
   exact nn rfl
  exact nn rfl
 case pick c a b=>
  refine nn ?_
  unfold gW;simp only
  repeat' split
  all_goals simp[R.bad]
 all_goals refine nn ?_
 all_goals first
  | exact auZ
  | (unfold gW;repeat' split)<;>simp[R.ok,R.bad];done
  | (unfold gI;repeat' split)<;>simp[R.ok,R.bad];done
  | (unfold gN;repeat' split)<;>simp[R.ok,R.bad];done
  | (repeat' split)<;>simp_all [R.ok,R.bad,gI];done
  | skip
def RI (o:Oper):Bool:=wb o||match o.op with
 | .buildSlice _ n _=>n != 0
 | .load .. =>true
 | _=>false
def aaz (ρ:Operand→T) (o:Oper):Bool:=match o.op with
 | .load _ a=>(match ρ a with | .dH .. =>false | _=>true)
 | _=>true
theorem aox {V:Env} {ρ:Operand→T} {l l':List AO} {nid nid':Nat} {o:Oper} (h:RI o=true) (hr:aaz ρ o=true) (hl:eM l l') (dI:(evalOp V ρ l nid o).bI = .none) (af:(evalOp V ρ l nid o).ob):evalOp V ρ l' nid' o=evalOp V ρ l nid o:=by
 by_cases L6:wb o=true
 ·exact afN L6 dI af
 obtain⟨dst,op,ty,pos,JS,g⟩:=o
 unfold RI at h
 simp only[L6] at h
 cases op<;>simp at h
 case buildSlice t n parts=>
  simp only[evalOp,if_neg h] at dI af ⊢
  cases hE:V.E t with
  | none=>rfl
  | some i=>
   obtain⟨a,b,c,d⟩:=i
   cases d<;>try rfl
   case slice e=>
    simp only[hE] at dI af ⊢
    by_cases he:(V.E e).isSome=true∧0 < bw V.E e
    ·simp only[if_pos he] at dI af ⊢
     cases hm:parts.toList.mapM fun p=>fo (ρ p.2) with
     | some ds=>rfl
     | none=>
      exfalso
      simp only[hm] at dI af
      cases hd:dQ l (parts.toList.map fun p=>ρ p.2) with
      | none=>simp only[hd] at af;exact af.elim
      | some q=>
       obtain⟨ds,l1⟩:=q
       simp only[hd] at dI af
       split at af
       ·rename_i hc;rw[if_pos hc] at dI;cases dI
       exact af.elim
    rw[if_neg he,if_neg he]
 case load t a=>
  simp only[evalOp] at af ⊢
  simp only[aaz] at hr
  generalize ρ a=x at *
  cases x<;>try rfl
  case d x=>cases x<;>rfl
  case ptr id off=>
   simp only[unbox,eI] at af ⊢
   have:l'[id]?=l[id]?:=by
    refine hl id ?_
    unfold isVar
    split at af
    ·rename_i hx;rw[hx];rfl
    exact af.elim
   rw[this]
  case dH=>cases hr
end Go.an
namespace Go.an
open Go Go.RowKit
variable [ck] [dx]
def tC (ops:List Oper):Nat→Oper→Nat→Bool
 | 0,o,j=>(waits o).contains j
 | n+1,o,j=>(waits o).contains j||(waits o).any fun k=>match ops[k]? with | some q=>tC ops n q j | none=>false
def F7 (ops:List Oper) (n1:Nat) (F:List Nat):Bool:=(List.range ops.length).all fun i=>decide (i < n1)||match ops[i]? with | some o=>(List.range i).all (fun j=>F.contains j||tC ops 8 o j) | none=>true
def Cc (ops:List Oper) (listed:Array Bool):Prop:=∀ (i:Nat) o,ops[i]?=some o→listed.getD i false=true→∀ j∈waits o,listed.getD j false=true
theorem Jy {ops:List Oper} {listed:Array Bool} (hc:Cc ops listed):∀ (n:Nat) (o:Oper) (j:Nat),(∀ k∈waits o,listed.getD k false=true)→tC ops n o j=true→listed.getD j false=true
 | 0,o,j,hw,h=>hw j (List.contains_iff_mem.1 h)
 | n+1,o,j,hw,h=>by
  unfold tC at h
  rw[Bool.or_eq_true] at h
  rcases h with h | h
  ·exact hw j (List.contains_iff_mem.1 h)
  obtain⟨k,hk,h2⟩:=List.any_eq_true.1 h
  cases hq:ops[k]? with
  | none=>rw[hq] at h2;cases h2
  | some q=>
   rw[hq] at h2
   exact Jy hc n q j (hc k q hq (hw k hk)) h2
theorem Cc.step {ops:List Oper} {listed L':Array Bool} (hc:Cc ops listed) {i:Nat} {o:Oper} (ho:ops[i]?=some o) (hw:∀ j∈waits o,listed.getD j false=true) (hL:∀ k,L'.getD k false=if k=i then true else listed.getD k false):Cc ops L':=by
 intro k q hq hk j hj
 rw[hL] at hk ⊢
 split
 ·rfl
 by_cases gP:k=i
 ·subst gP;rw[ho] at hq;cases hq;exact hw j hj
 rw[if_neg gP] at hk;exact hc k q hq hk j hj
def wY (ops:List Oper) (n1:Nat) (F:List Nat):Bool:=F.all fun f=>decide (f < n1)&&match ops[f]? with
 | some o=>o.guard.isNone&&(List.range ops.length).all fun i=>decide (i < n1)||match ops[i]? with
  | some q=>((waits q).contains f||match q.dst with | some d=> !(o5 ops o).contains d&&o.dst != some d | none=>true)&&(match o.dst with | some d=> !(o5 ops q).contains d||(waits q).contains f | none=>true)
  | none=>true
 | none=>false
def V6 (ops:List Oper) (n1:Nat) (F:List Nat):Bool:=(F.all fun f=>match ops[f]? with | some o=>wb o | none=>true)&&wY ops n1 F
def xP (V:Env) (B:Bool) (l0:List AO) (o:Oper) (x:Rec):Prop:=x.new=none∧(x.pc=[]→x.ob→∀ l',(B=true∨eM l0 l')→evalOp V (fun y=>(strip x.pc (bd x.tm y)).1) l' 0 o=⟨x.t,.none,x.ob⟩)
section
variable {P:Program} {V:Env} {w0:World} {I0:aC} {n:Nat} {md:Way} {ops:List Oper} {Q:Exit→Act→World→Prop} {K:St→Prop}
theorem amm {n1:Nat} {F:List Nat} (h:F7 ops n1 F=true) {i:Nat} {o:Oper} (ho:ops[i]?=some o) (hi:n1≤i):∀ j,j < i→j∉F→tC ops 8 o j=true:=by
 intro j hj hF
 have:=List.all_eq_true.1 h i (List.mem_range.2 (List.getElem?_eq_some_iff.1 ho).1)
 simp only[ho,Bool.or_eq_true,decide_eq_true_eq,List.all_eq_true,List.mem_range,List.contains_iff_mem] at this
 rcases this with h | h
 ·omega
 exact(h j hj).resolve_left hF
theorem oQ {n1:Nat} {F:List Nat} (h:wY ops n1 F=true) {f:Nat} (hf:f∈F):f < n1∧∀ o,ops[f]?=some o→o.guard=none ∧
  ∀ (i:Nat) q,n1≤i→ops[i]?=some q→(f∈waits q∨∀ d,q.dst=some d→d∉o5 ops o∧o.dst≠some d)∧(∀ d,o.dst=some d→d∈o5 ops q→f∈waits q):=by
 have:=List.all_eq_true.1 h f hf
 simp only[Bool.and_eq_true,decide_eq_true_eq] at this
 obtain⟨h1,h2⟩:=this
 refine⟨h1,fun o ho=>?_⟩
 simp only[ho,Bool.and_eq_true,Option.isNone_iff_eq_none] at h2
 obtain⟨h4,h5⟩:=h2
 refine⟨h4,fun i q hi hq=>?_⟩
 have:=List.all_eq_true.1 h5 i (List.mem_range.2 (List.getElem?_eq_some_iff.1 hq).1)
 simp only[hq] at this
 rw[Bool.or_eq_true,decide_eq_true_eq,Bool.and_eq_true] at this
 have this:=this.resolve_left (by omega)
 obtain⟨h6,h7⟩:=this
 refine⟨?_,fun d hd hr=>?_⟩
 ·rw[Bool.or_eq_true] at h6
  refine h6.imp (fun h=>List.contains_iff_mem.1 h) fun h6 d hd=>?_
  simp only[hd,Bool.and_eq_true,Bool.not_eq_true',bne_iff_ne,ne_eq] at h6
  exact⟨fun hm=>(by have:=List.contains_iff_mem.2 hm;rw[h6.1] at this;cases this),h6.2⟩
 simp only[hd,Bool.or_eq_true,Bool.not_eq_true',List.contains_iff_mem] at h7
 rcases h7 with h7 | h7
 ·have:=List.contains_iff_mem.2 hr;rw[h7] at this;cases this
 exact h7
def ed (ops:List Oper) (F:List Nat) (listed:Array Bool):List Nat:=(F.filter fun f=> !listed.getD f false).filterMap fun f=>(ops[f]?).bind (·.dst)
theorem tw {F:List Nat} {listed:Array Bool} {k:Nat}:k∈ed ops F listed↔∃ f o,f∈F∧listed.getD f false=false∧ops[f]?=some o∧o.dst=some k:=by
 unfold ed
 simp only[List.mem_filterMap,List.mem_filter,Bool.not_eq_true']
 constructor
 ·rintro⟨f,⟨h1,h2⟩,h3⟩
  cases ho:ops[f]? with
  | none=>simp[ho] at h3
  | some o=>simp[ho] at h3;exact⟨f,o,h1,h2,ho,h3⟩
 rintro⟨f,o,h1,h2,h3,h4⟩
 exact⟨f,⟨h1,h2⟩,by simp[h3,h4]⟩
structure aeQ (w0:World) (I0:aC) (n:Nat) (B:Bool) (l0:List AO) (ops:List Oper) (F:List Nat) (rs:List Rec) (s:St) (listed:Array Bool) (a:Act) (w:World):Prop where
 size:a.tmps.size=n
 rel:∃ I m,aI w0 I0 w I m s.l∧iS w0.heap.size I a.defers∧∀ k,k∉ed ops F listed→aw I m s.l (a.tmps.getD k undef) (get s.t k)
 fl:∀ (f:Nat) o x,f∈F→listed.getD f false=false→ops[f]?=some o→rs[f]?=some x→(∀ t∈o5 ops o,get s.t t=get x.tm t)∧∀ d,o.dst=some d→get s.t d=x.out
 vars:B=true∨eM l0 s.l
theorem La (s:Tm) (k:Nat):∀ (ds:List Nat),get (ds.map (fun d=>(d,T.undef))++s) k=if k∈ds then .undef else get s k
 | []=>by simp
 | d::ds=>by
  simp only[List.map_cons,List.cons_append,get,List.mem_cons]
  rw[La s k ds]
  by_cases h:d=k
  ·subst h;simp
  rw[if_neg h];have:k≠d:=fun e=>h e.symm
  simp[this]
theorem KZ {s s':Tm} {x:Operand} (h:∀ t,x = .tmp t→get s t=get s' t):bd s x=bd s' x:=by
 cases x with
 | tmp t=>exact h t rfl
 | _=>rfl
theorem Wo {s s':Tm} {o:Oper} (h:∀ t∈o5 ops o,get s t=get s' t):dU ops s o.guard=dU ops s' o.guard:=by
 cases hg:o.guard with
 | none=>rfl
 | some jb=>
  obtain⟨j,b⟩:=jb
  simp only[dU]
  cases hd:(ops[j]?).bind (·.dst) with
  | none=>rfl
  | some d=>
   simp only
   rw[h d (List.mem_append_right _ (by rw[hg];simp only;rw[hd];simp))]
theorem axq {V:Env} {pc:PC} {s s':St} {o:Oper} (hl:s.l=s'.l) (h:∀ t∈o5 ops o,get s.t t=get s'.t t):dz V pc s o=dz V pc s' o:=by
 have hx:∀ x∈o.op.operands,bd s.t x=bd s'.t x:=fun x hx=>KZ fun t ht=>h t (List.mem_append_left _ (List.mem_filterMap.2 ⟨x,by simpa using hx,by rw[ht]⟩))
 cases pc with
 | nil=>simp only[dz,hl];exact afM hx
 | cons y pc=>
  simp only[dz,hl]
  have e1:=afM (V:=V) (ρ:=fun x=>(strip (y::pc) (bd s.t x)).1) (ρ':=fun x=>(strip (y::pc) (bd s'.t x)).1) (l:=s'.l) (nid:=s'.l.length) (o:=o) (fun x oF=>by simp only[hx x oF])
  have e2:o.op.operands.toList.map (fun x=>(strip (y::pc) (bd s.t x)).2)=o.op.operands.toList.map (fun x=>(strip (y::pc) (bd s'.t x)).2):=List.map_congr_left fun x oF=>by rw[hx x (by simpa using oF)]
  rw[e1,e2]
theorem aeU {s s':St} {dst:Option Nat} {pc:PC} {t:T} {bI:O6} (h:after s dst pc ⟨t,bI,True⟩=some s'):∃ u l',s'=⟨bq s.t dst u,l'⟩∧∀ st:St,st.l=s.l→after st dst pc ⟨t,bI,True⟩=some ⟨bq st.t dst u,l'⟩:=by
 unfold after at h
 simp only at h
 split at h
 ·injection h with h;exact⟨_,_,h.symm,fun st e=>by unfold after;simp only[e]⟩
 ·injection h with h;exact⟨_,_,h.symm,fun st e=>by unfold after;simp only[e]⟩
 ·injection h with h;exact⟨_,_,h.symm,fun st e=>by unfold after;simp only⟩
 ·rename_i eG
  injection h with h
  cases pc with
  | nil=>exact absurd rfl eG
  | cons y r=>exact⟨_,_,h.symm,fun st e=>by unfold after;simp only[e]⟩
 cases h
theorem afO {md:Way} {o:Oper} {r:List Oper} {s st:St} {K:St→Prop} (h:bu V n ops md (o::r) s K) (hl:st.l=s.l) (ha:∀ t∈o5 ops o,get st.t t=get s.t t) :
  ∃ u l',bu V n ops md [o] st (fun q=>q=⟨bq st.t o.dst u,l'⟩)∧bu V n ops md r ⟨bq s.t o.dst u,l'⟩ K:=by
 simp only[bu] at h
 split at h
 ·exact h.elim
 rename_i pc hg
 have zD:dU ops st.t o.guard=some pc:=(Wo ha).trans hg
 have hZ:∀ qc,dz V qc st o=dz V qc s o:=fun qc=>axq hl ha
 cases md with
 | none=>
  simp only at h
  obtain⟨af,eQ,h⟩:=h
  split at h
  ·rename_i s' cW
   obtain⟨u,l',rfl,Yk⟩:=aeU cW
   refine⟨u,l',?_,h⟩
   simp only[bu,zD,hZ]
   refine⟨af,eQ,?_⟩
   rw[Yk st hl];first | done | rfl
  exact h.elim
 | some sk=>
  simp only at h
  split at h
  ·rename_i E1
   obtain⟨ca,eQ,h⟩:=h
   refine⟨gone,s.l,?_,h⟩
   simp only[bu,zD,if_pos E1]
   exact⟨ca,eQ,by rw[hl]⟩
  rename_i E1
  obtain⟨CY,af,eQ,h⟩:=h
  split at h
  ·rename_i s' cW
   obtain⟨u,l',rfl,Yk⟩:=aeU cW
   refine⟨u,l',?_,h⟩
   simp only[bu,zD,if_neg E1,hZ]
   refine⟨CY,af,eQ,?_⟩
   rw[Yk st hl];first | done | rfl
  exact h.elim
theorem aeV {V:Env} {ρ:Operand→T} {s:St} {o:Oper} {pc:PC} {t:T} {bI:O6} {t':Tm} {l':List AO} (h:vk o=true) (he:(evalOp V ρ s.l s.l.length o).bI=bI) (ha:after s o.dst pc ⟨t,bI,True⟩=some ⟨t',l'⟩):eM s.l l':=by
 obtain⟨k1,k2⟩:=aiD (V:=V) (ρ:=ρ) (l:=s.l) (nid:=s.l.length) h
 rw[he] at k1 k2
 unfold after at ha
 simp only at ha
 split at ha
 ·injection ha with ha;injection ha with _ ha;rw[←ha];exact .refl _
 ·exact absurd rfl (k2 _)
 ·injection ha with ha;injection ha with _ ha;rw[←ha];exact k1 _ rfl
 ·injection ha with ha;injection ha with _ ha;rw[←ha];exact .refl _
 cases ha
theorem aj9 {V:Env} {pc:PC} {s:St} {o:Oper}:∃ ρ,(dz V pc s o).bI=(evalOp V ρ s.l s.l.length o).bI:=by
 cases pc with
 | nil=>exact⟨_,rfl⟩
 | cons y r=>exact⟨_,rfl⟩
theorem afP {md:Way} {o:Oper} {st:St} {t':Tm} {l':List AO} (hk:vk o=true) (h:bu V n ops md [o] st (fun q=>q=⟨t',l'⟩)):eM st.l l':=by
 simp only[bu] at h
 split at h
 ·exact h.elim
 rename_i pc hg
 cases md with
 | none=>
  simp only at h
  obtain⟨_,_,h⟩:=h
  split at h
  ·rename_i s' cW
   subst h
   obtain⟨ρ,YH⟩:=aj9 (V:=V) (pc:=pc) (s:=st) (o:=o)
   exact aeV hk YH.symm cW
  exact h.elim
 | some sk=>
  simp only at h
  split at h
  ·obtain⟨_,_,h⟩:=h
   injection h with _ h;rw[←h];exact .refl _
  obtain⟨_,_,_,h⟩:=h
  split at h
  ·rename_i s' cW
   subst h
   obtain⟨ρ,YH⟩:=aj9 (V:=V) (pc:=[]) (s:=st) (o:=o)
   exact aeV hk YH.symm cW
  exact h.elim
def wP (P:Program) (n:Nat) (ops:List Oper) (o:Oper) (s:St) (K:T→List AO→Prop):Prop:=
 ∀ (st:St),st.l=s.l→(∀ t∈o5 ops o,get st.t t=get s.t t)→∀ (w0:World) (I0:aC) (a:Act) (w:World) (Q:Exit→Act→World→Prop) (Kn:Act→World→Prop),Rel w0 I0 n st a w →
  (∀ u l' a' w',K u l'→(vk o=true→eM s.l l')→Rel w0 I0 n ⟨bq st.t o.dst u,l'⟩ a' w'→Kn a' w') →
  if Region.wanted o (yielded ops.toArray a.tmps)=true then o.wpIn dB 0 P a w Kn Q else(∀ f,o.about P w a.eval=some f→dB.fn f)∧Kn (a.put o.dst undef) w
def fJ (P:Program) (n:Nat) (ops:List Oper):List Oper→St→(St→Prop)→Prop
 | [],s,K=>K s
 | o::r,s,K=>wP P n ops o s fun u l'=>fJ P n ops r ⟨bq s.t o.dst u,l'⟩ K
theorem wP.mono {o:Oper} {s:St} {K K':T→List AO→Prop} (h:wP P n ops o s K) (hk:∀ u l',K u l'→K' u l'):wP P n ops o s K':=
 fun st hl ha w0 I0 a w Q Kn hr hK=>h st hl ha w0 I0 a w Q Kn hr fun u l' a' w' k=>hK u l' a' w' (hk u l' k)
theorem step_seq (hV:bO P V) {o:Oper} {r:List Oper} {s:St} (h:bu V n ops md (o::r) s K):wP P n ops o s fun u l'=>bu V n ops md r ⟨bq s.t o.dst u,l'⟩ K:=by
 intro st hl ha w0 I0 a w Q Kn aq hK
 obtain⟨u,l',Bf,h'⟩:=afO (st:=st) h hl ha
 refine K0 hV aq Bf fun q a' w' hq oE=>?_
 simp only[bu] at hq
 subst hq
 exact hK u l' a' w' h' (fun hk=>hl▸afP (st:=st) hk Bf) oE
theorem fJ.seq (hV:bO P V) {post:List Oper}:∀ {r:List Oper} {s:St},bu V n ops md r s (fun s'=>fJ P n ops post s' K)→fJ P n ops (r++post) s K
 | [],_,h=>h
 | _::_,_,h=>(step_seq hV h).mono fun _ _ h'=>fJ.seq hV h'
theorem fJ.of (hV:bO P V) {r:List Oper} {s:St} (h:bu V n ops md r s K):fJ P n ops r s K:=by
 have:=fJ.seq (P:=P) (post:=[]) hV (K:=K) (s:=s) (r:=r) h
 simpa using this
theorem fJ.call (hV:bO P V) {o:Oper} {r:List Oper} {s:St} {g:FuncId} {ts:List T} {pc:PC} (hg:dU ops s.t o.guard=some pc) (hp:holds pc) (hd:cR n o.dst=true) (hc:kN V.E (bd s.t) o=some (g,ts))
  (h:gZ P g ts s.l fun u l'=>fJ P n ops r ⟨bq s.t o.dst u,l'⟩ K):fJ P n ops (o::r) s K:=by
 intro st hl ha w0 I0 a w Q Kn aq hK
 have hx:∀ x∈o.op.operands,bd st.t x=bd s.t x:=fun x hx=>KZ fun t ht=>ha t (List.mem_append_left _ (List.mem_filterMap.2 ⟨x,by simpa using hx,by rw[ht]⟩))
 obtain⟨aS,I,m,hw,dZ,ht⟩:=aq
 have fX:=(UQ (ops:=ops) (a:=a) ht ((Wo ha).trans hg)).2 hp
 rw[if_pos fX]
 refine cz.wpIn (anM hc) ?_
 obtain⟨args,dL,hlen,dV⟩:=Vz (P:=P) (w:=w) (ρ:=a.eval) h.1 (fun x _=>Cz hw.sat.dS ht x) ((anL hx).trans hc)
 rw[dL]
 simp only[cz]
 refine(h.2 w0 I0 w I m args (fun k=>a.tmps.getD k undef) st.t (by rw[←hl];exact hw) hlen (by rw[←hl];exact dV) (by rw[←hl];exact ht)).mono ?_
 rintro e w' ⟨v,he,t,l',J,m',k1,k2,k3,k5,k4⟩
 refine⟨v,he,hK t l' _ w' k1 (fun hk=>?_) ⟨by cases o.dst<;>simp[Act.put,aS],J,m',k2,dZ.abi k5,z6 aS hd k4 k3⟩⟩
 exfalso
 unfold kN at hc
 unfold vk wb at hk
 split at hc
 ·rename_i c ho
  rw[ho] at hk
  simp only[Bool.false_or] at hk
  split at hc
  ·rename_i f hf;rw[hf] at hk;simp at hk
  cases hc
 cases hc
theorem fJ.wp (hV:bO P V) (hK:∀ s a w,K s→Rel w0 I0 n s a w→Q .normal a w):∀ (r:List Oper) (s:St) (a:Act) (w:World),Rel w0 I0 n s a w→fJ P n ops r s K→wpListIn dB 0 P ops.toArray Q r a w
 | [],s,a,w,aq,h=>hK s a w h aq
 | o::r,s,a,w,aq,h=>by
  unfold wpListIn
  exact h s rfl (fun _ _=>rfl) w0 I0 a w Q _ aq fun u l' a' w' h' _ oE=>fJ.wp hV hK r _ a' w' oE h'
theorem amn (hV:bO P V) (hK:∀ s a w,K s→Rel w0 I0 n s a w→Q .normal a w) {n1:Nat} {F:List Nat} (fM:ud ops=true) (iu:F7 ops n1 F=true) (cG:qC ops n1=true) (bS:wY ops n1 F=true) (eg:n1≤ops.length) {s0:St} {rs:List Rec} {B:Bool} (oC:∀ (f:Nat) o x,f∈F→ops[f]?=some o→rs[f]?=some x→xP V B s0.l o x) (ph:B=true∨∀ (i:Nat) o,n1≤i→ops[i]?=some o→vk o=true) 
  (cD:oP V n ops s0.l (ops.take n1) 0 s0.t 0 rs) :
  ∀ (fuel j:Nat) (s:St) (a:Act) (w:World) (listed:Array Bool),listed.size=ops.length→oq ops.length listed=fuel→(∀ i,i < ops.length→i∉F→listed.getD i false=decide (i < j))→n1≤j→j≤ops.length→Cc ops listed→aeQ w0 I0 n B s0.l ops F rs s listed a w→fJ P n ops (ops.drop j) s K →
   wpAnyIn dB 0 P .any ops.toArray Q fuel listed a w:=by
 have qu:rs.length=n1:=by rw[cD.len];simp;omega
 intro fuel
 induction fuel with
 | zero=>
  intro j s a w listed hs hu hl hj ra fW hinv h
  have bL:∀ i,i < ops.length→listed.getD i false=true:=by
   intro i hi
   have:=List.length_eq_zero_iff.1 hu
   have:=(List.filter_eq_nil_iff.1 this) i (List.mem_range.2 hi)
   simpa using this
  have hjN:j=ops.length:=by
   rcases Nat.lt_or_ge j ops.length with h' | h'
   ·have HT:j∉F:=fun hF=>by have:=(oQ bS hF).1;omega
    have:=hl j h' HT
    rw[bL j h'] at this;simp at this
   omega
  rw[List.drop_eq_nil_of_le (by omega)] at h
  obtain⟨h1,⟨I,m,h3,h2,h4⟩,h5,_⟩:=hinv
  refine⟨?_,hK s a w h ⟨h1,I,m,h3,h2,fun k=>h4 k fun hk=>?_⟩⟩
  ·refine List.eq_nil_iff_forall_not_mem.2 fun i hi=>?_
   have aN:=yR hi
   have:=((ug hs aN (List.getElem?_eq_getElem aN)).1 hi).1
   rw[bL i aN] at this;cases this
  obtain⟨f,o,q1,q2,q3,_⟩:=tw.1 hk
  rw[bL f (List.getElem?_eq_some_iff.1 q3).1] at q2;cases q2
 | succ fuel ih=>
  intro j s a w listed hs hu hl hj ra fW hinv h
  have A9:∃ i,i < ops.length∧listed.getD i false=false∧∀ k,k < i→listed.getD k false=true:=by
   have hex:∃ i,i < ops.length∧listed.getD i false=false:=by
    refine Classical.byContradiction fun hh=>?_
    have:oq ops.length listed=0:=by
     unfold oq
     rw[List.filter_eq_nil_iff.2 fun i hi=>by
      have hi:=List.mem_range.1 hi
      cases hb:listed.getD i false with
      | true=>simp
      | false=>exact absurd ⟨i,hi,hb⟩ hh]
     rfl
    omega
   obtain⟨i,hi⟩:=hex
   induction i using Nat.strongRecOn with
   | ind i Bk=>
    by_cases hh:∃ k,k < i∧listed.getD k false=false
    ·obtain⟨k,hk,hb⟩:=hh
     exact Bk k hk ⟨by omega,hb⟩
    refine⟨i,hi.1,hi.2,fun k hk=>?_⟩
    cases hb:listed.getD k false with
    | true=>rfl
    | false=>exact absurd ⟨k,hk,hb⟩ hh
  obtain⟨i0,Q7,pO,yk⟩:=A9
  have uW:ops[i0]?=some ops[i0]:=List.getElem?_eq_getElem (by omega)
  have uY:i0∈Region.ready .any ops.toArray listed:=(ug hs (by omega) uW).2 ⟨pO,fun k hk=>yk k (Iu fM uW k hk)⟩
  refine⟨fun h0=>(by rw[h0] at uY;cases uY),fun i hi=>?_⟩
  have aN:=yR hi
  have cg:ops[i]?=some ops[i]:=List.getElem?_eq_getElem aN
  obtain⟨h1,h2⟩:=(ug hs aN cg).1 hi
  have dm:oq ops.length (listed.setIfInBounds i true)=fuel:=by have:=OP hs aN h1;omega
  have ef:∀ k,(listed.setIfInBounds i true).getD k false=if k=i then true else listed.getD k false:=fun k=>yb hs aN
  generalize ops[i]=o at cg h2
  unfold wpOpIn
  have Xv:ops.toArray[i]?=some o:=by simpa using cg
  simp only[Xv]
  obtain⟨aS,⟨I,m,hw,dZ,ht⟩,A4,qx⟩:=hinv
  by_cases oV:i∈F
  ·
   obtain⟨iJ,yp⟩:=oQ bS oV
   obtain⟨HS,vV⟩:=yp o cg
   have hx:rs[i]?=some rs[i]:=List.getElem?_eq_getElem (by omega)
   generalize rs[i]=x at hx
   obtain⟨oX,rb,sZ⟩:=cD.at_ i o x (by rw[List.getElem?_take,if_pos iJ];exact cg) hx
   obtain⟨⟨qc,hg,xf⟩,LQ,dt,af,eQ,fA,Q6⟩:=oX
   have eG:x.pc=[]:=LQ HS
   obtain⟨dj,XN⟩:=oC i o x oV cg hx
   obtain⟨oA,XI⟩:=A4 i o x oV h1 cg hx
   have u0:∀ t,t∈o5 ops o→aw I m s.l (a.tmps.getD t undef) (get x.tm t):=by
    intro t qw
    rw[←oA t qw]
    refine ht t fun hp=>?_
    obtain⟨f,q,q1,q2,q3,q4⟩:=tw.1 hp
    have:=(pW cG iJ (oQ bS q1).1 cg q3 q4).2 qw
    rw[h2 f this.2] at q2;cases q2
   have sY:∀ y∈o.op.operands,aw I m s.l (a.eval y) (bd x.tm y):=by
    intro y hy
    cases y with
    | tmp t=>exact u0 t (List.mem_append_left _ (List.mem_filterMap.2 ⟨.tmp t,by simpa using hy,rfl⟩))
    | const v=>exact Hs v
    | global g=>exact Hz hw.sat.dS g
    | func f=>exact .d _ _ (.fn f)
   have fX:=Jz (ops:=ops) (a:=a) (fun j b d tY hd=>u0 d (List.mem_append_right _ (by rw[tY];simp only;rw[hd];simp))) hg
   have fX:=fX.trans xf
   have hp:holds x.pc:=by rw[eG];trivial
   rw[if_pos (fX.2 hp)]
   obtain⟨qs,Ba⟩:=af hp
   have vY:∀ y∈o.op.operands,aw I m s.l (a.eval y) (strip x.pc (bd x.tm y)).1:=fun y hy=>
    Ju (sY y hy) hp (Fz Ba _ (List.mem_map.2 ⟨y,by simpa using hy,rfl⟩))
   have EZ:=XN eG qs s.l qx
   have xc:=Hv (show(evalOp V (fun y=>(strip x.pc (bd x.tm y)).1) s.l 0 o).ob by rw[EZ];exact qs)
   have ir:=AK (nid:=0) hV hw (jm.refl s.l) vY (by rw[EZ];exact qs)
   rw[EZ] at ir
   unfold cy at ir
   simp only at ir
   refine cz.wpIn xc (ir.mono fun v w' ⟨J,hle,dc,hv⟩=>?_)
   refine ih j s _ w' _ (by simp[hs]) dm (fun k hk yt=>by rw[ef k,if_neg (show ¬ k=i from fun e=>yt (e▸oV))];exact hl k hk yt) hj ra (fW.step cg h2 ef) ?_ h
   refine⟨by cases o.dst<;>simp[Act.put,aS],⟨J,m,dc,dZ.put hle.eR,fun k hk=>?_⟩,fun f q y hf sa hq hy=>?_,?_⟩
   ·by_cases r7:o.dst=some k
    ·have yn:k < n:=by rw[r7] at eQ;simpa [cR] using eQ
     have:(a.put o.dst v).tmps.getD k undef=v:=by simp[r7,Act.put,Array.getD_eq_getD_getElem?,aS,yn]
     rw[this,XI k r7]
     unfold Rec.out;rw[if_pos eG];exact hv
    have:(a.put o.dst v).tmps.getD k undef=a.tmps.getD k undef:=by
     cases qt:o.dst with
     | none=>rfl
     | some d'=>
      have:d'≠k:=fun e=>r7 (by rw[qt,e])
      simp[Act.put,Array.getD_eq_getD_getElem?,this]
    rw[this]
    refine(ht k fun X5=>hk ?_).mono hle
    obtain⟨f,q,q1,q2,q3,q4⟩:=tw.1 X5
    refine tw.2 ⟨f,q,q1,?_,q3,q4⟩
    rw[ef f,if_neg];· exact q2
    rintro rfl;rw[cg] at q3;injection q3 with q3;subst q3;exact r7 q4
   ·have ba:f≠i:=by rintro rfl;rw[ef f,if_pos rfl] at sa;cases sa
    exact A4 f q y hf (by rw[ef f,if_neg ba] at sa;exact sa) hq hy
   exact qx
  have cj:i=j:=by
   have uN:=h1
   rw[hl i aN oV] at uN
   have uN:¬ i < j:=by simpa using uN
   rcases Nat.lt_or_ge j i with HW | qZ
   ·have HT:j∉F:=fun hF=>by have:=(oQ bS hF).1;omega
    have:=Jy fW 8 o j h2 (amm iu cg (by omega) j HW HT)
    rw[hl j (by omega) HT] at this;simp at this
   omega
  subst cj
  have ahr:i < ops.length:=aN
  rw[List.drop_eq_getElem_cons ahr] at h
  have hoe:ops[i]=o:=by have:=List.getElem?_eq_getElem ahr;rw[cg] at this;injection this with this;exact this.symm
  rw[hoe] at h
  let st:St:=⟨(ed ops F listed).map (fun d=>(d,T.undef))++s.t,s.l⟩
  have cB:∀ k,k∉ed ops F listed→get st.t k=get s.t k:=fun k hk=>by simp only[st];rw[La,if_neg hk]
  have Yg:Rel w0 I0 n st a w:=by
   refine⟨aS,I,m,hw,dZ,fun k=>?_⟩
   by_cases hk:k∈ed ops F listed
   ·simp only[st];rw[La,if_pos hk];exact .undef _
   rw[cB k hk];exact ht k hk
  have Xu:∀ t∈o5 ops o,get st.t t=get s.t t:=fun t qw=>cB t fun hp=>by
   obtain⟨f,q,q1,q2,q3,q4⟩:=tw.1 hp
   have:=((oQ bS q1).2 q q3).2 i o hj cg
   have:=this.2 t q4 qw
   rw[h2 f this] at q2;cases q2
  have h:wP P n ops o s _:=h
  refine h st rfl Xu w0 I0 a w Q _ Yg fun u l' a' w' h hv oE=>?_
  have Ys:B=true∨eM s0.l l':=by
   rcases qx with hB | qx
   ·exact .inl hB
   rcases ph with hB | ph
   ·exact .inl hB
   exact .inr (qx.trans (hv (ph i o hj cg)))
  obtain⟨r1,J,m',r3,r2,r4⟩:=oE
  have Bc:∀ k,k∈ed ops F (listed.setIfInBounds i true)↔k∈ed ops F listed:=fun k=>by
   rw[tw,tw]
   constructor
   ·rintro⟨f,q,q1,q2,q3,q4⟩
    exact⟨f,q,q1,by rw[ef f,if_neg (show ¬ f=i from fun e=>oV (e▸q1))] at q2;exact q2,q3,q4⟩
   rintro⟨f,q,q1,q2,q3,q4⟩
   exact⟨f,q,q1,by rw[ef f,if_neg (show ¬ f=i from fun e=>oV (e▸q1))];exact q2,q3,q4⟩
  refine ih (i+1) ⟨bq s.t o.dst u,l'⟩ a' w' _ (by simp[hs]) dm (fun k hk yt=>by rw[ef k,hl k hk yt];by_cases e:k=i<;>simp[e]<;>(try omega)) (by omega) (by omega) (fW.step cg h2 ef) ⟨r1,⟨J,m',r3,r2,fun k hk=>?_⟩,fun f q y hf sa hq hy=>?_,Ys⟩ h
  ·have:=r4 k
   have jr:k∉ed ops F listed:=fun e=>hk ((Bc k).2 e)
   have e:get (bq st.t o.dst u) k=get (bq s.t o.dst u) k:=by
    cases o.dst with
    | none=>exact cB k jr
    | some d=>
     simp only[bq,get]
     split
     ·rfl
     exact cB k jr
   show aw J m' l' _ (get (bq s.t o.dst u) k)
   rw[←e];exact this
  have EU:listed.getD f false=false:=by rw[ef f,if_neg (show ¬ f=i from fun e=>oV (e▸hf))] at sa;exact sa
  obtain⟨g1,g2⟩:=A4 f q y hf EU hq hy
  have vV:=((oQ bS hf).2 q hq).2 i o hj cg
  have vV:=And.intro (vV.1.resolve_left (fun hw=>by rw[h2 f hw] at EU;cases EU)) vV.2
  have zF:∀ t,o.dst≠some t→get (bq s.t o.dst u) t=get s.t t:=fun t ba=>by
   cases qt:o.dst with
   | none=>rfl
   | some d=>simp only[bq,get];rw[if_neg (fun e=>ba (by rw[qt,e]))]
  refine⟨fun t qw=>?_,fun d hd=>?_⟩
  ·exact(zF t (fun e=>(vV.1 t e).1 qw)).trans (g1 t qw)
  exact(zF d (fun e=>(vV.1 d e).2 hd)).trans (g2 d hd)
theorem ams {n1:Nat} {F:List Nat} (cG:qC ops n1=true) (bS:wY ops n1 F=true) (eg:n1≤ops.length) {s0:St} {rs:List Rec} {B:Bool} (oC:∀ (f:Nat) o x,f∈F→ops[f]?=some o→rs[f]?=some x→xP V B s0.l o x) (qu:rs.length=n1) (cD:oP V n ops s0.l (ops.take n1) 0 s0.t 0 rs) {listed:Array Bool} {a:Act} {w:World} (hinv:Inv w0 I0 n n1 ops s0 rs listed a w) (bL:∀ i,i < n1→i∉F→listed.getD i false=true) :
  aeQ w0 I0 n B s0.l ops F rs ⟨fF s0.t (ops.take n1) rs,s0.l++(bp 0 rs).map (·.2)⟩ listed a w:=by
 obtain⟨h1,I,m,h3,h2,h4,h5⟩:=hinv
 have X1:∀ p∈bp 0 rs,p.1∉F:=by
  intro p hp hF
  obtain⟨i,x,e1,e2,e3⟩:=IB rs 0 p hp
  have hi:p.1=i:=by omega
  rw[hi] at hF
  have iJ:=(oQ bS hF).1
  have ho:ops[i]?=some ops[i]:=List.getElem?_eq_getElem (by omega)
  have:=(oC i _ x hF ho e2).1
  rw[e3] at this;cases this
 have hL:cp s0.l (bp 0 rs) (fun i=>listed.getD i false)=s0.l++(bp 0 rs).map (·.2):=by
  unfold cp
  congr 1
  apply List.map_congr_left
  intro p hp
  have:=(zY rs 0).1 p hp
  rw[if_pos (bL p.1 (by omega) (X1 p hp))]
 rw[hL] at h3 h4 h5
 have j7:∀ (i:Nat) o x k,i < n1→ops[i]?=some o→rs[i]?=some x→o.dst=some k→get (fF s0.t (ops.take n1) rs) k=x.out:=fun i o x k hi ho hx hd=>
  zq (ops.take n1) rs s0.t k i o x (by rw[List.getElem?_take,if_pos hi];exact ho) hx hd (fun j q hq hj=>by
   have tZ:j < n1:=by have:=(List.getElem?_eq_some_iff.1 hq).1;simp at this;omega
   rw[List.getElem?_take,if_pos tZ] at hq
   exact(pW cG tZ hi hq ho hd).1 hj)
 have L3:∀ k,(¬ ∃ i o,i < n1∧ops[i]?=some o∧o.dst=some k)→get (fF s0.t (ops.take n1) rs) k=get s0.t k:=fun k hk=>
  yc (ops.take n1) rs s0.t k (fun o ho hd=>hk (by
   obtain⟨i,hi,rfl⟩:=List.mem_iff_getElem.1 ho
   have gi:i < n1:=by simp at hi;omega
   exact⟨i,_,gi,by rw[List.getElem?_eq_getElem (by omega)],by simpa using hd⟩))
 refine⟨h1,⟨I,m,h3,h2,fun k X3=>?_⟩,fun f o x hf sa ho hx=>⟨fun t qw=>?_,fun d hd=>?_⟩,.inr (.append _ _)⟩
 ·by_cases hk:∃ i o,i < n1∧ops[i]?=some o∧o.dst=some k
  ·obtain⟨i,o,hi,ho,hd⟩:=hk
   have hx:rs[i]?=some rs[i]:=List.getElem?_eq_getElem (by omega)
   have XT:listed.getD i false=true:=by
    cases hb:listed.getD i false with
    | true=>rfl
    | false=>
     have oV:i∈F:=Classical.byContradiction fun hF=>by rw[bL i hi hF] at hb;cases hb
     exact absurd (tw.2 ⟨i,o,oV,hb,ho,hd⟩) X3
   show aw I m _ _ (get (fF s0.t (ops.take n1) rs) k)
   rw[j7 i o _ k hi ho hx hd]
   exact h4 i o _ k hi ho hx XT hd
  show aw I m _ _ (get (fF s0.t (ops.take n1) rs) k)
  rw[L3 k hk]
  exact h5 k (fun i o hi ho _ hd=>hk ⟨i,o,hi,ho,hd⟩)
 ·
  obtain⟨iJ,yp⟩:=oQ bS hf
  obtain⟨_,rb,_⟩:=cD.at_ f o x (by rw[List.getElem?_take,if_pos iJ];exact ho) hx
  rw[rb,show(ops.take n1).take f=ops.take f by rw[List.take_take];congr 1;omega]
  show get (fF s0.t (ops.take n1) rs) t=_
  by_cases hk:∃ i o,i < n1∧ops[i]?=some o∧o.dst=some t
  ·obtain⟨i,q,hi,hq,hd⟩:=hk
   have Md:rs[i]?=some rs[i]:=List.getElem?_eq_getElem (by omega)
   rw[j7 i q _ t hi hq Md hd]
   obtain⟨ec,ET⟩:=(pW cG iJ hi ho hq hd).2 qw
   rw[zq (ops.take f) (rs.take f) s0.t t i q _ (by rw[List.getElem?_take,if_pos ec];exact hq) (by rw[List.getElem?_take,if_pos ec];exact Md) hd (fun k q' jt hk=>by
    have gP:k < f:=by have:=(List.getElem?_eq_some_iff.1 jt).1;simp at this;omega
    rw[List.getElem?_take,if_pos gP] at jt
    exact(pW cG (by omega) hi jt hq hd).1 hk)]
  rw[L3 t hk,yc (ops.take f) (rs.take f) s0.t t (fun q hq hd=>hk (by
   obtain⟨j,hj,rfl⟩:=List.mem_iff_getElem.1 hq
   have gO:j < f:=by simp at hj;omega
   exact⟨j,_,by omega,by rw[List.getElem?_eq_getElem (by omega)],by simpa using hd⟩))]
 exact j7 f o x d (oQ bS hf).1 ho hx hd
theorem axR (hV:bO P V) (hK:∀ s a w,K s→Rel w0 I0 n s a w→Q .normal a w) {n1:Nat} {F:List Nat} (fM:ud ops=true) (iu:F7 ops n1 F=true) (bS:wY ops n1 F=true) (cG:qC ops n1=true) (eg:n1≤ops.length) {s0:St} {rs:List Rec} {B:Bool} (oC:∀ (f:Nat) o x,f∈F→ops[f]?=some o→rs[f]?=some x→xP V B s0.l o x) (ph:B=true∨∀ (i:Nat) o,n1≤i→ops[i]?=some o→vk o=true) 
  (cD:oP V n ops s0.l (ops.take n1) 0 s0.t 0 rs) (cM:fJ P n ops (ops.drop n1) ⟨fF s0.t (ops.take n1) rs,s0.l++(bp 0 rs).map (·.2)⟩ K) :
  ∀ (fuel:Nat) (a:Act) (w:World) (listed:Array Bool),listed.size=ops.length→oq ops.length listed=fuel→(∀ i,n1≤i→i < ops.length→listed.getD i false=false)→Cc ops listed→Inv w0 I0 n n1 ops s0 rs listed a w →
   wpAnyIn dB 0 P .any ops.toArray Q fuel listed a w:=by
 have qu:rs.length=n1:=by rw[cD.len];simp;omega
 have jc:∀ i,i < n1→(ops.take n1)[i]?=ops[i]?:=fun i hi=>by rw[List.getElem?_take,if_pos hi]
 intro fuel
 induction fuel with
 | zero=>
  intro a w listed hs hu ke fW hinv
  have bL:∀ i,i < ops.length→listed.getD i false=true:=by
   intro i hi
   have:=List.length_eq_zero_iff.1 hu
   have:=(List.filter_eq_nil_iff.1 this) i (List.mem_range.2 hi)
   simpa using this
  have hN:n1=ops.length:=by
   rcases Nat.lt_or_ge n1 ops.length with h | h
   ·have:=ke n1 (Nat.le_refl _) h;rw[bL n1 h] at this;cases this
   omega
  exact amn hV hK fM iu cG bS eg oC ph cD 0 n1 _ a w listed hs hu (fun i hi _=>by rw[bL i hi];simp;omega) (Nat.le_refl _) eg fW (ams cG bS eg oC qu cD hinv (fun i hi _=>bL i (by omega))) cM
 | succ fuel ih=>
  intro a w listed hs hu ke fW hinv
  by_cases bL:∀ i,i < n1→i∉F→listed.getD i false=true
  ·have hl:∀ i,i < ops.length→i∉F→listed.getD i false=decide (i < n1):=by
    intro i hi hF
    by_cases h:i < n1
    ·rw[bL i h hF];simp[h]
    rw[ke i (by omega) hi];simp[h]
   exact amn hV hK fM iu cG bS eg oC ph cD (fuel+1) n1 _ a w listed hs hu hl (Nat.le_refl _) eg fW (ams cG bS eg oC qu cD hinv bL) cM
  obtain⟨aS,I,m,hw,dZ,yl,CJ⟩:=hinv
  have XF:∃ i,i < n1∧i∉F∧listed.getD i false=false:=by
   refine Classical.byContradiction fun h=>bL fun i hi hF=>?_
   cases hb:listed.getD i false with
   | true=>rfl
   | false=>exact absurd ⟨i,hi,hF,hb⟩ h
  obtain⟨i1,Q8,Xq,tW⟩:=XF
  have hex:∃ i,i < n1∧listed.getD i false=false:=⟨i1,Q8,tW⟩
  have A9:∃ i,i < n1∧listed.getD i false=false∧∀ j,j < i→listed.getD j false=true:=by
   obtain⟨i,hi⟩:=hex
   induction i using Nat.strongRecOn with
   | ind i Bk=>
    by_cases h:∃ j,j < i∧listed.getD j false=false
    ·obtain⟨j,hj,hb⟩:=h
     exact Bk j hj ⟨by omega,hb⟩
    refine⟨i,hi.1,hi.2,fun j hj=>?_⟩
    cases hb:listed.getD j false with
    | true=>rfl
    | false=>exact absurd ⟨j,hj,hb⟩ h
  obtain⟨i0,Q7,pO,yk⟩:=A9
  have uW:ops[i0]?=some ops[i0]:=List.getElem?_eq_getElem (by omega)
  have uY:i0∈Region.ready .any ops.toArray listed:=(ug hs (by omega) uW).2 ⟨pO,fun j hj=>yk j (Iu fM uW j hj)⟩
  refine⟨fun h0=>(by rw[h0] at uY;cases uY),fun i hi=>?_⟩
  have aN:=yR hi
  have cg:ops[i]?=some ops[i]:=List.getElem?_eq_getElem aN
  obtain⟨h1,h2⟩:=(ug hs aN cg).1 hi
  have A7:i < n1:=by
   rcases Nat.lt_or_ge i n1 with h | h
   ·exact h
   have:=Jy fW 8 _ i1 h2 (amm iu cg h i1 (by omega) Xq);rw[tW] at this;cases this
  generalize ops[i]=o at cg h2
  have hx:rs[i]?=some rs[i]:=List.getElem?_eq_getElem (by omega)
  generalize rs[i]=x at hx
  obtain⟨oX,rb,sZ⟩:=cD.at_ i o x (by rw[jc i A7];exact cg) hx
  obtain⟨⟨qc,hg,xf⟩,LQ,dt,af,eQ,fA,Q6⟩:=oX
  unfold wpOpIn
  have:ops.toArray[i]?=some o:=by simpa using cg
  simp only[this]
  have u0:∀ t,t∈o5 ops o→aw I m (cp s0.l (bp 0 rs) fun i=>listed.getD i false) (a.tmps.getD t undef) (get x.tm t):=by
   intro t ht
   rw[rb]
   rw[show(ops.take n1).take i=ops.take i by rw[List.take_take];congr 1;omega]
   by_cases hk:∃ j q,j < n1∧ops[j]?=some q∧q.dst=some t
   ·obtain⟨j,q,hj,hq,hd⟩:=hk
    obtain⟨ec,ET⟩:=(pW cG A7 hj cg hq hd).2 ht
    have wa:rs[j]?=some rs[j]:=List.getElem?_eq_getElem (by omega)
    rw[zq (ops.take i) (rs.take i) s0.t t j q _ (by rw[List.getElem?_take,if_pos ec];exact hq) (by rw[List.getElem?_take,if_pos ec];exact wa) hd (fun k q' jt hk=>by
     have gP:k < i:=by have:=(List.getElem?_eq_some_iff.1 jt).1;simp at this;omega
     rw[List.getElem?_take,if_pos gP] at jt
     exact(pW cG (by omega) hj jt hq hd).1 hk)]
    exact yl j q _ t hj hq wa (h2 j ET) hd
   rw[yc (ops.take i) (rs.take i) s0.t t (fun q hq hd=>hk (by
    obtain⟨j,hj,rfl⟩:=List.mem_iff_getElem.1 hq
    have gO:j < i:=by simp at hj;omega
    exact⟨j,_,by omega,by rw[List.getElem?_eq_getElem (by omega)],by simpa using hd⟩))]
   exact CJ t (fun j q hj hq _ hd=>hk ⟨j,q,hj,hq,hd⟩)
  have sY:∀ y∈o.op.operands,aw I m (cp s0.l (bp 0 rs) fun i=>listed.getD i false) (a.eval y) (bd x.tm y):=by
   intro y hy
   cases y with
   | tmp t=>exact u0 t (List.mem_append_left _ (List.mem_filterMap.2 ⟨.tmp t,by simpa using hy,rfl⟩))
   | const v=>exact Hs v
   | global g=>exact Hz hw.sat.dS g
   | func f=>exact .d _ _ (.fn f)
  have fX:=Jz (ops:=ops) (a:=a) (fun j b d tY hd=>u0 d (List.mem_append_right _ (by rw[tY];simp only;rw[hd];simp))) hg
  have fX:=fX.trans xf
  have dm:oq ops.length (listed.setIfInBounds i true)=fuel:=by have:=OP hs aN h1;omega
  have L9:∀ k,n1≤k→k < ops.length→(listed.setIfInBounds i true).getD k false=false:=fun k hk js=>by
   rw[yb hs aN,if_neg (by omega)];exact ke k hk js
  have ef:∀ j,(listed.setIfInBounds i true).getD j false=if j=i then true else listed.getD j false:=fun j=>yb hs aN
  have next:∀ (J:aC) (m':Nat→Value) (v:Value) (w':World),Le I m (cp s0.l (bp 0 rs) fun i=>listed.getD i false) J m' (cp s0.l (bp 0 rs) fun k=>(listed.setIfInBounds i true).getD k false) →
    aI w0 I0 w' J m' (cp s0.l (bp 0 rs) fun k=>(listed.setIfInBounds i true).getD k false)→aw J m' (cp s0.l (bp 0 rs) fun k=>(listed.setIfInBounds i true).getD k false) v x.out →
    wpAnyIn dB 0 P .any ops.toArray Q fuel (listed.setIfInBounds i true) (a.put o.dst v) w':=by
   intro J m' v w' hle dc hv
   refine ih _ _ _ (by simp[hs]) dm L9 (fW.step cg h2 ef) ⟨by cases o.dst<;>simp[Act.put,aS],J,m',dc,dZ.put hle.eR,fun j q y d hj hq hy hl hd=>?_,fun d hd=>?_⟩
   ·by_cases ec:j=i
    ·subst ec
     rw[cg] at hq;injection hq with hq;subst hq
     rw[hx] at hy;injection hy with hy;subst hy
     have yn:d < n:=by rw[hd] at eQ;simpa [cR] using eQ
     have:(a.put o.dst v).tmps.getD d undef=v:=by simp[hd,Act.put,Array.getD_eq_getD_getElem?,aS,yn]
     rw[this];exact hv
    have LX:listed.getD j false=true:=by rw[ef j,if_neg ec] at hl;exact hl
    have ba:o.dst≠some d:=(pW cG A7 hj cg hq hd).1 (Ne.symm ec)
    have:(a.put o.dst v).tmps.getD d undef=a.tmps.getD d undef:=by
     cases qt:o.dst with
     | none=>rfl
     | some d'=>
      have:d'≠d:=fun e=>ba (by rw[qt,e])
      simp[Act.put,Array.getD_eq_getD_getElem?,this]
    rw[this];exact(yl j q y d hj hq hy LX hd).mono hle
   have ba:o.dst≠some d:=hd i o A7 cg (by rw[ef i,if_pos rfl])
   have:(a.put o.dst v).tmps.getD d undef=a.tmps.getD d undef:=by
    cases qt:o.dst with
    | none=>rfl
    | some d'=>
     have:d'≠d:=fun e=>ba (by rw[qt,e])
     simp[Act.put,Array.getD_eq_getD_getElem?,this]
   rw[this]
   exact(CJ d (fun j q hj hq hl=>hd j q hj hq (by rw[ef j];split<;>first | rfl | exact hl))).mono hle
  have sb:x.new=none→(cp s0.l (bp 0 rs) fun i=>listed.getD i false)=cp s0.l (bp 0 rs) fun k=>(listed.setIfInBounds i true).getD k false:=by
   intro dj
   refine aaE fun p hp=>?_
   rw[ef p.1,if_neg]
   intro he
   obtain⟨i',x',e1,e2,e3⟩:=IB rs 0 p hp
   have:i'=i:=by omega
   subst this
   rw[hx] at e2;injection e2 with e2;subst e2
   rw[dj] at e3;cases e3
  by_cases hp:holds x.pc
  ·rw[if_pos (fX.2 hp)]
   obtain⟨qs,Ba⟩:=af hp
   have dt:=dt hp
   have xc:=Hv (show(evalOp V (fun y=>(strip x.pc (bd x.tm y)).1) s0.l x.nid o).ob by rw[dt];exact qs)
   have vY:∀ y∈o.op.operands,aw I m (cp s0.l (bp 0 rs) fun i=>listed.getD i false) (a.eval y) (strip x.pc (bd x.tm y)).1:=fun y hy=>
    Ju (sY y hy) hp (Fz Ba _ (List.mem_map.2 ⟨y,by simpa using hy,rfl⟩))
   have ir:=AK (nid:=x.nid) hV hw (aaD (l0:=s0.l)) vY (by rw[dt];exact qs)
   rw[dt] at ir
   unfold cy at ir
   cases dj:x.new with
   | none=>
    simp only[dj] at ir
    refine cz.wpIn xc (ir.mono fun v w' ⟨J,hle,dc,hv⟩=>?_)
    rw[sb dj] at hle dc hv
    refine next J m v w' (by rw[sb dj];exact hle) dc ?_
    unfold Rec.out
    split
    ·exact hv
    exact .cond _ _ _ (fun _=>hv) (fun hn=>absurd hp hn)
   | some b=>
    simp only[dj] at ir
    have eG:x.pc=[]:=fA (by rw[dj];rfl)
    have cC:=(zY rs 0).2.1 i x b hx dj
    simp only[Nat.zero_add] at cC
    have A2:(cp s0.l (bp 0 rs) fun i=>listed.getD i false)[x.nid]?=some .dead:=by
     rw[sZ,Nat.add_zero]
     have:=SN (l0:=s0.l) (L:=fun i=>listed.getD i false) cC
     simp only[h1] at this
     simpa using this
    have j9:(cp s0.l (bp 0 rs) fun i=>listed.getD i false).set x.nid b=cp s0.l (bp 0 rs) fun k=>(listed.setIfInBounds i true).getD k false:=by
     rw[sZ,Nat.add_zero]
     exact aaF cC (fun q y hq hy=>(zY rs 0).2.2 q _ y _ hq cC hy) ef
    refine cz.wpIn xc ((ir A2).mono fun v w' ⟨m',hle,dc,hv⟩=>?_)
    rw[j9] at hle dc hv
    refine next I m' v w' hle dc ?_
    unfold Rec.out
    rw[if_pos eG];exact hv
  rw[if_neg (fun hh=>hp (fX.1 hh))]
  have eG:x.pc≠[]:=by intro e;rw[e] at hp;exact hp trivial
  have dj:x.new=none:=by
   cases yw:x.new with
   | none=>rfl
   | some b=>exact absurd (fA (by rw[yw];rfl)) eG
  have dc:=hw
  rw[sb dj] at dc
  refine⟨fun f _=>Aw f,next I m undef w (by rw[sb dj];exact .refl ..) dc ?_⟩
  unfold Rec.out
  rw[if_neg eG]
  exact .cond _ _ _ (fun h=>absurd h hp) (fun _=>rfl)
theorem aoc (hV:bO P V) (hK:∀ s a w,K s→Rel w0 I0 n s a w→Q .normal a w) {s:St} {a:Act} {w:World} {n1:Nat} {F:List Nat} (fM:ud ops=true) (iu:F7 ops n1 F=true) (bS:wY ops n1 F=true) (cG:qC ops n1=true) (eg:n1≤ops.length)
  (aq:Rel w0 I0 n s a w) {rs:List Rec} {B:Bool} (oC:∀ (f:Nat) o x,f∈F→ops[f]?=some o→rs[f]?=some x→xP V B s.l o x) (ph:B=true∨∀ (i:Nat) o,n1≤i→ops[i]?=some o→vk o=true) (cD:oP V n ops s.l (ops.take n1) 0 s.t ([]:List (Nat×AO)).length rs) (cM:fJ P n ops (ops.drop n1) ⟨fF s.t (ops.take n1) rs,s.l++(([]:List (Nat×AO))++bp 0 rs).map (·.2)⟩ K):wpAnyIn dB 0 P .any ops.toArray Q ops.length (Array.replicate ops.length false) a { w with drawn:=w.drawn+1 }:=by
 obtain⟨aS,I,m,hw,dZ,ht⟩:=aq
 have r8:∀ i,(Array.replicate ops.length false).getD i false=false:=fun i=>by
  rw[Array.getD_eq_getD_getElem?]
  cases hx:(Array.replicate ops.length false)[i]? with
  | none=>rfl
  | some b=>have:=Array.getElem?_eq_some_iff.1 hx;simp at this;simp[←this.2]
 have qy:aI w0 I0 { w with drawn:=w.drawn+1 } I m s.l:=(hw.call (w':={ w with drawn:=w.drawn+1 }) ⟨rfl,rfl,rfl,Nat.le_refl _,fun _ _=>rfl,fun _=>Nat.le_succ _⟩ (jn.refl _ _) ⟨hw.sat.cell,hw.sat.mp,hw.sat.df,hw.sat.dS⟩).1
 obtain⟨Bh,hle⟩:aI w0 I0 { w with drawn:=w.drawn+1 } I m (cp s.l (bp 0 rs) fun i=>(Array.replicate ops.length false).getD i false)∧Le I m s.l I m (cp s.l (bp 0 rs) fun i=>(Array.replicate ops.length false).getD i false):=by
  have:(cp s.l (bp 0 rs) fun i=>(Array.replicate ops.length false).getD i false)=s.l++List.replicate (bp 0 rs).length .dead:=by
   unfold cp
   congr 1
   rw[List.eq_replicate_iff]
   refine⟨by simp,fun b hb=>?_⟩
   obtain⟨p,_,rfl⟩:=List.mem_map.1 hb
   rw[if_neg (by simp only[r8];simp)]
  rw[this]
  generalize (bp 0 rs).length=c
  induction c with
  | zero=>simp;exact⟨qy,.refl ..⟩
  | succ c ih=>
   obtain⟨q1,q2⟩:=ih
   obtain⟨r1,r2⟩:=q1.push
   rw[List.replicate_succ',←List.append_assoc]
   exact⟨r1,q2.trans r2⟩
 have:=axR (Q:=Q) (K:=K) hV hK fM iu bS cG eg (s0:=s) (rs:=rs) oC ph (by simpa using cD) (by simpa using cM) ops.length a { w with drawn:=w.drawn+1 } (Array.replicate ops.length false) (by simp)
  (by unfold oq;rw[List.filter_eq_self.2 (fun i _=>by rw[r8];rfl)];simp) (fun i _ _=>r8 i)
  (fun i o _ hl=>by rw[r8] at hl;cases hl)
  ⟨aS,I,m,Bh,dZ.mono hle.eR,fun i o x d hi ho hx hl=>(by rw[r8] at hl;cases hl),fun d _=>(ht d).mono hle⟩
 simpa using this
theorem aob (hV:bO P V) (hm:P.follows .mixedOrders=true) (hK:∀ s a w,K s→Rel w0 I0 n s a w→Q .normal a w) {id:Nat} {s:St} {a:Act} {w:World} {n1:Nat} {F:List Nat} (fM:ud ops=true) (iu:F7 ops n1 F=true) (bS:wY ops n1 F=true) (cG:qC ops n1=true) (eg:n1≤ops.length)
  (aq:Rel w0 I0 n s a w) {rs:List Rec} {B:Bool} (oC:∀ (f:Nat) o x,f∈F→ops[f]?=some o→rs[f]?=some x→xP V B s.l o x) (ph:B=true∨∀ (i:Nat) o,n1≤i→ops[i]?=some o→vk o=true) (cD:oP V n ops s.l (ops.take n1) 0 s.t ([]:List (Nat×AO)).length rs) (cM:fJ P n ops (ops.drop n1) ⟨fF s.t (ops.take n1) rs,s.l++(([]:List (Nat×AO))++bp 0 rs).map (·.2)⟩ K):(Code.region id ops.toArray true).wpIn dB 0 P Q a w:=by
 refine wpIn_region_any hm ?_
 simpa using aoc hV hK fM iu bS cG eg aq oC ph cD cM
theorem atH {l0:List AO} {F:List Nat} {n1:Nat} {tm:Tm} {rs:List Rec} (hn:∀ f∈F,f < n1) (h:(F.all fun f=>match ops[f]? with | some o=>wb o | none=>true)=true) (hg:∀ (f:Nat) o,f∈F→ops[f]?=some o→o.guard=none) (cD:oP V n ops l0 (ops.take n1) 0 tm 0 rs) :
  ∀ (f:Nat) o x,f∈F→ops[f]?=some o→rs[f]?=some x→xP V true l0 o x:=by
 intro f o x hf ho hx
 have L6:wb o=true:=by have:=List.all_eq_true.1 h f hf;rw[ho] at this;exact this
 obtain⟨oX,_⟩:=cD.at_ f o x (by rw[List.getElem?_take,if_pos (hn f hf)];exact ho) hx
 have eG:x.pc=[]:=oX.Wm (hg f o hf ho)
 have dt:=oX.res (by rw[eG];trivial)
 have dj:x.new=none:=by
  cases hq:x.new with
  | none=>rfl
  | some b=>
   have:=aoy (V:=V) (ρ:=fun y=>(strip x.pc (bd x.tm y)).1) (l:=l0) (nid:=x.nid) L6 b
   rw[dt,hq] at this;exact absurd rfl this
 refine⟨dj,fun _ af l' _=>?_⟩
 rw[dj] at dt
 exact(afN (V:=V) (ρ:=fun y=>(strip x.pc (bd x.tm y)).1) (l:=l0) (l':=l') (nid:=x.nid) (nid':=0) L6 (by rw[dt]) (by rw[dt];exact af)).trans dt
theorem afw (hV:bO P V) (hm:P.follows .mixedOrders=true) (hK:∀ s a w,K s→Rel w0 I0 n s a w→Q .normal a w) {id:Nat} {s:St} {a:Act} {w:World} {n1:Nat} {F:List Nat} (fM:ud ops=true) (iu:F7 ops n1 F=true) (bS:V6 ops n1 F=true) (cG:qC ops n1=true) (eg:n1≤ops.length)
  (aq:Rel w0 I0 n s a w) {rs:List Rec} (cD:oP V n ops s.l (ops.take n1) 0 s.t ([]:List (Nat×AO)).length rs) (cM:fJ P n ops (ops.drop n1) ⟨fF s.t (ops.take n1) rs,s.l++(([]:List (Nat×AO))++bp 0 rs).map (·.2)⟩ K):(Code.region id ops.toArray true).wpIn dB 0 P Q a w:=by
 unfold V6 at bS
 rw[Bool.and_eq_true] at bS
 exact aob hV hm hK fM iu bS.2 cG eg aq (B:=true) (atH (fun f hf=>(oQ bS.2 hf).1) bS.1 (fun f o hf ho=>((oQ bS.2 hf).2 o ho).1) (by simpa using cD)) (.inl rfl) cD cM
end
end Go.an
namespace Go.an
open Go Go.RowKit
variable [ck] [dx]
def fP (p:List Nat) (j:Nat):Nat:=p.findIdx (· == j)
def pX (p:List Nat) (o:Oper):Oper:={ o with after:=(o.after.toList.map fun e=>{ e with on:=fP p e.on }).toArray,guard:=o.guard.map fun x=>(fP p x.1,x.2) }
def dJ (p:List Nat) (ops:List Oper):List Oper:=p.filterMap fun i=>(ops[i]?).map (pX p)
def xz (p:List Nat) (n:Nat):Bool:=decide (p.length=n)&&((List.range n).all fun i=>p.contains i)&&(p.all fun i=>decide (i < n))&&(List.range n).all fun i=>fP p (p.getD i 0) == i
theorem axP {p:List Nat} {i j:Nat} (hi:i∈p) (h:fP p i=fP p j):i=j:=by
 have h1:fP p i < p.length:=List.findIdx_lt_length_of_exists ⟨i,hi,by simp⟩
 have e1:p[fP p i]=i:=by
  have:=List.findIdx_getElem (p:=fun x=>x == i) (xs:=p) (w:=h1)
  exact LawfulBEq.eq_of_beq this
 have h2:fP p j < p.length:=h▸h1
 have e2:p[fP p j]=j:=by
  have:=List.findIdx_getElem (p:=fun x=>x == j) (xs:=p) (w:=h2)
  exact LawfulBEq.eq_of_beq this
 rw[←e1,←e2];congr 1
theorem ake {p:List Nat} {ops:List Oper} (hp:∀ i∈p,i < ops.length):dJ p ops=p.pmap (fun i h=>pX p (ops[i]'h)) hp:=by
 unfold dJ
 generalize hq:p=q at *
 have:∀ (r:List Nat) (hr:∀ i∈r,i < ops.length),(r.filterMap fun i=>(ops[i]?).map (pX q))=r.pmap (fun i h=>pX q (ops[i]'h)) hr:=by
  intro r
  induction r with
  | nil=>intro _;rfl
  | cons x r ih=>
   intro hr
   have hx:=hr x (by simp)
   rw[List.filterMap_cons]
   simp only[List.getElem?_eq_getElem hx,Option.map_some,List.pmap_cons]
   rw[ih]
 exact this q hp
theorem Nd {p:List Nat} {n:Nat} (h:xz p n=true):p.length=n∧(∀ i,i < n→i∈p)∧(∀ i∈p,i < n)∧∀ i (hi:i < p.length),fP p p[i]=i:=by
 simp only[xz,Bool.and_eq_true,decide_eq_true_eq,List.all_eq_true,List.mem_range,List.contains_iff_mem,beq_iff_eq] at h
 obtain⟨⟨⟨h1,h2⟩,h3⟩,h4⟩:=h
 refine⟨h1,h2,h3,fun i hi=>?_⟩
 have:=h4 i (by omega)
 rwa [List.getD_eq_getElem?_getD,List.getElem?_eq_getElem hi] at this
section
variable {P:Program} {ops:List Oper} {Q:Exit→Act→World→Prop} {p:List Nat}
theorem aba (hp:xz p ops.length=true) {i:Nat} {o:Oper} (ho:ops[i]?=some o):(dJ p ops)[fP p i]?=some (pX p o):=by
 replace hp:=Nd hp
 have hi:=(List.getElem?_eq_some_iff.1 ho).1
 have hb:=hp.2.2.1
 rw[ake hb]
 have h1:fP p i < p.length:=List.findIdx_lt_length_of_exists ⟨i,hp.2.1 i hi,by simp⟩
 have e1:p[fP p i]=i:=by
  have:=List.findIdx_getElem (p:=fun x=>x == i) (xs:=p) (w:=h1)
  exact LawfulBEq.eq_of_beq this
 rw[List.getElem?_eq_getElem (by simpa using h1)]
 simp only[List.getElem_pmap,Option.some.injEq]
 congr 1
 have:=(List.getElem?_eq_some_iff.1 ho).2
 rw[←this];congr 1
theorem Nf (hp:xz p ops.length=true):(dJ p ops).length=ops.length:=by
 replace hp:=Nd hp
 rw[ake hp.2.2.1];simp[hp.1]
theorem S8 (hp:xz p ops.length=true) {i:Nat}:fP p i < ops.length↔i < ops.length:=by
 replace hp:=Nd hp
 constructor
 ·intro h
  have h1:fP p i < p.length:=by omega
  have:=List.findIdx_getElem (p:=fun x=>x == i) (xs:=p) (w:=h1)
  have:=LawfulBEq.eq_of_beq this
  exact hp.2.2.1 i (this▸List.getElem_mem _)
 intro h
 have:fP p i < p.length:=List.findIdx_lt_length_of_exists ⟨i,hp.2.1 i h,by simp⟩
 omega
theorem abb (hp:xz p ops.length=true) {listed tt:Array Bool} (h1:listed.size=ops.length) (h2:tt.size=ops.length) (hl:∀ i,tt.getD (fP p i) false=listed.getD i false) {i:Nat} :
  fP p i∈Region.ready .any (dJ p ops).toArray tt↔i∈Region.ready .any ops.toArray listed:=by
 rw[mem_ready,mem_ready]
 by_cases hi:i < ops.length
 ·have gi:=(S8 hp).2 hi
  rw[Wk h1 hi,Wk h2 gi,hl]
  have ho:ops[i]?=some ops[i]:=List.getElem?_eq_getElem hi
  have cv:=aba hp ho
  simp only[List.getElem?_toArray,ho,cv,Option.some.injEq,exists_eq_left']
  refine and_congr_right fun _=>?_
  unfold pX
  simp only[List.mem_toArray,List.mem_map,Array.mem_toList_iff]
  constructor
  ·intro h e he hb
   rw[←hl]
   exact h _ ⟨e,he,rfl⟩ hb
  rintro h _ ⟨e,he,rfl⟩ hb
  show tt.getD (fP p e.on) false=true
  rw[hl];exact h e he hb
 have gi:¬ fP p i < ops.length:=fun h=>hi ((S8 hp).1 h)
 constructor
 ·rintro⟨_,o,ho,_⟩
  have:=(Array.getElem?_eq_some_iff.1 ho).1
  simp[Nf hp] at this;omega
 rintro⟨_,o,ho,_⟩
 have:=(Array.getElem?_eq_some_iff.1 ho).1
 simp at this;omega
theorem axM (hp:xz p ops.length=true) (tmps:Array Value) (j:Nat):yielded (dJ p ops).toArray tmps (fP p j)=yielded ops.toArray tmps j:=by
 unfold yielded
 by_cases hj:j < ops.length
 ·have ho:ops[j]?=some ops[j]:=List.getElem?_eq_getElem hj
  have cv:=aba hp ho
  simp only[List.getElem?_toArray,ho,cv,pX,Option.bind_some]
 have gO:¬ fP p j < ops.length:=fun h=>hj ((S8 hp).1 h)
 simp only[List.getElem?_toArray]
 rw[List.getElem?_eq_none (by rw[Nf hp];omega),List.getElem?_eq_none (by omega)]
theorem aAX (hp:xz p ops.length=true):∀ (fuel:Nat) (listed tt:Array Bool) (a:Act) (w:World),listed.size=ops.length→tt.size=ops.length→(∀ i,tt.getD (fP p i) false=listed.getD i false) →
  wpAnyIn dB 0 P .any (dJ p ops).toArray Q fuel tt a w→wpAnyIn dB 0 P .any ops.toArray Q fuel listed a w:=by
 have zE:∀ {listed tt:Array Bool},listed.size=ops.length→tt.size=ops.length→(∀ i,tt.getD (fP p i) false=listed.getD i false)→(Region.ready .any (dJ p ops).toArray tt=[]↔Region.ready .any ops.toArray listed=[]):=by
  intro listed tt h1 h2 hl
  rw[List.eq_nil_iff_forall_not_mem,List.eq_nil_iff_forall_not_mem]
  constructor
  ·exact fun h i hi=>h _ ((abb hp h1 h2 hl).2 hi)
  intro h i hi
  have aN:i < ops.length:=by have:=yR hi;rwa [Nf hp] at this
  have EY:xz p ops.length=true:=hp
  replace hp:=Nd hp
  have hex:∃ j,j < ops.length∧fP p j=i:=by
   have hip:i < p.length:=by omega
   exact⟨p[i],hp.2.2.1 _ (List.getElem_mem _),hp.2.2.2 i hip⟩
  obtain⟨j,hj,rfl⟩:=hex
  exact h j ((abb EY h1 h2 hl).1 hi)
 intro fuel
 induction fuel with
 | zero=>
  intro listed tt a w h1 h2 hl h
  exact⟨(zE h1 h2 hl).1 h.1,h.2⟩
 | succ fuel ih=>
  intro listed tt a w h1 h2 hl h
  refine⟨fun h0=>h.1 ((zE h1 h2 hl).2 h0),fun i hi=>?_⟩
  have aN:=yR hi
  have hw:=h.2 _ ((abb hp h1 h2 hl).2 hi)
  have ho:ops[i]?=some ops[i]:=List.getElem?_eq_getElem aN
  have cv:=aba hp ho
  have Bf:wpOpIn dB 0 P ops.toArray Q i (wpAnyIn dB 0 P .any (dJ p ops).toArray Q fuel (tt.setIfInBounds (fP p i) true)) a w:=by
   unfold wpOpIn at hw ⊢
   simp only[List.getElem?_toArray,ho,cv] at hw ⊢
   have fX:Region.wanted (pX p ops[i]) (yielded (dJ p ops).toArray a.tmps)=Region.wanted ops[i] (yielded ops.toArray a.tmps):=by
    unfold Region.wanted
    cases hg:ops[i].guard with
    | none=>simp[pX,hg]
    | some x=>obtain⟨j,b⟩:=x;simp only[pX,hg,Option.map_some,axM hp]
   rw[fX] at hw
   split
   ·rename_i hh;rw[if_pos hh] at hw;exact hw
   rename_i hh;rw[if_neg hh] at hw;exact hw
  refine wpOpIn_mono (fun a w hk=>ih _ _ a w (by simp[h1]) (by simp[h2]) (fun k=>?_) hk) Bf
  rw[yb h1 aN,yb h2 ((S8 hp).2 aN),hl]
  by_cases hk:k=i
  ·subst hk;simp
  rw[if_neg hk,if_neg]
  intro e
  replace hp:=Nd hp
  exact hk (axP (hp.2.1 i aN) e.symm).symm
end
section
variable {P:Program} {V:Env} {w0:World} {I0:aC} {n:Nat} {md:Way} {ops:List Oper} {Q:Exit→St→Prop} {K:St→Prop} {s:St}
end
end Go.an
namespace Go.an
open Go Go.RowKit
variable [ck] [dx]
abbrev Spec:=List D→Option (D×Prop)
def im:List (FuncId×Spec)→O5
 | [],_,_=>none
 | (g,S)::r,f,ds=>if g=f then S ds else im r f ds
structure aL (P:Program) (f:FuncId) (S:Spec):Prop where
 enters:Enters P f
 AH:∀ ds r ob,S ds=some (r,ob)→ob→ee P f ds r
def vF (P:Program):List (FuncId×Spec)→Prop
 | []=>True
 | (f,S)::r=>aL P f S∧vF P r
theorem vF.ok {P:Program}:∀ {wF:List (FuncId×Spec)},vF P wF→COk P (im wF)
 | [],_,f,ds,r,ob,h,_=>by simp[im] at h
 | (g,S)::wF,hs,f,ds,r,ob,h,af=>by
  obtain⟨h1,h2⟩:=hs
  simp only[im] at h
  split at h
  ·rename_i hg;subst hg;exact⟨h1.enters,h1.AH ds r ob h af⟩
  exact vF.ok h2 f ds r ob h af
def xv (wF:List (Nat×List Lf)):TypeId→Option (List Lf):=fun t=>(wF.find? fun p=>p.1 == t).map (·.2)
def Qb (ops:List Oper) (n1:Nat):Bool:=ud ops&&OM ops n1&&qC ops n1&&decide (n1≤ops.length)
section
variable {P:Program} {V:Env} {w0:World} {I0:aC} {n:Nat} {md:Way} {Q:Exit→St→Prop} {s:St} {y:Code} {ops:List Oper} {K:St→Prop}
theorem aou (hV:bO P V) (hm:P.follows .mixedOrders=true) {Q:Exit→Act→World→Prop} (hK:∀ s a w,K s→Rel w0 I0 n s a w→Q .normal a w) {id:Nat} {s:St} {a:Act} {w:World} (n1:Nat) (hd:Qb ops n1=true) (aq:Rel w0 I0 n s a w)
  (h:dr V n ops md s.l (ops.take n1) 0 s.t [] fun tm news=>bu V n ops md (ops.drop n1) ⟨tm,s.l++news.map (·.2)⟩ K):(Code.region id ops.toArray true).wpIn dB 0 P Q a w:=by
 simp only[Qb,Bool.and_eq_true,decide_eq_true_eq] at hd
 obtain⟨⟨⟨fM,iu⟩,cG⟩,eg⟩:=hd
 obtain⟨rs,cD,cM⟩:=zm _ _ _ _ h
 exact aoe hV hm hK fM iu cG eg aq cD cM
def zh (ops:List Oper) (n1:Nat) (F:List Nat):Bool:=ud ops&&F7 ops n1 F&&V6 ops n1 F&&qC ops n1&&decide (n1≤ops.length)
theorem aov (hV:bO P V) (hm:P.follows .mixedOrders=true) {Q:Exit→Act→World→Prop} {K:St→Prop} (hK:∀ s a w,K s→Rel w0 I0 n s a w→Q .normal a w) {id:Nat} {s:St} {a:Act} {w:World} (n1:Nat) (F:List Nat) (hd:zh ops n1 F=true) (aq:Rel w0 I0 n s a w)
  (h:dr V n ops md s.l (ops.take n1) 0 s.t [] fun tm news=>bu V n ops md (ops.drop n1) ⟨tm,s.l++news.map (·.2)⟩ K):(Code.region id ops.toArray true).wpIn dB 0 P Q a w:=by
 simp only[zh,Bool.and_eq_true,decide_eq_true_eq] at hd
 obtain⟨⟨⟨⟨fM,iu⟩,bS⟩,cG⟩,eg⟩:=hd
 obtain⟨rs,cD,cM⟩:=zm _ _ _ _ h
 exact afw hV hm hK fM iu bS cG eg aq cD (fJ.of hV cM)
theorem aow (hV:bO P V) (hm:P.follows .mixedOrders=true) {Q:Exit→Act→World→Prop} {K:St→Prop} (hK:∀ s a w,K s→Rel w0 I0 n s a w→Q .normal a w) {id:Nat} {s:St} {a:Act} {w:World} (n1:Nat) (F:List Nat) (hd:zh ops n1 F=true) (aq:Rel w0 I0 n s a w)
  (h:dr V n ops md s.l (ops.take n1) 0 s.t [] fun tm news=>fJ P n ops (ops.drop n1) ⟨tm,s.l++news.map (·.2)⟩ K):(Code.region id ops.toArray true).wpIn dB 0 P Q a w:=by
 simp only[zh,Bool.and_eq_true,decide_eq_true_eq] at hd
 obtain⟨⟨⟨⟨fM,iu⟩,bS⟩,cG⟩,eg⟩:=hd
 obtain⟨rs,cD,cM⟩:=zm _ _ _ _ h
 exact afw hV hm hK fM iu bS cG eg aq cD cM
def T.By (k:Nat):T→Bool
 | .d _=>true
 | .ptr id _=>decide (id < k)
 | .cE id=>decide (id < k)
 | _=>false
def T.fD (k:Nat):T→Bool
 | .ptr id _=>decide (id < k)
 | .row id=>decide (id < k)
 | .dH id _ _=>decide (id < k)
 | .map id=>decide (id < k)
 | .cE id=>decide (id < k)
 | .sub id _ _=>decide (id < k)
 | .fQ id _=>decide (id < k)
 | .bn ts=>ts.all fun t=>match t with | .d _=>true | _=>false
 | .cond _ t=>match t with | .d _=>true | _=>false
 | .aR _ ts=>ts.all (T.By k)
 | .agg ts=>ts.all fun t=>match t with | .d _=>true | _=>false
 | _=>true
def AO.fD (k:Nat):AO→Bool
 | .var _ cs=>cs.all (T.fD k)
 | .frame b _ _=>decide (b≤k)
 | .loop b _ _ _ _ _ _ _=>decide (b≤k)
 | _=>true
theorem aw.cut {I:aC} {m:Nat→Value} {l:List AO} {k:Nat} (hk:k≤l.length) {v:Value} {t:T} (h:aw I m l v t) (hb:t.fD k=true):aw I m (l.take k) v t:=by
 have cB:∀ id,id < k→(l.take k)[id]?=l[id]?:=fun id aB=>by rw[List.getElem?_take,if_pos aB]
 have hv:∀ id,id < k→isVar (l.take k) id=isVar l id:=fun id aB=>by unfold isVar;rw[cB id aB]
 have hr:∀ id,id < k→isRow (l.take k) id=isRow l id:=fun id aB=>by unfold isRow;rw[cB id aB]
 have data:∀ {v:Value} {t:T},aw I m l v t→(match t with | .d _=>true | _=>false)=true→aw I m (l.take k) v t:=by
  intro v t h hb
  cases h<;>simp at hb
  exact .d _ _ (by assumption)
 cases h with
 | undef=>exact .undef _
 | d v x hx=>exact .d _ _ hx
 | ao s=>exact .ao _
 | ptr id b off h1 h2=>simp[T.fD] at hb;exact .ptr id b off ((hv id hb).trans h1) h2
 | fy b o size els q off val h1 h2 h3 h4=>exact .fy b o size els q off val h1 h2 h3 h4
 | cE id b h1 h2=>simp[T.fD] at hb;exact .cE id b ((hv id hb).trans h1) h2
 | row A n c id h1 h2=>simp[T.fD] at hb;exact .row A n c id (by rw[List.length_take];omega) (fun hl=>h2 ((hr id hb).symm.trans hl))
 | fQ A n c id x h1 h2 h3=>simp[T.fD] at hb;exact .fQ A n c id x (by rw[List.length_take];omega) (fun hl=>h2 ((hr id hb).symm.trans hl)) h3
 | dH a id q off h1 h2=>simp[T.fD] at hb;exact .dH a id q off (by rw[List.length_take];omega) (fun e size els hl=>h2 e size els (by rw[cB id hb] at hl;exact hl))
 | sub A n c id lo hi h1 h2=>simp[T.fD] at hb;exact .sub A n c id lo hi (by rw[List.length_take];omega) (fun e size els hl=>h2 e size els (by rw[cB id hb] at hl;exact hl))
 | map r id h1 h2=>simp[T.fD] at hb;exact .map r id (by rw[List.length_take];omega) (fun hl=>h2 ((hr id hb).symm.trans hl))
 | bn vs ts h1 h2=>
  refine .bn vs ts h1 fun i v t hv ht=>data (h2 i v t hv ht) ?_
  simp only[T.fD,List.all_eq_true] at hb
  exact hb t (List.mem_of_getElem? ht)
 | cond v pc t h1 h2=>exact .cond v pc t (fun hp=>data (h1 hp) hb) h2
 | aR g vs ts h1 h2=>
  refine .aR g vs ts h1 fun i v t dW ht=>?_
  simp only[T.fD,List.all_eq_true] at hb
  have tW:=hb t (List.mem_of_getElem? ht)
  have h3:=h2 i v t dW ht
  cases h3 with
  | d v x hx=>exact .d _ _ hx
  | ptr id b off q1 q2=>simp[T.By] at tW;exact .ptr id b off ((hv id tW).trans q1) q2
  | cE id b q1 q2=>simp[T.By] at tW;exact .cE id b ((hv id tW).trans q1) q2
  | _=>simp[T.By] at tW
 | agg vs ts h1 h2 h3=>
  refine .agg vs ts h1 h2 fun i v t hv ht=>data (h3 i v t hv ht) ?_
  simp only[T.fD,List.all_eq_true] at hb
  exact hb t (List.mem_of_getElem? ht)
theorem aI.cut {w0 w:World} {I0 I:aC} {m:Nat→Value} {l:List AO} {k:Nat} (h:aI w0 I0 w I m l) (hk:k≤l.length) (hb:(l.take k).all (AO.fD k)=true):aI w0 I0 w I m (l.take k):=by
 have cB:∀ id,id < k→(l.take k)[id]?=l[id]?:=fun id aB=>by rw[List.getElem?_take,if_pos aB]
 have aN:∀ {id:Nat} {o:AO},(l.take k)[id]?=some o→id < k∧l[id]?=some o:=by
  intro id o ho
  have:id < k:=by have:=(List.getElem?_eq_some_iff.1 ho).1;rw[List.length_take] at this;omega
  exact⟨this,by rw[←cB id this];exact ho⟩
 refine⟨h.below,h.sat,h.ext,fun id o ho=>?_,fun i j b cj hi hj=>?_⟩
 ·obtain⟨h1,h2⟩:=aN ho
  have:=h.obj id o h2
  cases o with
  | var ty cs=>
   obtain⟨b,vs,q1,q2,q3,q4,q5,q6⟩:=this
   refine⟨b,vs,q1,q2,q3,q4,fun i x t hx ht=>⟨(q5 i x t hx ht).1.cut hk ?_,(q5 i x t hx ht).2⟩,q6⟩
   have:=List.all_eq_true.1 hb _ (List.mem_of_getElem? ho)
   simp only[AO.fD,List.all_eq_true] at this
   exact this t (List.mem_of_getElem? ht)
  | dead=>trivial
  | row e size els=>exact this
  | cF e size els=>exact this
  | map ks vs=>exact this
  | oR ks vs=>exact this
  | iter ks vs done=>exact this
  | frame b vals t=>
   have AZ:=List.all_eq_true.1 hb _ (List.mem_of_getElem? ho)
   simp only[AO.fD,decide_eq_true_eq] at AZ
   refine⟨this.1,by rw[List.length_take];have:=this.2.1;omega,fun j=>?_⟩
   rw[List.take_take,Nat.min_eq_left AZ]
   exact this.2.2 j
  | loop b n ps cQ body t st ed=>
   have AZ:=List.all_eq_true.1 hb _ (List.mem_of_getElem? ho)
   simp only[AO.fD,decide_eq_true_eq] at AZ
   obtain⟨b',r,q0,q1,q2,q3,q4,q5,q6⟩:=this
   refine⟨b',r,q0,q1,q2,q3,by rw[List.length_take];omega,fun j=>?_,q6⟩
   rw[List.take_take,Nat.min_eq_left AZ]
   exact q5 j
 obtain⟨o1,q1,d1⟩:=bZ.1 hi
 obtain⟨o2,q2,d2⟩:=bZ.1 hj
 exact h.sep i j b cj (bZ.2 ⟨o1,(aN q1).2,d1⟩) (bZ.2 ⟨o2,(aN q2).2,d2⟩)
def zp (s:Tm):Tm→Prop
 | []=>True
 | (i,t)::r=>get s i=t∧zp s r
theorem Wd {s:Tm}:∀ {r:Tm},zp s r→∀ k,get r k = .undef∨get r k=get s k
 | [],_,k=> .inl rfl
 | (i,t)::r,h,k=>by
  simp only[get]
  by_cases hi:i=k
  ·subst hi;rw[if_pos rfl];exact .inr h.1.symm
  rw[if_neg hi];exact Wd h.2 k
theorem aga {k:Nat}:∀ {r:Tm},r.all (fun p=>T.fD k p.2)=true→∀ j,T.fD k (get r j)=true
 | [],_,j=>rfl
 | (i,t)::r,h,j=>by
  simp only[List.all_cons,Bool.and_eq_true] at h
  simp only[get]
  split
  ·exact h.1
  exact aga h.2 j
theorem Sub.cut (k:Nat) {t':Tm} (hk:k≤s.l.length) (hb:(s.l.take k).all (AO.fD k)=true) (ht:t'.all (fun p=>T.fD k p.2)=true) (hf:zp s.t t'):Sub s ⟨t',s.l.take k⟩:=by
 intro w0 I0 n a w hr
 obtain⟨h1,I,m,h3,h2,h4⟩:=hr
 refine⟨h1,I,m,h3.cut hk hb,h2,fun j=>?_⟩
 rcases Wd hf j with h | h
 ·rw[h];exact .undef _
 rw[h]
 exact(h4 j).cut hk (by rw[←h];exact aga ht j)
theorem Sub.an4 (k:Nat) {t':Tm} {l':List AO} (hl:l'=s.l.take k) (hk:k≤s.l.length) (hb:(s.l.take k).all (AO.fD k)=true) (ht:t'.all (fun p=>T.fD k p.2)=true) (hf:zp s.t t'):Sub s ⟨t',l'⟩:=by
 subst hl;exact Sub.cut k hk hb ht hf
end
end Go.an
