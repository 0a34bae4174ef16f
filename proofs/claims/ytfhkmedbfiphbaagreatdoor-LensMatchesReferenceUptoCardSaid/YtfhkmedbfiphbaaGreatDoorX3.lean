import Derived.Test.YtfhkmedbfiphbaaGreatDoorX2
import Derived.RangeFuncIn
set_option linter.all false
namespace Go.aj
open Go Go.RowKit
variable [bh]
theorem QZ {V:Env} {ρ ρ':Operand→T} {l:List AO} {nid:Nat} {o:Oper} (h:∀ x∈o.op.operands,ρ x=ρ' x):evalOp V ρ l nid o=evalOp V ρ' l nid o:=by
 obtain⟨dst,op,ty,pos,CI,g⟩:=o
 cases op with
 | build t parts=>
  have:parts.toList.map (fun p=>(p.1,ρ p.2))=parts.toList.map (fun p=>(p.1,ρ' p.2)):=List.map_congr_left fun p hp=>by
   rw[h p.2 (by simp only[Op.operands];simp;exact⟨p.1,by simpa using hp⟩)]
  simp only[evalOp,this]
 | buildSlice t len parts=>
  have:parts.toList.map (fun p=>kj (ρ p.2))=parts.toList.map (fun p=>kj (ρ' p.2)):=List.map_congr_left fun p hp=>by
   rw[h p.2 (by simp only[Op.operands];simp;exact⟨p.1,by simpa using hp⟩)]
  have h2:parts.toList.mapM (fun p=>kj (ρ p.2))=parts.toList.mapM (fun p=>kj (ρ' p.2)):=by
   have e:∀ (f:Nat×Operand→Option D) (ps:List (Nat×Operand)),ps.mapM f=(ps.map f).mapM id:=fun f ps=>by
    induction ps with
    | nil=>rfl
    | cons p ps ih=>simp only[List.mapM_cons,List.map_cons,ih,id]
   rw[e,e,this]
  have h3:parts.toList.map (fun p=>ρ p.2)=parts.toList.map (fun p=>ρ' p.2):=List.map_congr_left fun p hp=>by
   rw[h p.2 (by simp only[Op.operands];simp;exact⟨p.1,by simpa using hp⟩)]
  simp only[evalOp,h2,h3]
 | slice t x lo hi mx=>
  have hx:=h x (by simp[Op.operands])
  have fm:lo.map ρ=lo.map ρ':=by cases lo with | none=>rfl | some a=>simp;exact h a (by simp[Op.operands])
  have lH:hi.map ρ=hi.map ρ':=by cases hi with | none=>rfl | some a=>simp;exact h a (by simp[Op.operands])
  cases mx with
  | none=>simp only[evalOp,hx,fm,lH]
  | some m=>
   have hm:=h m (by simp[Op.operands])
   simp only[evalOp,hx,fm,lH,hm]
 | call c=>
  have c9:c.args.toList.map ρ=c.args.toList.map ρ':=List.map_congr_left fun x hx=>h x (by simp[Op.operands,Call.operands];right;simpa using hx)
  have fM:∀ x∈c.args.toList,ρ x=ρ' x:=fun x hx=>h x (by simp[Op.operands,Call.operands];right;simpa using hx)
  obtain⟨callee,args,argTypes⟩:=c
  cases callee with
  | value f=>
   have hf:=h f (by simp[Op.operands,Call.operands])
   simp only[evalOp,hf,c9]
  | invoke r n=>simp only[evalOp]
  | builtin b=>
   cases b<;>simp only[evalOp]<;>first | rfl | (simp only at c9 fM;(try rw[c9]);done) | (simp only at c9 fM;split<;>first | rfl | (rename_i ha _;simp only[ha,List.mem_cons,List.mem_singleton,List.not_mem_nil,or_false] at fM;first | rw[fM _ rfl] | rw[fM _ (.inl rfl),fM _ (.inr rfl)]))
 | makeMap t r=>cases r<;>simp only[evalOp]
 | makeFunc fn first cV=>
  have JF:cV.toList.map ρ=cV.toList.map ρ':=List.map_congr_left fun x hx=>h x (by simp[Op.operands];right;simpa using hx)
  cases fn<;>simp only[evalOp]
  rw[JF]
 | _=>simp only[evalOp]<;>first | rfl | (simp only[Op.operands] at h;simp[h])
def pV (o:Oper):Bool:=match o.op with
 | .move _ | .assign _ | .pick .. | .field .. | .binOp .. | .unOp .. | .extract .. | .slice .. =>true
 | _=>false
theorem aae {V:Env} {ρ:Operand→T} {l l':List AO} {nid nid':Nat} {o:Oper} (h:pV o=true) (dc:(evalOp V ρ l nid o).bn = .none) (ae:(evalOp V ρ l nid o).ob):evalOp V ρ l' nid' o=evalOp V ρ l nid o:=by
 obtain⟨dst,op,ty,pos,CI,g⟩:=o
 cases op<;>simp[pV] at h
 case slice t x lo hi mx=>
  cases mx with
  | some m=>
   exfalso
   simp only[evalOp] at dc ae
   split at ae
   ·rename_i hs hx
    simp only[hs,hx] at dc
    rcases Hc (E:=V.E) (l:=l) (lo:=lo.map ρ) (hi:=hi.map ρ) (mx:=ρ m) with h | h
    ·rw[h] at dc;cases dc
    rw[h] at ae;exact ae.elim
   exact ae.elim
  | none=>
   simp only[evalOp] at dc ae ⊢
   split at ae
   ·rfl
   ·rename_i hs hx
    exfalso
    simp only[hs,hx] at dc
    split at ae
    ·rename_i mS
     rw[if_pos mS] at dc
     rcases Ns (E:=V.E) (l:=l) (lo:=lo.map ρ) (hi:=hi.map ρ) with h | h
     ·rw[h] at dc;cases dc
     rw[h] at ae;exact ae.elim
    rename_i mS
    rw[if_neg mS] at dc
    split at ae
    ·split at ae
     ·simp_all
     exact ae.elim
    exact ae.elim
   ·rfl
   exact ae.elim
 all_goals simp only[evalOp]
theorem aaf {V:Env} {ρ:Operand→T} {l:List AO} {nid:Nat} {o:Oper} (h:pV o=true) (b:AO):(evalOp V ρ l nid o).bn ≠ .new b:=by
 obtain⟨dst,op,ty,pos,CI,g⟩:=o
 cases op<;>simp[pV] at h<;>simp only[evalOp,R.ok]
 ·simp
 ·simp
 ·unfold rU;simp only
  repeat' split
  all_goals simp[R.bad]
 ·unfold oV;repeat' split
  all_goals simp[R.bad]
 ·unfold oV;repeat' split
  all_goals simp[R.bad]
 ·rename_i mx
  cases mx
  ·simp only
   repeat' split
   all_goals first | (simp[R.bad];done) | (intro hc;rcases Ns (E:=V.E) (l:=l) with h | h<;>rw[h] at hc<;>cases hc;done) | (unfold mB;(repeat' split)<;>simp[R.bad,R.ok];done) | (unfold wy;split<;>simp[R.bad,R.ok];done)
  simp only
  split
  ·intro hc;rcases Hc (E:=V.E) (l:=l) with h | h<;>rw[h] at hc<;>cases hc
  simp[R.bad]
 ·unfold pD;repeat' split
  all_goals simp[R.bad,R.ok]
 repeat' split
 all_goals simp[R.bad]
def gF (l l':List AO):Prop:=∀ id,isVar l id=true→l'[id]?=l[id]?
theorem gF.refl (l:List AO):gF l l:=fun _ _=>rfl
theorem gF.trans {l l' kp:List AO} (h:gF l l') (k:gF l' kp):gF l kp:=fun id an=>(k id (by have:=h id an;unfold isVar at an ⊢;rw[this];exact an)).trans (h id an)
theorem gF.append (l r:List AO):gF l (l++r):=fun _ an=>List.getElem?_append_left (EF an)
theorem gF.set {l:List AO} {id:Nat} (o:AO) (h:isVar l id=false):gF l (l.set id o):=fun k hk=>by
 rw[List.getElem?_set]
 by_cases e:id=k
 ·subst e;rw[h] at hk;cases hk
 simp[e]
theorem XA {l l':List AO} {t:T} {d:D} (h:dp l t=some (d,l')):gF l l':=by
 cases t<;>simp only[dp] at h
 case d x=>simp at h;rw[←h.2];exact .refl _
 case bC s=>simp at h;rw[←h.2];exact .refl _
 case bD id x=>simp at h;rw[←h.2];exact .refl _
 case row id=>
  split at h
  ·simp at h;rw[←h.2];exact .refl _
  ·rename_i hl;simp at h;rw[←h.2];exact .set _ (by unfold isVar;rw[hl];rfl)
  cases h
 case map id=>
  split at h
  ·simp at h;rw[←h.2];exact .refl _
  ·rename_i hl;simp at h;rw[←h.2];exact .set _ (by unfold isVar;rw[hl];rfl)
  cases h
 all_goals cases h
theorem On:∀ (ts:List T) {l l':List AO} {ds:List D},dW l ts=some (ds,l')→gF l l'
 | [],l,l',ds,h=>by simp[dW] at h;rw[←h.2];exact .refl _
 | t::ts,l,l',ds,h=>by
  simp only[dW] at h
  cases h1:dp l t with
  | none=>simp[h1] at h
  | some p=>
   obtain⟨x,l1⟩:=p
   simp only[h1] at h
   cases h2:dW l1 ts with
   | none=>simp[h2] at h
   | some q=>
    obtain⟨xs,l2⟩:=q
    simp only[h2,Option.some.injEq,Prod.mk.injEq] at h
    rw[←h.2]
    exact(XA h1).trans (On ts h2)
theorem Hh {l l':List AO} {t:T} {d:D} (h:ei l t=some (d,l')):gF l l':=by
 by_cases ha:∃ ts,t = .agg ts
 ·obtain⟨ts,rfl⟩:=ha
  obtain⟨ds,rfl,ff⟩:=Cm h
  exact On ts ff
 rw[Cn fun ts h=>ha ⟨ts,h⟩] at h
 exact XA h
theorem Oq:∀ (ts:List T) {l l':List AO} {ds:List D},gG l ts=some (ds,l')→gF l l'
 | [],l,l',ds,h=>by simp[gG] at h;rw[←h.2];exact .refl _
 | t::ts,l,l',ds,h=>by
  simp only[gG] at h
  cases h1:ei l t with
  | none=>simp[h1] at h
  | some p=>
   obtain⟨x,l1⟩:=p
   simp only[h1] at h
   cases h2:gG l1 ts with
   | none=>simp[h2] at h
   | some q=>
    obtain⟨xs,l2⟩:=q
    simp only[h2,Option.some.injEq,Prod.mk.injEq] at h
    rw[←h.2]
    exact(Hh h1).trans (Oq ts h2)
theorem Yk {E:cA} {t:TypeId} {l:List AO} {nid:Nat} {s x:T}:(∀ l',(kE E t l nid s x).bn = .aP l'→gF l l')∧∀ a,(kE E t l nid s x).bn ≠ .new a:=by
 unfold kE
 split;rotate_left
 ·exact⟨by simp[R.bad],by simp[R.bad]⟩
 split;rotate_left
 ·exact⟨by simp[R.bad],by simp[R.bad]⟩
 split;rotate_left
 ·exact⟨by simp[R.bad],by simp[R.bad]⟩
 rename_i hx
 have hv:=Hh hx
 split;rotate_left
 ·exact⟨by simp[R.bad],by simp[R.bad]⟩
 split
 ·refine⟨fun l' h=>?_,by simp⟩
  simp at h;rw[←h];exact hv.trans (.append _ _)
 ·split;rotate_left
  ·exact⟨by simp[R.bad],by simp[R.bad]⟩
  rename_i hl
  split;rotate_left
  ·exact⟨by simp[R.bad],by simp[R.bad]⟩
  refine⟨fun l' h=>?_,by simp⟩
  simp at h;rw[←h]
  exact(hv.trans (.set _ (by unfold isVar;rw[hl];rfl))).trans (.append _ _)
 ·split;rotate_left
  ·exact⟨by simp[R.bad],by simp[R.bad]⟩
  rename_i hl
  split;rotate_left
  ·exact⟨by simp[R.bad],by simp[R.bad]⟩
  refine⟨fun l' h=>?_,by simp⟩
  simp at h;rw[←h]
  exact(hv.trans (.set _ (by unfold isVar;rw[hl];rfl))).trans (.append _ _)
 exact⟨by simp[R.bad],by simp[R.bad]⟩
def pW (o:Oper):Bool:=pV o||match o.op with
 | .buildSlice _ n _=>n != 0
 | .call c=>(match c.callee with | .builtin .append=>true | _=>false)
 | .load .. =>true
 | _=>false
theorem aeH {i:TI} {size:Nat} {els:List D} {k off:Nat}:(kX i size els k off).bn = .none:=by
 unfold kX;repeat' split
 all_goals simp[R.ok,R.bad]
theorem aeG {E:cA} {t:TypeId} {l:List AO} {a:T}:(iu E t l a).bn = .none:=by
 unfold iu;repeat' split
 all_goals first | exact aeH | simp[R.ok,R.bad]
theorem ael {V:Env} {ρ:Operand→T} {l:List AO} {nid:Nat} {o:Oper} (h:pW o=true):(∀ l',(evalOp V ρ l nid o).bn = .aP l'→gF l l')∧∀ a,(evalOp V ρ l nid o).bn ≠ .new a:=by
 obtain⟨dst,op,ty,pos,CI,g⟩:=o
 have nn:∀ {r:R},r.bn = .none→(∀ l',r.bn = .aP l'→gF l l')∧∀ a,r.bn ≠ .new a:=fun e=>⟨by rw[e];simp,by rw[e];simp⟩
 cases op<;>simp[pW,pV] at h<;>simp only[evalOp]
 case call c=>
  obtain⟨um,args,ats⟩:=c
  cases um<;>simp at h
  rename_i b
  cases b<;>simp at h
  simp only
  split
  ·split
   ·exact Yk
   exact nn rfl
  exact nn rfl
 case slice t x lo hi mx=>
  cases mx with
  | some m=>
   simp only
   split
   ·rcases Hc (E:=V.E) (l:=l) (lo:=lo.map ρ) (hi:=hi.map ρ) (mx:=ρ m) with h | h
    ·refine⟨fun l' h'=>?_,by rw[h];simp⟩
     rw[h] at h';injection h' with h';subst h';exact .refl _
    rw[h];exact nn rfl
   exact nn rfl
  | none=>
   simp only
   split
   ·split
    ·refine nn ?_
     unfold mB;repeat' split
     all_goals simp[R.ok,R.bad]
    exact nn rfl
   ·split
    ·rcases Ns (E:=V.E) (l:=l) (lo:=lo.map ρ) (hi:=hi.map ρ) with h | h
     ·refine⟨fun l' h'=>?_,by rw[h];simp⟩
      rw[h] at h';injection h' with h';subst h';exact .refl _
     rw[h];exact nn rfl
    split
    ·rename_i hx
     split
     ·refine⟨fun l' h=>?_,by simp⟩
      simp at h;rw[←h];exact Hh hx
     exact nn rfl
    exact nn rfl
   ·refine nn ?_
    unfold wy;(repeat' split)<;>simp[R.ok,R.bad]
   exact nn rfl
 case buildSlice t n parts=>
  simp only[if_neg h]
  split
  ·split
   ·split
    ·split<;>exact nn rfl
    split
    ·rename_i hd
     split
     ·refine⟨fun l' h=>?_,by simp⟩
      simp at h;rw[←h];exact Oq _ hd
     exact nn rfl
    exact nn rfl
   exact nn rfl
  exact nn rfl
 case pick c a b=>
  refine nn ?_
  unfold rU;simp only
  repeat' split
  all_goals simp[R.bad]
 all_goals refine nn ?_
 all_goals first
  | exact aeG
  | (unfold rU;repeat' split)<;>simp[R.ok,R.bad];done
  | (unfold oV;repeat' split)<;>simp[R.ok,R.bad];done
  | (unfold pD;repeat' split)<;>simp[R.ok,R.bad];done
  | (repeat' split)<;>simp_all [R.ok,R.bad,oV];done
  | skip
end Go.aj
namespace Go.aj
open Go Go.RowKit
variable [bh] [cd]
def Ct (ops:List Oper):Nat→Oper→Nat→Bool
 | 0,o,j=>(waits o).contains j
 | n+1,o,j=>(waits o).contains j||(waits o).any fun k=>match ops[k]? with | some q=>Ct ops n q j | none=>false
def wC (ops:List Oper) (n1:Nat) (F:List Nat):Bool:=(List.range ops.length).all fun i=>decide (i < n1)||match ops[i]? with | some o=>(List.range i).all (fun j=>F.contains j||Ct ops 8 o j) | none=>true
def qA (ops:List Oper) (listed:Array Bool):Prop:=∀ (i:Nat) o,ops[i]?=some o→listed.getD i false=true→∀ j∈waits o,listed.getD j false=true
theorem NQ {ops:List Oper} {listed:Array Bool} (hc:qA ops listed):∀ (n:Nat) (o:Oper) (j:Nat),(∀ k∈waits o,listed.getD k false=true)→Ct ops n o j=true→listed.getD j false=true
 | 0,o,j,hw,h=>hw j (List.contains_iff_mem.1 h)
 | n+1,o,j,hw,h=>by
  unfold Ct at h
  rw[Bool.or_eq_true] at h
  rcases h with h | h
  ·exact hw j (List.contains_iff_mem.1 h)
  obtain⟨k,hk,h2⟩:=List.any_eq_true.1 h
  cases hq:ops[k]? with
  | none=>rw[hq] at h2;cases h2
  | some q=>
   rw[hq] at h2
   exact NQ hc n q j (hc k q hq (hw k hk)) h2
theorem qA.step {ops:List Oper} {listed L':Array Bool} (hc:qA ops listed) {i:Nat} {o:Oper} (ho:ops[i]?=some o) (hw:∀ j∈waits o,listed.getD j false=true) (hL:∀ k,L'.getD k false=if k=i then true else listed.getD k false):qA ops L':=by
 intro k q hq hk j hj
 rw[hL] at hk ⊢
 split
 ·rfl
 by_cases dD:k=i
 ·subst dD;rw[ho] at hq;cases hq;exact hw j hj
 rw[if_neg dD] at hk;exact hc k q hq hk j hj
def uH (ops:List Oper) (n1:Nat) (F:List Nat):Bool:=F.all fun f=>decide (f < n1)&&match ops[f]? with
 | some o=>o.guard.isNone&&(List.range ops.length).all fun i=>decide (i < n1)||match ops[i]? with
  | some q=>((waits q).contains f||match q.dst with | some d=> !(iN ops o).contains d&&o.dst != some d | none=>true)&&(match o.dst with | some d=> !(iN ops q).contains d||(waits q).contains f | none=>true)
  | none=>true
 | none=>false
def Je (ops:List Oper) (n1:Nat) (F:List Nat):Bool:=(F.all fun f=>match ops[f]? with | some o=>pV o | none=>true)&&uH ops n1 F
def wT (V:Env) (B:Bool) (l0:List AO) (o:Oper) (x:Rec):Prop:=x.new=none∧(x.pc=[]→x.ob→∀ l',(B=true∨gF l0 l')→evalOp V (fun y=>(strip x.pc (bR x.tm y)).1) l' 0 o=⟨x.t,.none,x.ob⟩)
section
variable {P:Program} {V:Env} {w0:World} {I0:aw} {n:Nat} {md:Way} {ops:List Oper} {Q:Exit→Act→World→Prop} {K:St→Prop}
theorem Xq {n1:Nat} {F:List Nat} (h:wC ops n1 F=true) {i:Nat} {o:Oper} (ho:ops[i]?=some o) (hi:n1≤i):∀ j,j < i→j∉F→Ct ops 8 o j=true:=by
 intro j hj hF
 have:=List.all_eq_true.1 h i (List.mem_range.2 (List.getElem?_eq_some_iff.1 ho).1)
 simp only[ho,Bool.or_eq_true,decide_eq_true_eq,List.all_eq_true,List.mem_range,List.contains_iff_mem] at this
 rcases this with h | h
 ·omega
 exact(h j hj).resolve_left hF
theorem oz {n1:Nat} {F:List Nat} (h:uH ops n1 F=true) {f:Nat} (hf:f∈F):f < n1∧∀ o,ops[f]?=some o→o.guard=none ∧
  ∀ (i:Nat) q,n1≤i→ops[i]?=some q→(f∈waits q∨∀ d,q.dst=some d→d∉iN ops o∧o.dst≠some d)∧(∀ d,o.dst=some d→d∈iN ops q→f∈waits q):=by
 have:=List.all_eq_true.1 h f hf
 simp only[Bool.and_eq_true,decide_eq_true_eq] at this
 obtain⟨h1,h2⟩:=this
 refine⟨h1,fun o ho=>?_⟩
 simp only[ho,Bool.and_eq_true,Option.isNone_iff_eq_none] at h2
 obtain⟨h4,h5⟩:=h2
 refine⟨h4,fun i q hi hq=>?_⟩
 have:=List.all_eq_true.1 h5 i (List.mem_range.2 (List.getElem?_eq_some_iff.1 hq).1)
 simp only[hq] at this
 rw[Bool.or_eq_true,decide_eq_true_eq,Bool.and_eq_true] at this
 have this:=this.resolve_left (by omega)
 obtain⟨h6,h7⟩:=this
 refine⟨?_,fun d hd hr=>?_⟩
 ·rw[Bool.or_eq_true] at h6
  refine h6.imp (fun h=>List.contains_iff_mem.1 h) fun h6 d hd=>?_
  simp only[hd,Bool.and_eq_true,Bool.not_eq_true',bne_iff_ne,ne_eq] at h6
  exact⟨fun hm=>(by have:=List.contains_iff_mem.2 hm;rw[h6.1] at this;cases this),h6.2⟩
 simp only[hd,Bool.or_eq_true,Bool.not_eq_true',List.contains_iff_mem] at h7
 rcases h7 with h7 | h7
 ·have:=List.contains_iff_mem.2 hr;rw[h7] at this;cases this
 exact h7
def eu (ops:List Oper) (F:List Nat) (listed:Array Bool):List Nat:=(F.filter fun f=> !listed.getD f false).filterMap fun f=>(ops[f]?).bind (·.dst)
theorem tp {F:List Nat} {listed:Array Bool} {k:Nat}:k∈eu ops F listed↔∃ f o,f∈F∧listed.getD f false=false∧ops[f]?=some o∧o.dst=some k:=by
 unfold eu
 simp only[List.mem_filterMap,List.mem_filter,Bool.not_eq_true']
 constructor
 ·rintro⟨f,⟨h1,h2⟩,h3⟩
  cases ho:ops[f]? with
  | none=>simp[ho] at h3
  | some o=>simp[ho] at h3;exact⟨f,o,h1,h2,ho,h3⟩
 rintro⟨f,o,h1,h2,h3,h4⟩
 exact⟨f,⟨h1,h2⟩,by simp[h3,h4]⟩
structure N4 (w0:World) (I0:aw) (n:Nat) (B:Bool) (l0:List AO) (ops:List Oper) (F:List Nat) (rs:List Rec) (s:St) (listed:Array Bool) (a:Act) (w:World):Prop where
 size:a.tmps.size=n
 rel:∃ I m,aF w0 I0 w I m s.l∧fJ w0.heap.size I a.defers∧∀ k,k∉eu ops F listed→aq I m s.l (a.tmps.getD k undef) (get s.t k)
 fl:∀ (f:Nat) o x,f∈F→listed.getD f false=false→ops[f]?=some o→rs[f]?=some x→(∀ t∈iN ops o,get s.t t=get x.tm t)∧∀ d,o.dst=some d→get s.t d=x.out
 vars:B=true∨gF l0 s.l
theorem Jr (s:Tm) (k:Nat):∀ (ds:List Nat),get (ds.map (fun d=>(d,T.undef))++s) k=if k∈ds then .undef else get s k
 | []=>by simp
 | d::ds=>by
  simp only[List.map_cons,List.cons_append,get,List.mem_cons]
  rw[Jr s k ds]
  by_cases h:d=k
  ·subst h;simp
  rw[if_neg h];have:k≠d:=fun e=>h e.symm
  simp[this]
theorem QY {s s':Tm} {x:Operand} (h:∀ t,x = .tmp t→get s t=get s' t):bR s x=bR s' x:=by
 cases x with
 | tmp t=>exact h t rfl
 | _=>rfl
theorem RK {s s':Tm} {o:Oper} (h:∀ t∈iN ops o,get s t=get s' t):eJ ops s o.guard=eJ ops s' o.guard:=by
 cases hg:o.guard with
 | none=>rfl
 | some jb=>
  obtain⟨j,b⟩:=jb
  simp only[eJ]
  cases hd:(ops[j]?).bind (·.dst) with
  | none=>rfl
  | some d=>
   simp only
   rw[h d (List.mem_append_right _ (by rw[hg];simp only;rw[hd];simp))]
theorem afN {V:Env} {pc:PC} {s s':St} {o:Oper} (hl:s.l=s'.l) (h:∀ t∈iN ops o,get s.t t=get s'.t t):jC V pc s o=jC V pc s' o:=by
 have hx:∀ x∈o.op.operands,bR s.t x=bR s'.t x:=fun x hx=>QY fun t ht=>h t (List.mem_append_left _ (List.mem_filterMap.2 ⟨x,by simpa using hx,by rw[ht]⟩))
 cases pc with
 | nil=>simp only[jC,hl];exact QZ hx
 | cons y pc=>
  simp only[jC,hl]
  have e1:=QZ (V:=V) (ρ:=fun x=>(strip (y::pc) (bR s.t x)).1) (ρ':=fun x=>(strip (y::pc) (bR s'.t x)).1) (l:=s'.l) (nid:=s'.l.length) (o:=o) (fun x cK=>by simp only[hx x cK])
  have e2:o.op.operands.toList.map (fun x=>(strip (y::pc) (bR s.t x)).2)=o.op.operands.toList.map (fun x=>(strip (y::pc) (bR s'.t x)).2):=List.map_congr_left fun x cK=>by rw[hx x (by simpa using cK)]
  rw[e1,e2]
theorem N8 {s s':St} {dst:Option Nat} {pc:PC} {t:T} {bn:wS} (h:after s dst pc ⟨t,bn,True⟩=some s'):∃ u l',s'=⟨aY s.t dst u,l'⟩∧∀ st:St,st.l=s.l→after st dst pc ⟨t,bn,True⟩=some ⟨aY st.t dst u,l'⟩:=by
 unfold after at h
 simp only at h
 split at h
 ·injection h with h;exact⟨_,_,h.symm,fun st e=>by unfold after;simp only[e]⟩
 ·injection h with h;exact⟨_,_,h.symm,fun st e=>by unfold after;simp only[e]⟩
 ·injection h with h;exact⟨_,_,h.symm,fun st e=>by unfold after;simp only⟩
 ·rename_i iq
  injection h with h
  cases pc with
  | nil=>exact absurd rfl iq
  | cons y r=>exact⟨_,_,h.symm,fun st e=>by unfold after;simp only[e]⟩
 cases h
theorem aag {md:Way} {o:Oper} {r:List Oper} {s st:St} {K:St→Prop} (h:fA V n ops md (o::r) s K) (hl:st.l=s.l) (ha:∀ t∈iN ops o,get st.t t=get s.t t) :
  ∃ u l',fA V n ops md [o] st (fun q=>q=⟨aY st.t o.dst u,l'⟩)∧fA V n ops md r ⟨aY s.t o.dst u,l'⟩ K:=by
 simp only[fA] at h
 split at h
 ·exact h.elim
 rename_i pc hg
 have nL:eJ ops st.t o.guard=some pc:=(RK ha).trans hg
 have mj:∀ qc,jC V qc st o=jC V qc s o:=fun qc=>afN hl ha
 cases md with
 | none=>
  simp only at h
  obtain⟨ae,ef,h⟩:=h
  split at h
  ·rename_i s' bl
   obtain⟨u,l',rfl,xE⟩:=N8 bl
   refine⟨u,l',?_,h⟩
   simp only[fA,nL,mj]
   refine⟨ae,ef,?_⟩
   rw[xE st hl];first | done | rfl
  exact h.elim
 | some sk=>
  simp only at h
  split at h
  ·rename_i Av
   obtain⟨bS,ef,h⟩:=h
   refine⟨gone,s.l,?_,h⟩
   simp only[fA,nL,if_pos Av]
   exact⟨bS,ef,by rw[hl]⟩
  rename_i Av
  obtain⟨xI,ae,ef,h⟩:=h
  split at h
  ·rename_i s' bl
   obtain⟨u,l',rfl,xE⟩:=N8 bl
   refine⟨u,l',?_,h⟩
   simp only[fA,nL,if_neg Av,mj]
   refine⟨xI,ae,ef,?_⟩
   rw[xE st hl];first | done | rfl
  exact h.elim
theorem N9 {V:Env} {ρ:Operand→T} {s:St} {o:Oper} {pc:PC} {t:T} {bn:wS} {t':Tm} {l':List AO} (h:pW o=true) (he:(evalOp V ρ s.l s.l.length o).bn=bn) (ha:after s o.dst pc ⟨t,bn,True⟩=some ⟨t',l'⟩):gF s.l l':=by
 obtain⟨k1,k2⟩:=ael (V:=V) (ρ:=ρ) (l:=s.l) (nid:=s.l.length) h
 rw[he] at k1 k2
 unfold after at ha
 simp only at ha
 split at ha
 ·injection ha with ha;injection ha with _ ha;rw[←ha];exact .refl _
 ·exact absurd rfl (k2 _)
 ·injection ha with ha;injection ha with _ ha;rw[←ha];exact k1 _ rfl
 ·injection ha with ha;injection ha with _ ha;rw[←ha];exact .refl _
 cases ha
theorem Vs {V:Env} {pc:PC} {s:St} {o:Oper}:∃ ρ,(jC V pc s o).bn=(evalOp V ρ s.l s.l.length o).bn:=by
 cases pc with
 | nil=>exact⟨_,rfl⟩
 | cons y r=>exact⟨_,rfl⟩
theorem aah {md:Way} {o:Oper} {st:St} {t':Tm} {l':List AO} (hk:pW o=true) (h:fA V n ops md [o] st (fun q=>q=⟨t',l'⟩)):gF st.l l':=by
 simp only[fA] at h
 split at h
 ·exact h.elim
 rename_i pc hg
 cases md with
 | none=>
  simp only at h
  obtain⟨_,_,h⟩:=h
  split at h
  ·rename_i s' bl
   subst h
   obtain⟨ρ,AE⟩:=Vs (V:=V) (pc:=pc) (s:=st) (o:=o)
   exact N9 hk AE.symm bl
  exact h.elim
 | some sk=>
  simp only at h
  split at h
  ·obtain⟨_,_,h⟩:=h
   injection h with _ h;rw[←h];exact .refl _
  obtain⟨_,_,_,h⟩:=h
  split at h
  ·rename_i s' bl
   subst h
   obtain⟨ρ,AE⟩:=Vs (V:=V) (pc:=[]) (s:=st) (o:=o)
   exact N9 hk AE.symm bl
  exact h.elim
def qD (P:Program) (n:Nat) (ops:List Oper) (o:Oper) (s:St) (K:T→List AO→Prop):Prop:=
 ∀ (st:St),st.l=s.l→(∀ t∈iN ops o,get st.t t=get s.t t)→∀ (w0:World) (I0:aw) (a:Act) (w:World) (Q:Exit→Act→World→Prop) (Kn:Act→World→Prop),Rel w0 I0 n st a w →
  (∀ u l' a' w',K u l'→(pW o=true→gF s.l l')→Rel w0 I0 n ⟨aY st.t o.dst u,l'⟩ a' w'→Kn a' w') →
  if Region.wanted o (yielded ops.toArray a.tmps)=true then o.wpIn eC 0 P a w Kn Q else(∀ f,o.about P w a.eval=some f→eC.fn f)∧Kn (a.put o.dst undef) w
def gh (P:Program) (n:Nat) (ops:List Oper):List Oper→St→(St→Prop)→Prop
 | [],s,K=>K s
 | o::r,s,K=>qD P n ops o s fun u l'=>gh P n ops r ⟨aY s.t o.dst u,l'⟩ K
theorem qD.mono {o:Oper} {s:St} {K K':T→List AO→Prop} (h:qD P n ops o s K) (hk:∀ u l',K u l'→K' u l'):qD P n ops o s K':=
 fun st hl ha w0 I0 a w Q Kn hr hK=>h st hl ha w0 I0 a w Q Kn hr fun u l' a' w' k=>hK u l' a' w' (hk u l' k)
theorem step_seq (hV:dI P V) {o:Oper} {r:List Oper} {s:St} (h:fA V n ops md (o::r) s K):qD P n ops o s fun u l'=>fA V n ops md r ⟨aY s.t o.dst u,l'⟩ K:=by
 intro st hl ha w0 I0 a w Q Kn ah hK
 obtain⟨u,l',Aw,h'⟩:=aag (st:=st) h hl ha
 refine Q1 hV ah Aw fun q a' w' hq ju=>?_
 simp only[fA] at hq
 subst hq
 exact hK u l' a' w' h' (fun hk=>hl▸aah (st:=st) hk Aw) ju
theorem gh.seq (hV:dI P V) {post:List Oper}:∀ {r:List Oper} {s:St},fA V n ops md r s (fun s'=>gh P n ops post s' K)→gh P n ops (r++post) s K
 | [],_,h=>h
 | _::_,_,h=>(step_seq hV h).mono fun _ _ h'=>gh.seq hV h'
theorem gh.of (hV:dI P V) {r:List Oper} {s:St} (h:fA V n ops md r s K):gh P n ops r s K:=by
 have:=gh.seq (P:=P) (post:=[]) hV (K:=K) (s:=s) (r:=r) h
 simpa using this
theorem gh.call (hV:dI P V) {o:Oper} {r:List Oper} {s:St} {g:FuncId} {ts:List T} {pc:PC} (hg:eJ ops s.t o.guard=some pc) (hp:holds pc) (hd:eS n o.dst=true) (hc:eO V.E (bR s.t) o=some (g,ts))
  (h:qC P g ts s.l fun u l'=>gh P n ops r ⟨aY s.t o.dst u,l'⟩ K):gh P n ops (o::r) s K:=by
 intro st hl ha w0 I0 a w Q Kn ah hK
 have hx:∀ x∈o.op.operands,bR st.t x=bR s.t x:=fun x hx=>QY fun t ht=>ha t (List.mem_append_left _ (List.mem_filterMap.2 ⟨x,by simpa using hx,by rw[ht]⟩))
 obtain⟨aK,I,m,hw,dY,ht⟩:=ah
 have mU:=(tV (ops:=ops) (a:=a) ht ((RK ha).trans hg)).2 hp
 rw[if_pos mU]
 refine cz.wpIn (xf hc) ?_
 obtain⟨args,bP,hlen,c9⟩:=su (P:=P) (w:=w) (ρ:=a.eval) h.1 (fun x _=>qN hw.sat.dA ht x) ((Zt hx).trans hc)
 rw[bP]
 simp only[cz]
 refine(h.2 w0 I0 w I m args (fun k=>a.tmps.getD k undef) st.t (by rw[←hl];exact hw) hlen (by rw[←hl];exact c9) (by rw[←hl];exact ht)).mono ?_
 rintro e w' ⟨v,he,t,l',J,m',k1,k2,k3,k5,k4⟩
 refine⟨v,he,hK t l' _ w' k1 (fun hk=>?_) ⟨by cases o.dst<;>simp[Act.put,aK],J,m',k2,dY.GG k5,o5 aK hd k4 k3⟩⟩
 exfalso
 unfold eO at hc
 unfold pW pV at hk
 split at hc
 ·rename_i c ho
  rw[ho] at hk
  simp only[Bool.false_or] at hk
  split at hc
  ·rename_i f hf;rw[hf] at hk;simp at hk
  cases hc
 cases hc
theorem Xr (hV:dI P V) (hK:∀ s a w,K s→Rel w0 I0 n s a w→Q .normal a w) {n1:Nat} {F:List Nat} (fX:p9 ops=true) (lM:wC ops n1 F=true) (gP:tN ops n1=true) (cG:uH ops n1 F=true) (iW:n1≤ops.length) {s0:St} {rs:List Rec} {B:Bool} (nM:∀ (f:Nat) o x,f∈F→ops[f]?=some o→rs[f]?=some x→wT V B s0.l o x) (pO:B=true∨∀ (i:Nat) o,n1≤i→ops[i]?=some o→pW o=true) 
  (eR:lW V n ops s0.l (ops.take n1) 0 s0.t 0 rs) :
  ∀ (fuel j:Nat) (s:St) (a:Act) (w:World) (listed:Array Bool),listed.size=ops.length→nu ops.length listed=fuel→(∀ i,i < ops.length→i∉F→listed.getD i false=decide (i < j))→n1≤j→j≤ops.length→qA ops listed→N4 w0 I0 n B s0.l ops F rs s listed a w→gh P n ops (ops.drop j) s K →
   wpAnyIn eC 0 P .any ops.toArray Q fuel listed a w:=by
 have Ap:rs.length=n1:=by rw[eR.len];simp;omega
 intro fuel
 induction fuel with
 | zero=>
  intro j s a w listed hs hu hl hj nN ee hinv h
  have bA:∀ i,i < ops.length→listed.getD i false=true:=by
   intro i hi
   have:=List.length_eq_zero_iff.1 hu
   have:=(List.filter_eq_nil_iff.1 this) i (List.mem_range.2 hi)
   simpa using this
  have hjN:j=ops.length:=by
   rcases Nat.lt_or_ge j ops.length with h' | h'
   ·have DZ:j∉F:=fun hF=>by have:=(oz cG hF).1;omega
    have:=hl j h' DZ
    rw[bA j h'] at this;simp at this
   omega
  rw[List.drop_eq_nil_of_le (by omega)] at h
  obtain⟨h1,⟨I,m,h3,h2,h4⟩,h5,_⟩:=hinv
  refine⟨?_,hK s a w h ⟨h1,I,m,h3,h2,fun k=>h4 k fun hk=>?_⟩⟩
  ·refine List.eq_nil_iff_forall_not_mem.2 fun i hi=>?_
   have aN:=B3 hi
   have:=((tQ hs aN (List.getElem?_eq_getElem aN)).1 hi).1
   rw[bA i aN] at this;cases this
  obtain⟨f,o,q1,q2,q3,_⟩:=tp.1 hk
  rw[bA f (List.getElem?_eq_some_iff.1 q3).1] at q2;cases q2
 | succ fuel ih=>
  intro j s a w listed hs hu hl hj nN ee hinv h
  have J9:∃ i,i < ops.length∧listed.getD i false=false∧∀ k,k < i→listed.getD k false=true:=by
   have hex:∃ i,i < ops.length∧listed.getD i false=false:=by
    refine Classical.byContradiction fun hh=>?_
    have:nu ops.length listed=0:=by
     unfold nu
     rw[List.filter_eq_nil_iff.2 fun i hi=>by
      have hi:=List.mem_range.1 hi
      cases hb:listed.getD i false with
      | true=>simp
      | false=>exact absurd ⟨i,hi,hb⟩ hh]
     rfl
    omega
   obtain⟨i,hi⟩:=hex
   induction i using Nat.strongRecOn with
   | ind i AF=>
    by_cases hh:∃ k,k < i∧listed.getD k false=false
    ·obtain⟨k,hk,hb⟩:=hh
     exact AF k hk ⟨by omega,hb⟩
    refine⟨i,hi.1,hi.2,fun k hk=>?_⟩
    cases hb:listed.getD k false with
    | true=>rfl
    | false=>exact absurd ⟨k,hk,hb⟩ hh
  obtain⟨i0,gk,mg,mQ⟩:=J9
  have Ai:ops[i0]?=some ops[i0]:=List.getElem?_eq_getElem (by omega)
  have Ao:i0∈Region.ready .any ops.toArray listed:=(tQ hs (by omega) Ai).2 ⟨mg,fun k hk=>mQ k (AU fX Ai k hk)⟩
  refine⟨fun h0=>(by rw[h0] at Ao;cases Ao),fun i hi=>?_⟩
  have aN:=B3 hi
  have fO:ops[i]?=some ops[i]:=List.getElem?_eq_getElem aN
  obtain⟨h1,h2⟩:=(tQ hs aN fO).1 hi
  have c8:nu ops.length (listed.setIfInBounds i true)=fuel:=by have:=NI hs aN h1;omega
  have iT:∀ k,(listed.setIfInBounds i true).getD k false=if k=i then true else listed.getD k false:=fun k=>DH hs aN
  generalize ops[i]=o at fO h2
  unfold wpOpIn
  have aa8:ops.toArray[i]?=some o:=by simpa using fO
  simp only[aa8]
  obtain⟨aK,⟨I,m,hw,dY,ht⟩,JT,rj⟩:=hinv
  by_cases pL:i∈F
  ·
   obtain⟨fW,mh⟩:=oz cG pL
   obtain⟨JW,xx⟩:=mh o fO
   have hx:rs[i]?=some rs[i]:=List.getElem?_eq_getElem (by omega)
   generalize rs[i]=x at hx
   obtain⟨nR,xG,mi⟩:=eR.at_ i o x (by rw[List.getElem?_take,if_pos fW];exact fO) hx
   obtain⟨⟨qc,hg,Kq⟩,Sp,iI,ae,ef,fo,abr⟩:=nR
   have iq:x.pc=[]:=Sp JW
   obtain⟨eL,aby⟩:=nM i o x pL fO hx
   obtain⟨eK,hfd⟩:=JT i o x pL h1 fO hx
   have sU:∀ t,t∈iN ops o→aq I m s.l (a.tmps.getD t undef) (get x.tm t):=by
    intro t ri
    rw[←eK t ri]
    refine ht t fun hp=>?_
    obtain⟨f,q,q1,q2,q3,q4⟩:=tp.1 hp
    have:=(wk gP fW (oz cG q1).1 fO q3 q4).2 ri
    rw[h2 f this.2] at q2;cases q2
   have JP:∀ y∈o.op.operands,aq I m s.l (a.eval y) (bR x.tm y):=by
    intro y hy
    cases y with
    | tmp t=>exact sU t (List.mem_append_left _ (List.mem_filterMap.2 ⟨.tmp t,by simpa using hy,rfl⟩))
    | const v=>exact IC v
    | global g=>exact Ju hw.sat.dA g
    | func f=>exact .d _ _ (.fn f)
   have mU:=NR (ops:=ops) (a:=a) (fun j b d lG hd=>sU d (List.mem_append_right _ (by rw[lG];simp only;rw[hd];simp))) hg
   have mU:=mU.trans Kq
   have hp:holds x.pc:=by rw[iq];trivial
   rw[if_pos (mU.2 hp)]
   obtain⟨qZ,Km⟩:=ae hp
   have uY:∀ y∈o.op.operands,aq I m s.l (a.eval y) (strip x.pc (bR x.tm y)).1:=fun y hy=>
    Nr (JP y hy) hp (Fz Km _ (List.mem_map.2 ⟨y,by simpa using hy,rfl⟩))
   have Ks:=aby iq qZ s.l rj
   have Ea:=uA (show(evalOp V (fun y=>(strip x.pc (bR x.tm y)).1) s.l 0 o).ob by rw[Ks];exact qZ)
   have oI:=qO (nid:=0) hV hw (fw.refl s.l) uY (by rw[Ks];exact qZ)
   rw[Ks] at oI
   unfold bW at oI
   simp only at oI
   refine cz.wpIn Ea (oI.mono fun v w' ⟨J,hle,eE,hv⟩=>?_)
   refine ih j s _ w' _ (by simp[hs]) c8 (fun k hk D3=>by rw[iT k,if_neg (show ¬ k=i from fun e=>D3 (e▸pL))];exact hl k hk D3) hj nN (ee.step fO h2 iT) ?_ h
   refine⟨by cases o.dst<;>simp[Act.put,aK],⟨J,m,eE,dY.put hle.eF,fun k hk=>?_⟩,fun f q y hf sO hq hy=>?_,?_⟩
   ·by_cases sM:o.dst=some k
    ·have xw:k < n:=by rw[sM] at ef;simpa [eS] using ef
     have:(a.put o.dst v).tmps.getD k undef=v:=by simp[sM,Act.put,Array.getD_eq_getD_getElem?,aK,xw]
     rw[this,hfd k sM]
     unfold Rec.out;rw[if_pos iq];exact hv
    have:(a.put o.dst v).tmps.getD k undef=a.tmps.getD k undef:=by
     cases kQ:o.dst with
     | none=>rfl
     | some d'=>
      have:d'≠k:=fun e=>sM (by rw[kQ,e])
      simp[Act.put,Array.getD_eq_getD_getElem?,this]
    rw[this]
    refine(ht k fun jY=>hk ?_).mono hle
    obtain⟨f,q,q1,q2,q3,q4⟩:=tp.1 jY
    refine tp.2 ⟨f,q,q1,?_,q3,q4⟩
    rw[iT f,if_neg];· exact q2
    rintro rfl;rw[fO] at q3;injection q3 with q3;subst q3;exact sM q4
   ·have bc:f≠i:=by rintro rfl;rw[iT f,if_pos rfl] at sO;cases sO
    exact JT f q y hf (by rw[iT f,if_neg bc] at sO;exact sO) hq hy
   exact rj
  have cm:i=j:=by
   have uM:=h1
   rw[hl i aN pL] at uM
   have uM:¬ i < j:=by simpa using uM
   rcases Nat.lt_or_ge j i with D6 | sK
   ·have DZ:j∉F:=fun hF=>by have:=(oz cG hF).1;omega
    have:=NQ ee 8 o j h2 (Xq lM fO (by omega) j D6 DZ)
    rw[hl j (by omega) DZ] at this;simp at this
   omega
  subst cm
  have Ss:i < ops.length:=aN
  rw[List.drop_eq_getElem_cons Ss] at h
  have SH:ops[i]=o:=by have:=List.getElem?_eq_getElem Ss;rw[fO] at this;injection this with this;exact this.symm
  rw[SH] at h
  let st:St:=⟨(eu ops F listed).map (fun d=>(d,T.undef))++s.t,s.l⟩
  have bF:∀ k,k∉eu ops F listed→get st.t k=get s.t k:=fun k hk=>by simp only[st];rw[Jr,if_neg hk]
  have abU:Rel w0 I0 n st a w:=by
   refine⟨aK,I,m,hw,dY,fun k=>?_⟩
   by_cases hk:k∈eu ops F listed
   ·simp only[st];rw[Jr,if_pos hk];exact .undef _
   rw[bF k hk];exact ht k hk
  have aa5:∀ t∈iN ops o,get st.t t=get s.t t:=fun t ri=>bF t fun hp=>by
   obtain⟨f,q,q1,q2,q3,q4⟩:=tp.1 hp
   have:=((oz cG q1).2 q q3).2 i o hj fO
   have:=this.2 t q4 ri
   rw[h2 f this] at q2;cases q2
  have h:qD P n ops o s _:=h
  refine h st rfl aa5 w0 I0 a w Q _ abU fun u l' a' w' h hv ju=>?_
  have ab9:B=true∨gF s0.l l':=by
   rcases rj with hB | rj
   ·exact .inl hB
   rcases pO with hB | pO
   ·exact .inl hB
   exact .inr (rj.trans (hv (pO i o hj fO)))
  obtain⟨r1,J,m',r3,r2,r4⟩:=ju
  have nO:∀ k,k∈eu ops F (listed.setIfInBounds i true)↔k∈eu ops F listed:=fun k=>by
   rw[tp,tp]
   constructor
   ·rintro⟨f,q,q1,q2,q3,q4⟩
    exact⟨f,q,q1,by rw[iT f,if_neg (show ¬ f=i from fun e=>pL (e▸q1))] at q2;exact q2,q3,q4⟩
   rintro⟨f,q,q1,q2,q3,q4⟩
   exact⟨f,q,q1,by rw[iT f,if_neg (show ¬ f=i from fun e=>pL (e▸q1))];exact q2,q3,q4⟩
  refine ih (i+1) ⟨aY s.t o.dst u,l'⟩ a' w' _ (by simp[hs]) c8 (fun k hk D3=>by rw[iT k,hl k hk D3];by_cases e:k=i<;>simp[e]<;>(try omega)) (by omega) (by omega) (ee.step fO h2 iT) ⟨r1,⟨J,m',r3,r2,fun k hk=>?_⟩,fun f q y hf sO hq hy=>?_,ab9⟩ h
  ·have:=r4 k
   have gz:k∉eu ops F listed:=fun e=>hk ((nO k).2 e)
   have e:get (aY st.t o.dst u) k=get (aY s.t o.dst u) k:=by
    cases o.dst with
    | none=>exact bF k gz
    | some d=>
     simp only[aY,get]
     split
     ·rfl
     exact bF k gz
   show aq J m' l' _ (get (aY s.t o.dst u) k)
   rw[←e];exact this
  have Ka:listed.getD f false=false:=by rw[iT f,if_neg (show ¬ f=i from fun e=>pL (e▸hf))] at sO;exact sO
  obtain⟨g1,g2⟩:=JT f q y hf Ka hq hy
  have xx:=((oz cG hf).2 q hq).2 i o hj fO
  have xx:=And.intro (xx.1.resolve_left (fun hw=>by rw[h2 f hw] at Ka;cases Ka)) xx.2
  have Ec:∀ t,o.dst≠some t→get (aY s.t o.dst u) t=get s.t t:=fun t bc=>by
   cases kQ:o.dst with
   | none=>rfl
   | some d=>simp only[aY,get];rw[if_neg (fun e=>bc (by rw[kQ,e]))]
  refine⟨fun t ri=>?_,fun d hd=>?_⟩
  ·exact(Ec t (fun e=>(xx.1 t e).1 ri)).trans (g1 t ri)
  exact(Ec d (fun e=>(xx.1 d e).2 hd)).trans (g2 d hd)
theorem Xv {n1:Nat} {F:List Nat} (gP:tN ops n1=true) (cG:uH ops n1 F=true) (iW:n1≤ops.length) {s0:St} {rs:List Rec} {B:Bool} (nM:∀ (f:Nat) o x,f∈F→ops[f]?=some o→rs[f]?=some x→wT V B s0.l o x) (Ap:rs.length=n1) (eR:lW V n ops s0.l (ops.take n1) 0 s0.t 0 rs) {listed:Array Bool} {a:Act} {w:World} (hinv:Inv w0 I0 n n1 ops s0 rs listed a w) (bA:∀ i,i < n1→i∉F→listed.getD i false=true) :
  N4 w0 I0 n B s0.l ops F rs ⟨gb s0.t (ops.take n1) rs,s0.l++(cC 0 rs).map (·.2)⟩ listed a w:=by
 obtain⟨h1,I,m,h3,h2,h4,h5⟩:=hinv
 have abL:∀ p∈cC 0 rs,p.1∉F:=by
  intro p hp hF
  obtain⟨i,x,e1,e2,e3⟩:=L7 rs 0 p hp
  have hi:p.1=i:=by omega
  rw[hi] at hF
  have fW:=(oz cG hF).1
  have ho:ops[i]?=some ops[i]:=List.getElem?_eq_getElem (by omega)
  have:=(nM i _ x hF ho e2).1
  rw[e3] at this;cases this
 have hL:fi s0.l (cC 0 rs) (fun i=>listed.getD i false)=s0.l++(cC 0 rs).map (·.2):=by
  unfold fi
  congr 1
  apply List.map_congr_left
  intro p hp
  have:=(Fp rs 0).1 p hp
  rw[if_pos (bA p.1 (by omega) (abL p hp))]
 rw[hL] at h3 h4 h5
 have ep:∀ (i:Nat) o x k,i < n1→ops[i]?=some o→rs[i]?=some x→o.dst=some k→get (gb s0.t (ops.take n1) rs) k=x.out:=fun i o x k hi ho hx hd=>
  DJ (ops.take n1) rs s0.t k i o x (by rw[List.getElem?_take,if_pos hi];exact ho) hx hd (fun j q hq hj=>by
   have JY:j < n1:=by have:=(List.getElem?_eq_some_iff.1 hq).1;simp at this;omega
   rw[List.getElem?_take,if_pos JY] at hq
   exact(wk gP JY hi hq ho hd).1 hj)
 have SK:∀ k,(¬ ∃ i o,i < n1∧ops[i]?=some o∧o.dst=some k)→get (gb s0.t (ops.take n1) rs) k=get s0.t k:=fun k hk=>
  zJ (ops.take n1) rs s0.t k (fun o ho hd=>hk (by
   obtain⟨i,hi,rfl⟩:=List.mem_iff_getElem.1 ho
   have dN:i < n1:=by simp at hi;omega
   exact⟨i,_,dN,by rw[List.getElem?_eq_getElem (by omega)],by simpa using hd⟩))
 refine⟨h1,⟨I,m,h3,h2,fun k hnp=>?_⟩,fun f o x hf sO ho hx=>⟨fun t ri=>?_,fun d hd=>?_⟩,.inr (.append _ _)⟩
 ·by_cases hk:∃ i o,i < n1∧ops[i]?=some o∧o.dst=some k
  ·obtain⟨i,o,hi,ho,hd⟩:=hk
   have hx:rs[i]?=some rs[i]:=List.getElem?_eq_getElem (by omega)
   have hli:listed.getD i false=true:=by
    cases hb:listed.getD i false with
    | true=>rfl
    | false=>
     have pL:i∈F:=Classical.byContradiction fun hF=>by rw[bA i hi hF] at hb;cases hb
     exact absurd (tp.2 ⟨i,o,pL,hb,ho,hd⟩) hnp
   show aq I m _ _ (get (gb s0.t (ops.take n1) rs) k)
   rw[ep i o _ k hi ho hx hd]
   exact h4 i o _ k hi ho hx hli hd
  show aq I m _ _ (get (gb s0.t (ops.take n1) rs) k)
  rw[SK k hk]
  exact h5 k (fun i o hi ho _ hd=>hk ⟨i,o,hi,ho,hd⟩)
 ·
  obtain⟨fW,mh⟩:=oz cG hf
  obtain⟨_,xG,_⟩:=eR.at_ f o x (by rw[List.getElem?_take,if_pos fW];exact ho) hx
  rw[xG,show(ops.take n1).take f=ops.take f by rw[List.take_take];congr 1;omega]
  show get (gb s0.t (ops.take n1) rs) t=_
  by_cases hk:∃ i o,i < n1∧ops[i]?=some o∧o.dst=some t
  ·obtain⟨i,q,hi,hq,hd⟩:=hk
   have S3:rs[i]?=some rs[i]:=List.getElem?_eq_getElem (by omega)
   rw[ep i q _ t hi hq S3 hd]
   obtain⟨eQ,Su⟩:=(wk gP fW hi ho hq hd).2 ri
   rw[DJ (ops.take f) (rs.take f) s0.t t i q _ (by rw[List.getElem?_take,if_pos eQ];exact hq) (by rw[List.getElem?_take,if_pos eQ];exact S3) hd (fun k q' jZ hk=>by
    have dD:k < f:=by have:=(List.getElem?_eq_some_iff.1 jZ).1;simp at this;omega
    rw[List.getElem?_take,if_pos dD] at jZ
    exact(wk gP (by omega) hi jZ hq hd).1 hk)]
  rw[SK t hk,zJ (ops.take f) (rs.take f) s0.t t (fun q hq hd=>hk (by
   obtain⟨j,hj,rfl⟩:=List.mem_iff_getElem.1 hq
   have il:j < f:=by simp at hj;omega
   exact⟨j,_,by omega,by rw[List.getElem?_eq_getElem (by omega)],by simpa using hd⟩))]
 exact ep f o x d (oz cG hf).1 ho hx hd
theorem agi (hV:dI P V) (hK:∀ s a w,K s→Rel w0 I0 n s a w→Q .normal a w) {n1:Nat} {F:List Nat} (fX:p9 ops=true) (lM:wC ops n1 F=true) (cG:uH ops n1 F=true) (gP:tN ops n1=true) (iW:n1≤ops.length) {s0:St} {rs:List Rec} {B:Bool} (nM:∀ (f:Nat) o x,f∈F→ops[f]?=some o→rs[f]?=some x→wT V B s0.l o x) (pO:B=true∨∀ (i:Nat) o,n1≤i→ops[i]?=some o→pW o=true) 
  (eR:lW V n ops s0.l (ops.take n1) 0 s0.t 0 rs) (dM:gh P n ops (ops.drop n1) ⟨gb s0.t (ops.take n1) rs,s0.l++(cC 0 rs).map (·.2)⟩ K) :
  ∀ (fuel:Nat) (a:Act) (w:World) (listed:Array Bool),listed.size=ops.length→nu ops.length listed=fuel→(∀ i,n1≤i→i < ops.length→listed.getD i false=false)→qA ops listed→Inv w0 I0 n n1 ops s0 rs listed a w →
   wpAnyIn eC 0 P .any ops.toArray Q fuel listed a w:=by
 have Ap:rs.length=n1:=by rw[eR.len];simp;omega
 have nS:∀ i,i < n1→(ops.take n1)[i]?=ops[i]?:=fun i hi=>by rw[List.getElem?_take,if_pos hi]
 intro fuel
 induction fuel with
 | zero=>
  intro a w listed hs hu kS ee hinv
  have bA:∀ i,i < ops.length→listed.getD i false=true:=by
   intro i hi
   have:=List.length_eq_zero_iff.1 hu
   have:=(List.filter_eq_nil_iff.1 this) i (List.mem_range.2 hi)
   simpa using this
  have hN:n1=ops.length:=by
   rcases Nat.lt_or_ge n1 ops.length with h | h
   ·have:=kS n1 (Nat.le_refl _) h;rw[bA n1 h] at this;cases this
   omega
  exact Xr hV hK fX lM gP cG iW nM pO eR 0 n1 _ a w listed hs hu (fun i hi _=>by rw[bA i hi];simp;omega) (Nat.le_refl _) iW ee (Xv gP cG iW nM Ap eR hinv (fun i hi _=>bA i (by omega))) dM
 | succ fuel ih=>
  intro a w listed hs hu kS ee hinv
  by_cases bA:∀ i,i < n1→i∉F→listed.getD i false=true
  ·have hl:∀ i,i < ops.length→i∉F→listed.getD i false=decide (i < n1):=by
    intro i hi hF
    by_cases h:i < n1
    ·rw[bA i h hF];simp[h]
    rw[kS i (by omega) hi];simp[h]
   exact Xr hV hK fX lM gP cG iW nM pO eR (fuel+1) n1 _ a w listed hs hu hl (Nat.le_refl _) iW ee (Xv gP cG iW nM Ap eR hinv bA) dM
  obtain⟨aK,I,m,hw,dY,kO,kn⟩:=hinv
  have abl:∃ i,i < n1∧i∉F∧listed.getD i false=false:=by
   refine Classical.byContradiction fun h=>bA fun i hi hF=>?_
   cases hb:listed.getD i false with
   | true=>rfl
   | false=>exact absurd ⟨i,hi,hF,hb⟩ h
  obtain⟨i1,ij,hF1,jR⟩:=abl
  have hex:∃ i,i < n1∧listed.getD i false=false:=⟨i1,ij,jR⟩
  have J9:∃ i,i < n1∧listed.getD i false=false∧∀ j,j < i→listed.getD j false=true:=by
   obtain⟨i,hi⟩:=hex
   induction i using Nat.strongRecOn with
   | ind i AF=>
    by_cases h:∃ j,j < i∧listed.getD j false=false
    ·obtain⟨j,hj,hb⟩:=h
     exact AF j hj ⟨by omega,hb⟩
    refine⟨i,hi.1,hi.2,fun j hj=>?_⟩
    cases hb:listed.getD j false with
    | true=>rfl
    | false=>exact absurd ⟨j,hj,hb⟩ h
  obtain⟨i0,gk,mg,mQ⟩:=J9
  have Ai:ops[i0]?=some ops[i0]:=List.getElem?_eq_getElem (by omega)
  have Ao:i0∈Region.ready .any ops.toArray listed:=(tQ hs (by omega) Ai).2 ⟨mg,fun j hj=>mQ j (AU fX Ai j hj)⟩
  refine⟨fun h0=>(by rw[h0] at Ao;cases Ao),fun i hi=>?_⟩
  have aN:=B3 hi
  have fO:ops[i]?=some ops[i]:=List.getElem?_eq_getElem aN
  obtain⟨h1,h2⟩:=(tQ hs aN fO).1 hi
  have DY:i < n1:=by
   rcases Nat.lt_or_ge i n1 with h | h
   ·exact h
   have:=NQ ee 8 _ i1 h2 (Xq lM fO h i1 (by omega) hF1);rw[jR] at this;cases this
  generalize ops[i]=o at fO h2
  have hx:rs[i]?=some rs[i]:=List.getElem?_eq_getElem (by omega)
  generalize rs[i]=x at hx
  obtain⟨nR,xG,mi⟩:=eR.at_ i o x (by rw[nS i DY];exact fO) hx
  obtain⟨⟨qc,hg,Kq⟩,Sp,iI,ae,ef,fo,abr⟩:=nR
  unfold wpOpIn
  have:ops.toArray[i]?=some o:=by simpa using fO
  simp only[this]
  have sU:∀ t,t∈iN ops o→aq I m (fi s0.l (cC 0 rs) fun i=>listed.getD i false) (a.tmps.getD t undef) (get x.tm t):=by
   intro t ht
   rw[xG]
   rw[show(ops.take n1).take i=ops.take i by rw[List.take_take];congr 1;omega]
   by_cases hk:∃ j q,j < n1∧ops[j]?=some q∧q.dst=some t
   ·obtain⟨j,q,hj,hq,hd⟩:=hk
    obtain⟨eQ,Su⟩:=(wk gP DY hj fO hq hd).2 ht
    have S4:rs[j]?=some rs[j]:=List.getElem?_eq_getElem (by omega)
    rw[DJ (ops.take i) (rs.take i) s0.t t j q _ (by rw[List.getElem?_take,if_pos eQ];exact hq) (by rw[List.getElem?_take,if_pos eQ];exact S4) hd (fun k q' jZ hk=>by
     have dD:k < i:=by have:=(List.getElem?_eq_some_iff.1 jZ).1;simp at this;omega
     rw[List.getElem?_take,if_pos dD] at jZ
     exact(wk gP (by omega) hj jZ hq hd).1 hk)]
    exact kO j q _ t hj hq S4 (h2 j Su) hd
   rw[zJ (ops.take i) (rs.take i) s0.t t (fun q hq hd=>hk (by
    obtain⟨j,hj,rfl⟩:=List.mem_iff_getElem.1 hq
    have il:j < i:=by simp at hj;omega
    exact⟨j,_,by omega,by rw[List.getElem?_eq_getElem (by omega)],by simpa using hd⟩))]
   exact kn t (fun j q hj hq _ hd=>hk ⟨j,q,hj,hq,hd⟩)
  have JP:∀ y∈o.op.operands,aq I m (fi s0.l (cC 0 rs) fun i=>listed.getD i false) (a.eval y) (bR x.tm y):=by
   intro y hy
   cases y with
   | tmp t=>exact sU t (List.mem_append_left _ (List.mem_filterMap.2 ⟨.tmp t,by simpa using hy,rfl⟩))
   | const v=>exact IC v
   | global g=>exact Ju hw.sat.dA g
   | func f=>exact .d _ _ (.fn f)
  have mU:=NR (ops:=ops) (a:=a) (fun j b d lG hd=>sU d (List.mem_append_right _ (by rw[lG];simp only;rw[hd];simp))) hg
  have mU:=mU.trans Kq
  have c8:nu ops.length (listed.setIfInBounds i true)=fuel:=by have:=NI hs aN h1;omega
  have ab8:∀ k,n1≤k→k < ops.length→(listed.setIfInBounds i true).getD k false=false:=fun k hk fL=>by
   rw[DH hs aN,if_neg (by omega)];exact kS k hk fL
  have iT:∀ j,(listed.setIfInBounds i true).getD j false=if j=i then true else listed.getD j false:=fun j=>DH hs aN
  have next:∀ (J:aw) (m':Nat→Value) (v:Value) (w':World),Le I m (fi s0.l (cC 0 rs) fun i=>listed.getD i false) J m' (fi s0.l (cC 0 rs) fun k=>(listed.setIfInBounds i true).getD k false) →
    aF w0 I0 w' J m' (fi s0.l (cC 0 rs) fun k=>(listed.setIfInBounds i true).getD k false)→aq J m' (fi s0.l (cC 0 rs) fun k=>(listed.setIfInBounds i true).getD k false) v x.out →
    wpAnyIn eC 0 P .any ops.toArray Q fuel (listed.setIfInBounds i true) (a.put o.dst v) w':=by
   intro J m' v w' hle eE hv
   refine ih _ _ _ (by simp[hs]) c8 ab8 (ee.step fO h2 iT) ⟨by cases o.dst<;>simp[Act.put,aK],J,m',eE,dY.put hle.eF,fun j q y d hj hq hy hl hd=>?_,fun d hd=>?_⟩
   ·by_cases eQ:j=i
    ·subst eQ
     rw[fO] at hq;injection hq with hq;subst hq
     rw[hx] at hy;injection hy with hy;subst hy
     have xw:d < n:=by rw[hd] at ef;simpa [eS] using ef
     have:(a.put o.dst v).tmps.getD d undef=v:=by simp[hd,Act.put,Array.getD_eq_getD_getElem?,aK,xw]
     rw[this];exact hv
    have hlj:listed.getD j false=true:=by rw[iT j,if_neg eQ] at hl;exact hl
    have bc:o.dst≠some d:=(wk gP DY hj fO hq hd).1 (Ne.symm eQ)
    have:(a.put o.dst v).tmps.getD d undef=a.tmps.getD d undef:=by
     cases kQ:o.dst with
     | none=>rfl
     | some d'=>
      have:d'≠d:=fun e=>bc (by rw[kQ,e])
      simp[Act.put,Array.getD_eq_getD_getElem?,this]
    rw[this];exact(kO j q y d hj hq hy hlj hd).mono hle
   have bc:o.dst≠some d:=hd i o DY fO (by rw[iT i,if_pos rfl])
   have:(a.put o.dst v).tmps.getD d undef=a.tmps.getD d undef:=by
    cases kQ:o.dst with
    | none=>rfl
    | some d'=>
     have:d'≠d:=fun e=>bc (by rw[kQ,e])
     simp[Act.put,Array.getD_eq_getD_getElem?,this]
   rw[this]
   exact(kn d (fun j q hj hq hl=>hd j q hj hq (by rw[iT j];split<;>first | rfl | exact hl))).mono hle
  have ml:x.new=none→(fi s0.l (cC 0 rs) fun i=>listed.getD i false)=fi s0.l (cC 0 rs) fun k=>(listed.setIfInBounds i true).getD k false:=by
   intro eL
   refine afD fun p hp=>?_
   rw[iT p.1,if_neg]
   intro he
   obtain⟨i',x',e1,e2,e3⟩:=L7 rs 0 p hp
   have:i'=i:=by omega
   subst this
   rw[hx] at e2;injection e2 with e2;subst e2
   rw[eL] at e3;cases e3
  by_cases hp:holds x.pc
  ·rw[if_pos (mU.2 hp)]
   obtain⟨qZ,Km⟩:=ae hp
   have iI:=iI hp
   have Ea:=uA (show(evalOp V (fun y=>(strip x.pc (bR x.tm y)).1) s0.l x.nid o).ob by rw[iI];exact qZ)
   have uY:∀ y∈o.op.operands,aq I m (fi s0.l (cC 0 rs) fun i=>listed.getD i false) (a.eval y) (strip x.pc (bR x.tm y)).1:=fun y hy=>
    Nr (JP y hy) hp (Fz Km _ (List.mem_map.2 ⟨y,by simpa using hy,rfl⟩))
   have oI:=qO (nid:=x.nid) hV hw (afC (l0:=s0.l)) uY (by rw[iI];exact qZ)
   rw[iI] at oI
   unfold bW at oI
   cases eL:x.new with
   | none=>
    simp only[eL] at oI
    refine cz.wpIn Ea (oI.mono fun v w' ⟨J,hle,eE,hv⟩=>?_)
    rw[ml eL] at hle eE hv
    refine next J m v w' (by rw[ml eL];exact hle) eE ?_
    unfold Rec.out
    split
    ·exact hv
    exact .cond _ _ _ (fun _=>hv) (fun hn=>absurd hp hn)
   | some b=>
    simp only[eL] at oI
    have iq:x.pc=[]:=fo (by rw[eL];rfl)
    have bO:=(Fp rs 0).2.1 i x b hx eL
    simp only[Nat.zero_add] at bO
    have zY:(fi s0.l (cC 0 rs) fun i=>listed.getD i false)[x.nid]?=some .dead:=by
     rw[mi,Nat.add_zero]
     have:=Vl (l0:=s0.l) (L:=fun i=>listed.getD i false) bO
     simp only[h1] at this
     simpa using this
    have fY:(fi s0.l (cC 0 rs) fun i=>listed.getD i false).set x.nid b=fi s0.l (cC 0 rs) fun k=>(listed.setIfInBounds i true).getD k false:=by
     rw[mi,Nat.add_zero]
     exact afE bO (fun q y hq hy=>(Fp rs 0).2.2 q _ y _ hq bO hy) iT
    refine cz.wpIn Ea ((oI zY).mono fun v w' ⟨m',hle,eE,hv⟩=>?_)
    rw[fY] at hle eE hv
    refine next I m' v w' hle eE ?_
    unfold Rec.out
    rw[if_pos iq];exact hv
  rw[if_neg (fun hh=>hp (mU.1 hh))]
  have iq:x.pc≠[]:=by intro e;rw[e] at hp;exact hp trivial
  have eL:x.new=none:=by
   cases Af:x.new with
   | none=>rfl
   | some b=>exact absurd (fo (by rw[Af];rfl)) iq
  have eE:=hw
  rw[ml eL] at eE
  refine⟨fun f _=>si f,next I m undef w (by rw[ml eL];exact .refl ..) eE ?_⟩
  unfold Rec.out
  rw[if_neg iq]
  exact .cond _ _ _ (fun h=>absurd h hp) (fun _=>rfl)
theorem ZY (hV:dI P V) (hK:∀ s a w,K s→Rel w0 I0 n s a w→Q .normal a w) {s:St} {a:Act} {w:World} {n1:Nat} {F:List Nat} (fX:p9 ops=true) (lM:wC ops n1 F=true) (cG:uH ops n1 F=true) (gP:tN ops n1=true) (iW:n1≤ops.length)
  (ah:Rel w0 I0 n s a w) {rs:List Rec} {B:Bool} (nM:∀ (f:Nat) o x,f∈F→ops[f]?=some o→rs[f]?=some x→wT V B s.l o x) (pO:B=true∨∀ (i:Nat) o,n1≤i→ops[i]?=some o→pW o=true) (eR:lW V n ops s.l (ops.take n1) 0 s.t ([]:List (Nat×AO)).length rs) (dM:gh P n ops (ops.drop n1) ⟨gb s.t (ops.take n1) rs,s.l++(([]:List (Nat×AO))++cC 0 rs).map (·.2)⟩ K):wpAnyIn eC 0 P .any ops.toArray Q ops.length (Array.replicate ops.length false) a { w with drawn:=w.drawn+1 }:=by
 obtain⟨aK,I,m,hw,dY,ht⟩:=ah
 have pP:∀ i,(Array.replicate ops.length false).getD i false=false:=fun i=>by
  rw[Array.getD_eq_getD_getElem?]
  cases hx:(Array.replicate ops.length false)[i]? with
  | none=>rfl
  | some b=>have:=Array.getElem?_eq_some_iff.1 hx;simp at this;simp[←this.2]
 have j0:aF w0 I0 { w with drawn:=w.drawn+1 } I m s.l:=(hw.call (w':={ w with drawn:=w.drawn+1 }) ⟨rfl,rfl,rfl,Nat.le_refl _,fun _ _=>rfl,fun _=>Nat.le_succ _⟩ (gE.refl _ _) ⟨hw.sat.cell,hw.sat.mp,hw.sat.df,hw.sat.dA⟩).1
 obtain⟨nT,hle⟩:aF w0 I0 { w with drawn:=w.drawn+1 } I m (fi s.l (cC 0 rs) fun i=>(Array.replicate ops.length false).getD i false)∧Le I m s.l I m (fi s.l (cC 0 rs) fun i=>(Array.replicate ops.length false).getD i false):=by
  have:(fi s.l (cC 0 rs) fun i=>(Array.replicate ops.length false).getD i false)=s.l++List.replicate (cC 0 rs).length .dead:=by
   unfold fi
   congr 1
   rw[List.eq_replicate_iff]
   refine⟨by simp,fun b hb=>?_⟩
   obtain⟨p,_,rfl⟩:=List.mem_map.1 hb
   rw[if_neg (by simp only[pP];simp)]
  rw[this]
  generalize (cC 0 rs).length=c
  induction c with
  | zero=>simp;exact⟨j0,.refl ..⟩
  | succ c ih=>
   obtain⟨q1,q2⟩:=ih
   obtain⟨r1,r2⟩:=q1.push
   rw[List.replicate_succ',←List.append_assoc]
   exact⟨r1,q2.trans r2⟩
 have:=agi (Q:=Q) (K:=K) hV hK fX lM cG gP iW (s0:=s) (rs:=rs) nM pO (by simpa using eR) (by simpa using dM) ops.length a { w with drawn:=w.drawn+1 } (Array.replicate ops.length false) (by simp)
  (by unfold nu;rw[List.filter_eq_self.2 (fun i _=>by rw[pP];rfl)];simp) (fun i _ _=>pP i)
  (fun i o _ hl=>by rw[pP] at hl;cases hl)
  ⟨aK,I,m,nT,dY.mono hle.eF,fun i o x d hi ho hx hl=>(by rw[pP] at hl;cases hl),fun d _=>(ht d).mono hle⟩
 simpa using this
theorem ZX (hV:dI P V) (hm:P.follows .mixedOrders=true) (hK:∀ s a w,K s→Rel w0 I0 n s a w→Q .normal a w) {id:Nat} {s:St} {a:Act} {w:World} {n1:Nat} {F:List Nat} (fX:p9 ops=true) (lM:wC ops n1 F=true) (cG:uH ops n1 F=true) (gP:tN ops n1=true) (iW:n1≤ops.length)
  (ah:Rel w0 I0 n s a w) {rs:List Rec} {B:Bool} (nM:∀ (f:Nat) o x,f∈F→ops[f]?=some o→rs[f]?=some x→wT V B s.l o x) (pO:B=true∨∀ (i:Nat) o,n1≤i→ops[i]?=some o→pW o=true) (eR:lW V n ops s.l (ops.take n1) 0 s.t ([]:List (Nat×AO)).length rs) (dM:gh P n ops (ops.drop n1) ⟨gb s.t (ops.take n1) rs,s.l++(([]:List (Nat×AO))++cC 0 rs).map (·.2)⟩ K):(Code.region id ops.toArray true).wpIn eC 0 P Q a w:=by
 refine wpIn_region_any hm ?_
 simpa using ZY hV hK fX lM cG gP iW ah nM pO eR dM
theorem acp {l0:List AO} {F:List Nat} {n1:Nat} {tm:Tm} {rs:List Rec} (hn:∀ f∈F,f < n1) (h:(F.all fun f=>match ops[f]? with | some o=>pV o | none=>true)=true) (hg:∀ (f:Nat) o,f∈F→ops[f]?=some o→o.guard=none) (eR:lW V n ops l0 (ops.take n1) 0 tm 0 rs) :
  ∀ (f:Nat) o x,f∈F→ops[f]?=some o→rs[f]?=some x→wT V true l0 o x:=by
 intro f o x hf ho hx
 have SN:pV o=true:=by have:=List.all_eq_true.1 h f hf;rw[ho] at this;exact this
 obtain⟨nR,_⟩:=eR.at_ f o x (by rw[List.getElem?_take,if_pos (hn f hf)];exact ho) hx
 have iq:x.pc=[]:=nR.aa1 (hg f o hf ho)
 have iI:=nR.res (by rw[iq];trivial)
 have eL:x.new=none:=by
  cases hq:x.new with
  | none=>rfl
  | some b=>
   have:=aaf (V:=V) (ρ:=fun y=>(strip x.pc (bR x.tm y)).1) (l:=l0) (nid:=x.nid) SN b
   rw[iI,hq] at this;exact absurd rfl this
 refine⟨eL,fun _ ae l' _=>?_⟩
 rw[eL] at iI
 exact(aae (V:=V) (ρ:=fun y=>(strip x.pc (bR x.tm y)).1) (l:=l0) (l':=l') (nid:=x.nid) (nid':=0) SN (by rw[iI]) (by rw[iI];exact ae)).trans iI
theorem QK (hV:dI P V) (hm:P.follows .mixedOrders=true) (hK:∀ s a w,K s→Rel w0 I0 n s a w→Q .normal a w) {id:Nat} {s:St} {a:Act} {w:World} {n1:Nat} {F:List Nat} (fX:p9 ops=true) (lM:wC ops n1 F=true) (cG:Je ops n1 F=true) (gP:tN ops n1=true) (iW:n1≤ops.length)
  (ah:Rel w0 I0 n s a w) {rs:List Rec} (eR:lW V n ops s.l (ops.take n1) 0 s.t ([]:List (Nat×AO)).length rs) (dM:gh P n ops (ops.drop n1) ⟨gb s.t (ops.take n1) rs,s.l++(([]:List (Nat×AO))++cC 0 rs).map (·.2)⟩ K):(Code.region id ops.toArray true).wpIn eC 0 P Q a w:=by
 unfold Je at cG
 rw[Bool.and_eq_true] at cG
 exact ZX hV hm hK fX lM cG.2 gP iW ah (B:=true) (acp (fun f hf=>(oz cG.2 hf).1) cG.1 (fun f o hf ho=>((oz cG.2 hf).2 o ho).1) (by simpa using eR)) (.inl rfl) eR dM
end
end Go.aj
namespace Go.aj
open Go Go.RowKit
variable [bh] [cd]
abbrev Spec:=List D→Option (D×Prop)
def xe:List (FuncId×Spec)→Cz
 | [],_,_=>none
 | (g,S)::r,f,ds=>if g=f then S ds else xe r f ds
structure ud (P:Program) (f:FuncId) (S:Spec):Prop where
 enters:Enters P f
 kJ:∀ ds r ob,S ds=some (r,ob)→ob→gg P f ds r
def yY (P:Program):List (FuncId×Spec)→Prop
 | []=>True
 | (f,S)::r=>ud P f S∧yY P r
theorem yY.ok {P:Program}:∀ {fS:List (FuncId×Spec)},yY P fS→NZ P (xe fS)
 | [],_,f,ds,r,ob,h,_=>by simp[xe] at h
 | (g,S)::fS,hs,f,ds,r,ob,h,ae=>by
  obtain⟨h1,h2⟩:=hs
  simp only[xe] at h
  split at h
  ·rename_i hg;subst hg;exact⟨h1.enters,h1.kJ ds r ob h ae⟩
  exact yY.ok h2 f ds r ob h ae
def Ur (fS:List (Nat×List Lf)):TypeId→Option (List Lf):=fun t=>(fS.find? fun p=>p.1 == t).map (·.2)
section
variable {P:Program} {V:Env} {w0:World} {I0:aw} {n:Nat} {md:Way} {Q:Exit→St→Prop} {s:St} {y:Code} {ops:List Oper} {K:St→Prop}
def sw (ops:List Oper) (n1:Nat) (F:List Nat):Bool:=p9 ops&&wC ops n1 F&&Je ops n1 F&&tN ops n1&&decide (n1≤ops.length)
theorem aac (hV:dI P V) (hm:P.follows .mixedOrders=true) {Q:Exit→Act→World→Prop} {K:St→Prop} (hK:∀ s a w,K s→Rel w0 I0 n s a w→Q .normal a w) {id:Nat} {s:St} {a:Act} {w:World} (n1:Nat) (F:List Nat) (hd:sw ops n1 F=true) (ah:Rel w0 I0 n s a w)
  (h:jj V n ops md s.l (ops.take n1) 0 s.t [] fun tm news=>fA V n ops md (ops.drop n1) ⟨tm,s.l++news.map (·.2)⟩ K):(Code.region id ops.toArray true).wpIn eC 0 P Q a w:=by
 simp only[sw,Bool.and_eq_true,decide_eq_true_eq] at hd
 obtain⟨⟨⟨⟨fX,lM⟩,cG⟩,gP⟩,iW⟩:=hd
 obtain⟨rs,eR,dM⟩:=sA _ _ _ _ h
 exact QK hV hm hK fX lM cG gP iW ah eR (gh.of hV dM)
theorem aad (hV:dI P V) (hm:P.follows .mixedOrders=true) {Q:Exit→Act→World→Prop} {K:St→Prop} (hK:∀ s a w,K s→Rel w0 I0 n s a w→Q .normal a w) {id:Nat} {s:St} {a:Act} {w:World} (n1:Nat) (F:List Nat) (hd:sw ops n1 F=true) (ah:Rel w0 I0 n s a w)
  (h:jj V n ops md s.l (ops.take n1) 0 s.t [] fun tm news=>gh P n ops (ops.drop n1) ⟨tm,s.l++news.map (·.2)⟩ K):(Code.region id ops.toArray true).wpIn eC 0 P Q a w:=by
 simp only[sw,Bool.and_eq_true,decide_eq_true_eq] at hd
 obtain⟨⟨⟨⟨fX,lM⟩,cG⟩,gP⟩,iW⟩:=hd
 obtain⟨rs,eR,dM⟩:=sA _ _ _ _ h
 exact QK hV hm hK fX lM cG gP iW ah eR dM
def T.tg (k:Nat):T→Bool
 | .d _=>true
 | .ptr id _=>decide (id < k)
 | .bd id=>decide (id < k)
 | _=>false
def T.er (k:Nat):T→Bool
 | .ptr id _=>decide (id < k)
 | .row id=>decide (id < k)
 | .bf id _ _=>decide (id < k)
 | .map id=>decide (id < k)
 | .bd id=>decide (id < k)
 | .sub id _ _=>decide (id < k)
 | .bL id _=>decide (id < k)
 | .bD id _=>decide (id < k)
 | .aI ts=>ts.all fun t=>match t with | .d _=>true | _=>false
 | .cond _ t=>match t with | .d _=>true | _=>false
 | .aL _ ts=>ts.all (T.tg k)
 | .agg ts=>ts.all fun t=>match t with | .d _=>true | _=>false
 | _=>true
def AO.er (k:Nat):AO→Bool
 | .var _ cs=>cs.all (T.er k)
 | .frame b _ _=>decide (b≤k)
 | .loop b _ _ _ _ _ _ _=>decide (b≤k)
 | _=>true
theorem aq.cut {I:aw} {m:Nat→Value} {l:List AO} {k:Nat} (hk:k≤l.length) {v:Value} {t:T} (h:aq I m l v t) (hb:t.er k=true):aq I m (l.take k) v t:=by
 have bF:∀ id,id < k→(l.take k)[id]?=l[id]?:=fun id an=>by rw[List.getElem?_take,if_pos an]
 have hv:∀ id,id < k→isVar (l.take k) id=isVar l id:=fun id an=>by unfold isVar;rw[bF id an]
 have hr:∀ id,id < k→isRow (l.take k) id=isRow l id:=fun id an=>by unfold isRow;rw[bF id an]
 have data:∀ {v:Value} {t:T},aq I m l v t→(match t with | .d _=>true | _=>false)=true→aq I m (l.take k) v t:=by
  intro v t h hb
  cases h<;>simp at hb
  exact .d _ _ (by assumption)
 cases h with
 | undef=>exact .undef _
 | d v x hx=>exact .d _ _ hx
 | bC s=>exact .bC _
 | ptr id b off h1 h2=>simp[T.er] at hb;exact .ptr id b off ((hv id hb).trans h1) h2
 | bw b o size els q off val h1 h2 h3 h4=>exact .bw b o size els q off val h1 h2 h3 h4
 | bd id b h1 h2=>simp[T.er] at hb;exact .bd id b ((hv id hb).trans h1) h2
 | bL id b n c h1 h2 h3 h4=>simp[T.er] at hb;exact .bL id b n c ((hv id hb).trans h1) h2 h3 h4
 | row A n c id h1 h2=>simp[T.er] at hb;exact .row A n c id (by rw[List.length_take];omega) (fun hl=>h2 ((hr id hb).symm.trans hl))
 | bD A n c id x h1 h2 h3=>simp[T.er] at hb;exact .bD A n c id x (by rw[List.length_take];omega) (fun hl=>h2 ((hr id hb).symm.trans hl)) h3
 | bf a id q off h1 h2=>simp[T.er] at hb;exact .bf a id q off (by rw[List.length_take];omega) (fun e size els hl=>h2 e size els (by rw[bF id hb] at hl;exact hl))
 | sub A n c id lo hi h1 h2=>simp[T.er] at hb;exact .sub A n c id lo hi (by rw[List.length_take];omega) (fun e size els hl=>h2 e size els (by rw[bF id hb] at hl;exact hl))
 | map r id h1 h2=>simp[T.er] at hb;exact .map r id (by rw[List.length_take];omega) (fun hl=>h2 ((hr id hb).symm.trans hl))
 | aI vs ts h1 h2=>
  refine .aI vs ts h1 fun i v t hv ht=>data (h2 i v t hv ht) ?_
  simp only[T.er,List.all_eq_true] at hb
  exact hb t (List.mem_of_getElem? ht)
 | cond v pc t h1 h2=>exact .cond v pc t (fun hp=>data (h1 hp) hb) h2
 | aL g vs ts h1 h2=>
  refine .aL g vs ts h1 fun i v t bQ ht=>?_
  simp only[T.er,List.all_eq_true] at hb
  have jR:=hb t (List.mem_of_getElem? ht)
  have h3:=h2 i v t bQ ht
  cases h3 with
  | d v x hx=>exact .d _ _ hx
  | ptr id b off q1 q2=>simp[T.tg] at jR;exact .ptr id b off ((hv id jR).trans q1) q2
  | bd id b q1 q2=>simp[T.tg] at jR;exact .bd id b ((hv id jR).trans q1) q2
  | _=>simp[T.tg] at jR
 | agg vs ts h1 h2 h3=>
  refine .agg vs ts h1 h2 fun i v t hv ht=>data (h3 i v t hv ht) ?_
  simp only[T.er,List.all_eq_true] at hb
  exact hb t (List.mem_of_getElem? ht)
theorem aF.cut {w0 w:World} {I0 I:aw} {m:Nat→Value} {l:List AO} {k:Nat} (h:aF w0 I0 w I m l) (hk:k≤l.length) (hb:(l.take k).all (AO.er k)=true):aF w0 I0 w I m (l.take k):=by
 have bF:∀ id,id < k→(l.take k)[id]?=l[id]?:=fun id an=>by rw[List.getElem?_take,if_pos an]
 have aN:∀ {id:Nat} {o:AO},(l.take k)[id]?=some o→id < k∧l[id]?=some o:=by
  intro id o ho
  have:id < k:=by have:=(List.getElem?_eq_some_iff.1 ho).1;rw[List.length_take] at this;omega
  exact⟨this,by rw[←bF id this];exact ho⟩
 refine⟨h.below,h.sat,h.ext,fun id o ho=>?_,fun i j b cm hi hj=>?_⟩
 ·obtain⟨h1,h2⟩:=aN ho
  have:=h.obj id o h2
  cases o with
  | var ty cs=>
   obtain⟨b,vs,q1,q2,q3,q4,q5,q6⟩:=this
   refine⟨b,vs,q1,q2,q3,q4,fun i x t hx ht=>⟨(q5 i x t hx ht).1.cut hk ?_,(q5 i x t hx ht).2⟩,q6⟩
   have:=List.all_eq_true.1 hb _ (List.mem_of_getElem? ho)
   simp only[AO.er,List.all_eq_true] at this
   exact this t (List.mem_of_getElem? ht)
  | dead=>trivial
  | row e size els=>exact this
  | bx e size els=>exact this
  | map ks vs=>exact this
  | eP ks vs=>exact this
  | iter ks vs done=>exact this
  | frame b vals t=>
   have qU:=List.all_eq_true.1 hb _ (List.mem_of_getElem? ho)
   simp only[AO.er,decide_eq_true_eq] at qU
   refine⟨this.1,by rw[List.length_take];have:=this.2.1;omega,fun j=>?_⟩
   rw[List.take_take,Nat.min_eq_left qU]
   exact this.2.2 j
  | loop b n ps bp body t st eu=>
   have qU:=List.all_eq_true.1 hb _ (List.mem_of_getElem? ho)
   simp only[AO.er,decide_eq_true_eq] at qU
   obtain⟨b',r,q0,q1,q2,q3,q4,q5,q6⟩:=this
   refine⟨b',r,q0,q1,q2,q3,by rw[List.length_take];omega,fun j=>?_,q6⟩
   rw[List.take_take,Nat.min_eq_left qU]
   exact q5 j
 obtain⟨o1,q1,d1⟩:=bN.1 hi
 obtain⟨o2,q2,d2⟩:=bN.1 hj
 exact h.sep i j b cm (bN.2 ⟨o1,(aN q1).2,d1⟩) (bN.2 ⟨o2,(aN q2).2,d2⟩)
def qS (s:Tm):Tm→Prop
 | []=>True
 | (i,t)::r=>get s i=t∧qS s r
theorem Jh {s:Tm}:∀ {r:Tm},qS s r→∀ k,get r k = .undef∨get r k=get s k
 | [],_,k=> .inl rfl
 | (i,t)::r,h,k=>by
  simp only[get]
  by_cases hi:i=k
  ·subst hi;rw[if_pos rfl];exact .inr h.1.symm
  rw[if_neg hi];exact Jh h.2 k
theorem RG {k:Nat}:∀ {r:Tm},r.all (fun p=>T.er k p.2)=true→∀ j,T.er k (get r j)=true
 | [],_,j=>rfl
 | (i,t)::r,h,j=>by
  simp only[List.all_cons,Bool.and_eq_true] at h
  simp only[get]
  split
  ·exact h.1
  exact RG h.2 j
theorem Sub.cut (k:Nat) {t':Tm} (hk:k≤s.l.length) (hb:(s.l.take k).all (AO.er k)=true) (ht:t'.all (fun p=>T.er k p.2)=true) (hf:qS s.t t'):Sub s ⟨t',s.l.take k⟩:=by
 intro w0 I0 n a w hr
 obtain⟨h1,I,m,h3,h2,h4⟩:=hr
 refine⟨h1,I,m,h3.cut hk hb,h2,fun j=>?_⟩
 rcases Jh hf j with h | h
 ·rw[h];exact .undef _
 rw[h]
 exact(h4 j).cut hk (by rw[←h];exact RG ht j)
theorem Sub.ZG (k:Nat) {t':Tm} {l':List AO} (hl:l'=s.l.take k) (hk:k≤s.l.length) (hb:(s.l.take k).all (AO.er k)=true) (ht:t'.all (fun p=>T.er k p.2)=true) (hf:qS s.t t'):Sub s ⟨t',l'⟩:=by
 subst hl;exact Sub.cut k hk hb ht hf
end
end Go.aj
namespace Go.aj
open Go Go.RowKit
variable [bh] [cd]
def idx (id:Nat):List Nat→Nat→Option Nat
 | [],_=>none
 | x::xs,k=>if x=id then some k else idx id xs (k+1)
theorem oN {id:Nat}:∀ {xs:List Nat} {k j:Nat},idx id xs k=some j→k≤j∧xs[j - k]?=some id
 | [],k,j,h=>by simp[idx] at h
 | x::xs,k,j,h=>by
  simp only[idx] at h
  split at h
  ·rename_i hx;cases h;simp[hx]
  obtain⟨h1,h2⟩:=oN h
  refine⟨by omega,?_⟩
  rw[show j - k=(j - (k+1))+1 by omega];simpa using h2
def T.data:T→Bool
 | .d _=>true
 | _=>false
def T.flat:T→Bool
 | .d _=>true
 | .ptr _ _=>true
 | .bd _=>true
 | _=>false
def T.wq (ids:List Nat):T→T
 | .ptr id off=>match idx id ids 0 with | some k=> .ptr k off | none=> .undef
 | .bd id=>match idx id ids 0 with | some k=> .bd k | none=> .undef
 | t=>t
def T.eH (ids:List Nat):T→T
 | .ptr id off=>match idx id ids 0 with | some k=> .ptr k off | none=> .undef
 | .row id=>match idx id ids 0 with | some k=> .row k | none=> .undef
 | .bf id k off=>match idx id ids 0 with | some j=> .bf j k off | none=> .undef
 | .map id=>match idx id ids 0 with | some k=> .map k | none=> .undef
 | .bd id=>match idx id ids 0 with | some k=> .bd k | none=> .undef
 | .sub id lo hi=>match idx id ids 0 with | some k=> .sub k lo hi | none=> .undef
 | .bL id n=>match idx id ids 0 with | some k=> .bL k n | none=> .undef
 | .bD id x=>match idx id ids 0 with | some k=> .bD k x | none=> .d x
 | .aL g ts=>if ts.all T.flat then .aL g (ts.map (T.wq ids)) else .undef
 | .aI _=> .undef
 | .cond _ _=> .undef
 | .agg _=> .undef
 | t=>t
def T.dU (ids:List Nat):T→T
 | .aI ts=>if ts.all T.data then .aI ts else .undef
 | .cond pc t=>if t.data then .cond pc t else .undef
 | .agg ts=> .agg (ts.map (T.eH ids))
 | t=>t.eH ids
def AO.dU (ids:List Nat):AO→AO
 | .var ty cs=> .var ty (cs.map (T.dU ids))
 | o=>o
def eI (ids:List Nat) (l:List AO):List AO:=ids.map fun id=>((l[id]?).getD .dead).dU ids
theorem B4 {ids:List Nat} {l:List AO} {k id:Nat} (h:ids[k]?=some id):(eI ids l)[k]?=some (((l[id]?).getD .dead).dU ids):=by simp[eI,h]
theorem AO.og (ids:List Nat) (o:AO):(o.dU ids).isVar=o.isVar:=by cases o<;>rfl
theorem AO.qm (ids:List Nat) (o:AO):(o.dU ids).isRow=o.isRow:=by cases o<;>rfl
theorem U8 {ids:List Nat} (h:ids.Nodup):∀ {i j a:Nat},ids[i]?=some a→ids[j]?=some a→i=j:=by
 induction ids with
 | nil=>intro i j a hi;simp at hi
 | cons x xs ih=>
  intro i j a hi hj
  rw[List.nodup_cons] at h
  rcases i with _ | i<;>rcases j with _ | j
  ·rfl
  ·simp at hi hj;subst hi;exact absurd (List.mem_of_getElem? hj) h.1
  ·simp at hi hj;subst hj;exact absurd (List.mem_of_getElem? hi) h.1
  simp at hi hj;rw[ih h.2 hi hj]
section
variable {P:Program} {V:Env} {w0:World} {I0:aw} {n:Nat} {Q:Exit→St→Prop} {s:St}
theorem QF {I:aw} {m m':Nat→Value} {l l':List AO} {v:Value} {t:T} (h:aq I m l v t) (hb:t.data=true):aq I m' l' v t:=by
 cases h<;>simp[T.data] at hb
 exact .d _ _ (by assumption)
theorem og {ids:List Nat} {l:List AO} {k id:Nat} (h:ids[k]?=some id):isVar (eI ids l) k=isVar l id:=by
 unfold isVar;rw[B4 h];simp only[Option.map_some,Option.getD_some,AO.og]
 cases l[id]?<;>rfl
theorem qm {ids:List Nat} {l:List AO} {k id:Nat} (h:ids[k]?=some id):isRow (eI ids l) k=isRow l id:=by
 unfold isRow;rw[B4 h];simp only[Option.map_some,Option.getD_some,AO.qm]
 cases l[id]?<;>rfl
theorem GU {ids:List Nat} {l:List AO} {k id e size:Nat} {els:List D} (h:ids[k]?=some id) (hr:(eI ids l)[k]?=some (.row e size els)∨(eI ids l)[k]?=some (.bx e size els)):l[id]?=some (.row e size els)∨l[id]?=some (.bx e size els):=by
 rw[B4 h] at hr
 cases hl:l[id]? with
 | none=>rw[hl] at hr;simp[AO.dU] at hr
 | some o=>rw[hl] at hr;cases o<;>simp_all [AO.dU]
theorem aq.eH {I:aw} {m m':Nat→Value} {l:List AO} {ids:List Nat} (hm:∀ k id,ids[k]?=some id→m' k=m id) {v:Value} {t:T} (h:aq I m l v t):aq I m' (eI ids l) v (t.eH ids):=by
 have aN:∀ {k id:Nat},ids[k]?=some id→k < (eI ids l).length:=fun h=>by rw[show(eI ids l).length=ids.length by simp[eI]];exact(List.getElem?_eq_some_iff.1 h).1
 cases h with
 | undef=>exact .undef _
 | d v x hx=>exact .d _ _ hx
 | bC s=>exact .bC _
 | ptr id b off h1 h2=>
  simp only[T.eH]
  split
  ·rename_i k hk
   have hk:=(oN hk).2;simp only[Nat.sub_zero] at hk
   exact .ptr k b off ((og hk).trans h1) ((hm k id hk).trans h2)
  exact .undef _
 | bd id b h1 h2=>
  simp only[T.eH]
  split
  ·rename_i k hk
   have hk:=(oN hk).2;simp only[Nat.sub_zero] at hk
   exact .bd k b ((og hk).trans h1) ((hm k id hk).trans h2)
  exact .undef _
 | bL id b n c h1 h2 h3 h4=>
  simp only[T.eH]
  split
  ·rename_i k hk
   have hk:=(oN hk).2;simp only[Nat.sub_zero] at hk
   exact .bL k b n c ((og hk).trans h1) ((hm k id hk).trans h2) h3 h4
  exact .undef _
 | bw b o size els q off val h1 h2 h3 h4=>exact .bw b o size els q off val h1 h2 h3 h4
 | row A n c id h1 h2=>
  simp only[T.eH]
  split
  ·rename_i k hk
   have hk:=(oN hk).2;simp only[Nat.sub_zero] at hk
   exact .row A n c k (aN hk) fun hl=>(hm k id hk).trans (h2 ((qm hk).symm.trans hl))
  exact .undef _
 | bD A n c id x h1 h2 h3=>
  simp only[T.eH]
  split
  ·rename_i k hk
   have hk:=(oN hk).2;simp only[Nat.sub_zero] at hk
   exact .bD A n c k x (aN hk) (fun hl=>(hm k id hk).trans (h2 ((qm hk).symm.trans hl))) h3
  exact .d _ _ h3
 | bf a id q off h1 h2=>
  simp only[T.eH]
  split
  ·rename_i k hk
   have hk:=(oN hk).2;simp only[Nat.sub_zero] at hk
   refine .bf a k q off (aN hk) fun e size els hl=>?_
   obtain⟨b,n,c,q1,q2⟩:=h2 e size els (GU hk hl)
   exact⟨b,n,c,(hm k id hk).trans q1,q2⟩
  exact .undef _
 | sub A n c id lo hi h1 h2=>
  simp only[T.eH]
  split
  ·rename_i k hk
   have hk:=(oN hk).2;simp only[Nat.sub_zero] at hk
   refine .sub A n c k lo hi (aN hk) fun e size els hl=>?_
   obtain⟨A0,n0,c0,q1,q2⟩:=h2 e size els (GU hk hl)
   exact⟨A0,n0,c0,(hm k id hk).trans q1,q2⟩
  exact .undef _
 | map r id h1 h2=>
  simp only[T.eH]
  split
  ·rename_i k hk
   have hk:=(oN hk).2;simp only[Nat.sub_zero] at hk
   exact .map r k (aN hk) fun hl=>(hm k id hk).trans (h2 ((qm hk).symm.trans hl))
  exact .undef _
 | aI vs ts h1 h2=>exact .undef _
 | cond v pc t h1 h2=>exact .undef _
 | agg vs ts h1 h2 h3=>exact .undef _
 | aL g vs ts h1 h2=>
  simp only[T.eH]
  split
  ·rename_i hb
   refine .aL g vs _ (by simpa using h1) fun i v t hv ht=>?_
   rw[List.getElem?_map] at ht
   cases sV:ts[i]? with
   | none=>rw[sV] at ht;cases ht
   | some t0=>
    rw[sV] at ht;simp at ht;subst ht
    have h0:=h2 i v t0 hv sV
    have hf:=List.all_eq_true.1 hb t0 (List.mem_of_getElem? sV)
    cases h0 with
    | d v x hx=>exact .d _ _ hx
    | ptr id b off q1 q2=>
     simp only[T.wq]
     split
     ·rename_i k hk
      have hk:=(oN hk).2;simp only[Nat.sub_zero] at hk
      exact .ptr k b off ((og hk).trans q1) ((hm k id hk).trans q2)
     exact .undef _
    | bd id b q1 q2=>
     simp only[T.wq]
     split
     ·rename_i k hk
      have hk:=(oN hk).2;simp only[Nat.sub_zero] at hk
      exact .bd k b ((og hk).trans q1) ((hm k id hk).trans q2)
     exact .undef _
    | _=>simp[T.flat] at hf
  exact .undef _
theorem aq.dU {I:aw} {m m':Nat→Value} {l:List AO} {ids:List Nat} (hm:∀ k id,ids[k]?=some id→m' k=m id) {v:Value} {t:T} (h:aq I m l v t):aq I m' (eI ids l) v (t.dU ids):=by
 cases h with
 | aI vs ts h1 h2=>
  simp only[T.dU]
  split
  ·rename_i hb
   exact .aI vs ts h1 fun i v t hv ht=>QF (h2 i v t hv ht) (List.all_eq_true.1 hb t (List.mem_of_getElem? ht))
  exact .undef _
 | cond v pc t h1 h2=>
  simp only[T.dU]
  split
  ·rename_i hb
   exact .cond v pc t (fun hp=>QF (h1 hp) hb) h2
  exact .undef _
 | agg vs ts h1 h2 h3=>
  refine .agg vs _ (by simpa using h1) h2 fun i v t hv ht=>?_
  rw[List.getElem?_map] at ht
  cases sV:ts[i]? with
  | none=>rw[sV] at ht;cases ht
  | some t0=>
   rw[sV] at ht;simp at ht;subst ht
   exact(h3 i v t0 hv sV).eH hm
 | undef=>exact .undef _
 | d v x hx=>exact .d _ _ hx
 | bC s=>exact .bC _
 | ptr id b off q1 q2=>exact aq.eH hm (.ptr id b off q1 q2)
 | bw b o size els q off val q1 q2 q3 q4=>exact aq.eH hm (.bw b o size els q off val q1 q2 q3 q4)
 | row A n c id q1 q2=>exact aq.eH hm (.row A n c id q1 q2)
 | bD A n c id x q1 q2 q3=>exact aq.eH hm (.bD A n c id x q1 q2 q3)
 | bf a id q off q1 q2=>exact aq.eH hm (.bf a id q off q1 q2)
 | map r id q1 q2=>exact aq.eH hm (.map r id q1 q2)
 | bd id b q1 q2=>exact aq.eH hm (.bd id b q1 q2)
 | bL id b n c q1 q2 q3 q4=>exact aq.eH hm (.bL id b n c q1 q2 q3 q4)
 | sub A n c id lo hi q1 q2=>exact aq.eH hm (.sub A n c id lo hi q1 q2)
 | aL g vs ts q1 q2=>exact aq.eH hm (.aL g vs ts q1 q2)
def Jk (ids:List Nat) (l:List AO):Bool:=ids.all fun id=>match l[id]? with
 | some (.frame b _ _) | some (.loop b _ _ _ _ _ _ _)=>(List.range b).all fun j=>ids[j]? == some j
 | _=>true
theorem aF.dU {w0 w:World} {I0 I:aw} {m:Nat→Value} {l:List AO} {ids:List Nat} (h:aF w0 I0 w I m l) (fN:ids.Nodup) (eK:Jk ids l=true):aF w0 I0 w I (fun k=>m ((ids[k]?).getD 0)) (eI ids l):=by
 have hm:∀ (k id:Nat),ids[k]?=some id→(fun k:Nat=>m ((ids[k]?).getD 0)) k=m id:=fun k id hk=>by simp[hk]
 have bF:∀ {k:Nat} {o:AO},(eI ids l)[k]?=some o→∃ id,ids[k]?=some id:=fun {k o} hk=>by
  cases hi:ids[k]? with
  | none=>simp[eI,hi] at hk
  | some id=>exact⟨id,rfl⟩
 have cW:∀ {k id:Nat},ids[k]?=some id→alive (eI ids l) k=alive l id:=fun hk=>by unfold alive;rw[og hk,qm hk]
 refine⟨h.below,h.sat,h.ext,fun k o ho=>?_,fun i j b cm hi hj=>?_⟩
 ·obtain⟨id,hk⟩:=bF ho
  have hg:=B4 (l:=l) hk
  rw[ho] at hg
  cases hl:l[id]? with
  | none=>rw[hl] at hg;simp[AO.dU] at hg;subst hg;trivial
  | some o'=>
   rw[hl] at hg;simp only[Option.getD_some,Option.some.injEq] at hg
   have bK:=h.obj id o' hl
   show jM _ _ _ _ _ (m ((ids[k]?).getD 0)) o
   rw[hk,hg];simp only[Option.getD_some]
   have pre:∀ b:Nat,(match o' with | .frame b _ _ | .loop b _ _ _ _ _ _ _=>some b | _=>none)=some b→b≤l.length→b≤ids.length∧Le I m (l.take b) I (fun k=>m ((ids[k]?).getD 0)) ((eI ids l).take b):=fun b hb ajC=>by
    have xD:∀ j,j < b→ids[j]?=some j:=fun j hj=>by
     have:=List.all_eq_true.1 eK id (List.mem_of_getElem? hk)
     rw[hl] at this
     have:=(by
      cases o'<;>simp at hb<;>subst hb<;>exact List.all_eq_true.1 this j (List.mem_range.2 hj):(ids[j]? == some j)=true)
     simpa using this
    have mQ:b≤ids.length:=by
     rcases Nat.eq_zero_or_pos b with h0 | h0
     ·omega
     have:=(List.getElem?_eq_some_iff.1 (xD (b - 1) (by omega))).1;omega
    refine⟨mQ,.refl I,by simp[eI];omega,fun q hq hv=>?_,fun q hq hr=>?_,fun q e size els hq hh=>?_⟩
    ·rw[List.length_take] at hq
     rw[EG (by omega)] at hv ⊢
     exact⟨(og (xD q (by omega))).trans hv,hm q q (xD q (by omega))⟩
    ·rw[List.length_take] at hq
     rw[EE (by omega)] at hr ⊢
     exact⟨(qm (xD q (by omega))).symm.trans hr,hm q q (xD q (by omega))⟩
    rw[List.length_take] at hq
    rw[List.getElem?_take,if_pos (by omega)] at hh ⊢
    exact⟨els,GU (xD q (by omega)) hh⟩
   cases o' with
   | dead=>trivial
   | var ty cs=>
    obtain⟨b,vs,q1,q2,q3,q4,q5,q6⟩:=bK
    refine⟨b,vs,q1,q2,q3,by simp[q4],fun i x t hx ht=>?_,q6⟩
    rw[List.getElem?_map] at ht
    cases hc:cs[i]? with
    | none=>rw[hc] at ht;simp at ht
    | some t0=>
     rw[hc] at ht;simp at ht;subst ht
     exact⟨(q5 i x t0 hx hc).1.dU hm,(q5 i x t0 hx hc).2⟩
   | row e size els=>exact bK
   | bx e size els=>exact bK
   | map ks vs=>exact bK
   | eP ks vs=>exact bK
   | iter ks vs done=>exact bK
   | frame b vals t=>
    obtain⟨p1,p2⟩:=pre b rfl bK.2.1
    exact⟨bK.1,by simpa [eI] using p1,fun j=>(bK.2.2 j).mono p2⟩
   | loop b n ps bp body t st eu=>
    obtain⟨b',r,q0,q1,q2,q3,q4,q5,q6⟩:=bK
    obtain⟨p1,p2⟩:=pre b rfl q4
    exact⟨b',r,q0,q1,q2,q3,by simpa [eI] using p1,fun j=>(q5 j).mono p2,q6⟩
 obtain⟨o1,q1,_⟩:=bN.1 hi
 obtain⟨o2,q2,_⟩:=bN.1 hj
 obtain⟨a,ha⟩:=bF q1
 obtain⟨c,hc⟩:=bF q2
 rw[cW ha] at hi;rw[cW hc] at hj
 have bc:a≠c:=fun e=>by
  subst e
  have h1:=List.getElem?_eq_some_iff.1 ha
  have h2:=List.getElem?_eq_some_iff.1 hc
  obtain⟨h1,uM⟩:=h1;obtain⟨h2,Jx⟩:=h2
  exact cm (U8 fN ha hc)
 simp only[ha,hc,Option.getD_some]
 exact h.sep a c b bc hi hj
def sD (ids:List Nat) (s:Tm):Tm→Prop
 | []=>True
 | (i,t)::r=>(get s i).dU ids=t∧sD ids s r
theorem DE {ids:List Nat} {s:Tm}:∀ {r:Tm},sD ids s r→∀ k,get r k = .undef∨get r k=(get s k).dU ids
 | [],_,k=> .inl rfl
 | (i,t)::r,h,k=>by
  simp only[get]
  by_cases hi:i=k
  ·subst hi;rw[if_pos rfl];exact .inr h.1.symm
  rw[if_neg hi];exact DE h.2 k
theorem Sub.dU (ids:List Nat) {t':Tm} {l':List AO} (fN:ids.Nodup) (eK:Jk ids s.l=true) (hl:eI ids s.l=l') (hf:sD ids s.t t'):Sub s ⟨t',l'⟩:=by
 subst hl
 intro w0 I0 n a w hr
 obtain⟨h1,I,m,h3,h2,h4⟩:=hr
 refine⟨h1,I,_,h3.dU fN eK,h2,fun j=>?_⟩
 rcases DE hf j with h | h
 ·rw[h];exact .undef _
 rw[h];exact(h4 j).dU fun k id hk=>by simp[hk]
theorem aF.Wy {w0 w:World} {I0 I:aw} {m:Nat→Value} {l:List AO} (h3:aF w0 I0 w I m l) (e size:Nat):∃ m',aF w0 I0 w I m' (l++[.row e size []])∧Le I m l I m' (l++[.row e size []])∧m' l.length = .slice none 0 0:=by
 let m':Nat→Value:=fun k=>if k=l.length then .slice none 0 0 else m k
 have aN:∀ k,k < l.length→m' k=m k:=fun k hk=>by simp only[m'];rw[if_neg (by omega)]
 have hV:∀ id,id < l.length→isVar (l++[.row e size []]) id=isVar l id:=fun id an=>by unfold isVar;rw[List.getElem?_append_left an]
 have hR:∀ id,id < l.length→isRow (l++[.row e size []]) id=isRow l id:=fun id an=>by unfold isRow;rw[List.getElem?_append_left an]
 have hle:Le I m l I m' (l++[.row e size []]):=by
  refine⟨.refl I,by simp,fun id an hv=>⟨(hV id an).trans hv,aN id an⟩,fun id an hv=>⟨(hR id an).symm.trans hv,aN id an⟩,fun id e' s' els an hl=>⟨els,?_⟩⟩
  rwa [List.getElem?_append_left an] at hl
 have fo:m' l.length = .slice none 0 0:=by simp[m']
 refine⟨m',⟨h3.below,h3.sat,h3.ext,fun id o ho=>?_,fun i k b dP hi hk=>?_⟩,hle,fo⟩
 ·rcases Nat.lt_or_ge id l.length with an | an
  ·rw[List.getElem?_append_left an] at ho
   have:=h3.obj id o ho
   rw[aN id an]
   cases o with
   | dead=>trivial
   | var ty cs=>
    obtain⟨b,vs,q1,q2,q3,q4,q5,q6⟩:=this
    exact⟨b,vs,q1,q2,q3,q4,fun i x t hx ht=>⟨(q5 i x t hx ht).1.mono hle,(q5 i x t hx ht).2⟩,q6⟩
   | row e size els=>exact this
   | bx e size els=>exact this
   | map ks vs=>exact this
   | eP ks vs=>exact this
   | iter ks vs done=>exact this
   | frame b vals t=>exact⟨this.1,Nat.le_trans this.2.1 hle.len,fun j=>(this.2.2 j).mono (hle.take b)⟩
   | loop b n ps bp body t st eu=>
    obtain⟨b',r,q0,q1,q2,q3,q4,q5,q6⟩:=this
    exact⟨b',r,q0,q1,q2,q3,Nat.le_trans q4 hle.len,fun j=>(q5 j).mono (hle.take b),q6⟩
  rw[List.getElem?_append_right an] at ho
  have h0:id - l.length=0:=by
   cases hq:id - l.length with
   | zero=>rfl
   | succ q=>rw[hq] at ho;simp at ho
  rw[h0] at ho;simp at ho;subst ho
  have:id=l.length:=by omega
  subst this
  rw[fo]
  exact⟨[],⟨by simp,.inl ⟨rfl,rfl⟩⟩,by simp,by simp,by simp[own]⟩
 intro hb
 have al:∀ q,alive (l++[.row e size []]) q=true→(q < l.length∧alive l q=true)∨q=l.length:=fun q hq=>by
  rcases Nat.lt_or_ge q l.length with h | h
  ·refine .inl ⟨h,?_⟩;unfold alive at hq ⊢;rwa [hV q h,hR q h] at hq
  obtain⟨o,ho,_⟩:=bN.1 hq
  have:=(List.getElem?_eq_some_iff.1 ho).1
  simp at this;right;omega
 rcases al i hi with ⟨i1,i2⟩ | rfl
 ·rcases al k hk with ⟨k1,k2⟩ | rfl
  ·rw[aN i i1] at hb;rw[aN k k1];exact h3.sep i k b dP i2 k2 hb
  rw[fo];simp[own]
 rw[fo] at hb;simp[own] at hb
theorem Sub.wW (j e size:Nat) {z:Nat} (hj:get s.t j = .bC z):Sub s ⟨(j,.row s.l.length)::s.t,s.l++[.row e size []]⟩:=by
 intro w0 I0 n a w hr
 obtain⟨h1,I,m,h3,h2,h4⟩:=hr
 let m':Nat→Value:=fun k=>if k=s.l.length then .slice none 0 0 else m k
 have aN:∀ k,k < s.l.length→m' k=m k:=fun k hk=>by simp only[m'];rw[if_neg (by omega)]
 have hV:∀ id,id < s.l.length→isVar (s.l++[.row e size []]) id=isVar s.l id:=fun id an=>by unfold isVar;rw[List.getElem?_append_left an]
 have hR:∀ id,id < s.l.length→isRow (s.l++[.row e size []]) id=isRow s.l id:=fun id an=>by unfold isRow;rw[List.getElem?_append_left an]
 have hle:Le I m s.l I m' (s.l++[.row e size []]):=by
  refine⟨.refl I,by simp,fun id an hv=>⟨(hV id an).trans hv,aN id an⟩,fun id an hv=>⟨(hR id an).symm.trans hv,aN id an⟩,fun id e' s' els an hl=>⟨els,?_⟩⟩
  rwa [List.getElem?_append_left an] at hl
 have fo:m' s.l.length = .slice none 0 0:=by simp[m']
 refine⟨h1,I,m',⟨h3.below,h3.sat,h3.ext,fun id o ho=>?_,fun i k b dP hi hk=>?_⟩,h2,fun k=>?_⟩
 ·rcases Nat.lt_or_ge id s.l.length with an | an
  ·rw[List.getElem?_append_left an] at ho
   have:=h3.obj id o ho
   rw[aN id an]
   cases o with
   | dead=>trivial
   | var ty cs=>
    obtain⟨b,vs,q1,q2,q3,q4,q5,q6⟩:=this
    exact⟨b,vs,q1,q2,q3,q4,fun i x t hx ht=>⟨(q5 i x t hx ht).1.mono hle,(q5 i x t hx ht).2⟩,q6⟩
   | row e size els=>exact this
   | bx e size els=>exact this
   | map ks vs=>exact this
   | eP ks vs=>exact this
   | iter ks vs done=>exact this
   | frame b vals t=>exact⟨this.1,Nat.le_trans this.2.1 hle.len,fun j=>(this.2.2 j).mono (hle.take b)⟩
   | loop b n ps bp body t st eu=>
    obtain⟨b',r,q0,q1,q2,q3,q4,q5,q6⟩:=this
    exact⟨b',r,q0,q1,q2,q3,Nat.le_trans q4 hle.len,fun j=>(q5 j).mono (hle.take b),q6⟩
  rw[List.getElem?_append_right an] at ho
  have h0:id - s.l.length=0:=by
   cases hq:id - s.l.length with
   | zero=>rfl
   | succ q=>rw[hq] at ho;simp at ho
  rw[h0] at ho;simp at ho;subst ho
  have:id=s.l.length:=by omega
  subst this
  rw[fo]
  exact⟨[],⟨by simp,.inl ⟨rfl,rfl⟩⟩,by simp,by simp,by simp[own]⟩
 ·intro hb
  have al:∀ q,alive (s.l++[.row e size []]) q=true→(q < s.l.length∧alive s.l q=true)∨q=s.l.length:=fun q hq=>by
   rcases Nat.lt_or_ge q s.l.length with h | h
   ·refine .inl ⟨h,?_⟩;unfold alive at hq ⊢;rwa [hV q h,hR q h] at hq
   obtain⟨o,ho,_⟩:=bN.1 hq
   have:=(List.getElem?_eq_some_iff.1 ho).1
   simp at this;right;omega
  rcases al i hi with ⟨i1,i2⟩ | rfl
  ·rcases al k hk with ⟨k1,k2⟩ | rfl
   ·rw[aN i i1] at hb;rw[aN k k1];exact h3.sep i k b dP i2 k2 hb
   rw[fo];simp[own]
  rw[fo] at hb;simp[own] at hb
 simp only[get]
 by_cases hk:j=k
 ·subst hk
  rw[if_pos rfl]
  have:=h4 j
  rw[hj] at this
  generalize a.tmps.getD j undef=v at this
  cases this
  exact .row none 0 0 _ (by simp) fun _=>fo
 rw[if_neg hk];exact(h4 k).mono hle
theorem Sub.Ya (id k e size:Nat) {ty:TypeId} {cs:List T} {z:Nat} (ho:s.l[id]?=some (.var ty cs)) (hk:cs[k]?=some (.bC z)):Sub s ⟨s.t,(s.l++[AO.row e size []]).set id (.var ty (cs.set k (.row s.l.length)))⟩:=by
 intro w0 I0 n a w hr
 obtain⟨h1,I,m,h3,h2,h4⟩:=hr
 obtain⟨m',r1,hle,fo⟩:=h3.Wy e size
 have an:=(List.getElem?_eq_some_iff.1 ho).1
 have bK:(s.l++[AO.row e size []])[id]?=some (.var ty cs):=by rw[List.getElem?_append_left an];exact ho
 have iV:Le I m' (s.l++[AO.row e size []]) I m' ((s.l++[AO.row e size []]).set id (.var ty (cs.set k (.row s.l.length)))):=Le.setKind bK rfl rfl (fun e size els h=>by rcases h with h | h<;>cases h)
 obtain⟨b,vs,q1,q2,q3,q4,q5,q6⟩:=r1.obj id _ bK
 refine⟨h1,I,m',r1.sb bK (by simp) (b:=b) (by rw[q1];rfl) q6 rfl rfl iV rfl rfl rfl (Nat.le_refl _) (Nat.le_refl _) (fun _ _=>rfl) ⟨b,vs,q1,q2,q3,by simpa using q4,fun i x t hx ht=>?_,q6⟩,h2,fun j=>((h4 j).mono hle).mono iV⟩
 rw[List.getElem?_set] at ht
 split at ht
 ·rename_i dD
  subst dD
  split at ht
  ·injection ht with ht;subst ht
   have:=q5 k x _ hx hk
   refine⟨?_,this.2⟩
   have h0:=this.1
   cases h0
   exact .row none 0 0 _ (by simp) fun _=>fo
  cases ht
 exact⟨(q5 i x t hx ht).1.mono iV,(q5 i x t hx ht).2⟩
end
end Go.aj
namespace Go.aj
open Go Go.RowKit
class cE (α:Type) where
 enc:α→D
 dec:D→α
 size:Nat
 zp:∀ a,dec (enc a)=a
 len:∀ a,(enc a).cells.length=size
 FD:∀ a,∀ x∈(enc a).cells,x.one=true
open cE
instance:cE Int:=⟨fun n=> .int .i64 n,fun d=>match d with | .int _ n=>n | _=>0,1,fun _=>rfl,fun _=>rfl,by simp[D.cells,D.one]⟩
instance:cE Bool:=⟨fun n=> .bool n,fun d=>match d with | .bool n=>n | _=>false,1,fun _=>rfl,fun _=>rfl,by simp[D.cells,D.one]⟩
instance:cE ByteArray:=⟨fun n=> .str n,fun d=>match d with | .str n=>n | _=>⟨#[]⟩,1,fun _=>rfl,fun _=>rfl,by simp[D.cells,D.one]⟩
theorem aeX {α:Type} [cE α] (xs:List α):(xs.map (enc:α→D)).map dec=xs:=by
 induction xs with
 | nil=>rfl
 | cons x xs ih=>simp only[List.map_cons,ih,zp]
instance {α:Type} [cE α]:cE (List α):=⟨fun xs=> .slice (size α) (xs.map enc),fun d=>match d with | .slice _ els=>els.map dec | _=>[],1,aeX,fun _=>rfl,by simp[D.cells,D.one]⟩
structure Fn where
 f:FuncId
instance:cE Fn:=⟨fun n=> .fn n.f,fun d=>match d with | .fn f=>⟨f⟩ | _=>⟨0⟩,1,fun _=>rfl,fun _=>rfl,by simp[D.cells,D.one]⟩
theorem xk (n:Int):enc n = .int .i64 n:=rfl
theorem Z6 (b:Bool):enc b = .bool b:=rfl
theorem Dm {α:Type} [cE α] (xs:List α):enc xs = .slice (size α) (xs.map enc):=rfl
theorem ZR (k:IntKind) (n:Int):dec (.int k n)=n:=rfl
theorem ZP (b:Bool):dec (.bool b)=b:=rfl
theorem ah0:size Int=1:=rfl
def aii (r:D):Spec:=fun ds=>match ds with | []=>some (r,True) | _=>none
def aij {α:Type} [cE α] (pre:α→Prop) (f:α→D):Spec:=fun ds=>match ds with | [a]=>some (f (dec a),enc (dec a:α)=a∧pre (dec a)) | _=>none
def aik {α β:Type} [cE α] [cE β] (pre:α→β→Prop) (f:α→β→D):Spec:=fun ds=>match ds with | [a,b]=>some (f (dec a) (dec b),enc (dec a:α)=a∧enc (dec b:β)=b∧pre (dec a) (dec b)) | _=>none
def ail {α β γ:Type} [cE α] [cE β] [cE γ] (pre:α→β→γ→Prop) (f:α→β→γ→D):Spec:=fun ds=>match ds with | [a,b,c]=>some (f (dec a) (dec b) (dec c),enc (dec a:α)=a∧enc (dec b:β)=b∧enc (dec c:γ)=c∧pre (dec a) (dec b) (dec c)) | _=>none
theorem ahg:List.range 1=[0]:=rfl
theorem ahh:List.range 2=[0,1]:=rfl
theorem ahi:List.range 3=[0,1,2]:=rfl
theorem ahj:List.range 4=[0,1,2,3]:=rfl
variable [bh] [cd]
section
variable {P:Program} {g:FuncId}
end
section
variable {P:Program} {w0:World} {I0:aw} {n:Nat} {Q:Exit→St→Prop} {s:St} {x y z:Code}
def di (live:List Nat) (t:Tm):Tm:=live.map fun k=>(k,get t k)
theorem Wv (t:Tm) (k:Nat):∀ (live:List Nat),get (di live t) k = .undef∨get (di live t) k=get t k
 | []=> .inl rfl
 | j::live=>by
  simp only[di,List.map_cons,get]
  by_cases h:j=k
  ·rw[if_pos h,h];exact .inr rfl
  rw[if_neg h];exact Wv t k live
theorem Sub.di (live:List Nat):Sub s ⟨di live s.t,s.l⟩:=by
 intro w0 I0 n a w hr
 obtain⟨h1,I,m,h3,h2,h4⟩:=hr
 refine⟨h1,I,m,h3,h2,fun j=>?_⟩
 rcases Wv s.t j live with h | h
 ·rw[h];exact .undef _
 rw[h];exact h4 j
theorem aV.ZC {s s':St} (h:s=s'):aV P w0 I0 n x s Q=aV P w0 I0 n x s' Q:=by rw[h]
end
end Go.aj
namespace Go.aj
open Go Go.RowKit cE
variable [bh] [cd]
def aa {α β:Type} (o:Option α) (f:α→Option β):Option β:=match o with | some x=>f x | none=>none
def bT {β:Type} (p:Prop) [Decidable p] (o:Option β):Option β:=if p then o else none
def ab {β:Type} (c:Bool) (a b:Option β):Option β:=match c with | true=>a | false=>b
def kW (n:Int):Prop:= -9223372036854775808≤n∧n≤9223372036854775807
instance (n:Int):Decidable (kW n):=inferInstanceAs (Decidable (_∧_))
def av {α:Type} (l:List α) (i:Int):Option α:=if 0≤i then l[i.toNat]? else none
theorem OF {α β:Type} {o:Option α} {f:α→Option β} {r:β} (h:aa o f=some r):∃ x,o=some x∧f x=some r:=by
 unfold aa at h;split at h
 ·rename_i x;exact⟨x,rfl,h⟩
 cases h
theorem DK {β:Type} {p:Prop} [Decidable p] {o:Option β} {r:β} (h:bT p o=some r):p∧o=some r:=by
 unfold bT at h;split at h
 ·rename_i hp;exact⟨hp,h⟩
 cases h
theorem acn {β:Type} {c:Bool} {a b:Option β} {r:β} (hc:c=true) (h:ab c a b=some r):a=some r:=by subst hc;exact h
theorem aci {β:Type} {c:Bool} {a b:Option β} {r:β} (hc:c=false) (h:ab c a b=some r):b=some r:=by subst hc;exact h
theorem vr {β:Type} (c:Bool) (a b:Option β):ab c a b=if c=true then a else b:=by cases c<;>rfl
theorem aX {α β:Type} {o:Option α} {f:α→Option β} {x:α} (h:o=some x):aa o f=f x:=by subst h;rfl
theorem Jw {β:Type} {p:Prop} [Decidable p] {o:Option β} (h:p):bT p o=o:=if_pos h
theorem af {α β:Type} (x:α) (f:α→Option β):aa (some x) f=f x:=rfl
theorem Z3 (d:D) (l:List D):fK (d::l) 0=d:=rfl
def mZ {σ ρ:Type} (step:σ→Option (σ⊕ρ)):Nat→σ→Option ρ
 | 0,_=>none
 | n+1,z=>match step z with
  | some (.inl z')=>mZ step n z'
  | some (.inr r)=>some r
  | none=>none
theorem K5 {σ ρ:Type} {step:σ→Option (σ⊕ρ)} {r:ρ}:∀ {n m:Nat} {z:σ},n≤m→mZ step n z=some r→mZ step m z=some r
 | 0,_,_,_,h=>by cases h
 | n+1,0,_,hm,_=>by omega
 | n+1,m+1,z,hm,h=>by
  simp only[mZ] at h ⊢
  split at h<;>try (first | exact h | cases h)
  exact K5 (by omega) h
open Classical in
noncomputable def aU {σ ρ:Type} (step:σ→Option (σ⊕ρ)) (z:σ):Option ρ:=if h:∃ n r,mZ step n z=some r then some (Classical.choose (Classical.choose_spec h)) else none
theorem LI {σ ρ:Type} {step:σ→Option (σ⊕ρ)} {z:σ} {n:Nat} {r:ρ} (h:mZ step n z=some r):aU step z=some r:=by
 have hx:∃ n r,mZ step n z=some r:=⟨n,r,h⟩
 unfold aU
 rw[dif_pos hx]
 have h1:=Classical.choose_spec (Classical.choose_spec hx)
 have h2:=K5 (Nat.le_max_left n (Classical.choose hx)) h
 have h3:=K5 (Nat.le_max_right n (Classical.choose hx)) h1
 rw[h3] at h2;exact h2
theorem E6 {σ ρ:Type} {step:σ→Option (σ⊕ρ)} {z:σ} {r:ρ} (h:aU step z=some r):∃ n,mZ step n z=some r:=by
 unfold aU at h
 split at h
 ·rename_i hx
  have h1:=Classical.choose_spec (Classical.choose_spec hx)
  cases h
  exact⟨_,h1⟩
 cases h
theorem Uy {σ ρ:Type} (step:σ→Option (σ⊕ρ)) (z:σ):aU step z=match step z with | some (.inl z')=>aU step z' | some (.inr r)=>some r | none=>none:=by
 cases hs:step z with
 | none=>
  cases hl:aU step z with
  | none=>rfl
  | some r=>
   obtain⟨n,hn⟩:=E6 hl
   cases n with
   | zero=>cases hn
   | succ n=>simp only[mZ,hs] at hn;cases hn
 | some x=>
  cases x with
  | inr r=>exact LI (n:=1) (by simp only[mZ,hs])
  | inl z'=>
   simp only
   cases hl:aU step z' with
   | some r=>
    obtain⟨n,hn⟩:=E6 hl
    exact LI (n:=n+1) (by simp only[mZ,hs];exact hn)
   | none=>
    cases fB:aU step z with
    | none=>rfl
    | some r=>
     obtain⟨n,hn⟩:=E6 fB
     cases n with
     | zero=>cases hn
     | succ n=>
      simp only[mZ,hs] at hn
      rw[LI hn] at hl;cases hl
theorem E5 {σ ρ:Type} {step:σ→Option (σ⊕ρ)} {z z':σ} (h:step z=some (.inl z')):aU step z=aU step z':=by rw[Uy,h]
theorem tf {σ ρ:Type} {step:σ→Option (σ⊕ρ)} {z:σ} {r:ρ} (h:step z=some (.inr r)):aU step z=some r:=by rw[Uy,h]
section
variable {P:Program} {V:Env} {w0:World} {I0:aw} {n:Nat} {Q:Exit→St→Prop} {s s':St} {x y:Code}
theorem nc {K:St→Prop} (h:s=s') (k:K s'):K s:=h▸k
theorem aV.WU (J0:St→Prop) (h:∀ J:St→Prop,(∀ s',J0 s'→J s')→aV P w0 I0 n x s (Ck J Q)) (k:∀ s',J0 s'→aV P w0 I0 n y s' Q):aV P w0 I0 n (x.seq y) s Q:=
 aV.seq (aV.mono (h J0 fun _ h=>h) fun e s' hq=>by cases e<;>first | exact k s' hq | exact hq)
theorem aV.Ni (h:∀ K:St→Prop,(∀ s',aV P w0 I0 n y s' Q→K s')→aV P w0 I0 n x s (Ck K Q)):aV P w0 I0 n (x.seq y) s Q:=
 aV.seq (h _ fun _ h=>h)
theorem aV.Wq (hV:dI P V) (md:Way) (live:List Nat) {id:Nat} {ops:List Oper} (h:∀ K:St→Prop,(∀ s',Q .normal s'→K s')→fA V n ops md ops s (fun s'=>K ⟨aj.di live s'.t,s'.l⟩)):aV P w0 I0 n (Code.region id ops.toArray false) s Q:=fun a w hr=>by
 refine wpIn_region_lit (Q0 (Q:=fun e a' w'=>∃ s',Q e s'∧Rel w0 I0 n s' a' w') (K:=fun s'=>Q .normal ⟨aj.di live s'.t,s'.l⟩) hV (fun s a w h1 h2=>?_) ops s a w hr (h _ fun _ h=>h))
 exact⟨_,h1,Sub.di live _ _ _ _ _ h2⟩
theorem aV.ahy (hV:dI P V) (hm:P.follows .mixedOrders=true) (md:Way) (n1:Nat) (F:List Nat) (live:List Nat) {id:Nat} {ops:List Oper} (hd:sw ops n1 F=true)
  (h:∀ K:St→Prop,(∀ s',Q .normal s'→K s')→jj V n ops md s.l (ops.take n1) 0 s.t [] fun tm news=>fA V n ops md (ops.drop n1) ⟨tm,s.l++news.map (·.2)⟩ (fun s'=>K ⟨aj.di live s'.t,s'.l⟩)):aV P w0 I0 n (Code.region id ops.toArray true) s Q:=fun _ _ hr=>
 aac (Q:=fun e a' w'=>∃ s',Q e s'∧Rel w0 I0 n s' a' w') (K:=fun s'=>Q .normal ⟨aj.di live s'.t,s'.l⟩) hV hm (fun _ _ _ h1 h2=>⟨_,h1,Sub.di live _ _ _ _ _ h2⟩) n1 F hd hr (h _ fun _ h=>h)
theorem aV.rS (hV:dI P V) (md:Way) (live:List Nat) {id:Nat} {ops:List Oper} (h:∀ K:St→Prop,(∀ s',aV P w0 I0 n y s' Q→K s')→fA V n ops md ops s (fun s'=>K ⟨aj.di live s'.t,s'.l⟩)):aV P w0 I0 n ((Code.region id ops.toArray false).seq y) s Q:=
 aV.Ni fun _ hk=>aV.Wq hV md live fun _ gz=>h _ fun s' ha=>gz s' (hk s' ha)
theorem aV.rDF (hV:dI P V) (hm:P.follows .mixedOrders=true) (md:Way) (n1:Nat) (F:List Nat) (live:List Nat) {id:Nat} {ops:List Oper} (hd:sw ops n1 F=true)
  (h:∀ K:St→Prop,(∀ s',aV P w0 I0 n y s' Q→K s')→jj V n ops md s.l (ops.take n1) 0 s.t [] fun tm news=>fA V n ops md (ops.drop n1) ⟨tm,s.l++news.map (·.2)⟩ (fun s'=>K ⟨aj.di live s'.t,s'.l⟩)):aV P w0 I0 n ((Code.region id ops.toArray true).seq y) s Q:=
 aV.Ni fun _ hk=>aV.ahy hV hm md n1 F live hd fun _ gz=>h _ fun s' ha=>gz s' (hk s' ha)
theorem uB {ops:List Oper} {md:Way} {l0:List AO} {K K':Tm→List (Nat×AO)→Prop} (hk:∀ tm news,K tm news→K' tm news):∀ (r:List Oper) (k:Nat) (tm:Tm) (news:List (Nat×AO)),jj V n ops md l0 r k tm news K→jj V n ops md l0 r k tm news K'
 | [],_,_,_,h=>hk _ _ h
 | o::r,k,tm,news,h=>by
  simp only[jj] at h ⊢
  split at h
  ·exact h
  cases md with
  | none=>
   simp only at h ⊢
   obtain⟨h1,h2,h3⟩:=h
   refine⟨h1,h2,?_⟩
   split at h3
   ·exact uB hk r _ _ _ h3
   ·exact uB hk r _ _ _ h3
   ·exact uB hk r _ _ _ h3
   exact h3
  | some sk=>
   simp only at h ⊢
   split at h
   ·rename_i hs
    rw[if_pos hs]
    exact⟨h.1,h.2.1,h.2.2.1,uB hk r _ _ _ h.2.2.2⟩
   rename_i hs
   rw[if_neg hs]
   obtain⟨h0,h1,h2,h3⟩:=h
   refine⟨h0,h1,h2,?_⟩
   split at h3
   ·exact uB hk r _ _ _ h3
   ·exact uB hk r _ _ _ h3
   exact h3
def xg (ops:List Oper) (live:List Nat):List Oper→List Nat→Bool
 | [],W=>live.all fun x=>W.contains x
 | o::r,W=>((iN ops o).all fun x=>W.contains x)&&xg ops live r (match o.dst with | some d=>d::W | none=>W)
theorem WH {ops:List Oper} {live:List Nat} {K:St→Prop}:∀ {r:List Oper} {W:List Nat} {s1 s2:St},xg ops live r W=true→s1.l=s2.l→(∀ x∈W,get s1.t x=get s2.t x) →
  gh P n ops r s1 (fun s'=>K ⟨aj.di live s'.t,s'.l⟩)→gh P n ops r s2 (fun s'=>K ⟨aj.di live s'.t,s'.l⟩)
 | [],W,s1,s2,hc,hl,hw,h=>by
  simp only[xg,List.all_eq_true,List.contains_iff_mem] at hc
  simp only[gh] at h ⊢
  have:aj.di live s1.t=aj.di live s2.t:=List.map_congr_left fun x hx=>by rw[hw x (hc x hx)]
  rw[←this,←hl];exact h
 | o::r,W,s1,s2,hc,hl,hw,h=>by
  simp only[xg,Bool.and_eq_true,List.all_eq_true,List.contains_iff_mem] at hc
  have h:qD P n ops o s1 _:=h
  show qD P n ops o s2 _
  have h2:qD P n ops o s2 fun u l'=>gh P n ops r ⟨aY s1.t o.dst u,l'⟩ fun s'=>K ⟨aj.di live s'.t,s'.l⟩:=fun st u9 hsr w0 I0 a w Q Kn hr hK=>
   h st (u9.trans hl.symm) (fun x hx=>(hsr x hx).trans (hw x (hc.1 x hx)).symm) w0 I0 a w Q Kn hr fun u l' a' w' k hv=>hK u l' a' w' k fun e=>by rw[←hl];exact hv e
  refine h2.mono fun u l' h'=>WH (s1:=⟨aY s1.t o.dst u,l'⟩) (s2:=⟨aY s2.t o.dst u,l'⟩) hc.2 rfl (fun x hx=>?_) h'
  cases hd:o.dst with
  | none=>rw[hd] at hx;simp only[aY];exact hw x hx
  | some d=>
   rw[hd] at hx
   simp only[aY,get]
   by_cases e:d=x
   ·rw[if_pos e,if_pos e]
   rw[if_neg e,if_neg e]
   rcases List.mem_cons.1 hx with h3 | h3
   ·exact absurd h3.symm e
   exact hw x h3
theorem ahA (live:List Nat) (t:Tm) {k:Nat} (h:k∈live):get (aj.di live t) k=get t k:=by
 induction live with
 | nil=>cases h
 | cons j live ih=>
  simp only[aj.di,List.map_cons,get]
  by_cases e:j=k
  ·rw[if_pos e,e]
  rw[if_neg e]
  rcases List.mem_cons.1 h with h1 | h1
  ·exact absurd h1.symm e
  exact ih h1
def mL (P:Program) (n:Nat) (ops:List Oper) (k:Nat) (live:List Nat) (s:St) (K:St→Prop):Prop:=gh P n ops (ops.drop k) s fun s'=>K ⟨aj.di live s'.t,s'.l⟩
theorem mL.fin (hV:dI P V) (md:Way) {k:Nat} {ops:List Oper} {live:List Nat} {K:St→Prop} (h:fA V n ops md (ops.drop k) s (fun s'=>K ⟨aj.di live s'.t,s'.l⟩)):mL P n ops k live s K:=gh.of hV h
theorem mL.call (hV:dI P V) {k:Nat} {ops:List Oper} {live:List Nat} {K:St→Prop} {o:Oper} (g:FuncId) (ts:List T) {pc:PC} (ho:ops[k]?=some o) (hg:eJ ops s.t o.guard=some pc) (hp:holds pc) (hd:eS n o.dst=true) (hc:eO V.E (bR s.t) o=some (g,ts))
  (h:∀ K2:T→List AO→Prop,(∀ u l',mL P n ops (k+1) live ⟨aY s.t o.dst u,l'⟩ K→K2 u l')→qC P g ts s.l K2):mL P n ops k live s K:=by
 unfold mL
 have hk:=(List.getElem?_eq_some_iff.1 ho).1
 rw[List.drop_eq_getElem_cons hk,(List.getElem?_eq_some_iff.1 ho).2]
 exact gh.call hV hg hp hd hc (h _ fun _ _ h=>h)
theorem aV.ahx (hV:dI P V) (hm:P.follows .mixedOrders=true) (md:Way) (n1:Nat) (F:List Nat) (L live:List Nat) {id:Nat} {ops:List Oper} (hd:sw ops n1 F=true) (hc:xg ops live (ops.drop n1) L=true)
  (h:∀ K:St→Prop,(∀ s',Q .normal s'→K s')→∀ K1:St→Prop,(∀ s',mL P n ops n1 live s' K→K1 s')→jj V n ops md s.l (ops.take n1) 0 s.t [] fun tm news=>K1 ⟨aj.di L tm,s.l++news.map (·.2)⟩):aV P w0 I0 n (Code.region id ops.toArray true) s Q:=fun _ _ hr=>
 aad (Q:=fun e a' w'=>∃ s',Q e s'∧Rel w0 I0 n s' a' w') (K:=fun s'=>Q .normal ⟨aj.di live s'.t,s'.l⟩) hV hm (fun _ _ _ h1 h2=>⟨_,h1,Sub.di live _ _ _ _ _ h2⟩) n1 F hd hr
  (uB (fun tm news hk=>WH (s1:=⟨aj.di L tm,s.l++news.map (·.2)⟩) (s2:=⟨tm,s.l++news.map (·.2)⟩) hc rfl (fun x hx=>ahA L tm hx) hk) _ _ _ _ (h _ (fun _ h=>h) (fun s'=>mL P n ops n1 live s' fun s'=>Q .normal s') fun _ h=>h))
theorem aV.We (hV:dI P V) (hm:P.follows .mixedOrders=true) (md:Way) (n1:Nat) (F:List Nat) (L live:List Nat) {id:Nat} {ops:List Oper} (hd:sw ops n1 F=true) (hc:xg ops live (ops.drop n1) L=true)
  (h:∀ K:St→Prop,(∀ s',aV P w0 I0 n y s' Q→K s')→∀ K1:St→Prop,(∀ s',mL P n ops n1 live s' K→K1 s')→jj V n ops md s.l (ops.take n1) 0 s.t [] fun tm news=>K1 ⟨aj.di L tm,s.l++news.map (·.2)⟩):aV P w0 I0 n ((Code.region id ops.toArray true).seq y) s Q:=
 aV.Ni fun _ hk=>aV.ahx hV hm md n1 F L live hd hc fun _ gz=>h _ fun s' ha=>gz s' (hk s' ha)
theorem gg.ofQ {f:FuncId} {fn:Func} {c:Code} {ds:List D} {r:D} (hV:dI P V) (hf:P.funcs[f]?=some fn) (hb:fn.body=some c) (hn:ds.length≤fn.ntmps)
  (h:∀ (R:cd),R.r=none→∀ w0 I0 (Q:Exit→St→Prop),(∀ e s,(e = .ret∨e = .normal)→GY V s fn.results.toList r→Q e s)→aV P w0 I0 fn.ntmps c ⟨pe 0 ds,[]⟩ Q):gg P f ds r:=
 gg.of hV hf hb hn fun R hR w0 I0=>h R hR w0 I0 _ fun _ _ h1 h2=>⟨h1,h2⟩
end
section
end
def tw (o:Option D):D:=o.getD .eY
def aim (f:Option D):Spec:=fun ds=>match ds with | []=>some (tw f,f.isSome=true) | _=>none
def yN {α:Type} [cE α] (f:α→Option D):Spec:=fun ds=>match ds with | [a]=>some (tw (f (dec a)),enc (dec a:α)=a∧(f (dec a)).isSome=true) | _=>none
def ain {α β:Type} [cE α] [cE β] (f:α→β→Option D):Spec:=fun ds=>match ds with | [a,b]=>some (tw (f (dec a) (dec b)),enc (dec a:α)=a∧enc (dec b:β)=b∧(f (dec a) (dec b)).isSome=true) | _=>none
def aio {α β γ:Type} [cE α] [cE β] [cE γ] (f:α→β→γ→Option D):Spec:=fun ds=>match ds with | [a,b,c]=>some (tw (f (dec a) (dec b) (dec c)),enc (dec a:α)=a∧enc (dec b:β)=b∧enc (dec c:γ)=c∧(f (dec a) (dec b) (dec c)).isSome=true) | _=>none
def aip {α β γ δ:Type} [cE α] [cE β] [cE γ] [cE δ] (f:α→β→γ→δ→Option D):Spec:=fun ds=>match ds with | [a,b,c,d]=>some (tw (f (dec a) (dec b) (dec c) (dec d)),enc (dec a:α)=a∧enc (dec b:β)=b∧enc (dec c:γ)=c∧enc (dec d:δ)=d∧(f (dec a) (dec b) (dec c) (dec d)).isSome=true) | _=>none
section
variable {P:Program} {g:FuncId}
theorem afM {o:Option D} (h:o.isSome=true):o=some (tw o):=by cases o<;>first | rfl | cases h
theorem ud.Vp {α:Type} [cE α] {f:α→Option D} (he:Enters P g) (h:∀ a r,f a=some r→gg P g [enc a] r):ud P g (yN f):=⟨he,fun ds r ob hs ae=>by
 unfold yN at hs;split at hs
 ·cases hs
  have:=h _ _ (afM ae.2);rw[ae.1] at this;exact this
 cases hs⟩
end
end Go.aj
namespace Go.Sy
open Go Go.aj
inductive Ty where
 | int (k:IntKind)
 | bool
 | str
 | st (i:Nat)
 | list (t:Ty)
 | map (k v:Ty)
 | fn (f:Nat)
 | aL (f:Nat) (t:Ty)
 | box (t:Ty)
 | aI (a b:Ty)
 | unit
 deriving DecidableEq,Inhabited
class dj where
 ek:Nat→Type
def Ty.den [dj]:Ty→Type
 | .int _=>Int
 | .bool=>Bool
 | .str=>ByteArray
 | .st i=>dj.ek i
 | .list t=>List t.den
 | .map k v=>List (k.den×v.den)
 | .fn _=>Unit
 | .aL _ t=>t.den
 | .box t=>t.den
 | .aI a b=>a.den×b.den
 | .unit=>Unit
def aQ:List Ty→Ty
 | []=> .unit
 | [t]=>t
 | t::u::ts=> .aI t (aQ (u::ts))
abbrev V [dj]:=(t:Ty)×t.den
abbrev aO [dj]:=List (Nat×V)
def lk [dj]:aO→Nat→Option V
 | [],_=>none
 | (j,v)::r,i=>bif Nat.beq j i then some v else lk r i
def e9 [dj] (t:Ty) (v:V):Option t.den:=if h:v.1=t then some (h▸v.2) else none
class aC extends dj where
 cB:Nat→List Ty
 sz:Nat→Nat
 un:∀ i,ek i→(aQ (cB i)).den
 fD:∀ i,(aQ (cB i)).den→ek i
 cells:∀ i,ek i→List D
 sd:∀ i x,un i (fD i x)=x
 L3:∀ i x,fD i (un i x)=x
 fS:Nat→Option (List Int)
variable [aC]
def Ty.size:Ty→Nat
 | .st i=>aC.sz i
 | _=>1
def Ty.fU:(t:Ty)→t.den→D×List D
 | .int k,n=>(.int k n,[.int k n])
 | .bool,b=>(.bool b,[.bool b])
 | .str,s=>(.str s,[.str s])
 | .st i,x=>(.agg (aC.cells i x),[.agg (aC.cells i x)])
 | .list t,xs=>(.slice t.size (List.map (fun x=>(t.fU x).1) xs),[.slice t.size (List.map (fun x=>(t.fU x).1) xs)])
 | .map k v,m=>(.map (List.map (fun p=>(k.fU p.1).1) m) (List.map (fun p=>(v.fU p.2).1) m),[.map (List.map (fun p=>(k.fU p.1).1) m) (List.map (fun p=>(v.fU p.2).1) m)])
 | .fn f,_=>(.fn f,[.fn f])
 | .aL f t,x=>(.aL f (t.fU x).2,[.aL f (t.fU x).2])
 | .box t,x=>(.box (t.fU x).1,[.box (t.fU x).1])
 | .aI a b,x=>(.aI ((a.fU x.1).1::(b.fU x.2).2),(a.fU x.1).1::(b.fU x.2).2)
 | .unit,_=>(.aI [],[])
def Ty.enc (t:Ty) (x:t.den):D:=(t.fU x).1
inductive U1 where
 | not
 | neg (k:IntKind)
 | len
 | Ui
 | Uh
 | kW
 | conv (k:IntKind)
 | fit (b:Nat)
 | fst
 | snd
 | unbox
 | NF
 deriving DecidableEq
inductive U2 where
 | add (k:IntKind)
 | sub (k:IntKind)
 | mul (k:IntKind)
 | quo (k:IntKind)
 | rem (k:IntKind)
 | lt
 | le
 | ay
 | IS
 | IT
 | IU (i:Nat)
 | and
 | Ri
 | cat
 | cons
 | app
 | take
 | drop
 | byte
 | max
 | min
 | A4
 | Fc
 | apart
 deriving DecidableEq
inductive U3 where
 | set
 | Fk
 | x4
 deriving DecidableEq
inductive X where
 | var (i:Nat)
 | hole (p:Nat)
 | int (k:IntKind) (n:Int)
 | bool (b:Bool)
 | str (s:List UInt8)
 | nil (t:Ty)
 | rM (k v:Ty)
 | unit
 | fn (f:Nat)
 | pair (a b:X)
 | aL (f:Nat) (x:X)
 | box (x:X)
 | proj (i j:Nat) (x:X)
 | mk (i:Nat) (x:X)
 | u1 (o:U1) (x:X)
 | u2 (o:U2) (x y:X)
 | u3 (o:U3) (x y z:X)
 deriving Inhabited
def pw (k:IntKind) (n:Int):Int:=match k with
 | .i64=>n
 | k=>k.wrap n
abbrev aA (a b:Int):Bool:=decide (a < b)
abbrev leI (a b:Int):Bool:=decide (a≤b)
abbrev ay (a b:Int):Bool:=decide (a=b)
abbrev az (a:Int):Bool:=decide (aj.kW a)
abbrev j9 (a:Int):Int:=0 - a
def ki:U1→V→Option V
 | .not,⟨.bool,b⟩=>some ⟨.bool,!b⟩
 | .neg k,⟨.int _,n⟩=>some ⟨.int k,pw k (j9 n)⟩
 | .len,⟨.list _,xs⟩=>some ⟨.int .i64,(List.length xs:Int)⟩
 | .Ui,⟨.str,s⟩=>some ⟨.int .i64,(ByteArray.size s:Int)⟩
 | .Uh,⟨.map _ _,m⟩=>some ⟨.int .i64,(List.length m:Int)⟩
 | .kW,⟨.int _,n⟩=>some ⟨.bool,az n⟩
 | .conv k,⟨.int _,n⟩=>some ⟨.int k,k.wrap n⟩
 | .fit b,⟨.list _,xs⟩=>some ⟨.bool,decide (List.length xs*b≤140737488355328∧List.length xs≤9223372036854775807)⟩
 | .fst,⟨.aI a _,x⟩=>some ⟨a,x.1⟩
 | .snd,⟨.aI _ b,x⟩=>some ⟨b,x.2⟩
 | .unbox,⟨.box t,x⟩=>some ⟨t,x⟩
 | .NF,⟨.aL _ t,x⟩=>some ⟨t,x⟩
 | _,_=>none
def YP (s:ByteArray) (n:Int):Int:=CX s n.toNat
def fh {α:Type} (m:List (Int×α)) (k:Int):Bool:=m.any fun p=>p.1 == k
def bB {α:Type} (m:List (Int×α)) (k:Int) (d:α):α:=((m.find? fun p=>p.1 == k).map (·.2)).getD d
def bz {α:Type}:List (Int×α)→Int→α→List (Int×α)
 | [],k,v=>[(k,v)]
 | p::m,k,v=>if p.1=k then(k,v)::m else p::bz m k v
def oR {α:Type}:List (Int×α)→Int→List (Int×α)
 | [],_=>[]
 | p::m,k=>if p.1=k then m else p::oR m k
def Dg:D→D→Bool
 | .int k n,.int k' n'=> !(decide (k=k')&&decide (n=n'))
 | .int _ _,.slice _ _=>true
 | .slice _ _,.int _ _=>true
 | _,_=>false
def Fs (xs c:List D):Bool:=(List.range (c.length+1)).all fun off=>decide (c.length < off+xs.length)||(xs.zip (c.drop off)).any fun p=>Dg p.1 p.2
mutual
def jh (c:List D):D→Bool
 | .agg ds=>nz c ds
 | .slice _ els=>els.isEmpty||(Fs (flat els) c&&nz c els)
 | .map ks vs=>nz c ks&&nz c vs
 | .iface _ d=>jh c d
 | .aI ds=>nz c ds
 | .aL _ ds=>nz c ds
 | .box _=>false
 | _=>true
def nz (c:List D):List D→Bool
 | []=>true
 | d::ds=>jh c d&&nz c ds
end
def IE:D→List D
 | .slice _ els=>flat els
 | d=>d.cells
def pt (t u:Ty) (a:t.den) (b:u.den):Bool:=jh (IE (u.enc b)) (t.enc a)
def dV:U2→V→V→Option V
 | .add k,⟨.int _,a⟩,⟨.int _,b⟩=>some ⟨.int k,pw k (Int.add a b)⟩
 | .sub k,⟨.int _,a⟩,⟨.int _,b⟩=>some ⟨.int k,pw k (Int.sub a b)⟩
 | .mul k,⟨.int _,a⟩,⟨.int _,b⟩=>some ⟨.int k,pw k (Int.mul a b)⟩
 | .quo k,⟨.int _,a⟩,⟨.int _,b⟩=>some ⟨.int k,Int.tdiv a b⟩
 | .rem k,⟨.int _,a⟩,⟨.int _,b⟩=>some ⟨.int k,Int.tmod a b⟩
 | .lt,⟨.int _,a⟩,⟨.int _,b⟩=>some ⟨.bool,aA a b⟩
 | .le,⟨.int _,a⟩,⟨.int _,b⟩=>some ⟨.bool,leI a b⟩
 | .ay,⟨.int _,a⟩,⟨.int _,b⟩=>some ⟨.bool,ay a b⟩
 | .IS,⟨.bool,a⟩,⟨.bool,b⟩=>some ⟨.bool,BEq.beq (α:=Bool) a b⟩
 | .IT,⟨.str,a⟩,⟨.str,b⟩=>some ⟨.bool,BEq.beq (α:=ByteArray) a b⟩
 | .IU i,u,v=>match e9 (.st i) u,e9 (.st i) v with
  | some a,some b=>some ⟨.bool,dJ (aC.cells i a) (aC.cells i b)⟩
  | _,_=>none
 | .and,⟨.bool,a⟩,⟨.bool,b⟩=>some ⟨.bool,and a b⟩
 | .Ri,⟨.str,a⟩,⟨.str,b⟩=>some ⟨.bool,decide ((ByteArray.size a:Int)+(ByteArray.size b:Int)≤9223372036854775807)⟩
 | .cons,u,⟨.list t,xs⟩=>match e9 t u with
  | some x=>some ⟨.list t,List.cons x xs⟩
  | none=>none
 | .cat,⟨.str,a⟩,⟨.str,b⟩=>some ⟨.str,ByteArray.append a b⟩
 | .app,⟨.list t,xs⟩,v=>match e9 (.list t) v with
  | some ys=>some ⟨.list t,List.append xs ys⟩
  | none=>none
 | .take,⟨.list t,xs⟩,⟨.int _,n⟩=>some ⟨.list t,List.take (Int.toNat n) xs⟩
 | .drop,⟨.list t,xs⟩,⟨.int _,n⟩=>some ⟨.list t,List.drop (Int.toNat n) xs⟩
 | .byte,⟨.str,s⟩,⟨.int _,n⟩=>some ⟨.int .u8,YP s n⟩
 | .max,⟨.int k,a⟩,⟨.int _,b⟩=>some ⟨.int k,Max.max (α:=Int) a b⟩
 | .min,⟨.int k,a⟩,⟨.int _,b⟩=>some ⟨.int k,Min.min (α:=Int) a b⟩
 | .A4,⟨.map (.int _) _,m⟩,⟨.int _,n⟩=>some ⟨.bool,fh m n⟩
 | .Fc,⟨.map (.int k) v,m⟩,⟨.int _,n⟩=>some ⟨.map (.int k) v,oR m n⟩
 | .apart,⟨t,a⟩,⟨u,b⟩=>some ⟨.bool,pt t u a b⟩
 | _,_,_=>none
def yS:U3→V→V→V→Option V
 | .set,⟨.list t,xs⟩,⟨.int _,n⟩,v=>match e9 t v with
  | some y=>some ⟨.list t,List.set xs (Int.toNat n) y⟩
  | none=>none
 | .Fk,⟨.map (.int k) t,m⟩,⟨.int _,n⟩,v=>match e9 t v with
  | some y=>some ⟨.map (.int k) t,bz m n y⟩
  | none=>none
 | .x4,⟨.map (.int _) t,m⟩,⟨.int _,n⟩,v=>match e9 t v with
  | some y=>some ⟨t,bB m n y⟩
  | none=>none
 | _,_,_,_=>none
def dm:(ts:List Ty)→(aQ ts).den→Nat→Option V
 | [],_,_=>none
 | [t],x,0=>some ⟨t,x⟩
 | [_],_,_+1=>none
 | t::_::_,x,0=>some ⟨t,x.1⟩
 | _::u::ts,x,j+1=>dm (u::ts) x.2 j
def X.den (ρ:aO):X→Option V
 | .var i=>lk ρ i
 | .hole _=>none
 | .int k n=>some ⟨.int k,n⟩
 | .bool b=>some ⟨.bool,b⟩
 | .str s=>some ⟨.str,⟨⟨s⟩⟩⟩
 | .nil t=>some ⟨.list t,([]:List t.den)⟩
 | .rM k v=>some ⟨.map k v,([]:List (k.den×v.den))⟩
 | .unit=>some ⟨.unit,()⟩
 | .fn f=>some ⟨.fn f,()⟩
 | .pair a b=>match a.den ρ,b.den ρ with
  | some u,some v=>some ⟨.aI u.1 v.1,(u.2,v.2)⟩
  | _,_=>none
 | .aL f x=>match x.den ρ with
  | some v=>some ⟨.aL f v.1,v.2⟩
  | none=>none
 | .box x=>match x.den ρ with
  | some v=>some ⟨.box v.1,v.2⟩
  | none=>none
 | .proj i j x=>match x.den ρ with
  | some v=>match e9 (.st i) v with
   | some a=>dm (aC.cB i) (aC.un i a) j
   | none=>none
  | none=>none
 | .mk i x=>match x.den ρ with
  | some v=>match e9 (aQ (aC.cB i)) v with
   | some a=>some ⟨.st i,aC.fD i a⟩
   | none=>none
  | none=>none
 | .u1 o x=>match x.den ρ with
  | some u=>ki o u
  | none=>none
 | .u2 o x y=>match x.den ρ,y.den ρ with
  | some u,some v=>dV o u v
  | _,_=>none
 | .u3 o x y z=>match x.den ρ,y.den ρ,z.den ρ with
  | some u,some v,some w=>yS o u v w
  | _,_,_=>none
end Go.Sy
namespace Go.Sy
open Go Go.aj
def X.beq:X→X→Bool
 | .var i,.var j=>Nat.beq i j
 | .hole i,.hole j=>Nat.beq i j
 | .int k n,.int k' n'=>decide (k=k')&&decide (n=n')
 | .bool b,.bool c=>b == c
 | .str s,.str t=>decide (s=t)
 | .nil t,.nil u=>decide (t=u)
 | .rM k v,.rM k' v'=>decide (k=k')&&decide (v=v')
 | .unit,.unit=>true
 | .fn f,.fn g=>Nat.beq f g
 | .pair a b,.pair c d=>X.beq a c&&X.beq b d
 | .aL f x,.aL g y=>Nat.beq f g&&X.beq x y
 | .box x,.box y=>X.beq x y
 | .proj i j x,.proj i' j' y=>Nat.beq i i'&&Nat.beq j j'&&X.beq x y
 | .mk i x,.mk i' y=>Nat.beq i i'&&X.beq x y
 | .u1 o x,.u1 o' y=>decide (o=o')&&X.beq x y
 | .u2 o x y,.u2 o' x' y'=>decide (o=o')&&X.beq x x'&&X.beq y y'
 | .u3 o x y z,.u3 o' x' y' z'=>decide (o=o')&&X.beq x x'&&X.beq y y'&&X.beq z z'
 | _,_=>false
inductive TX where
 | undef
 | gone
 | d (t:Ty) (x:X)
 | bC (s:Nat)
 | fp
 | ptr (id off:Nat)
 | bw (t:Ty) (e:X) (off:Nat)
 | row (id:Nat)
 | bf (id:Nat) (k:X) (off:Nat)
 | map (id:Nat)
 | bd (id:Nat)
 | bD (id:Nat) (t:Ty) (x:X)
 | agg (cs:List TX)
 | aI (ts:List TX)
 | aL (f:Nat) (ts:List TX)
 | bL (id n:Nat)
 deriving Inhabited
inductive Ex where
 | normal
 | ret
 | exit (id:Nat)
 | gC (e:Ex)
 deriving DecidableEq
inductive Ls where
 | ready
 | busy
 | done (e:Ex)
 deriving DecidableEq
inductive AX where
 | dead
 | var (ty:TypeId) (cs:List TX)
 | row (fr:Bool) (e:TypeId) (t:Ty) (x:X)
 | map (fr:Bool) (k v:Ty) (x:X)
 | eo (j base:Nat) (refs:List Nat)
 | lp (j base:Nat) (refs:List Nat) (st:Ls)
 | fE
 deriving Inhabited
structure Sk where
 n:Nat
 t:List (Nat×TX)
 l:List AX
 deriving Inhabited
def aT:List (Nat×TX)→Nat→TX
 | [],_=> .undef
 | (i,t)::r,k=>bif Nat.beq i k then t else aT r k
structure kC where
 f:FuncId
 args:List Ty
 res:List Ty
structure ny where
 f:FuncId
 t:Ty
 args:List Ty
 k:Nat
structure Cx where
 E:cA
 ty:TypeId→Option Ty
 eqs:TypeId→Option (List Lf)
 nt:Nat
 sigs:List kC
 pF:List (Nat×Func)
 dep:Nat
 nq:Bool
 Jo:List Nat
 turns:List ny
 CV:List Nat:=[]
 OH:List Nat:=[]
inductive Ins where
 | bT (x:X)
 | get (xs k:X)
 | call (c:Nat) (x:X)
inductive CA where
 | none
 | new (a:AX)
 | aP (l:List AX)
structure fx where
 ins:List Ins
 t:TX
 bn:CA
variable [aC]
def gT:List X→X
 | []=> .unit
 | [x]=>x
 | x::y::r=> .pair x (gT (y::r))
def xp:X→X
 | .pair a _=>a
 | x=> .u1 .fst x
def yK:X→X
 | .pair _ b=>b
 | x=> .u1 .snd x
def vS:Nat→Nat→X→X
 | 0,_,x=>x
 | 1,_,x=>x
 | _+2,0,x=>xp x
 | n+2,j+1,x=>vS (n+1) j (yK x)
def yu (i j:Nat) (x:X):X:=match x with
 | .mk i' y=>bif Nat.beq i i' then vS (aC.cB i).length j y else .proj i j x
 | x=> .proj i j x
def uf (i:Nat) (x:X):Nat→List X→Bool
 | _,[]=>true
 | j,.proj i' j' y::r=>Nat.beq i i'&&Nat.beq j j'&&X.beq x y&&uf i x (j+1) r
 | _,_=>false
def sy (i:Nat) (xs:List X):X:=match xs with
 | .proj i' 0 x::r=>bif Nat.beq i i'&&uf i x 1 r&&Nat.beq (r.length+1) (aC.cB i).length then x else .mk i (gT xs)
 | _=> .mk i (gT xs)
def uu (g:Ty→X→Option (List (Ty×X))) (i:Nat) (x:X):List Ty→Nat→Option (List (Ty×X))
 | [],_=>some []
 | t::ts,j=>match g t (yu i j x),uu g i x ts (j+1) with
  | some a,some b=>some (a++b)
  | _,_=>none
def iS:Nat→Ty→X→Option (List (Ty×X))
 | 0,_,_=>none
 | f+1,.st i,x=>uu (iS f) i x (aC.cB i) 0
 | _+1,t,x=>some [(t,x)]
def kK:Nat:=9
def vO (g:Ty→List (Ty×X)→Option (X×List (Ty×X))):List Ty→List (Ty×X)→Option (List X×List (Ty×X))
 | [],cs=>some ([],cs)
 | t::ts,cs=>match g t cs with
  | some (x,r)=>match vO g ts r with
   | some (xs,r')=>some (x::xs,r')
   | none=>none
  | none=>none
def nY:Nat→Ty→List (Ty×X)→Option (X×List (Ty×X))
 | 0,_,_=>none
 | f+1,.st i,cs=>match vO (nY f) (aC.cB i) cs with
  | some (xs,r)=>some (sy i xs,r)
  | none=>none
 | _+1,t,(u,x)::r=>if t=u then some (x,r) else none
 | _+1,_,[]=>none
def vN (t:Ty) (cs:List (Ty×X)):Option X:=match nY kK t cs with
 | some (x,[])=>some x
 | _=>none
def xh:TX→Option (Ty×X)
 | .d t x=>some (t,x)
 | _=>none
def cj:Ty→Bool
 | .st _=>true
 | _=>false
def Bb:TX→Bool
 | .d t _=> !cj t
 | .bC _=>true
 | .fp=>true
 | .ptr _ _=>true
 | .bw _ _ _=>true
 | .row _=>true
 | .bf _ _ _=>true
 | .map _=>true
 | .bd _=>true
 | .bL _ _=>true
 | .bD _ _ _=>true
 | .aL _ _=>true
 | _=>false
def kH:TX→Option (List TX)
 | .d t x=>(iS kK t x).map (·.map fun p=> .d p.1 p.2)
 | .agg cs=>some cs
 | .undef=>none
 | .gone=>none
 | .aI _=>none
 | t=>some [t]
def uq (t:TX):Option (List TX):=match kH t with
 | some cs=>bif cs.all Bb then some cs else none
 | none=>none
def vP (t:Ty) (cs:List TX):Option TX:=
 bif cj t then(match cs.mapM xh with
  | some ds=>(vN t ds).map (.d t ·)
  | none=>some (.agg cs))
 else(match cs with | [c]=>some c | _=>none)
def qx:Nat→Ty→Option X
 | 0,_=>none
 | _+1,.int k=>some (.int k 0)
 | _+1,.bool=>some (.bool false)
 | _+1,.str=>some (.str [])
 | _+1,.list t=>some (.nil t)
 | _+1,.map k v=>some (.rM k v)
 | f+1,.st i=>((aC.cB i).mapM (qx f)).map fun xs=> .mk i (gT xs)
 | _,_=>none
def Cw (p:Ty×X):TX:=match p with
 | (.list t,x)=>(match x with | .nil u=>(if t=u then .bC t.size else .undef) | _=> .undef)
 | (t,x)=> .d t x
def zeroCells (t:Ty):Option (List TX):=match qx kK t with
 | some x=>(iS kK t x).map (·.map Cw)
 | none=>none
def kg (l:List AX) (t:Ty):TX→Option (X×List AX)
 | .d u x=>if t=u then some (x,l) else none
 | .bC s=>match t with
  | .list u=>bif Nat.beq s u.size then some (.nil u,l) else none
  | _=>none
 | .fp=>match t with
  | .map k v=>some (.rM k v,l)
  | _=>none
 | .row id=>match l[id]? with
  | some (.row fr e u x)=>if t = .list u then some (x,bif fr then l else l.set id (.row true e u x)) else none
  | _=>none
 | .bD _ u x=>if t = .list u then some (x,l) else none
 | .map id=>match l[id]? with
  | some (.map fr k v x)=>if t = .map k v then some (x,bif fr then l else l.set id (.map true k v x)) else none
  | _=>none
 | _=>none
def mF:Nat→List AX→List Ty→List TX→Option (List X×List TX×List AX)
 | 0,_,_,_=>none
 | _+1,l,[],cs=>some ([],cs,l)
 | f+1,l,t::ts,cs=>match t with
  | .st i=>match mF f l (aC.cB i) cs with
   | some (xs,r,l1)=>match mF f l1 ts r with
    | some (ys,r',l2)=>some (sy i xs::ys,r',l2)
    | none=>none
   | none=>none
  | t=>match cs with
   | []=>none
   | c::cs=>match kg l t c with
    | some (x,l1)=>match mF f l1 ts cs with
     | some (ys,r,l2)=>some (x::ys,r,l2)
     | none=>none
    | none=>none
def ph (l:List AX) (t:Ty) (x:TX):Option (X×List AX):=match x with
 | .agg cs=>match t with
  | .st i=>match mF 60 l (aC.cB i) cs with
   | some (xs,[],l')=>some (sy i xs,l')
   | _=>none
  | _=>none
 | x=>kg l t x
def kh (l:List AX):List Ty→List TX→Option (List X×List AX)
 | [],[]=>some ([],l)
 | t::ts,x::xs=>match ph l t x with
  | some (y,l1)=>match kh l1 ts xs with
   | some (ys,l2)=>some (y::ys,l2)
   | none=>none
  | none=>none
 | _,_=>none
def ID:Value→TX
 | .bool b=> .d .bool (.bool b)
 | .int k n=> .d (.int k) (.int k n)
 | .string s=> .d .str (.str s.data.toList)
 | .slice none 0 0=> .bC 0
 | .map none=> .fp
 | _=> .undef
def jD (t:List (Nat×TX)):Operand→TX
 | .tmp k=>aT t k
 | .const v=>ID v
 | .func f=> .d (.fn f) (.fn f)
 | .global _=> .undef
def L9:X→X
 | .bool b=> .bool (!b)
 | x=> .u1 .not x
def gp (t:TX):Option fx:=some ⟨[],t,.none⟩
def wJ (E:cA) (t:TypeId):TX→TX
 | .bC _=> .bC (IN E t)
 | x=>x
def G5 (l:List TX) (off:Nat) (xs:List TX):List TX:=l.take off++xs++l.drop (off+xs.length)
def wj (u:Ty) (e:X) (off:Nat) (t:Ty):Option TX:=
 bif Nat.beq off 0&&decide (t=u) then some (.d t e) else
 bif Nat.beq off 0&&Nat.beq t.size u.size&&(cj t != cj u) then none else
 match iS kK u e with
 | some cs=>bif Nat.ble (off+t.size) cs.length then(vN t ((cs.drop off).take t.size)).map (.d t ·) else none
 | none=>none
def fP:Ty→Bool
 | .aI _ _=>false
 | .unit=>false
 | _=>true
def kl:TX→TX
 | .d (.box u) x=>bif fP u then(match x with
  | .box e=> .bw u e 0
  | x=> .bw u (.u1 .unbox x) 0) else .undef
 | t=>t
def LH (C:Cx) (ty:TypeId) (l:List AX) (n:Nat) (a:TX):Option fx:=
 match C.ty ty with
 | none=>match a,C.E ty with
  | .ptr id off,some i=>match l[id]? with
   | some (.var _ cs)=>bif Nat.beq i.size 1 && !i.desc.agg then(cs[off]?).map fun v=>⟨[],v,.none⟩ else none
   | _=>none
  | _,_=>none
 | some t=>match a with
  | .ptr id off=>match l[id]? with
   | some (.var _ cs)=>bif Nat.ble (off+t.size) cs.length then(vP t ((cs.drop off).take t.size)).map fun v=>⟨[],v,.none⟩ else none
   | _=>none
  | .bw u e off=>(wj u e off t).map fun v=>⟨[],v,.none⟩
  | .bf id k off=>match l[id]? with
   | some (.row _ _ u x)=>(wj u (.var n) off t).map fun v=>⟨[.get x k],v,.none⟩
   | _=>none
  | _=>none
def No (C:Cx) (ty:TypeId) (l:List AX) (n:Nat) (a v:TX):Option fx:=
 match C.ty ty,uq v with
 | some t,some vs=>bif Nat.beq vs.length t.size&&Nat.ble 1 vs.length then
  match a with
  | .ptr id off=>match l[id]? with
   | some (.var qp cs)=>bif Nat.ble (off+vs.length) cs.length then some ⟨[],.undef,.aP (l.set id (.var qp (G5 cs off vs)))⟩ else none
   | _=>none
  | .bf id k off=>match l[id]?,v with
   | some (.row false e u x),.d tv y0=>
    if off=0∧tv=u then some ⟨[.get x k],.undef,.aP (l.set id (.row false e u (.u3 .set x k y0)))⟩
    else match iS kK u (.var n),iS kK tv y0 with
     | some cs,some ds=>bif Nat.ble (off+ds.length) cs.length && !(Nat.beq off 0&&Nat.beq ds.length cs.length) then(vN u (cs.take off++ds++cs.drop (off+ds.length))).map fun y=>⟨[.get x k],.undef,.aP (l.set id (.row false e u (.u3 .set x k y)))⟩ else none
     | _,_=>none
   | _,_=>none
  | _=>none
  else none
 | _,_=>none
def I4 (C:Cx) (s:TypeId) (f:Nat) (a:TX):Option fx:=
 match C.E s with
 | some ⟨_,_,_,.struct fs⟩=>match fs[f]? with
  | some p=>bif Nat.ble 1 (bq C.E p.2) then
   match a with
   | .ptr id off=>gp (.ptr id (off+p.1))
   | .bw u e off=>gp (.bw u e (off+p.1))
   | .bf id k off=>gp (.bf id k (off+p.1))
   | _=>none
   else none
  | none=>none
 | _=>none
def I5 (C:Cx) (s:TypeId) (f:Nat) (a:TX):Option fx:=
 match C.E s,a with
 | some ⟨_,_,_,.struct fs⟩,.d u e=>match fs[f]? with
  | some p=>match C.ty p.2 with
   | some t=>bif cj u&&Nat.ble 1 t.size then(wj u e p.1 t).map fun v=>⟨[],v,.none⟩ else none
   | none=>none
  | none=>none
 | _,_=>none
def iX (n:Int):X:= .int .i64 n
def E4 (l:List Int):X:=match l with
 | []=> .nil (.int .i64)
 | x::xs=> .u2 .cons (iX x) (E4 xs)
def KZ (C:Cx) (t:TypeId) (g:Nat) (n:Nat) (i:TX):Option fx:=
 match C.E t,aC.fS g,i with
 | some ⟨_,_,_,.array len e⟩,some l,.d (.int _) k=>bif Nat.beq len l.length&&Nat.beq (bq C.E e) 1&&Nat.ble 2 len&&(C.E e).isSome then some ⟨[.get (E4 l) k],.bw (.int .i64) (.var n) 0,.none⟩ else none
 | _,_,_=>none
def Ew (k n:X):X:= .u2 .and (.u2 .le (iX 0) k) (.u2 .lt k n)
def rA (x:X):X:= .u1 .len x
def K0 (C:Cx) (t:TypeId) (l:List AX) (n:Nat) (a i:TX):Option fx:=
 match C.E t,i with
 | some ⟨_,_,_,.slice e⟩,.d (.int _) k=>match a with
  | .d (.list u) xs=>bif Nat.beq (bq C.E e) u.size&&Nat.ble 1 u.size&&fP u then some ⟨[.get xs k],.bw u (.var n) 0,.none⟩ else none
  | .row id=>match l[id]? with
   | some (.row _ _ u xs)=>bif Nat.beq (bq C.E e) u.size&&Nat.ble 1 u.size then some ⟨[.bT (Ew k (rA xs))],.bf id k 0,.none⟩ else none
   | _=>none
  | .bL id n=>match k with
   | .int .i64 (.ofNat j)=>bif Nat.blt j n&&Nat.ble 1 (bq C.E e)&&(C.E e).isSome then gp (.ptr id (j*bq C.E e)) else none
   | _=>none
  | _=>none
 | _,_=>none
def G7 (xs:X) (lo hi:Option TX):Option (List Ins×X):=
 match lo,hi with
 | none,none=>some ([],xs)
 | some (.d (.int _) a),none=>some ([.bT (.u2 .and (.u2 .le (iX 0) a) (.u2 .le a (rA xs)))],.u2 .drop xs a)
 | none,some (.d (.int _) b)=>some ([.bT (.u2 .and (.u2 .le (iX 0) b) (.u2 .le b (rA xs)))],.u2 .take xs b)
 | some (.d (.int _) a),some (.d (.int _) b)=>some ([.bT (.u2 .and (.u2 .le (iX 0) a) (.u2 .and (.u2 .le a b) (.u2 .le b (rA xs))))],.u2 .drop (.u2 .take xs b) a)
 | _,_=>none
def y1 (k:IntKind) (x:X):List Ins:=match k with
 | .i64=>[.bT (.u1 .kW x)]
 | _=>[]
def Us:Lf→Ty→Bool
 | .bool,.bool=>true
 | .int k,.int k'=>decide (k=k')
 | .str,.str=>true
 | _,_=>false
def vC:List Lf→List (Ty×X)→Bool
 | [],[]=>true
 | a::r,p::s=>Us a p.1&&vC r s
 | _,_=>false
def IW (C:Cx) (ty:TypeId) (i:Nat) (a b:X):Bool:=match C.eqs ty,iS kK (.st i) a,iS kK (.st i) b with
 | some ls,some p,some q=>vC ls p&&vC ls q && !decide (ls=[.bool])
 | _,_,_=>false
def OC (C:Cx) (ty:TypeId) (op:BinOp):TX→TX→Option (List Ins×TX)
 | .d (.int k) a,.d (.int k') b=>
  if k≠k' then none else
  match op with
  | .add=>some (y1 k (.u2 (.add k) a b),.d (.int k) (.u2 (.add k) a b))
  | .sub=>some (y1 k (.u2 (.sub k) a b),.d (.int k) (.u2 (.sub k) a b))
  | .mul=>some (y1 k (.u2 (.mul k) a b),.d (.int k) (.u2 (.mul k) a b))
  | .quo=>(match k with | .i64=>some ([.bT (.u1 .not (.u2 .ay b (iX 0))),.bT (.u1 .kW (.u2 (.quo k) a b))],.d (.int k) (.u2 (.quo k) a b)) | _=>none)
  | .rem=>some ([.bT (.u1 .not (.u2 .ay b (.int k 0)))],.d (.int k) (.u2 (.rem k) a b))
  | .eql=>some ([],.d .bool (.u2 .ay a b))
  | .neq=>some ([],.d .bool (.u1 .not (.u2 .ay a b)))
  | .lss=>some ([],.d .bool (.u2 .lt a b))
  | .leq=>some ([],.d .bool (.u2 .le a b))
  | .gtr=>some ([],.d .bool (.u2 .lt b a))
  | .geq=>some ([],.d .bool (.u2 .le b a))
  | _=>none
 | .d .bool a,.d .bool b=>bif decide (C.eqs ty=some [.bool]) then(match op with
  | .eql=>some ([],.d .bool (.u2 .IS a b))
  | .neq=>some ([],.d .bool (.u1 .not (.u2 .IS a b)))
  | _=>none) else none
 | .d .str a,.d .str b=>match op with
  | .eql=>some ([],.d .bool (.u2 .IT a b))
  | .neq=>some ([],.d .bool (.u1 .not (.u2 .IT a b)))
  | .add=>some ([.bT (.u2 .Ri a b)],.d .str (.u2 .cat a b))
  | _=>none
 | .d (.st i) a,.d (.st j) b=>bif Nat.beq i j&&IW C ty i a b then(match op with
  | .eql=>some ([],.d .bool (.u2 (.IU i) a b))
  | .neq=>some ([],.d .bool (.u1 .not (.u2 (.IU i) a b)))
  | _=>none) else none
 | _,_=>none
def BT (place:Nat→Option (Nat×Nat)) (cells:List TX):List (Nat×TX)→Option (List TX)
 | []=>some cells
 | (i,t)::rest=>match place i,uq t with
  | some (off,size),some vs=>bif Nat.beq vs.length size&&Nat.ble (off+size) cells.length then BT place (G5 cells off vs) rest else none
  | _,_=>none
def AV (t:Ty):List X→X
 | []=> .nil t
 | x::xs=> .u2 .cons x (AV t xs)
def vJ (C:Cx) (t:TypeId):Option (Ty×Ty):=match C.ty t with
 | some (.map k v)=>some (k,v)
 | _=>none
def Fb (l:List AX) (k v:Ty):TX→Option X
 | .d (.map k' v') x=>if k=k'∧v=v' then some x else none
 | .fp=>some (.rM k v)
 | .map id=>match l[id]? with
  | some (.map _ k' v' x)=>if k=k'∧v=v' then some x else none
  | _=>none
 | _=>none
def bytesOf (E:cA) (e:TypeId):Nat:=match E e with | some i=>i.bytes | none=>0
def Ji (l:List AX) (id:Nat):Bool:=match l[id]? with
 | some (.row fr _ _ _)=>fr
 | _=>false
def HC (C:Cx) (t:TypeId) (l:List AX) (nid:Nat) (s x:TX):Option fx:=
 match C.E t,C.ty t with
 | some ⟨_,_,_,.slice e⟩,some (.list u)=>
  match ph l (.list u) x with
  | some (
      y,l1)=>match s with
   | .bC _=>some ⟨[.bT (.u1 (.fit (bytesOf C.E e)) y)],.row nid,.aP (l1++[.row false e u y])⟩
   | .row id=>match l1[id]? with
    | some (.row fr e' u' z)=>if e'=e∧u'=u then(bif Nat.beq nid l1.length&&(Ji l id == fr) then
      some ⟨[.bT (.u1 (.fit (bytesOf C.E e)) (.u2 .app z y))],.row nid,.aP (l1.set id .dead++[.row fr e u (.u2 .app z y)])⟩ else none) else none
    | _=>none
   | _=>none
  | none=>none
 | _,_=>none
def Ln (C:Cx) (t:TypeId) (l:List AX) (x:TX):Option fx:=
 match C.E t,x with
 | some ⟨_,_,_,.string⟩,.d .str s=>gp (.d (.int .i64) (.u1 .Ui s))
 | some ⟨_,_,_,.slice _⟩,.d (.list _) xs=>gp (.d (.int .i64) (.u1 .len xs))
 | some ⟨_,_,_,.slice _⟩,.bC _=>gp (.d (.int .i64) (iX 0))
 | some ⟨_,_,_,.slice _⟩,.row id=>match l[id]? with
  | some (.row _ _ _ xs)=>gp (.d (.int .i64) (.u1 .len xs))
  | _=>none
 | some ⟨_,_,_,.map _ _⟩,x=>match vJ C t with
  | some (k,v)=>(Fb l k v x).map fun m=>⟨[],.d (.int .i64) (.u1 .Uh m),.none⟩
  | none=>none
 | _,_=>none
def isLit:TX→Option Bool
 | .d .bool (.bool b)=>some b
 | _=>none
def qK:Ty→X→Option (List TX)
 | .aI a b,x=>bif fP a then(match qK b (yK x) with | some r=>some (.d a (xp x)::r) | none=>none) else none
 | .unit,_=>some []
 | t,x=>some [.d t x]
def nC:TX→Option (FuncId×List TX)
 | .aL g ts=>some (g,ts)
 | .d (.fn g) _=>some (g,[])
 | .d (.aL g t) (.aL _ x)=>(qK t x).map fun r=>(g,r)
 | .d (.aL g t) x=>(qK t (.u1 .NF x)).map fun r=>(g,r)
 | _=>none
def uF (l:List AX) (g:FuncId) (ts:List TX):List kC→Nat→Option (Nat×List X×List AX×kC)
 | [],_=>none
 | s::r,k=>bif Nat.beq s.f g then(match kh l s.args ts with
   | some (xs,l')=>some (k,xs,l',s)
   | none=>uF l g ts r (k+1)) else uF l g ts r (k+1)
def qq (E:cA):List TypeId→List TX→List TX
 | t::ts,x::xs=>wJ E t x::qq E ts xs
 | _,xs=>xs
def o6 (v:X):List Ty→TX
 | []=> .aI []
 | [t]=> .d t v
 | ts=> .aI (pA ts.length v ts 0)
where pA (n:Nat) (v:X):List Ty→Nat→List TX
 | [],_=>[]
 | t::ts,j=> .d t (vS n j v)::pA n v ts (j+1)
def Io (C:Cx) (l:List AX) (n:Nat) (g:FuncId) (ts:List TX):Option fx:=
 match uF l g ts C.sigs 0 with
 | some (k,xs,l',s)=>some ⟨[.call k (gT xs)],o6 (.var n) s.res,.aP l'⟩
 | none=>none
def sC (l:List AX) (g:FuncId) (t:Ty) (ts:List TX):List ny→Option (ny×List X×List AX)
 | []=>none
 | s::r=>if s.t=t then(bif Nat.beq s.f g then(match kh l s.args ts with
   | some (xs,l')=>some (s,xs,l')
   | none=>sC l g t ts r) else sC l g t ts r) else sC l g t ts r
def uE (l:List AX) (g:FuncId) (ts:List TX):List ny→Option (ny×List X×List AX)
 | []=>none
 | s::r=>bif Nat.beq s.f g then(match kh l s.args ts with
   | some (xs,l')=>some (s,xs,l')
   | none=>uE l g ts r) else uE l g ts r
def NA (C:Cx) (l:List AX) (n:Nat) (g:FuncId):List TX→Option fx
 | .row id::ts=>match l[id]? with
  | some (.row false e t x)=>match sC l g t ts C.turns with
   | some (s,xs,l')=>match l'[id]? with
    | some (.row false e' t' x')=>if e'=e∧t'=t then some ⟨[.call s.k (gT (x'::xs))],.aI [],.aP (l'.set id (.row false e t (.var n)))⟩ else none
    | _=>none
   | none=>none
  | _=>none
 | .bC _::ts=>match uE l g ts C.turns with
  | some (s,xs,l')=>some ⟨[.call s.k (gT (.nil s.t::xs))],.aI [],.aP (l'++[.row false 0 s.t (.var n)])⟩
  | none=>none
 | _=>none
def BV (v:Ty):TX→Option X
 | .d t x=>if t=v then some x else none
 | .bC s=>match v with
  | .list u=>bif Nat.beq s u.size then some (.nil u) else none
  | _=>none
 | _=>none
def GJ (C:Cx) (t:TypeId) (l:List AX) (m k x:TX):Option fx:=match vJ C t,m,k with
 | some (.int kk,v),.map id,.d (.int jx) key=>match BV v x,l[id]? with
  | some y,some (.map false k' v' mm)=>if kk=jx∧k' = .int kk∧v=v' then some ⟨[],.undef,.aP (l.set id (.map false k' v' (.u3 .Fk mm key y)))⟩ else none
  | _,_=>none
 | _,_,_=>none
def IK (C:Cx) (t:TypeId) (l:List AX) (m k:TX):Option fx:=match vJ C t,m,k with
 | some (.int kk,v),.map id,.d (.int jx) key=>match l[id]? with
  | some (.map false k' v' mm)=>if kk=jx∧k' = .int kk∧v=v' then some ⟨[],.aI [],.aP (l.set id (.map false k' v' (.u2 .Fc mm key)))⟩ else none
  | _=>none
 | _,_,_=>none
def Vv (C:Cx) (t:TypeId):Bool:=C.CV.any (fun i=>Nat.beq i t)||C.OH.any fun i=>Nat.beq i t
def Mk (C:Cx) (l:List AX) (nid:Nat) (t:TypeId) (len:Nat) (ps:List (Nat×TX)):Option fx:=match C.E t,C.ty t,ps with
 | some ⟨_,_,_,.slice e⟩,some (.list u),[(0,p)]=>bif Nat.beq len 1&&cj u&&Nat.ble u.size 16777216 then
   (
    bif C.CV.any (fun i=>Nat.beq i t) then(match uq p with
    | some cs=>bif Nat.beq cs.length u.size then some ⟨[],.bL nid 1,.new (.var e cs)⟩ else none
    | none=>none)
   else(match p with
    | .d u' x=>if u'=u then some ⟨[],.row nid,.aP (l++[.row false e u (.u2 .cons x (.nil u))])⟩ else none
    | _=>none)) else none
 | _,_,_=>none
def dK (C:Cx) (ρ:Operand→TX) (l:List AX) (n nid:Nat) (o:Oper):Option fx:=
 match o.op with
 | .move x | .assign x=>gp (wJ C.E o.type (ρ x))
 | .pick c a b=>match isLit (ρ c) with
  | some true=>(match ρ a,ρ b with | .d .bool x,.d .bool _=>gp (.d .bool x) | .d .bool x,.gone=>gp (.d .bool x) | _,_=>none)
  | some false=>(match ρ b,ρ a with | .d .bool x,.d .bool _=>gp (.d .bool x) | .d .bool x,.gone=>gp (.d .bool x) | _,_=>none)
  | none=>none
 | .box e x=>(uq (ρ x)).map fun cs=>⟨[],.ptr nid 0,.new (.var e cs)⟩
 | .alloc e=>match C.ty e with
  | some t=>(zeroCells t).map fun cs=>⟨[],.ptr nid 0,.new (.var e cs)⟩
  | none=>none
 | .load t a=>LH C t l n (kl (ρ a))
 | .store t a x=>No C t l n (wJ C.E t (ρ a)) (wJ C.E t (ρ x))
 | .fieldAddr s x f=>I4 C s f (kl (ρ x))
 | .field s x f=>I5 C s f (ρ x)
 | .binOp op ty x y _=>(OC C ty op (ρ x) (ρ y)).map fun r=>⟨r.1,r.2,.none⟩
 | .unOp op _ x=>match op,ρ x with
  | .not,.d .bool a=>gp (.d .bool (L9 a))
  | .neg,.d (.int k) a=>some ⟨y1 k (.u1 (.neg k) a),.d (.int k) (.u1 (.neg k) a),.none⟩
  | _,_=>none
 | .indexAddr t x i=>match x with
  | .global g=>KZ C t g n (ρ i)
  | x=>K0 C t l n (kl (ρ x)) (ρ i)
 | .slice t x lo hi none=>match C.ty t,ρ x with
  | some (.list u),.d (.list u') xs=>if u=u' then(G7 xs (lo.map ρ) (hi.map ρ)).map fun r=>⟨r.1,.d (.list u) r.2,.none⟩ else none
  | some (.list u),.row id=>match kg l (.list u) (.row id) with
   | some (xs,l')=>(G7 xs (lo.map ρ) (hi.map ρ)).map fun r=>⟨r.1,.d (.list u) r.2,.aP l'⟩
   | none=>none
  | _,_=>none
 | .build t parts=>match C.E t,C.ty t with
  | some ⟨_,_,_,.struct fs⟩,some u=>match zeroCells u with
   | some z=>(BT (yt C.E fs) z (parts.toList.map fun p=>(p.1,ρ p.2))).bind fun cs=>(vP u cs).map fun v=>⟨[],v,.none⟩
   | none=>none
  | _,_=>none
 | .buildSlice t len parts=>bif Vv C t then Mk C l nid t len (parts.toList.map fun p=>(p.1,ρ p.2)) else match C.E t,C.ty t with
  | some ⟨_,_,_,.slice e⟩,some (.list u)=>
   bif Nat.beq len 0 then(bif parts.toList.isEmpty then some ⟨[],.row nid,.aP (l++[.row false e u (.nil u)])⟩ else none)
   else bif decide (parts.toList.map (·.1)=List.range len)&&Nat.ble (len*u.size) 16777216 then
    match kh l (List.replicate len u) (parts.toList.map fun p=>ρ p.2) with
    | some (xs,l')=>some ⟨[],.d (.list u) (AV u xs),.aP l'⟩
    | none=>none
   else none
  | _,_=>none
 | .extract x i=>match ρ x with
  | .aI ts=>(ts[i]?).map fun t=>⟨[],t,.none⟩
  | _=>none
 | .call c=>match c.callee with
  | .value f=>match nC (ρ f) with
   | some (g,ts)=>match Io C l n g (qq C.E c.argTypes.toList (c.args.toList.map ρ)++ts) with
    | some q=>some q
    | none=>NA C l n g (qq C.E c.argTypes.toList (c.args.toList.map ρ)++ts)
   | none=>none
  | .builtin .len=>match c.args.toList,c.argTypes.toList with | [x],[t]=>Ln C t l (ρ x) | _,_=>none
  | .builtin .append=>match c.args.toList,c.argTypes.toList with
   | [s,x],[t,t']=>if t=t' then HC C t l nid (ρ s) (ρ x) else none
   | _,_=>none
  | .builtin .max=>match c.args.toList.map ρ with | [.d (.int k) a,.d (.int k') b]=>if k=k' then gp (.d (.int k) (.u2 .max a b)) else none | _=>none
  | .builtin .min=>match c.args.toList.map ρ with | [.d (.int k) a,.d (.int k') b]=>if k=k' then gp (.d (.int k) (.u2 .min a b)) else none | _=>none
  | .builtin .delete=>match c.args.toList,c.argTypes.toList with
   | [x,k],[t,_]=>IK C t l (ρ x) (ρ k)
   | _,_=>none
  | _=>none
 | .makeMap t none=>match vJ C t with
  | some (k,v)=>some ⟨[],.map nid,.aP (l++[.map false k v (.rM k v)])⟩
  | none=>none
 | .mapUpdate t m k x=>GJ C t l (ρ m) (ρ k) (ρ x)
 | .insert t m k x=>GJ C t l (ρ m) (ρ k) (ρ x)
 | .lookup t x k ok=>match vJ C t,ρ k with
  | some (.int kk,v),.d (.int jx) key=>if kk=jx then(match Fb l (.int kk) v (ρ x),qx kK v with
   | some m,some z=>gp (bif ok then .aI [.d v (.u3 .x4 m key z),.d .bool (.u2 .A4 m key)] else .d v (.u3 .x4 m key z))
   | _,_=>none) else none
  | _,_=>none
 | .convert src t x=>match C.E src,C.E t,ρ x with
  | some ⟨_,_,_,.eX _⟩,some ⟨_,_,_,.eX k⟩,.d (.int _) a=>gp (.d (.int k) (.u1 (.conv k) a))
  | _,_,_=>none
 | .makeFunc (.func g) first cV=>bif first.isEmpty then
   (match (cV.toList.map ρ).mapM xh with
   | some ds=>gp (.d (.aL g (aQ (ds.map (·.1)))) (.aL g (gT (ds.map (·.2)))))
   | none=>gp (.aL g (cV.toList.map ρ))) else none
 | _=>none
end Go.Sy
namespace Go.Sy
open Go Go.aj
inductive Tr where
 | leaf (e:Ex) (σ:Sk)
 | out (k:Nat) (x:X)
 | bT (x:X) (t:Tr)
 | get (v:Nat) (xs k:X) (t:Tr)
 | call (v c:Nat) (x:X) (t:Tr)
 | iJ (c:X) (a b:Tr)
 | jA (x:X) (a b:Tr)
 | join (ty:Ty) (v:Nat) (a b:Tr)
 | loop (ty:Ty) (v:Nat) (init:X) (body:Tr)
 | bad (why:Nat)
 deriving Inhabited
def hasB (m k:Nat):Bool:=Nat.beq (Nat.land (Nat.shiftRight m k) 1) 1
def lY (m k:Nat):Nat:=Nat.lor m (Nat.shiftLeft 1 k)
def FE (m:Nat):Operand→Nat
 | .tmp t=>lY m t
 | _=>m
def afP (m:Nat) (os:List Oper):Nat:=os.foldl (fun m o=>o.op.operands.toList.foldl FE m) m
def QJ (m k:Nat):Nat:=bif hasB m k then Nat.xor m (Nat.shiftLeft 1 k) else m
structure Lv where
 out:Nat
 ex:List (Nat×Nat)
 rt:Nat
def lvG (ops:List Oper) (m:Nat) (o:Oper):Nat:=match o.guard with
 | some (j,_)=>(match (ops[j]?).bind (·.dst) with | some d=>lY m d | none=>m)
 | none=>m
def LN (ops:List Oper):List Oper→Nat→Nat
 | [],m=>m
 | o::r,m=>lvG ops (o.op.operands.toList.foldl FE (match o.dst with | some d=>QJ (LN ops r m) d | none=>LN ops r m)) o
def UE (ex:List (Nat×Nat)) (id:Nat):Nat:=match ex with
 | []=>0
 | p::r=>bif Nat.beq p.1 id then p.2 else UE r id
def ja:Code→Lv→Nat
 | .region _ ops _,l=>LN ops.toList ops.toList l.out
 | .seq a b,l=>ja a { l with out:=ja b l }
 | .cond c a b,l=>FE (Nat.lor (ja a l) (ja b l)) c
 | .block id c,l=>ja c { l with ex:=(id,l.out)::l.ex }
 | .loop c,l=>ja c { l with out:=ja c { l with out:=0 } }
 | .rangeFunc g ps a b,l=>FE (Nat.lor l.out (ps.toList.foldl QJ (ja a ⟨ja b ⟨0,l.ex,l.rt⟩,l.ex,l.rt⟩))) g
 | .scope c,l=>ja c l
 | .exit id,l=>UE l.ex id
 | .ret,l=>l.rt
 | _,l=>l.out
def X.nf:X→Nat
 | .var i=>i+1
 | .hole _=>1000000000
 | .pair a b=>Nat.max a.nf b.nf
 | .aL _ x=>x.nf
 | .box x=>x.nf
 | .proj _ _ x=>x.nf
 | .mk _ x=>x.nf
 | .u1 _ x=>x.nf
 | .u2 _ x y=>Nat.max x.nf y.nf
 | .u3 _ x y z=>Nat.max x.nf (Nat.max y.nf z.nf)
 | _=>0
def X.fill (g:Nat→X):X→X
 | .hole p=>g p
 | .pair a b=> .pair (a.fill g) (b.fill g)
 | .aL f x=> .aL f (x.fill g)
 | .box x=> .box (x.fill g)
 | .proj i j x=> .proj i j (x.fill g)
 | .mk i x=> .mk i (x.fill g)
 | .u1 o x=> .u1 o (x.fill g)
 | .u2 o x y=> .u2 o (x.fill g) (y.fill g)
 | .u3 o x y z=> .u3 o (x.fill g) (y.fill g) (z.fill g)
 | x=>x
mutual
def TX.fill (g:Nat→X):TX→TX
 | .d t x=> .d t (x.fill g)
 | .bw t e off=> .bw t (e.fill g) off
 | .bf id k off=> .bf id (k.fill g) off
 | .bD id t x=> .bD id t (x.fill g)
 | .agg cs=> .agg (TX.me g cs)
 | .aI cs=> .aI (TX.me g cs)
 | .aL f cs=> .aL f (TX.me g cs)
 | t=>t
def TX.me (g:Nat→X):List TX→List TX
 | []=>[]
 | t::ts=>t.fill g::TX.me g ts
end
def AX.fill (g:Nat→X):AX→AX
 | .var ty cs=> .var ty (TX.me g cs)
 | .row fr e t x=> .row fr e t (x.fill g)
 | .map fr k v x=> .map fr k v (x.fill g)
 | a=>a
def Sk.fill (g:Nat→X) (n:Nat) (σ:Sk):Sk:=⟨n,σ.t.map fun p=>(p.1,p.2.fill g),σ.l.map (AX.fill g)⟩
mutual
def TX.beq:TX→TX→Bool
 | .undef,.undef=>true
 | .gone,.gone=>true
 | .d t x,.d u y=>decide (t=u)&&X.beq x y
 | .bC s,.bC s'=>Nat.beq s s'
 | .fp,.fp=>true
 | .ptr i o,.ptr i' o'=>Nat.beq i i'&&Nat.beq o o'
 | .bw t e o,.bw t' e' o'=>decide (t=t')&&X.beq e e'&&Nat.beq o o'
 | .row i,.row j=>Nat.beq i j
 | .bf i k o,.bf i' k' o'=>Nat.beq i i'&&X.beq k k'&&Nat.beq o o'
 | .map i,.map j=>Nat.beq i j
 | .bd i,.bd j=>Nat.beq i j
 | .bL i n,.bL j m=>Nat.beq i j&&Nat.beq n m
 | .bD i t x,.bD i' t' x'=>Nat.beq i i'&&decide (t=t')&&X.beq x x'
 | .agg a,.agg b=>TX.sq a b
 | .aI a,.aI b=>TX.sq a b
 | .aL f a,.aL g b=>Nat.beq f g&&TX.sq a b
 | _,_=>false
def TX.sq:List TX→List TX→Bool
 | [],[]=>true
 | a::r,b::s=>TX.beq a b&&TX.sq r s
 | _,_=>false
end
def wE:List (Nat×TX)→List (Nat×TX)→Bool
 | [],[]=>true
 | (i,a)::r,(j,b)::s=>Nat.beq i j&&TX.beq a b&&wE r s
 | _,_=>false
def AX.beq:AX→AX→Bool
 | .dead,.dead=>true
 | .var t a,.var u b=>Nat.beq t u&&TX.sq a b
 | .row f e t x,.row f' e' t' x'=>(f == f')&&Nat.beq e e'&&decide (t=t')&&X.beq x x'
 | .map f k v x,.map f' k' v' x'=>(f == f')&&decide (k=k')&&decide (v=v')&&X.beq x x'
 | .eo j b r,.eo j' b' r'=>Nat.beq j j'&&Nat.beq b b'&&decide (r=r')
 | .lp j b r s,.lp j' b' r' s'=>Nat.beq j j'&&Nat.beq b b'&&decide (r=r')&&decide (s=s')
 | .fE,.fE=>true
 | _,_=>false
def ot:List AX→List AX→Bool
 | [],[]=>true
 | a::r,b::s=>AX.beq a b&&ot r s
 | _,_=>false
def ru (k:Nat) (t:TX):List (Nat×TX)→List (Nat×TX)
 | []=>[(k,t)]
 | (j,u)::r=>bif Nat.ble k j then(bif Nat.beq k j then(j,u)::r else(k,t)::(j,u)::r) else(j,u)::ru k t r
def AM:TX→Bool
 | .undef=>true
 | .gone=>true
 | _=>false
def lQ (live:Nat):List (Nat×TX)→Nat→List (Nat×TX)
 | [],_=>[]
 | (k,t)::r,seen=>bif hasB live k && !hasB seen k then(bif AM t then lQ live r (lY seen k) else ru k t (lQ live r (lY seen k))) else lQ live r seen
def Sk.di (live:Nat) (σ:Sk):Sk:={ σ with t:=lQ live σ.t 0 }
def xJ (id:Nat):List Nat→Nat→Option Nat
 | [],_=>none
 | x::xs,k=>bif Nat.beq x id then some k else xJ id xs (k+1)
def iz (ids:List Nat) (f:Nat→TX) (id:Nat):TX:=match xJ id ids 0 with | some k=>f k | none=> .undef
def GR (ids:List Nat):TX→TX
 | .ptr id off=>iz ids (.ptr · off) id
 | .bd id=>iz ids .bd id
 | t=>t
def rX (ids:List Nat):TX→TX
 | .ptr id off=>iz ids (.ptr · off) id
 | .row id=>iz ids .row id
 | .bf id k off=>iz ids (.bf · k off) id
 | .map id=>iz ids .map id
 | .bd id=>iz ids .bd id
 | .bL id n=>iz ids (.bL · n) id
 | .bD id t x=>match xJ id ids 0 with | some k=> .bD k t x | none=> .d (.list t) x
 | .agg _=> .undef
 | .aI _=> .undef
 | .aL _ _=> .undef
 | .gone=> .undef
 | t=>t
def uG:TX→Bool
 | .d _ _=>true
 | .ptr _ _=>true
 | .bd _=>true
 | _=>false
def ED:TX→Bool
 | .d _ _=>true
 | _=>false
def TX.re (ids:List Nat):TX→TX
 | .gone=> .undef
 | .ptr id off=>iz ids (.ptr · off) id
 | .row id=>iz ids .row id
 | .bf id k off=>iz ids (.bf · k off) id
 | .map id=>iz ids .map id
 | .bd id=>iz ids .bd id
 | .bL id n=>iz ids (.bL · n) id
 | .bD id t x=>match xJ id ids 0 with | some k=> .bD k t x | none=> .d (.list t) x
 | .agg cs=> .agg (cs.map (rX ids))
 | .aL f cs=>bif cs.all uG then .aL f (cs.map (GR ids)) else .undef
 | .aI cs=>bif cs.all ED then .aI cs else .undef
 | t=>t
def AX.re (ids:List Nat):AX→AX
 | .var ty cs=> .var ty (cs.map (TX.re ids))
 | o=>o
def Sk.re (ids:List Nat) (σ:Sk):Sk:=⟨σ.n,σ.t.map fun p=>(p.1,p.2.re ids),ids.map fun id=>((σ.l[id]?).getD .dead).re ids⟩
inductive Pl where
 | slot (j:Nat)
 | cell (id k:Nat)
inductive Co where
 | wW (e:TypeId) (t:Ty)
 | data (t:Ty)
 | DF
def pd (j:Nat) (t:TX):List (Nat×TX)→List (Nat×TX)
 | []=>[]
 | (i,u)::r=>bif Nat.beq i j then(i,t)::r else(i,u)::pd j t r
variable [aC]
def so (σ:Sk):Pl→TX
 | .slot j=>aT σ.t j
 | .cell id k=>match σ.l[id]? with
  | some (.var _ cs)=>(cs[k]?).getD .undef
  | _=> .undef
def yH (σ:Sk) (t:TX):Pl→Sk
 | .slot j=>{ σ with t:=pd j t σ.t }
 | .cell id k=>match σ.l[id]? with
  | some (.var ty cs)=>{ σ with l:=σ.l.set id (.var ty (cs.set k t)) }
  | _=>σ
def wY (σ:Sk) (p:Pl):Co→Option Sk
 | .wW e t=>bif !fP t then none else match so σ p with
  | .bC _=>some (yH { σ with l:=σ.l++[.row false e t (.nil t)] } (.row σ.l.length) p)
  | _=>none
 | .data t=>bif !fP t then none else match ph σ.l t (so σ p) with
  | some (x,l')=>some (yH { σ with l:=l' } (.d t x) p)
  | none=>none
 | .DF=>match so σ p with
  | .row id=>match σ.l[id]? with
   | some (.row false e t x)=>some { σ with l:=σ.l.set id (.row true e t x) }
   | _=>none
  | _=>none
def UQ (lA lB:List AX) (a b:TX):Option (Option Co×Option Co):=
 match a,b with
 | .bC _,.row id=>match lB[id]? with | some (.row _ e t _)=>some (some (.wW e t),none) | _=>none
 | .row id,.bC _=>match lA[id]? with | some (.row _ e t _)=>some (none,some (.wW e t)) | _=>none
 | .bC _,.d (.list t) _=>some (some (.data (.list t)),none)
 | .d (.list t) _,.bC _=>some (none,some (.data (.list t)))
 | .fp,.d (.map k v) _=>some (some (.data (.map k v)),none)
 | .d (.map k v) _,.fp=>some (none,some (.data (.map k v)))
 | .row _,.d t _=>some (some (.data t),none)
 | .d t _,.row _=>some (none,some (.data t))
 | .agg _,.d t _=>some (some (.data t),none)
 | .d t _,.agg _=>some (none,some (.data t))
 | .map _,.d t _=>some (some (.data t),none)
 | .d t _,.map _=>some (none,some (.data t))
 | .row i,.row j=>match lA[i]?,lB[j]? with
  | some (.row fa _ _ _),some (.row fb _ _ _)=>bif fa == fb then none else(bif fa then some (none,some .DF) else some (some .DF,none))
  | _,_=>none
 | _,_=>none
abbrev mK:=List (Nat×Nat)
abbrev po:=mK×mK
def Dw:Nat:=1000000
def lZ (p:Nat×Nat) (l:po):po:=bif l.1.any fun q=>Nat.beq q.1 p.1 then l else
 match l.1[p.1]? with
 | some q=>bif Nat.beq q.1 (Dw+p.1) then(l.1.set p.1 p,l.2++[p]) else(l.1++[p],l.2++[p])
 | none=>(l.1++[p],l.2++[p])
def VF:TX→TX→po→po
 | .ptr i _,.ptr j _,l=>lZ (i,j) l
 | .row i,.row j,l=>lZ (i,j) l
 | .bD i _ _,.bD j _ _,l=>lZ (i,j) l
 | .bf i _ _,.bf j _ _,l=>lZ (i,j) l
 | .map i,.map j,l=>lZ (i,j) l
 | .bd i,.bd j,l=>lZ (i,j) l
 | .bL i _,.bL j _,l=>lZ (i,j) l
 | .aL _ a,.aL _ b,l=>(a.zip b).foldl (fun l p=>match p with
  | (.ptr i _,.ptr j _)=>lZ (i,j) l
  | (.bd i,.bd j)=>lZ (i,j) l
  | _=>l) l
 | .agg a,.agg b,l=>(a.zip b).foldl (fun l p=>match p with
  | (.ptr i _,.ptr j _)=>lZ (i,j) l
  | (.row i,.row j)=>lZ (i,j) l
  | (.map i,.map j)=>lZ (i,j) l
  | (.bD i _ _,.bD j _ _)=>lZ (i,j) l
  | (.bL i _,.bL j _)=>lZ (i,j) l
  | _=>l) l
 | _,_,l=>l
def WS (A B:Sk):List (Nat×TX)→po→Sum (Pl×Pl×Option Co×Option Co) po
 | [],ps=> .inr ps
 | (j,a)::r,ps=>match UQ A.l B.l a (aT B.t j) with
  | some (x,y)=> .inl (.slot j,.slot j,x,y)
  | none=>WS A B r (VF a (aT B.t j) ps)
def WR (A B:Sk) (ia ib:Nat):List TX→List TX→Nat→po→Sum (Pl×Pl×Option Co×Option Co) po
 | a::r,b::s,k,ps=>match UQ A.l B.l a b with
  | some (x,y)=> .inl (.cell ia k,.cell ib k,x,y)
  | none=>WR A B ia ib r s (k+1) (VF a b ps)
 | _,_,_,ps=> .inr ps
def Ng (A B:Sk):Nat→po→Sum (Pl×Pl×Option Co×Option Co) mK
 | 0,ps=> .inr ps.1
 | f+1,(ps,w)=>match w with
  | []=> .inr ps
  | (i,j)::w=>match A.l[i]?,B.l[j]? with
   | some (.var _ a),some (.var _ b)=>match WR A B i j a b 0 (ps,w) with
    | .inl m=> .inl m
    | .inr q=>Ng A B f q
   | _,_=>Ng A B f (ps,w)
def Jj:AX→Option (Nat×List Nat)
 | .eo _ b r=>some (b,r)
 | .lp _ b r _=>some (b,r)
 | _=>none
def XC:List AX→Nat→Nat→Nat
 | [],_,m=>m
 | a::r,i,m=>XC r (i+1) (match Jj a with | some _=>i+1 | none=>m)
def M5:List AX→Nat→List Nat
 | [],_=>[]
 | a::r,i=>match Jj a with
  | some (_,rs)=>i::rs++M5 r (i+1)
  | none=>M5 r (i+1)
def pins (A:Sk):po:=match XC A.l 0 0 with
 | 0=>([],[])
 | m=>let rs:=M5 A.l 0
  let l:=(List.range m).map fun i=>bif rs.any (Nat.beq i) then(i,i) else(Dw+i,Dw+i)
  (l,l)
def ahL (A B:Sk):Sum (Pl×Pl×Option Co×Option Co) mK:=match WS A B A.t (pins A) with
 | .inl m=> .inl m
 | .inr ps=>Ng A B 200 ps
def Dl (σ:Sk) (p:Pl):Option Co→Option Sk
 | none=>some σ
 | some c=>wY σ p c
def meet:Nat→Sk→Sk→Option (Sk×Sk×mK)
 | 0,_,_=>none
 | f+1,A,B=>match ahL A B with
  | .inr ps=>some (A,B,ps)
  | .inl (pa,pb,ca,cb)=>match Dl A pa ca,Dl B pb cb with
   | some A',some B'=>meet f A' B'
   | _,_=>none
def nX (n0:Nat) (t:Ty) (x y:X) (h:List Ty):X×List Ty:=bif X.beq x y&&Nat.ble x.nf n0 then(x,h) else(.hole h.length,h++[t])
def vL (ia ib:Nat) (ps:mK):Option Nat:=ps.findIdx? fun q=>Nat.beq q.1 ia&&Nat.beq q.2 ib
mutual
def Fh (n0:Nat) (ps:mK):TX→TX→List Ty→TX×List Ty
 | .d t x,.d u y,h=>if t=u then(.d t (nX n0 t x y h).1,(nX n0 t x y h).2) else(.undef,h)
 | .bC s,.bC s',h=>bif Nat.beq s s' then(.bC s,h) else(.undef,h)
 | .fp,.fp,h=>(.fp,h)
 | .ptr i o,.ptr j o',h=>match vL i j ps with | some k=>(bif Nat.beq o o' then .ptr k o else .undef,h) | none=>(.undef,h)
 | .bw t e o,.bw t' e' o',h=>if t=t' then(bif Nat.beq o o' then(.bw t (nX n0 t e e' h).1 o,(nX n0 t e e' h).2) else(.undef,h)) else(.undef,h)
 | .row i,.row j,h=>match vL i j ps with | some k=>(.row k,h) | none=>(.undef,h)
 | .bf i k o,.bf j k' o',h=>match vL i j ps with | some q=>(bif Nat.beq o o' then(.bf q (nX n0 (.int .i64) k k' h).1 o,(nX n0 (.int .i64) k k' h).2) else(.undef,h)) | none=>(.undef,h)
 | .map i,.map j,h=>match vL i j ps with | some k=>(.map k,h) | none=>(.undef,h)
 | .bd i,.bd j,h=>match vL i j ps with | some k=>(.bd k,h) | none=>(.undef,h)
 | .bL i n,.bL j m,h=>match vL i j ps with | some k=>(bif Nat.beq n m then .bL k n else .undef,h) | none=>(.undef,h)
 | .bD i t x,.bD j u y,h=>match vL i j ps with | some k=>(if t=u then(.bD k t (nX n0 (.list t) x y h).1,(nX n0 (.list t) x y h).2) else(.undef,h)) | none=>(.undef,h)
 | .agg a,.agg b,h=>(.agg (qe n0 ps a b h).1,(qe n0 ps a b h).2)
 | .aI a,.aI b,h=>(.aI (qe n0 ps a b h).1,(qe n0 ps a b h).2)
 | .aL f a,.aL g b,h=>bif Nat.beq f g then(.aL f (qe n0 ps a b h).1,(qe n0 ps a b h).2) else(.undef,h)
 | _,_,h=>(.undef,h)
def qe (n0:Nat) (ps:mK):List TX→List TX→List Ty→List TX×List Ty
 | a::r,b::s,h=>((Fh n0 ps a b h).1::(qe n0 ps r s (Fh n0 ps a b h).2).1,(qe n0 ps r s (Fh n0 ps a b h).2).2)
 | _,_,h=>([],h)
end
def UP (n0:Nat) (ps:mK) (B:Sk):List (Nat×TX)→List Ty→List (Nat×TX)×List Ty
 | [],h=>([],h)
 | (j,a)::r,h=>let m:=Fh n0 ps a (aT B.t j) h
  let q:=UP n0 ps B r m.2
  (bif AM m.1 then q.1 else(j,m.1)::q.1,q.2)
def mgA (n0:Nat) (ps:mK):AX→AX→List Ty→AX×List Ty
 | .var t a,.var _ b,h=>(.var t (qe n0 ps a b h).1,(qe n0 ps a b h).2)
 | .row f e t x,.row _ _ _ y,h=>(.row f e t (nX n0 (.list t) x y h).1,(nX n0 (.list t) x y h).2)
 | .map f k v x,.map _ _ _ y,h=>(.map f k v (nX n0 (.map k v) x y h).1,(nX n0 (.map k v) x y h).2)
 | .eo j b r,.eo _ _ _,h=>(.eo j b r,h)
 | .lp j b r s,.lp _ _ _ _,h=>(.lp j b r s,h)
 | _,_,h=>(.dead,h)
def UO (n0:Nat) (ps:mK) (A B:Sk):mK→List Ty→List AX×List Ty
 | [],h=>([],h)
 | (i,j)::r,h=>let m:=mgA n0 ps ((A.l[i]?).getD .dead) ((B.l[j]?).getD .dead) h
  let q:=UO n0 ps A B r m.2
  (m.1::q.1,q.2)
def Fg (n0:Nat) (A B:Sk):Option (Sk×List Ty):=match meet 40 A B with
 | some (A,B,ps)=>
  let s:=UP n0 ps B A.t []
  let q:=UO n0 ps A B ps s.2
  some (⟨n0,s.1,q.1⟩,q.2)
 | none=>none
def xn (x y:X) (acc:List (Nat×X)):List (Nat×X):=match x with
 | .hole p=>acc++[(p,y)]
 | _=>acc
mutual
def Q9:TX→TX→List (Nat×X)→List (Nat×X)
 | .d _ x,.d _ y,c=>xn x y c
 | .bw _ x _,.bw _ y _,c=>xn x y c
 | .bf _ x _,.bf _ y _,c=>xn x y c
 | .bD _ _ x,.bD _ _ y,c=>xn x y c
 | .agg a,.agg b,c=>zw a b c
 | .aI a,.aI b,c=>zw a b c
 | .aL _ a,.aL _ b,c=>zw a b c
 | _,_,c=>c
def zw:List TX→List TX→List (Nat×X)→List (Nat×X)
 | a::r,b::s,c=>zw r s (Q9 a b c)
 | _,_,c=>c
end
def fhA:AX→AX→List (Nat×X)→List (Nat×X)
 | .var _ a,.var _ b,c=>zw a b c
 | .row _ _ _ x,.row _ _ _ y,c=>xn x y c
 | .map _ _ _ x,.map _ _ _ y,c=>xn x y c
 | _,_,c=>c
def Q8 (M σ:Sk):List (Nat×X):=
 let c:=(M.t.zip σ.t).foldl (fun c p=>Q9 p.1.2 p.2.2 c) []
 (M.l.zip σ.l).foldl (fun c p=>fhA p.1 p.2 c) c
def vE:List (Nat×X)→Nat→X
 | [],_=> .unit
 | (j,x)::r,p=>bif Nat.beq j p then x else vE r p
def LV:List (Nat×TX)→Nat→Nat
 | [],m=>m
 | (j,_)::r,m=>LV r (lY m j)
def oT:List Nat→Bool
 | []=>true
 | x::xs=> !(xs.any fun y=>Nat.beq x y)&&oT xs
def uI (ids:List Nat) (l:List AX):Bool:=ids.all fun id=>match l[id]? with
 | some .fE=>false
 | some a=>match Jj a with
  | some (b,rs)=>Nat.ble b ids.length&&rs.all fun r=>Nat.blt r b&&(match ids[r]? with | some i=>Nat.beq i r | none=>false)
  | none=>true
 | none=>true
def X.dn (n h:Nat):X→Bool
 | .var i=>Nat.blt i n
 | .hole p=>Nat.blt p h
 | .pair a b=>a.dn n h&&b.dn n h
 | .aL _ x=>x.dn n h
 | .box x=>x.dn n h
 | .proj _ _ x=>x.dn n h
 | .mk _ x=>x.dn n h
 | .u1 _ x=>x.dn n h
 | .u2 _ x y=>x.dn n h&&y.dn n h
 | .u3 _ x y z=>x.dn n h&&y.dn n h&&z.dn n h
 | _=>true
mutual
def TX.dn (n h:Nat):TX→Bool
 | .d _ x=>x.dn n h
 | .bw _ e _=>e.dn n h
 | .bf _ k _=>k.dn n h
 | .bD _ _ x=>x.dn n h
 | .agg cs=>TX.vT n h cs
 | .aI cs=>TX.vT n h cs
 | .aL _ cs=>TX.vT n h cs
 | _=>true
def TX.vT (n h:Nat):List TX→Bool
 | []=>true
 | t::ts=>t.dn n h&&TX.vT n h ts
end
def AX.dn (n h:Nat):AX→Bool
 | .var _ cs=>TX.vT n h cs
 | .row _ _ _ x=>x.dn n h
 | .map _ _ _ x=>x.dn n h
 | _=>true
def Sk.dn (n h:Nat) (σ:Sk):Bool:=σ.t.all (fun p=>p.2.dn n h)&&σ.l.all (AX.dn n h)
def instS (M:Sk) (nh:Nat) (σ:Sk):Option (List X):=
 match meet 40 M (σ.di (LV M.t 0)) with
 | some (_,B,ps)=>
  let ids:=ps.map (·.2)
  let bE:=B.re ids
  let vs:=Q8 M bE
  let xs:=(List.range nh).map (vE vs)
  let F:=M.fill (vE vs) σ.n
  bif wE F.t bE.t&&ot F.l bE.l&&oT ids&&uI ids B.l then some xs else none
 | none=>none
def leaves (e:Ex):Tr→List Sk
 | .leaf e' σ=>if e=e' then [σ] else []
 | .out _ _=>[]
 | .bT _ t=>leaves e t
 | .get _ _ _ t=>leaves e t
 | .call _ _ _ t=>leaves e t
 | .iJ _ a b=>leaves e a++leaves e b
 | .jA _ a b=>leaves e a++leaves e b
 | .join _ _ a b=>leaves e a++leaves e b
 | .loop _ _ _ b=>leaves e b
 | .bad _=>[]
def resolve (e:Ex) (M:Sk) (nh:Nat):Nat→Tr→Tr
 | k,.leaf e' σ=>if e=e' then(match instS M nh σ with | some xs=> .out k (gT xs) | none=> .bad 1) else .leaf e' σ
 | _,.out k x=> .out k x
 | k,.bT x t=> .bT x (resolve e M nh k t)
 | k,.get v xs i t=> .get v xs i (resolve e M nh k t)
 | k,.call v c x t=> .call v c x (resolve e M nh k t)
 | k,.iJ c a b=> .iJ c (resolve e M nh k a) (resolve e M nh k b)
 | k,.jA c a b=> .jA c (resolve e M nh k a) (resolve e M nh k b)
 | k,.join ty v a b=> .join ty v (resolve e M nh (k+1) a) (resolve e M nh k b)
 | k,.loop ty v i b=> .loop ty v i (resolve e M nh (k+1) b)
 | _,.bad w=> .bad w
def fz (f:Ex→Sk→Tr):Tr→Tr
 | .leaf e σ=>f e σ
 | .out k x=> .out k x
 | .bT x t=> .bT x (fz f t)
 | .get v xs i t=> .get v xs i (fz f t)
 | .call v c x t=> .call v c x (fz f t)
 | .iJ c a b=> .iJ c (fz f a) (fz f b)
 | .jA c a b=> .jA c (fz f a) (fz f b)
 | .join ty v a b=> .join ty v (fz f a) (fz f b)
 | .loop ty v i b=> .loop ty v i (fz f b)
 | .bad w=> .bad w
def nG:Tr→Bool
 | .leaf _ _=>false
 | .out _ _=>false
 | .bT _ t=>nG t
 | .get _ _ _ t=>nG t
 | .call _ _ _ t=>nG t
 | .iJ _ a b=>nG a||nG b
 | .jA _ a b=>nG a||nG b
 | .join _ _ _ b=>nG b
 | .loop _ _ _ _=>true
 | .bad _=>false
def sI:Tr→Bool
 | .bT _ t=>sI t
 | .get _ _ _ t=>sI t
 | .call _ _ _ t=>sI t
 | .iJ _ a b=>sI a||sI b
 | .jA _ _ _=>true
 | .join _ _ _ b=>sI b
 | _=>false
def xo (v n p:Nat):X:=vS n p (.var v)
def LY (n0:Nat):Sk→List Sk→Option (Sk×List Ty)
 | A,[]=>Fg n0 A A
 | A,[B]=>Fg n0 A B
 | A,B::r=>match Fg n0 A B with
  | some (M,_)=>LY n0 M r
  | none=>none
def yG (live n0:Nat) (T:Tr) (f:Sk→Tr):Tr:=
 match leaves .normal T with
 | []=>T
 | [_]=>bif nG T then EI else fz (fun e σ=>match e with | .normal=>f σ | e=> .leaf e σ) T
 | _=>bif nG T || !sI T then EI else fz (fun e σ=>match e with | .normal=>f σ | e=> .leaf e σ) T
where EI:Tr:=match leaves .normal T with
 | []=>T
 | σ::r=>match LY n0 (σ.di live) (r.map (Sk.di live)) with
  | some (M,ts)=>bif M.dn n0 ts.length then .join (aQ ts) n0 (resolve .normal M ts.length 0 T) (f (M.fill (xo n0 ts.length) (n0+1))) else .bad 13
  | none=> .bad 2
def s5 (t:Tr):Nat→List Ins→Tr
 | _,[]=>t
 | n,.bT x::r=> .bT x (s5 t n r)
 | n,.get xs k::r=> .get n xs k (s5 t (n+1) r)
 | n,.call c x::r=> .call n c x (s5 t (n+1) r)
def ir (n:Nat):List Ins→Nat
 | []=>n
 | .bT _::r=>ir n r
 | _::r=>ir (n+1) r
def kA (t:List (Nat×TX)) (dst:Option Nat) (x:TX):List (Nat×TX):=match dst with | some d=>(d,x)::t | none=>t
def wX (σ:Sk) (dst:Option Nat) (r:fx):Sk:=⟨ir σ.n r.ins,kA σ.t dst r.t,match r.bn with | .none=>σ.l | .new a=>σ.l++[a] | .aP l'=>l'⟩
inductive Gd where
 | yes
 | no
 | ask (x:X) (b:Bool)
 | bad
def pG (ops:List Oper) (σ:Sk):Option (Nat×Bool)→Gd
 | none=> .yes
 | some (j,b)=>match (ops[j]?).bind (·.dst) with
  | some d=>match aT σ.t d with
   | .d .bool (.bool c)=>bif c == b then .yes else .no
   | .d .bool x=> .ask x b
   | .gone=> .no
   | _=> .bad
  | none=> .bad
def qL (x:X) (b:Bool):List (Nat×TX)→List (Nat×TX)
 | []=>[]
 | (j,.d .bool y)::r=>(j,.d .bool (bif X.beq x y then .bool b else y))::qL x b r
 | p::r=>p::qL x b r
def Sk.decide (x:X) (b:Bool) (σ:Sk):Sk:={ σ with t:=qL x b σ.t }
def aa3 (ops:List Oper) (m:Nat) (o:Oper):Nat:=match o.guard with
 | some (j,_)=>(match (ops[j]?).bind (·.dst) with | some d=>lY m d | none=>m)
 | none=>m
def Uv (live:Nat) (ops r:List Oper):Nat:=r.foldl (aa3 ops) (afP live r)
abbrev CC:=Oper→Nat→Sk→Option ((TX→Sk→Tr)→Tr)
def o8 (C:Cx) (H:CC) (live:Nat) (ops:List Oper):List Oper→Sk→Tr
 | [],σ=> .leaf .normal σ
 | o::r,σ=>
  let lv:=fun(σ:Sk)=>bif !eS C.nt o.dst then .bad 15 else match dK C (jD σ.t) σ.l σ.n σ.l.length o with
   | some q=>s5 (o8 C H live ops r (wX σ o.dst q)) σ.n q.ins
   | none=>match H o (Uv live ops r) σ with
    | some F=>F fun x τ=>o8 C H live ops r ⟨τ.n,kA τ.t o.dst x,τ.l⟩
    | none=> .bad (30000+o.dst.getD 9999)
  let skip:=fun(σ:Sk)=>bif !eS C.nt o.dst then .bad 16 else o8 C H live ops r { σ with t:=kA σ.t o.dst .gone }
  match pG ops σ o.guard with
  | .yes=>lv σ
  | .no=>skip σ
  | .ask x b=> .iJ x (bif b then lv (σ.decide x true) else skip (σ.decide x true)) (bif b then skip (σ.decide x false) else lv (σ.decide x false))
  | .bad=> .bad 4
def AY (live n0:Nat) (body:Sk→Tr):Nat→Sk→Sk→Tr
 | 0,_,_=> .bad 5
 | f+1,σ,A=>
  match Fg n0 A A with
  | some (M0,jf)=>
   let T:=body (M0.fill (xo n0 jf.length) (n0+1))
   match LY n0 A ((leaves .normal T).map (Sk.di live)) with
   | some (M,ts)=>match instS M0 jf.length σ with
    | some xs=>match (leaves .normal T).all fun τ=>(instS M0 jf.length τ).isSome with
     | true=>bif M0.dn n0 jf.length then .loop (aQ jf) n0 (gT xs) (resolve .normal M0 jf.length 0 T) else .bad 14
     | false=>AY live n0 body f σ M
    | none=>AY live n0 body f σ M
   | none=> .bad 6
  | none=> .bad 7
def ua:List Ty→Type
 | []=>Empty
 | [t]=>t.den
 | t::u::r=>t.den⊕ua (u::r)
def mX:(sig:List Ty)→Nat→V→Option (ua sig)
 | [],_,_=>none
 | [t],0,v=>e9 t v
 | [_],_+1,_=>none
 | t::_::_,0,v=>match e9 t v with
  | some x=>some (.inl x)
  | none=>none
 | _::u::r,k+1,v=>match mX (u::r) k v with
  | some y=>some (.inr y)
  | none=>none
def ln:Nat→Tr→Bool
 | _,.leaf _ _=>false
 | k,.out j _=>Nat.blt k j
 | k,.bT _ t=>ln k t
 | k,.get _ _ _ t=>ln k t
 | k,.call _ _ _ t=>ln k t
 | k,.iJ _ a b=>ln k a||ln k b
 | k,.jA _ a b=>ln k a||ln k b
 | k,.join _ _ a b=>ln (k+1) a||ln k b
 | k,.loop _ _ _ b=>ln (k+1) b
 | _,.bad _=>false
structure Callee where
 f:FuncId
 args:List Ty
 res:List Ty
 fn:(aQ args).den→Option (aQ res).den
def ar {β:Type} (p:Bool) (o:Option β):Option β:=match p with | true=>o | false=>none
def acE (t:Ty):(sig:List Ty)→Option (ua (t::sig))→(t.den→Option (ua sig))→Option (ua sig)
 | [],o,f=>aa o f
 | _::_,o,f=>aa o fun x=>match x with
  | .inl z=>f z
  | .inr y=>some y
def cw {α β:Type} (o:Option (α⊕β)) (f:α→Option β):Option β:=aa o fun x=>match x with
 | .inl z=>f z
 | .inr y=>some y
noncomputable def rL {β:Type} (e:Bool) (a b:Option β):Option β:=open Classical in match e with | true=>if a=b then b else none | false=>b
noncomputable def Tr.den (cs:List Callee):(sig:List Ty)→Tr→aO→Option (ua sig)
 | _,.leaf _ _,_=>none
 | sig,.out k x,ρ=>match x.den ρ with
  | some v=>mX sig k v
  | none=>none
 | sig,.bT x t,ρ=>match x.den ρ with
  | some ⟨.bool,b⟩=>ar b (Tr.den cs sig t ρ)
  | _=>none
 | sig,.get v xs k t,ρ=>match xs.den ρ,k.den ρ with
  | some ⟨.list τ,l⟩,some ⟨.int _,i⟩=>aa (av (α:=τ.den) l i) fun e=>Tr.den cs sig t ((v,⟨τ,e⟩)::ρ)
  | _,_=>none
 | sig,.call v c x t,ρ=>match cs[c]? with
  | some C=>match x.den ρ with
   | some u=>match e9 (aQ C.args) u with
    | some a=>aa (C.fn a) fun r=>Tr.den cs sig t ((v,⟨aQ C.res,r⟩)::ρ)
    | none=>none
   | none=>none
  | none=>none
 | sig,.iJ c a b,ρ=>match c.den ρ with
  | some ⟨.bool,b0⟩=>ab b0 (Tr.den cs sig a ρ) (Tr.den cs sig b ρ)
  | _=>none
 | sig,.jA c a b,ρ=>match c.den ρ with
  | some ⟨.list _,xs⟩=>rL (List.isEmpty xs) (Tr.den cs sig a ρ) (Tr.den cs sig b ρ)
  | _=>none
 | sig,.join ty v a b,ρ=>bif ln 0 a then acE ty sig (Tr.den cs (ty::sig) a ρ) fun z=>Tr.den cs sig b ((v,⟨ty,z⟩)::ρ)
  else aa (Tr.den cs [ty] a ρ) fun z=>Tr.den cs sig b ((v,⟨ty,z⟩)::ρ)
 | sig,.loop ty v init body,ρ=>match sig with
  | []=>none
  | s::r=>match init.den ρ with
   | some u=>match e9 ty u with
    | some z0=>aU (fun z=>Tr.den cs (ty::s::r) body ((v,⟨ty,z⟩)::ρ)) z0
    | none=>none
   | none=>none
 | _,.bad _,_=>none
def qM:(ts:List Ty)→(aQ ts).den→Nat→aO
 | [],_,_=>[]
 | [t],x,k=>[(k,⟨t,x⟩)]
 | t::u::ts,x,k=>(k,⟨t,x.1⟩)::qM (u::ts) x.2 (k+1)
noncomputable def zG (cs:List Callee) (T:Tr) (args res:List Ty) (a:(aQ args).den):Option (aQ res).den:=Tr.den cs [aQ res] T (qM args a 0)
end Go.Sy
namespace Go.Sy
open Go Go.aj
inductive F2 {α β:Type} (R:α→β→Prop):List α→List β→Prop
 | nil:F2 R [] []
 | cons {a b as bs}:R a b→F2 R as bs→F2 R (a::as) (b::bs)
section
variable {α β:Type} {R S:α→β→Prop}
theorem F2.mono (h:∀ a b,R a b→S a b) {as:List α} {bs:List β} (k:F2 R as bs):F2 S as bs:=by
 induction k with
 | nil=>exact .nil
 | cons h1 _ ih=>exact .cons (h _ _ h1) ih
theorem F2.len {as:List α} {bs:List β} (k:F2 R as bs):as.length=bs.length:=by
 induction k with
 | nil=>rfl
 | cons _ _ ih=>simp[ih]
theorem F2.app {as cs:List α} {bs ds:List β} (h:F2 R as bs) (k:F2 R cs ds):F2 R (as++cs) (bs++ds):=by
 induction h with
 | nil=>exact k
 | cons h1 _ ih=>exact .cons h1 ih
theorem F2.take {as:List α} {bs:List β} (h:F2 R as bs):∀ n,F2 R (as.take n) (bs.take n):=by
 induction h with
 | nil=>intro n;simp;exact .nil
 | cons h1 _ ih=>intro n;cases n with
  | zero=>exact .nil
  | succ n=>exact .cons h1 (ih n)
theorem F2.drop {as:List α} {bs:List β} (h:F2 R as bs):∀ n,F2 R (as.drop n) (bs.drop n):=by
 induction h with
 | nil=>intro n;simp;exact .nil
 | cons h1 h2 ih=>intro n;cases n with
  | zero=>exact .cons h1 h2
  | succ n=>exact ih n
theorem F2.get {as:List α} {bs:List β} (h:F2 R as bs):∀ {i:Nat} {a b},as[i]?=some a→bs[i]?=some b→R a b:=by
 induction h with
 | nil=>intro i a b ha;simp at ha
 | cons h1 _ ih=>intro i a b ha hb;cases i with
  | zero=>simp at ha hb;subst ha;subst hb;exact h1
  | succ i=>simp at ha hb;exact ih ha hb
theorem F2.left {as:List α} {bs:List β} (h:F2 R as bs) {i:Nat} {a} (ha:as[i]?=some a):∃ b,bs[i]?=some b∧R a b:=by
 have hi:=(List.getElem?_eq_some_iff.1 ha).1
 have hb:bs[i]?=some (bs[i]'(by rw[←h.len];exact hi)):=List.getElem?_eq_getElem _
 exact⟨_,hb,h.get ha hb⟩
theorem F2.right {as:List α} {bs:List β} (h:F2 R as bs) {i:Nat} {b} (hb:bs[i]?=some b):∃ a,as[i]?=some a∧R a b:=by
 have hi:=(List.getElem?_eq_some_iff.1 hb).1
 have ha:as[i]?=some (as[i]'(by rw[h.len];exact hi)):=List.getElem?_eq_getElem _
 exact⟨_,ha,h.get ha hb⟩
theorem F2.none {as:List α} {bs:List β} (h:F2 R as bs) {i:Nat} (ha:as[i]?=none):bs[i]?=none:=by
 rw[List.getElem?_eq_none_iff] at ha ⊢;rw[←h.len];exact ha
theorem F2.set {as:List α} {bs:List β} (h:F2 R as bs) {a b} (dg:R a b):∀ i,F2 R (as.set i a) (bs.set i b):=by
 induction h with
 | nil=>intro i;simp;exact .nil
 | cons h1 h2 ih=>intro i;cases i with
  | zero=>exact .cons dg h2
  | succ i=>exact .cons h1 (ih i)
theorem F2.map {γ:Type} {f:γ→α} {as:List γ} {bs:List β} (h:F2 (fun c b=>R (f c) b) as bs):F2 R (as.map f) bs:=by
 induction h with
 | nil=>exact .nil
 | cons h1 _ ih=>exact .cons h1 ih
theorem F2.of {as:List α} {bs:List β} (hl:as.length=bs.length) (h:∀ (i:Nat) a b,as[i]?=some a→bs[i]?=some b→R a b):F2 R as bs:=by
 induction as generalizing bs with
 | nil=>cases bs with
  | nil=>exact .nil
  | cons _ _=>simp at hl
 | cons a as ih=>cases bs with
  | nil=>simp at hl
  | cons b bs=>exact .cons (h 0 a b rfl rfl) (ih (by simpa using hl) fun i x y hx hy=>h (i+1) x y hx hy)
end
theorem X.beq_eq:∀ {x y:X},X.beq x y=true→x=y:=by
 intro x
 induction x<;>intro y h<;>cases y<;>simp[X.beq] at h<;>simp_all<;>grind
def Ext [dj] (ρ ρ':aO):Prop:=∀ i v,lk ρ i=some v→lk ρ' i=some v
theorem Ext.refl [dj] (ρ:aO):Ext ρ ρ:=fun _ _ h=>h
theorem Ext.trans [dj] {a b c:aO} (h:Ext a b) (k:Ext b c):Ext a c:=fun i v x=>k i v (h i v x)
def fI [dj] (n:Nat) (ρ:aO):Prop:=∀ p∈ρ,p.1 < n
theorem LD [dj] {n:Nat}:∀ {ρ:aO} {i:Nat} {v:V},fI n ρ→lk ρ i=some v→i < n
 | (j,w)::r,i,v,hb,h=>by
  simp only[lk] at h
  cases hj:Nat.beq j i with
  | true=>
   have:=Nat.eq_of_beq_eq_true hj
   subst this
   exact hb (j,w) (by simp)
  | false=>
   rw[hj] at h
   exact LD (fun p hp=>hb p (by simp[hp])) h
theorem Ext.push [dj] {n:Nat} {ρ:aO} (hb:fI n ρ) (v:V):Ext ρ ((n,v)::ρ):=fun i u h=>by
 have:=LD hb h
 have bc:Nat.beq n i=false:=by
  cases e:Nat.beq n i with
  | false=>rfl
  | true=>have:=Nat.eq_of_beq_eq_true e;omega
 simp only[lk,bc,cond_false]
 exact h
theorem fI.push [dj] {n m:Nat} {ρ:aO} (hb:fI n ρ) (h:n < m) (v:V):fI m ((n,v)::ρ):=fun p hp=>by
 rcases List.mem_cons.1 hp with rfl | hp
 ·exact h
 have:=hb p hp;omega
theorem ku [dj] (n:Nat) (v:V) (ρ:aO):lk ((n,v)::ρ) n=some v:=by
 have:Nat.beq n n=true:=Nat.beq_refl n
 simp[lk,this]
theorem uo [dj] {t:Ty} {v:V} {a:t.den} (h:e9 t v=some a):v=⟨t,a⟩:=by
 obtain⟨u,b⟩:=v
 unfold e9 at h
 split at h
 ·rename_i hh
  cases hh
  simp at h
  rw[h]
 cases h
theorem l7 [dj] (t:Ty) (a:t.den):e9 t ⟨t,a⟩=some a:=by simp[e9]
variable [aC]
theorem X.gW {ρ ρ':aO} (h:Ext ρ ρ'):∀ {x:X} {v:V},x.den ρ=some v→x.den ρ'=some v:=by
 intro x
 induction x with
 | var i=>intro v hv;exact h i v hv
 | pair a b dE dz=>
  intro v hv;simp only[X.den] at hv ⊢
  cases ha:a.den ρ<;>cases hb:b.den ρ<;>simp[ha,hb] at hv
  rw[dE ha,dz hb];simp[hv]
 | aL f x ih | box x ih | proj i j x ih | mk i x ih | u1 o x ih=>
  intro v hv;simp only[X.den] at hv ⊢
  cases hx:x.den ρ<;>simp[hx] at hv
  rw[ih hx];simpa using hv
 | u2 o x y vv vw=>
  intro v hv;simp only[X.den] at hv ⊢
  cases hx:x.den ρ<;>cases hy:y.den ρ<;>simp[hx,hy] at hv
  rw[vv hx,vw hy];simpa using hv
 | u3 o x y z vv vw KX=>
  intro v hv;simp only[X.den] at hv ⊢
  cases hx:x.den ρ<;>cases hy:y.den ρ<;>cases hz:z.den ρ<;>simp[hx,hy,hz] at hv
  rw[vv hx,vw hy,KX hz];simpa using hv
 | _=>intro v hv;exact hv
def cellsOf:(ts:List Ty)→(aQ ts).den→List D
 | [],_=>[]
 | [t],x=>(t.enc x).cells
 | t::u::ts,x=>(t.enc x.1).cells++cellsOf (u::ts) x.2
class cP:Prop where
 cells:∀ i a,aC.cells i a=cellsOf (aC.cB i) (aC.un i a)
 len:∀ i a,(aC.cells i a).length=aC.sz i
 FD:∀ i a,∀ x∈aC.cells i a,x.one=true
theorem nD {t:Ty} (h:cj t=false) (h2:∀ a b,t ≠ .aI a b) (h3:t ≠ .unit) (v:t.den):(t.enc v).cells=[t.enc v]∧(t.enc v).one=true:=by
 cases t<;>simp_all [cj,Ty.enc,Ty.fU,D.cells,D.one]
def isVal (t:Ty):Prop:=(∀ a b,t ≠ .aI a b)∧t ≠ .unit
def RC (ρ:aO) (p:Ty×X) (d:D):Prop:=isVal p.1∧∃ v:p.1.den,p.2.den ρ=some ⟨p.1,v⟩∧d=p.1.enc v
theorem XE {x y:X} {r:List X}:gT (x::y::r) = .pair x (gT (y::r)):=rfl
theorem sa {ρ:aO}:∀ {ts:List Ty} {xs:List X} {a:(aQ ts).den},xs.length=ts.length→(∀ j t,ts[j]?=some t→∃ x,xs[j]?=some x∧x.den ρ=dm ts a j)→(gT xs).den ρ=some ⟨aQ ts,a⟩
 | [],[],a,_,_=>by cases a;rfl
 | [t],[x],a,_,h=>by
  obtain⟨y,hy,hd⟩:=h 0 t rfl
  simp at hy;subst hy
  exact hd
 | t::u::ts,x::y::xs,a,hl,h=>by
  obtain⟨x',cK,hd⟩:=h 0 t rfl
  simp at cK;subst cK
  have ih:=sa (ts:=u::ts) (xs:=y::xs) (a:=a.2) (by simpa using hl) (fun j v hv=>by
   obtain⟨z,hz,KQ⟩:=h (j+1) v (by simpa using hv)
   exact⟨z,by simpa using hz,by simpa [dm] using KQ⟩)
  rw[XE]
  simp only[X.den,hd,dm,ih]
  rfl
 | [],_::_,_,hl,_=>by simp at hl
 | _::_,[],_,hl,_=>by simp at hl
 | [_],_::_::_,_,hl,_=>by simp at hl
 | _::_::_,[_],_,hl,_=>by simp at hl
theorem Vf:∀ {ts:List Ty} {j:Nat} {t:Ty} (a:(aQ ts).den),ts[j]?=some t→∃ v:t.den,dm ts a j=some ⟨t,v⟩
 | [],j,t,a,h=>by simp at h
 | [u],0,t,a,h=>by simp at h;subst h;exact⟨a,rfl⟩
 | [u],j+1,t,a,h=>by simp at h
 | u::w::ts,0,t,a,h=>by simp at h;subst h;exact⟨a.1,rfl⟩
 | u::w::ts,j+1,t,a,h=>by
  obtain⟨v,hv⟩:=Vf (ts:=w::ts) a.2 (by simpa using h)
  exact⟨v,hv⟩
theorem Rw {ρ:aO} {t u:Ty} {p:t.den×u.den} {x:X} (h:x.den ρ=some ⟨.aI t u,p⟩):(xp x).den ρ=some ⟨t,p.1⟩:=by
 have key:∀ y:X,y.den ρ=some ⟨.aI t u,p⟩→(X.u1 .fst y).den ρ=some ⟨t,p.1⟩:=fun y hy=>by simp only[X.den,hy];rfl
 by_cases hx:∃ a b,x = .pair a b
 ·obtain⟨a,b,rfl⟩:=hx
  simp only[X.den] at h
  cases ha:X.den ρ a<;>cases hb:X.den ρ b<;>simp[ha,hb] at h
  rename_i v w
  obtain⟨v1,v2⟩:=v;obtain⟨w1,w2⟩:=w
  cases h
  simp[xp,ha,hb]
 have:xp x = .u1 .fst x:=by
  unfold xp;split
  ·exact absurd ⟨_,_,rfl⟩ hx
  rfl
 rw[this];exact key x h
theorem W6 {ρ:aO} {t u:Ty} {p:t.den×u.den} {x:X} (h:x.den ρ=some ⟨.aI t u,p⟩):(yK x).den ρ=some ⟨u,p.2⟩:=by
 have key:∀ y:X,y.den ρ=some ⟨.aI t u,p⟩→(X.u1 .snd y).den ρ=some ⟨u,p.2⟩:=fun y hy=>by simp only[X.den,hy];rfl
 by_cases hx:∃ a b,x = .pair a b
 ·obtain⟨a,b,rfl⟩:=hx
  simp only[X.den] at h
  cases ha:X.den ρ a<;>cases hb:X.den ρ b<;>simp[ha,hb] at h
  rename_i v w
  obtain⟨v1,v2⟩:=v;obtain⟨w1,w2⟩:=w
  cases h
  simp[yK,ha,hb]
 have:yK x = .u1 .snd x:=by
  unfold yK;split
  ·exact absurd ⟨_,_,rfl⟩ hx
  rfl
 rw[this];exact key x h
theorem Fx {ρ:aO}:∀ {ts:List Ty} {x:X} {a:(aQ ts).den} (j:Nat),x.den ρ=some ⟨aQ ts,a⟩→j < ts.length→(vS ts.length j x).den ρ=dm ts a j
 | [t],x,a,0,h,_=>h
 | [t],_,_,j+1,_,hl=>by simp at hl
 | t::u::ts,x,a,0,h,_=>Rw (t:=t) (u:=aQ (u::ts)) (p:=a) h
 | t::u::ts,x,a,j+1,h,hl=>Fx (ts:=u::ts) j (W6 (t:=t) (u:=aQ (u::ts)) (p:=a) h) (by simpa using hl)
end Go.Sy
namespace Go.Sy
open Go Go.aj
variable [aC]
theorem VN {ρ:aO} {i j:Nat} {x:X} {a:dj.ek i} (h:x.den ρ=some ⟨.st i,a⟩):(X.proj i j x).den ρ=dm (aC.cB i) (aC.un i a) j:=by
 simp only[X.den,h,l7 (.st i) a]
theorem afd {ρ:aO} {i i':Nat} {y:X} {a:dj.ek i} (h:(X.mk i' y).den ρ=some ⟨.st i,a⟩):i'=i∧y.den ρ=some ⟨aQ (aC.cB i),aC.un i a⟩:=by
 simp only[X.den] at h
 cases hy:y.den ρ with
 | none=>simp[hy] at h
 | some v=>
  simp only[hy] at h
  cases hc:e9 (aQ (aC.cB i')) v with
  | none=>simp[hc] at h
  | some b=>
   simp only[hc] at h
   have hv:=uo hc
   injection h with h
   cases h
   refine⟨rfl,?_⟩
   rw[hv,aC.sd]
theorem UR {ρ:aO} {i:Nat} {y:X} {a:(aQ (aC.cB i)).den} (h:y.den ρ=some ⟨aQ (aC.cB i),a⟩):(X.mk i y).den ρ=some ⟨.st i,aC.fD i a⟩:=by
 simp only[X.den,h,l7]
theorem agf {ρ:aO} {i j:Nat} {x:X} {a:dj.ek i} (h:x.den ρ=some ⟨.st i,a⟩) (hj:j < (aC.cB i).length):(yu i j x).den ρ=dm (aC.cB i) (aC.un i a) j:=by
 by_cases hx:∃ i' y,x = .mk i' y
 ·obtain⟨i',y,rfl⟩:=hx
  obtain⟨rfl,hy⟩:=afd h
  simp only[yu,Nat.beq_refl,cond_true]
  exact Fx j hy hj
 have:yu i j x = .proj i j x:=by
  unfold yu;split
  ·exact absurd ⟨_,_,rfl⟩ hx
  rfl
 rw[this];exact VN h
theorem Oa {i:Nat} {x:X}:∀ {xs:List X} {j k:Nat} {y:X},uf i x j xs=true→xs[k]?=some y→y = .proj i (j+k) x
 | [],j,k,y,_,h=>by simp at h
 | z::r,j,k,y,h,hk=>by
  have hz:∃ i' j' w,z = .proj i' j' w:=by
   cases z<;>simp[uf] at h
   exact⟨_,_,_,rfl⟩
  obtain⟨i',j',w,rfl⟩:=hz
  simp only[uf,Bool.and_eq_true] at h
  obtain⟨⟨⟨h1,h2⟩,h3⟩,h4⟩:=h
  have e1:=Nat.eq_of_beq_eq_true h1;have e2:=Nat.eq_of_beq_eq_true h2;have e3:=X.beq_eq h3
  subst e1;subst e2;subst e3
  cases k with
  | zero=>simp at hk;exact hk.symm
  | succ k=>simp at hk;rw[Oa h4 hk];congr 1;omega
def lP (ρ:aO) (ts:List Ty) (xs:List X) (a:(aQ ts).den):Prop:=xs.length=ts.length∧∀ j t,ts[j]?=some t→∃ x,xs[j]?=some x∧x.den ρ=dm ts a j
theorem XG:∀ {ts:List Ty} {a b:(aQ ts).den},(∀ j,j < ts.length→dm ts a j=dm ts b j)→a=b
 | [],a,b,_=>by cases a;cases b;rfl
 | [t],a,b,h=>by
  have:=h 0 (by simp)
  simp only[dm] at this
  injection this with this
  cases this
  rfl
 | t::u::ts,a,b,h=>by
  have h0:=h 0 (by simp)
  simp only[dm] at h0
  have h0:a.1=b.1:=by
   injection h0 with h0
   injection h0
  have:=XG (ts:=u::ts) (a:=a.2) (b:=b.2) (fun j hj=>by simpa [dm] using h (j+1) (by simpa using hj))
  exact Prod.ext h0 this
theorem Dt {ρ:aO} {i:Nat} {xs:List X} {a:(aQ (aC.cB i)).den} (h:lP ρ (aC.cB i) xs a):(sy i xs).den ρ=some ⟨.st i,aC.fD i a⟩:=by
 have hm:(X.mk i (gT xs)).den ρ=some ⟨.st i,aC.fD i a⟩:=UR (sa h.1 h.2)
 by_cases hx:∃ i' x r,xs = .proj i' 0 x::r∧(Nat.beq i i'&&uf i x 1 r&&Nat.beq (r.length+1) (aC.cB i).length)=true
 ·obtain⟨i',x,r,rfl,hc⟩:=hx
  have e:sy i (.proj i' 0 x::r)=x:=by simp only[sy,hc,cond_true]
  rw[e]
  simp only[Bool.and_eq_true] at hc
  obtain⟨⟨h1,h2⟩,h3⟩:=hc
  have e1:=Nat.eq_of_beq_eq_true h1;have e3:=Nat.eq_of_beq_eq_true h3
  subst e1
  have bO:0 < (aC.cB i).length:=by omega
  have key:∀ j t,(aC.cB i)[j]?=some t→(X.proj i j x).den ρ=dm (aC.cB i) a j:=fun j t ht=>by
   obtain⟨y,hy,hd⟩:=h.2 j t ht
   cases j with
   | zero=>simp at hy;subst hy;exact hd
   | succ j=>
    simp at hy
    have:=Oa h2 hy
    rw[this,Nat.add_comm] at hd;exact hd
  have h0:=key 0 _ (List.getElem?_eq_getElem bO)
  obtain⟨v0,mn⟩:=Vf a (List.getElem?_eq_getElem bO)
  rw[mn] at h0
  have hxa:∃ b:dj.ek i,x.den ρ=some ⟨.st i,b⟩:=by
   simp only[X.den] at h0
   cases sX:x.den ρ with
   | none=>simp[sX] at h0
   | some w=>
    simp only[sX] at h0
    cases hc:e9 (.st i) w with
    | none=>simp[hc] at h0
    | some b=>exact⟨b,by rw[uo hc]⟩
  obtain⟨b,hb⟩:=hxa
  have:aC.un i b=a:=XG fun j hj=>by
   have:=key j _ (List.getElem?_eq_getElem hj)
   rw[VN hb] at this
   exact this
  rw[hb,←this,aC.L3]
 have e:sy i xs = .mk i (gT xs):=by
  unfold sy
  split
  ·rename_i i' x r
   cases hc:(Nat.beq i i'&&uf i x 1 r&&Nat.beq (r.length+1) (aC.cB i).length) with
   | true=>exact absurd ⟨i',x,r,rfl,hc⟩ hx
   | false=>simp
  rfl
 rw[e];exact hm
class dC:Prop where
 val:∀ i t,t∈aC.cB i→isVal t
theorem ur [cP] [dC] {ρ:aO}:∀ (f:Nat) {t:Ty} {x:X} {v:t.den} {cs:List (Ty×X)},isVal t→x.den ρ=some ⟨t,v⟩→iS f t x=some cs→F2 (RC ρ) cs (t.enc v).cells:=by
 intro f
 induction f with
 | zero=>intro t x v cs _ _ h;simp[iS] at h
 | succ f ih=>
  intro t x v cs de hx h
  by_cases c7:∃ i,t = .st i
  ·obtain⟨i,rfl⟩:=c7
   simp only[iS] at h
   have key:∀ (ts:List Ty) (j:Nat) (cs:List (Ty×X)) (b:(aQ ts).den),(∀ k t,ts[k]?=some t→(aC.cB i)[j+k]?=some t)→(∀ k,k < ts.length→dm ts b k=dm (aC.cB i) (aC.un i v) (j+k)) →
     uu (iS f) i x ts j=some cs→F2 (RC ρ) cs (cellsOf ts b):=by
    intro ts
    induction ts with
    | nil=>intro j cs b _ _ h;simp[uu] at h;subst h;exact .nil
    | cons t ts rn=>
     intro j cs b gA hb h
     simp only[uu] at h
     cases ha:iS f t (yu i j x) with
     | none=>simp[ha] at h
     | some a=>
      cases hr:uu (iS f) i x ts (j+1) with
      | none=>simp[ha,hr] at h
      | some r=>
       simp only[ha,hr] at h
       injection h with h;subst h
       have KE:(aC.cB i)[j]?=some t:=by simpa using gA 0 t rfl
       have hj:=(List.getElem?_eq_some_iff.1 KE).1
       have hp:=agf (j:=j) hx hj
       have mg:=hb 0 (by simp)
       cases ts with
       | nil=>
        simp only[dm,Nat.add_zero] at mg
        rw[←mg] at hp
        simp[uu] at hr
        subst hr
        rw[List.append_nil]
        exact ih (dC.val i t (List.mem_of_getElem? KE)) hp ha
       | cons u ts=>
        simp only[dm,Nat.add_zero] at mg
        rw[←mg] at hp
        refine F2.app (ih (dC.val i t (List.mem_of_getElem? KE)) hp ha) ?_
        refine rn (j+1) r b.2 (fun k w hk=>?_) (fun k hk=>?_) hr
        ·have:=gA (k+1) w (by simpa using hk)
         rwa [Nat.add_assoc,Nat.add_comm 1 k]
        have:=hb (k+1) (by simpa using hk)
        simp only[dm] at this
        rwa [Nat.add_assoc,Nat.add_comm 1 k]
   have:=key (aC.cB i) 0 cs (aC.un i v) (fun k t h=>by simpa using h) (fun k _=>by simp) h
   have e:((Ty.st i).enc v).cells=cellsOf (aC.cB i) (aC.un i v):=cP.cells i v
   rw[e];exact this
  have hs:cj t=false:=by cases t<;>simp_all [cj]
  have hc:iS (f+1) t x=some [(t,x)]:=by cases t<;>simp_all [iS]
  rw[hc] at h
  injection h with h;subst h
  rw[(nD hs de.1 de.2 v).1]
  exact .cons ⟨de,v,hx,rfl⟩ .nil
theorem afb [cP] [dC] {ρ:aO}:∀ (f:Nat) {t:Ty} {cs r:List (Ty×X)} {x:X} {ds:List D},isVal t→nY f t cs=some (x,r)→F2 (RC ρ) cs ds →
  ∃ v uz,x.den ρ=some ⟨t,v⟩∧ds=(t.enc v).cells++uz∧F2 (RC ρ) r uz:=by
 intro f
 induction f with
 | zero=>intro t cs r x ds _ h;simp[nY] at h
 | succ f ih=>
  intro t cs r x ds de h aR
  by_cases c7:∃ i,t = .st i
  ·obtain⟨i,rfl⟩:=c7
   simp only[nY] at h
   cases hm:vO (nY f) (aC.cB i) cs with
   | none=>simp[hm] at h
   | some p=>
    obtain⟨xs,r'⟩:=p
    simp only[hm] at h
    injection h with h;injection h with h1 h2;subst h1;subst h2
    have key:∀ (ts:List Ty) (cs:List (Ty×X)) (ds:List D) (xs:List X) (r:List (Ty×X)),(∀ t∈ts,isVal t)→vO (nY f) ts cs=some (xs,r)→F2 (RC ρ) cs ds →
      ∃ (a:(aQ ts).den) (uz:List D),lP ρ ts xs a∧ds=cellsOf ts a++uz∧F2 (RC ρ) r uz:=by
     intro ts
     induction ts with
     | nil=>intro cs ds xs r _ h aR;simp[vO] at h;obtain⟨rfl,rfl⟩:=h;exact⟨(),ds,⟨rfl,fun j t h=>by simp at h⟩,rfl,aR⟩
     | cons t ts rn=>
      intro cs ds xs r hv h aR
      simp only[vO] at h
      cases h1:nY f t cs with
      | none=>simp[h1] at h
      | some p=>
       obtain⟨x,c1⟩:=p
       simp only[h1] at h
       cases h2:vO (nY f) ts c1 with
       | none=>simp[h2] at h
       | some p=>
        obtain⟨ys,c2⟩:=p
        simp only[h2] at h
        injection h with h;injection h with e1 e2;subst e1;subst e2
        obtain⟨v,d2,hx,rfl,kO⟩:=ih (hv t (by simp)) h1 aR
        obtain⟨a,d3,hp,rfl,kn⟩:=rn c1 d2 ys c2 (fun t ht=>hv t (by simp[ht])) h2 kO
        cases ts with
        | nil=>
         obtain⟨hl,_⟩:=hp
         have:ys=[]:=by simpa using hl
         subst this
         refine⟨v,d3,⟨rfl,fun j w hw=>?_⟩,?_,kn⟩
         ·cases j with
          | zero=>simp at hw;subst hw;exact⟨x,rfl,hx⟩
          | succ j=>simp at hw
         simp[cellsOf]
        | cons u ts=>
         refine⟨(v,a),d3,⟨by simp[hp.1],fun j w hw=>?_⟩,by simp[cellsOf],kn⟩
         cases j with
         | zero=>simp at hw;subst hw;exact⟨x,rfl,by simpa [dm] using hx⟩
         | succ j=>
          obtain⟨y,hy,hd⟩:=hp.2 j w (by simpa using hw)
          exact⟨y,by simpa using hy,by simpa [dm] using hd⟩
    obtain⟨a,uz,hp,rfl,hr⟩:=key (aC.cB i) cs ds xs r' (fun t ht=>dC.val i t ht) hm aR
    refine⟨aC.fD i a,uz,Dt hp,?_,hr⟩
    have e:((Ty.st i).enc (aC.fD i a)).cells=cellsOf (aC.cB i) (aC.un i (aC.fD i a)):=cP.cells i (aC.fD i a)
    rw[e,aC.sd]
  have hs:cj t=false:=by cases t<;>simp_all [cj]
  cases aR with
  | nil=>exfalso;cases t<;>simp_all [nY]
  | cons hc hr=>
   rename_i p d ps ds
   obtain⟨u,y⟩:=p
   have hm:nY (f+1) t ((u,y)::ps)=if t=u then some (y,ps) else none:=by cases t<;>simp_all [nY]
   rw[hm] at h
   split at h
   ·rename_i e;subst e
    injection h with h;injection h with h1 h2;subst h1;subst h2
    obtain⟨_,v,hv,rfl⟩:=hc
    exact⟨v,ds,hv,by rw[(nD hs de.1 de.2 v).1];rfl,hr⟩
   cases h
theorem A6 [cP] [dC] {ρ:aO} {t:Ty} {cs:List (Ty×X)} {x:X} {ds:List D} (hv:isVal t) (h:vN t cs=some x) (aR:F2 (RC ρ) cs ds):∃ v,x.den ρ=some ⟨t,v⟩∧ds=(t.enc v).cells:=by
 unfold vN at h
 split at h
 ·rename_i y hy
  injection h with h;subst h
  obtain⟨v,d2,h1,h2,h3⟩:=afb _ hv hy aR
  cases h3
  exact⟨v,h1,by simpa using h2⟩
 cases h
end Go.Sy
namespace Go.aj
open Go cE
variable {α:Type}
def L0 (n:Int) (x:List (Int×α)):Option Nat:=x.findIdx? fun p=>decide (n=p.1)
def Fk (x:List (Int×α)) (n:Int) (v:α):List (Int×α):=match L0 n x with
 | some j=>x.set j (n,v)
 | none=>x++[(n,v)]
def Fc (x:List (Int×α)) (n:Int):List (Int×α):=match L0 n x with
 | some j=>x.eraseIdx j
 | none=>x
def A4 (x:List (Int×α)) (n:Int):Bool:=(L0 n x).isSome
theorem ahk:List.range 5=[0,1,2,3,4]:=rfl
theorem ahl:List.range 6=[0,1,2,3,4,5]:=rfl
theorem ahm:List.range 7=[0,1,2,3,4,5,6]:=rfl
theorem ahn:List.range 8=[0,1,2,3,4,5,6,7]:=rfl
structure CD (k:IntKind) where
 n:Int
 deriving DecidableEq
instance {k:IntKind}:cE (CD k):=⟨fun r=> .int k r.n,fun d=>match d with | .int _ n=>⟨n⟩ | _=>⟨0⟩,1,fun _=>rfl,fun _=>rfl,by simp[D.cells,D.one]⟩
theorem Z8 {k:IntKind} (r:CD k):enc r = .int k r.n:=rfl
theorem ah1 {k:IntKind}:cE.size (CD k)=1:=rfl
theorem ZS {k j:IntKind} (n:Int):(dec (.int j n):CD k)=⟨n⟩:=rfl
end Go.aj
namespace Go.aj
open Go Go.RowKit
variable [bh] [cd]
def zm:T→Option (FuncId×List T)
 | .aL g ts=>some (g,ts)
 | .d (.fn g)=>some (g,[])
 | .d (.aL g ds)=>some (g,ds.map .d)
 | _=>none
theorem Zx {I:aw} {m:Nat→Value} {l:List AO} {v:Value} {t:T} {g:FuncId} {ts:List T} (h:aq I m l v t) (hc:zm t=some (g,ts)) :
  ∃ vs:Array Value,v = .func (.func g) #[] vs∧vs.size=ts.length∧∀ (i:Nat) u x,vs[i]?=some u→ts[i]?=some x→aq I m l u x:=by
 unfold zm at hc
 split at hc
 ·injection hc with hc;injection hc with h1 h2;subst h1;subst h2
  cases h with
  | aL _ vs _ q1 q2=>exact⟨vs,rfl,q1,q2⟩
 ·injection hc with hc;injection hc with h1 h2;subst h1;subst h2
  have:=cy h;cases this
  exact⟨#[],rfl,rfl,by simp⟩
 ·injection hc with hc;injection hc with h1 h2;subst h1;subst h2
  have:=cy h
  cases this with
  | aL _ vs _ q1 q2=>
   refine⟨vs,rfl,by simpa using q1,fun i u x hu hx=>?_⟩
   rw[List.getElem?_map] at hx
   rename_i ds
   cases hd:ds[i]? with
   | none=>rw[hd] at hx;cases hx
   | some d=>rw[hd] at hx;simp at hx;subst hx;exact .d _ _ (q2 i u d hu hd)
 cases hc
section
variable {P:Program} {V:Env} {w0 w:World} {I0 I:aw} {m:Nat→Value} {l:List AO} {n:Nat} {Q:Exit→St→Prop} {s:St} {x y:Code}
theorem aF.frame (ah:aF w0 I0 w I m l) {vals:Nat→Value} {ft:Tm} (qW:∀ k,aq I m l (vals k) (get ft k)) :
  aF w0 I0 w I (aP m l.length (.bool false)) (l++[.frame l.length vals ft])∧Le I m l I (aP m l.length (.bool false)) (l++[.frame l.length vals ft]):=by
 have bF:∀ k,k < l.length→(l++[AO.frame l.length vals ft])[k]?=l[k]?:=fun k hk=>List.getElem?_append_left hk
 have lI:(l++[AO.frame l.length vals ft])[l.length]?=some (.frame l.length vals ft):=by simp
 have hle:Le I m l I (aP m l.length (.bool false)) (l++[.frame l.length vals ft]):=by
  refine⟨.refl I,by simp,fun id an hv=>⟨?_,cO m _ (by omega)⟩,fun id an hr=>⟨?_,cO m _ (by omega)⟩,fun id e' s' els' an hh=>⟨els',?_⟩⟩
  ·unfold isVar at hv ⊢;rw[bF id an];exact hv
  ·unfold isRow at hr ⊢;rw[bF id an] at hr;exact hr
  rw[bF id an] at hh;exact hh
 have cW:∀ k,k≠l.length→alive (l++[AO.frame l.length vals ft]) k=true→alive l k=true:=by
  intro k hk ha
  obtain⟨o,ho,hd⟩:=bN.1 ha
  have fL:k < l.length:=by have:=(List.getElem?_eq_some_iff.1 ho).1;simp at this;omega
  rw[bF k fL] at ho
  exact bN.2 ⟨o,ho,hd⟩
 refine⟨⟨ah.below,ah.sat,ah.ext,fun id o ho=>?_,fun i j b cm hi hj cI cJ=>?_⟩,hle⟩
 ·by_cases an:id < l.length
  ·rw[bF id an] at ho;rw[cO m _ (by omega)]
   by_cases hd:o = .dead
   ·subst hd;trivial
   exact(ah.obj id o ho).iZ hle (fun _ _=>rfl) (fun _ _=>⟨rfl,rfl⟩)
  have:id=l.length:=by
   have:=(List.getElem?_eq_some_iff.1 ho).1;simp at this;omega
  subst this
  rw[lI] at ho;injection ho with ho;subst ho
  rw[fH]
  refine⟨rfl,by simp,fun k=>?_⟩
  have e:(l++[AO.frame l.length vals ft]).take l.length=l:=by simp
  rw[e]
  refine(qW k).mono ⟨.refl I,Nat.le_refl _,fun id an hv=>⟨hv,cO m _ (by omega)⟩,fun id an hr=>⟨hr,cO m _ (by omega)⟩,fun id e' s' els' an hh=>⟨els',hh⟩⟩
 by_cases h1:i=l.length
 ·subst h1;rw[fH] at cI;cases cI
 by_cases h2:j=l.length
 ·subst h2;rw[fH] at cJ;cases cJ
 rw[cO m _ h1] at cI;rw[cO m _ h2] at cJ
 exact ah.sep i j b cm (cW i h1 hi) (cW j h2 hj) cI cJ
theorem aF.Yd (h:aF w0 I0 w I m l):∃ J:aw,aF w0 I0 (w.alloc (.deferred (some []))) J m l∧Le I m l J m l∧J.df w.heap.size∧¬ I.df w.heap.size:=by
 let J:aw:=⟨I.cell,I.mp,fun b=>I.df b∨b=w.heap.size⟩
 have hle:I.le J:=⟨fun _ _ _ h=>h,fun _ _ h=>h,fun _ h=> .inl h⟩
 have fo:(w.alloc (.deferred (some []))).heap[w.heap.size]?=some (.deferred (some [])):=World.alloc_heap_new w _
 obtain⟨r1,r2⟩:=h.call (J:=J) (eB.alloc (eB.refl _ _) (Nat.le_refl _) (.deferred (some []))) (.of hle (fun _ _=>rfl) (fun _ _=>rfl))
  ⟨fun b o v hc=>by rw[World.cell?_alloc_lt w _ _ (h.sat.lt hc)];exact h.sat.cell b o v hc,fun b es hc=>gd.to (Below.heap_alloc w _ b (h.sat.qb hc)) (h.sat.mp b es hc),
   fun b hd=>by
   rcases hd with hd | rfl
   ·exact(Below.heap_alloc w _ b (h.sat.mr hd)).trans (h.sat.df b hd)
   exact fo,fun g d hg=>(h.sat.dA g d hg).mono hle⟩
 exact⟨J,r1,r2,.inr rfl,fun hd=>absurd (h.sat.mr hd) (Nat.lt_irrefl _)⟩
def N7 (P:Program) (w0:World) (I0:aw) (n:Nat) (Q:Exit→St→Prop) (s:St) (id:Nat) (l':List AO):Prop:=
 ∃ base k ps bp body tm st eu,l'[id]?=some (.loop base k ps bp body tm st eu)∧st ≠ .busy ∧
  match eu with
  | none=>Q .normal ⟨s.t,l'.set id (.loop base k ps bp body tm .exhausted eu)⟩
  | some c=>aV P w0 I0 n c ⟨s.t,l'.set id (.loop base k ps bp body tm .exhausted eu)⟩ Q
theorem Y7 {w:World} {b:Nat} {r:Loop} {o:Obj} (h:w.heap[b]?=some (.loop r)):(w.putObj b o).heap[b]?=some o:=World.putObj_heap_same (Array.getElem?_eq_some_iff.1 h).1
theorem aF.Hk (ah:aF w0 I0 w I m l) {id b base k:Nat} {ps:Array Tmp} {bp body:Code} {tm:Tm} {st st':LoopState} {eu pend':Option Code} (ho:l[id]?=some (.loop base k ps bp body tm st eu)) (hm:m id = .func (.yield b) #[] #[]) :
  ∃ r,w.heap[b]?=some (.loop r)∧(r.state=st∧r.pending=eu∧r.params=ps∧r.assign=bp∧r.body=body∧r.tmps.size=k)∧base≤l.length∧(∀ j,aq I m (l.take base) (r.tmps.getD j undef) (get tm j)) ∧
   Le I m l I m (l.set id (.loop base k ps bp body tm st' pend'))∧aF w0 I0 (w.putObj b (.loop { r with state:=st',pending:=pend' })) I m (l.set id (.loop base k ps bp body tm st' pend')):=by
 obtain⟨b',r,q0,q1,q2,q3,q4,q5,q6⟩:=ah.obj id _ ho
 rw[hm] at q0;injection q0 with q0;injection q0 with q0;subst q0
 have hle:Le I m l I m (l.set id (.loop base k ps bp body tm st' pend')):=Le.setKind ho rfl rfl (fun e size els h=>by rcases h with h | h<;>cases h)
 refine⟨r,q2,q3,q4,q5,hle,?_⟩
 refine ah.sb (w':=w.putObj b (.loop { r with state:=st',pending:=pend' })) ho (by simp) (by rw[hm];rfl) q6 rfl rfl hle rfl rfl rfl (Nat.le_refl _) (by simp) (fun j hj=>World.putObj_heap_other hj) ?_
 exact⟨b,_,hm,q1,Y7 q2,⟨rfl,rfl,q3.2.2.1,q3.2.2.2.1,q3.2.2.2.2.1,q3.2.2.2.2.2⟩,by simpa using q4,fun j=>(q5 j).mono (hle.take base),q6⟩
theorem RH (t:Tm):∃ N,get t N = .undef:=by
 have:∃ B,∀ k,B≤k→get t k = .undef:=by
  induction t with
  | nil=>exact⟨0,fun _ _=>rfl⟩
  | cons p r ih=>
   obtain⟨i,t⟩:=p
   obtain⟨B,hB⟩:=ih
   exact⟨B+i+1,fun k hk=>by simp only[get];rw[if_neg (by omega)];exact hB k (by omega)⟩
 obtain⟨B,hB⟩:=this
 exact⟨B,hB B (Nat.le_refl _)⟩
def tY (E:cA) (ρ:Operand→T) (o:Oper):Option (Nat×List T):=match o.op with
 | .call c=>(match c.callee with
  | .value f=>(match ρ f with
   | .bd id=>some (id,iA E c.argTypes.toList (c.args.toList.map ρ))
   | _=>none)
  | _=>none)
 | _=>none
theorem ajp {E:cA} {ρT:Operand→T} {o:Oper} {x:Nat×List T} (h:tY E ρT o=some x):∀ c,o.op ≠ .defer c:=by
 intro c hc
 unfold tY at h
 rw[hc] at h;cases h
theorem ajq {E:cA} {o:Oper} {ρ:Operand→Value} {ρT:Operand→T} {id:Nat} {ts:List T} (hr:∀ x∈o.op.operands,aq I m l (ρ x) (ρT x)) (h:tY E ρT o=some (id,ts)) :
  ∃ (b:Nat) (args:Array Value) (f:Operand),f∈o.op.operands∧ρ f = .func (.yield b) #[] #[]∧ρT f = .bd id∧m id = .func (.yield b) #[] #[]∧(execOp ρ o).run P w=(Instr.yield b args).run P w∧args.size=ts.length∧∀ (i:Nat) v x,args[i]?=some v→ts[i]?=some x→aq I m l v x:=by
 unfold tY at h
 split at h
 ·rename_i c ho
  split at h
  ·rename_i f cN
   have fM:f∈o.op.operands:=by simp[ho,Op.operands,Call.operands,cN]
   have hf:=hr f fM
   have c9:∀ (i:Nat) v x,(c.args.toList.map ρ)[i]?=some v→(c.args.toList.map ρT)[i]?=some x→aq I m l v x:=by
    intro i v x hv hx
    rw[List.getElem?_map] at hv hx
    cases ha:c.args.toList[i]? with
    | none=>simp[ha] at hv
    | some a=>
     simp[ha] at hv hx
     subst hv;subst hx
     refine hr a ?_
     simp only[ho,Op.operands,Call.operands,cN]
     have:=List.mem_of_getElem? ha
     simp at this ⊢
     exact .inr this
   obtain⟨kS,sH⟩:=Hn (E:=E) c.argTypes.toList _ _ c9
   generalize kT:ρ f=vf at hf
   split at h
   ·rename_i pT hT
    rw[hT] at hf
    injection h with h;injection h with h1 h2;subst h1
    cases hf with
    | bd _ b q1 q2=>
     refine⟨b,c.args.map ρ,f,fM,kT,hT,q2,?_,?_,fun i v x hv hx=>?_⟩
     ·unfold execOp
      simp only[ho,resolve,cN,kT,Deferred.ofValue,Sem.run_bind,Sem.run_pure,Result.andThen_ok,invoke]
      simp
     ·rw[←h2];simp[kS]
     rw[←h2] at hx
     exact sH i v x (by simpa using hv) hx
   cases h
  cases h
 cases h
def tR (ps:List Tmp) (ts:List T) (tm:Tm):Tm:=(ps.zip ts).foldl (fun s p=>(p.1,p.2)::s) tm
theorem Ww:∀ (ps:List Tmp) (args:List Value) (ts:List T) (tmps:Array Value) (tm:Tm),args.length=ts.length→(∀ (i:Nat) v x,args[i]?=some v→ts[i]?=some x→aq I m l v x)→(∀ p∈ps,p < tmps.size)→(∀ k,aq I m l (tmps.getD k undef) (get tm k)) →
  ((ps.zip args).foldl (fun t (p:Tmp×Value)=>t.setIfInBounds p.1 p.2) tmps).size=tmps.size∧∀ k,aq I m l (((ps.zip args).foldl (fun t (p:Tmp×Value)=>t.setIfInBounds p.1 p.2) tmps).getD k undef) (get (tR ps ts tm) k)
 | [],args,ts,tmps,tm,_,_,_,h=>⟨rfl,by simpa [tR] using h⟩
 | p::ps,[],[],tmps,tm,_,_,_,h=>⟨by simp,by simpa [tR] using h⟩
 | p::ps,v::args,t::ts,tmps,tm,hl,hr,hp,h=>by
  have iH:p < tmps.size:=hp p (by simp)
  obtain⟨h1,h2⟩:=Ww ps args ts (tmps.setIfInBounds p v) ((p,t)::tm) (by simpa using hl) (fun i u x hu hx=>hr (i+1) u x (by simpa using hu) (by simpa using hx)) (fun q hq=>by simpa using hp q (by simp[hq])) (fun k=>by
   simp only[get]
   by_cases hk:p=k
   ·subst hk
    rw[if_pos rfl,Array.getD_eq_getD_getElem?,Array.getElem?_setIfInBounds_self_of_lt iH]
    exact hr 0 v t rfl rfl
   rw[if_neg hk,Array.getD_eq_getD_getElem?,Array.getElem?_setIfInBounds_ne hk,←Array.getD_eq_getD_getElem?]
   exact h k)
  refine⟨by simpa using h1,?_⟩
  simpa [tR] using h2
 | p::ps,[],_::_,_,_,hl,_,_,_=>by simp at hl
 | p::ps,_::_,[],_,_,hl,_,_,_=>by simp at hl
def EJ:Exit→Option (Option Code)
 | .normal=>some none
 | .ret=>some (some .ret)
 | .exit id=>some (some (.exit id))
 | .goto t=>some (some (.goto t))
 | _=>none
def Vr (K:St→Prop):Exit→St→Prop
 | .normal,s=>K s
 | _,_=>False
def N3 (s2:St) (at_:Nat) (vals:Nat→Value) (ft:Tm) (id base k:Nat) (ps:Array Tmp) (bp body:Code) (tm:Tm) (jump:Option Code) (K:List AO→Prop):Prop:=
 ∃ s3,Sub s2 s3∧s3.l[at_]?=some (.frame at_ vals ft)∧s3.l[id]?=some (.loop base k ps bp body tm .busy none)∧K (s3.l.set id (.loop base k ps bp body tm (if jump.isNone then .ready else .done) jump))
end
end Go.aj
namespace Go.aj
open Go Go.RowKit cE
variable [bh]
structure Bx (α:Type) where
 v:α
instance {α:Type} [cE α]:cE (Bx α):=⟨fun b=> .box (enc b.v),fun d=>match d with | .box d=>⟨dec d⟩ | d=>⟨dec d⟩,1,fun b=>by simp only[zp],fun _=>rfl,by simp[D.cells,D.one]⟩
theorem Z7 {α:Type} [cE α] (b:Bx α):enc b = .box (enc b.v):=rfl
theorem ZQ {α:Type} [cE α] (d:D):(dec (.box d):Bx α)=⟨dec d⟩:=rfl
theorem ahZ {α:Type} [cE α]:size (Bx α)=1:=rfl
def Qv (g:FuncId):Option D→Bool
 | some (.aL g' _)=>g == g'
 | some (.fn g')=>g == g'
 | _=>false
def ahO (i:Nat) (g:FuncId) (s t:Spec):Spec:=fun ds=>if Qv g ds[i]?=true then s ds else t ds
section
variable [cd] {P:Program} {g:FuncId}
end
section
variable {w0 w:World} {I0 I:aw} {m:Nat→Value} {l:List AO}
theorem aF.ahS (h:aF w0 I0 w I m l) {g:Nat} {cur:Array Value} {e:TypeId} {fl:Nat×Nat} (hg:w0.heap.size≤g) (hh:w.heap[g]?=some (.cells cur e fl)) (bS:I.eZ g) (oD:∀ id,alive l id=true→own (m id)≠some g) :
  aF w0 I0 w (I.ez g cur.toList) m l∧Le I m l (I.ez g cur.toList) m l:=by
 let J:=I.ez g cur.toList
 have im:∀ b,b≠g→J.cell b=I.cell b:=fun b hb=>by funext o;simp[J,aw.ez,hb]
 have hle:I.le J:=⟨fun b o v hc=>by
  have hb:b≠g:=by rintro rfl;rw[bS.1 o] at hc;cases hc
  rw[im b hb];exact hc,fun _ _ h=>h,fun _ h=>h⟩
 have zO:Le I m l J m l:=⟨hle,Nat.le_refl _,fun _ _ h=>⟨h,rfl⟩,fun _ _ h=>⟨h,rfl⟩,fun _ _ _ els _ h=>⟨els,h⟩⟩
 have du:dH w J:=⟨fun b o v hc=>by
  by_cases hb:b=g
  ·subst hb
   simp only[J,aw.ez,if_true] at hc
   cases hx:cur[o]? with
   | none=>simp[hx,bS.1 o] at hc
   | some x=>simp[hx] at hc;subst hc;simp[World.cell?,hh,hx]
  rw[im b hb] at hc;exact h.sat.cell b o v hc,h.sat.mp,h.sat.df,fun g d hd=>(h.sat.dA g d hd).mono hle⟩
 refine⟨⟨h.below,du,⟨fun b o v hc=>hle.cell b o v (h.ext.lc b o v hc),h.ext.lm,h.ext.ld,fun b hb=>(im b (by omega)).trans (h.ext.cell b hb),h.ext.mp⟩,fun id o ho=>?_,h.sep⟩,zO⟩
 have ae:=h.obj id o ho
 have key:(∀ b,own (m id)=some b→b≠g)→jM w0.heap.size w J m l (m id) o:=fun hk=>ae.iZ zO (fun _ _=>rfl) fun b hb=>⟨im b (hk b hb),rfl⟩
 cases o with
 | dead=>trivial
 | frame base vals t=>exact key fun b hb=>by rw[ae.1] at hb;cases hb
 | _=>exact key fun b hb e=>oD id (bN.2 ⟨_,ho,by simp[AO.isVar,AO.isRow]⟩) (e▸hb)
variable [cd] {s:St}
end
end Go.aj
namespace Go.Sy
open Go Go.aj
mutual
def fy:T→List Nat
 | .ptr id _=>[id]
 | .row id=>[id]
 | .bf id _ _=>[id]
 | .map id=>[id]
 | .bd id=>[id]
 | .bL id _=>[id]
 | .sub id _ _=>[id]
 | .bD id _=>[id]
 | .aI ts=>pr ts
 | .cond _ t=>fy t
 | .aL _ ts=>pr ts
 | .agg ts=>pr ts
 | _=>[]
def pr:List T→List Nat
 | []=>[]
 | t::ts=>fy t++pr ts
end
theorem CG:∀ {ts:List T} {i:Nat} {t:T} {r:Nat},ts[i]?=some t→r∈fy t→r∈pr ts
 | [],i,t,r,h,_=>by simp at h
 | u::ts,i,t,r,h,hr=>by
  simp only[pr,List.mem_append]
  cases i with
  | zero=>simp at h;subst h;exact .inl hr
  | succ i=>exact .inr (CG (by simpa using h) hr)
variable [bh] [cd]
structure X6 (m:Nat→Value) (l:List AO) (m':Nat→Value) (l':List AO) (r:Nat):Prop where
 lt:r < l'.length
 var:aj.isVar l r=true→aj.isVar l' r=true
 row:aj.isRow l' r=true→aj.isRow l r=true
 rows:∀ e size els,(l'[r]?=some (.row e size els)∨l'[r]?=some (.bx e size els))→∃ els',(l[r]?=some (.row e size els')∨l[r]?=some (.bx e size els'))
 val:m' r=m r
theorem aq.loc {I:aw} {m m':Nat→Value} {l l':List AO} {v:Value} {t:T} (h:aq I m l v t) (hr:∀ r∈fy t,X6 m l m' l' r):aq I m' l' v t:=by
 induction h with
 | undef v=>exact .undef v
 | d v x r=>exact .d v x r
 | bC s=>exact .bC s
 | ptr id b off h1 h2=>
  have k:=hr id (by simp[fy])
  exact .ptr id b off (k.var h1) (k.val.trans h2)
 | bw b o size els k off val h1 h2 h3 h4=>exact .bw b o size els k off val h1 h2 h3 h4
 | row A n c id h1 h2=>
  have k:=hr id (by simp[fy])
  exact .row A n c id k.lt fun hl=>k.val.trans (h2 (k.row hl))
 | bf a id q off h1 h2=>
  have k:=hr id (by simp[fy])
  refine .bf a id q off k.lt fun e size els hl=>?_
  obtain⟨els',h'⟩:=k.rows e size els hl
  obtain⟨b,n,c,q1,q2⟩:=h2 e size els' h'
  exact⟨b,n,c,k.val.trans q1,q2⟩
 | sub A n c id lo hi h1 h2=>
  have k:=hr id (by simp[fy])
  refine .sub A n c id lo hi k.lt fun e size els hl=>?_
  obtain⟨els',h'⟩:=k.rows e size els hl
  obtain⟨A0,n0,c0,q1,q2⟩:=h2 e size els' h'
  exact⟨A0,n0,c0,k.val.trans q1,q2⟩
 | bD A n c id x h1 h2 h3=>
  have k:=hr id (by simp[fy])
  exact .bD A n c id x k.lt (fun hl=>k.val.trans (h2 (k.row hl))) h3
 | map r id h1 h2=>
  have k:=hr id (by simp[fy])
  exact .map r id k.lt fun hl=>k.val.trans (h2 (k.row hl))
 | aI vs ts h1 _ ih=>exact .aI vs ts h1 fun i v t hv ht=>ih i v t hv ht fun r h=>hr r (by simp only[fy];exact CG ht h)
 | cond v pc t _ hn ih=>exact .cond v pc t (fun hp=>ih hp fun r h=>hr r (by simpa [fy] using h)) hn
 | aL g vs ts h1 _ ih=>exact .aL g vs ts h1 fun i v t hv ht=>ih i v t hv ht fun r h=>hr r (by simp only[fy];exact CG ht h)
 | bd id b h1 h2=>
  have k:=hr id (by simp[fy])
  exact .bd id b (k.var h1) (k.val.trans h2)
 | bL id b n c h1 h2 h3 h4=>
  have k:=hr id (by simp[fy])
  exact .bL id b n c (k.var h1) (k.val.trans h2) h3 h4
 | agg vs ts h1 h2 _ ih=>exact .agg vs ts h1 h2 fun i v t hv ht=>ih i v t hv ht fun r h=>hr r (by simp only[fy];exact CG ht h)
def Ru:AO→Option (Nat×Tm)
 | .frame b _ t=>some (b,t)
 | .loop b _ _ _ _ t _ _=>some (b,t)
 | _=>none
def yW (ids:List Nat) (l:List AO):Prop:=∀ id∈ids,∀ o b t,l[id]?=some o→Ru o=some (b,t)→b≤ids.length∧∀ k,∀ r∈fy (get t k),r < b∧ids[r]?=some r
theorem Wr {w0 w:World} {I0 I:aw} {m:Nat→Value} {l:List AO} {ids:List Nat} (h:aF w0 I0 w I m l) (fN:ids.Nodup) (eK:yW ids l):aF w0 I0 w I (fun k=>m ((ids[k]?).getD 0)) (eI ids l):=by
 have hm:∀ (k id:Nat),ids[k]?=some id→(fun k:Nat=>m ((ids[k]?).getD 0)) k=m id:=fun k id hk=>by simp[hk]
 have bF:∀ {k:Nat} {o:AO},(eI ids l)[k]?=some o→∃ id,ids[k]?=some id:=fun {k o} hk=>by
  cases hi:ids[k]? with
  | none=>simp[eI,hi] at hk
  | some id=>exact⟨id,rfl⟩
 have cW:∀ {k id:Nat},ids[k]?=some id→alive (eI ids l) k=alive l id:=fun hk=>by unfold alive;rw[og hk,qm hk]
 refine⟨h.below,h.sat,h.ext,fun k o ho=>?_,fun i j b cm hi hj=>?_⟩
 ·obtain⟨id,hk⟩:=bF ho
  have hg:=B4 (l:=l) hk
  rw[ho] at hg
  cases hl:l[id]? with
  | none=>rw[hl] at hg;simp[AO.dU] at hg;subst hg;trivial
  | some o'=>
   rw[hl] at hg;simp only[Option.getD_some,Option.some.injEq] at hg
   have bK:=h.obj id o' hl
   show jM _ _ _ _ _ (m ((ids[k]?).getD 0)) o
   rw[hk,hg];simp only[Option.getD_some]
   have pre:∀ (b:Nat) (t:Tm),Ru o'=some (b,t)→b≤(eI ids l).length∧∀ (v:Value) (j:Nat),aq I m (l.take b) v (get t j)→aq I (fun k=>m ((ids[k]?).getD 0)) ((eI ids l).take b) v (get t j):=fun b t hb=>by
    obtain⟨p1,p2⟩:=eK id (List.mem_of_getElem? hk) o' b t hl hb
    refine⟨by simpa [eI] using p1,fun v j hr=>aq.loc hr fun r hrr=>?_⟩
    obtain⟨q1,q2⟩:=p2 j r hrr
    refine⟨by simp[eI];omega,fun hv=>?_,fun hv=>?_,fun e size els hh=>⟨els,?_⟩,hm r r q2⟩
    ·rw[EG q1] at hv ⊢;exact(og q2).trans hv
    ·rw[EE q1] at hv ⊢;exact(qm q2).symm.trans hv
    rw[List.getElem?_take,if_pos q1] at hh ⊢;exact GU q2 hh
   cases o' with
   | dead=>trivial
   | var ty cs=>
    obtain⟨b,vs,q1,q2,q3,q4,q5,q6⟩:=bK
    refine⟨b,vs,q1,q2,q3,by simp[q4],fun i x t hx ht=>?_,q6⟩
    rw[List.getElem?_map] at ht
    cases hc:cs[i]? with
    | none=>rw[hc] at ht;simp at ht
    | some t0=>
     rw[hc] at ht;simp at ht;subst ht
     exact⟨(q5 i x t0 hx hc).1.dU hm,(q5 i x t0 hx hc).2⟩
   | row e size els=>exact bK
   | bx e size els=>exact bK
   | map ks vs=>exact bK
   | eP ks vs=>exact bK
   | iter ks vs done=>exact bK
   | frame b vals t=>
    obtain⟨p1,p2⟩:=pre b t rfl
    exact⟨bK.1,p1,fun j=>p2 _ j (bK.2.2 j)⟩
   | loop b n ps bp body t st eu=>
    obtain⟨b',r,q0,q1,q2,q3,q4,q5,q6⟩:=bK
    obtain⟨p1,p2⟩:=pre b t rfl
    exact⟨b',r,q0,q1,q2,q3,p1,fun j=>p2 _ j (q5 j),q6⟩
 obtain⟨o1,q1,_⟩:=bN.1 hi
 obtain⟨o2,q2,_⟩:=bN.1 hj
 obtain⟨a,ha⟩:=bF q1
 obtain⟨c,hc⟩:=bF q2
 rw[cW ha] at hi;rw[cW hc] at hj
 have bc:a≠c:=fun e=>by
  subst e
  have h1:=List.getElem?_eq_some_iff.1 ha
  have h2:=List.getElem?_eq_some_iff.1 hc
  obtain⟨h1,uM⟩:=h1;obtain⟨h2,Jx⟩:=h2
  exact cm (U8 fN ha hc)
 simp only[ha,hc,Option.getD_some]
 exact h.sep a c b bc hi hj
section
variable {P:Program} {V:Env} {s:St}
theorem aiF (ids:List Nat) {t':Tm} {l':List AO} (fN:ids.Nodup) (eK:yW ids s.l) (hl:eI ids s.l=l') (hf:sD ids s.t t'):Sub s ⟨t',l'⟩:=by
 subst hl
 intro w0 I0 n a w hr
 obtain⟨h1,I,m,h3,h2,h4⟩:=hr
 refine⟨h1,I,_,Wr h3 fN eK,h2,fun j=>?_⟩
 rcases DE hf j with h | h
 ·rw[h];exact .undef _
 rw[h];exact(h4 j).dU fun k id hk=>by simp[hk]
theorem aiD (j id:Nat) (d:D) (ids:List Nat) {ty:TypeId} {t':Tm} {l':List AO} (hj:get s.t j = .ptr id 0) (ho:s.l[id]?=some (.var ty (d.cells.map .d))) (hd:∀ x∈d.cells,x.one=true) (an:id∉ids) (fN:ids.Nodup) (eK:yW ids s.l) (hl:eI ids s.l=l') (hf:sD ids s.t t') :
  Sub s ⟨(j,.d (.box d))::t',l'⟩:=by
 subst hl
 intro w0 I0 n a w hr
 obtain⟨h1,I,m,h3,h2,h4⟩:=hr
 obtain⟨b,vs,q1,q2,q3,q4,q5,q6⟩:=h3.obj id _ ho
 have abW:=Wr h3 fN eK
 have cW:alive s.l id=true:=bN.2 ⟨_,ho,by simp⟩
 have oD:∀ k,alive (eI ids s.l) k=true→own (m ((ids[k]?).getD 0))≠some b:=by
  intro k hk
  obtain⟨o,bK,_⟩:=bN.1 hk
  have fL:=(List.getElem?_eq_some_iff.1 bK).1
  have fL:k < ids.length:=by simpa [eI] using fL
  have dD:ids[k]?=some ids[k]:=List.getElem?_eq_getElem fL
  have bc:ids[k]≠id:=fun e=>an (e▸List.getElem_mem fL)
  have hak:alive s.l ids[k]=true:=by
   unfold alive at hk ⊢;rw[og dD,qm dD] at hk;exact hk
  rw[dD]
  exact h3.sep id ids[k] b (Ne.symm bc) cW hak (by rw[q1];rfl)
 obtain⟨r1,r2⟩:=abW.ahS q2 q3 q6 oD
 refine⟨h1,_,_,r1,h2.mono r2.eF,fun k=>?_⟩
 simp only[aj.get]
 by_cases hk:j=k
 ·subst hk
  rw[if_pos rfl]
  have hv:=h4 j
  rw[hj] at hv
  generalize a.tmps.getD j undef=v at hv
  cases hv with
  | ptr _ b' _ p1 p2=>
   rw[p2] at q1;injection q1 with q1;injection q1 with q1;injection q1 with q1;subst q1
   refine .d _ _ (.box _ _ (fun k=>(vs[k]?).getD undef) hd (fun k hk=>?_) fun k x hx=>?_)
   ·have xz:k < vs.size:=by rw[q4];simpa using hk
    simp[aw.ez,xz]
   have xz:k < vs.size:=by rw[q4];simpa using (List.getElem?_eq_some_iff.1 hx).1
   have hv:vs[k]?=some vs[k]:=Array.getElem?_eq_getElem xz
   rw[hv]
   exact(cy (q5 k _ (.d x) hv (by simp[hx])).1).mono r2.eF
 rw[if_neg hk]
 rcases DE hf k with h | h
 ·rw[h];exact .undef _
 rw[h];exact((h4 k).dU fun k id hk=>by simp[hk]).mono r2
theorem aiC {s:St} {t':Tm} (h:∀ k,get t' k = .undef∨get t' k=get s.t k):Sub s ⟨t',s.l⟩:=by
 intro w0 I0 n a w hr
 obtain⟨h1,I,m,h3,h2,h4⟩:=hr
 refine⟨h1,I,m,h3,h2,fun k=>?_⟩
 rcases h k with e | e
 ·show aq I m s.l _ (get t' k);rw[e];exact .undef _
 show aq I m s.l _ (get t' k);rw[e];exact h4 k
end
end Go.Sy
