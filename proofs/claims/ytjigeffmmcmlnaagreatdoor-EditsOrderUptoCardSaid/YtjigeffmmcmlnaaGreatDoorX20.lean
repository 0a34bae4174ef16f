import Derived.Test.YtjigeffmmcmlnaaGreatDoorX19
set_option linter.all false
set_option linter.unnecessarySimpa false
set_option linter.deprecated false
set_option linter.unusedVariables false
set_option linter.unusedSimpArgs false
set_option linter.unusedSectionVars false
namespace Go.Proofs.YtjigeffmmcmlnaaGreatDoor
open Go Go.an au
@[reducible] def axi:e8:=⟨False⟩
attribute [local instance] cJ axi
def jZ (l:List ae) (id:Int):Bool:=l.any fun n=>decide (n.id=id)
def pf (l:List ae) (id:Int):Option ae:=l.find? fun n=>decide (n.id=id)
def kq (n m:List ae) (id:Int):Option (Int×ae):=match pf n id with
 | none=>none
 | some x=>if pf m id=some x then none else some (1,x)
def qj (n m:List ae):List (Int×ae):=((aE (m.map ae.id)).filter fun id=> !jZ n id).map fun id=>(2,bare id)
def jA (n m:List ae):List (Int×ae):=(aE (n.map ae.id)).filterMap (kq n m)
def jx (l:List (Int×ae)):List aa:=l.zipIdx.map fun p=>⟨p.1.1,(p.2:Int)+1,1,p.1.2⟩
theorem wo (l:List (Int×ae)):(jx l).length=l.length:=by simp[jx]
theorem SM (l:List (Int×ae)) (p:Int×ae):jx (l++[p])=jx l++[⟨p.1,(l.length:Int)+1,1,p.2⟩]:=by
 unfold jx;rw[List.zipIdx_append];simp
noncomputable def yT (s:Score) (l:List aa):List aa×Int:=
 if(ek s 1 l).2.2=0 then(jx (qj s.notes (ek s 1 l).1.notes++jA s.notes (ek s 1 l).1.notes),0) else([],(ek s 1 l).2.2)
theorem O8 {s:Score} {v:Int} {l:List aa} (h:(ek s v l).2.2=0):dO s∧(1≤v∧v≤1000000)∧l.length≤1000∧ek s v l=({ (l.foldl eZ (s,[])).1 with version:=v },(l.foldl eZ (s,[])).2,0)∧dO { (l.foldl eZ (s,[])).1 with version:=v }:=by
 unfold ek at h ⊢
 by_cases h0:1000 < l.length
 ·rw[if_pos h0] at h;cases h
 rw[if_neg h0] at h ⊢
 by_cases h1:dO s∧(1≤v∧v≤1000000)
 ·rw[if_neg fun hh=>hh h1]
  have h2:=(K7 l (s,[]) h1.1).1
  exact⟨h1.1,h1.2,by omega,rfl,⟨h1.2,h2.2.1,h2.2.2.1,h2.2.2.2.1,h2.2.2.2.2.1,h2.2.2.2.2.2⟩⟩
 rw[if_pos h1] at h;cases h
theorem VZ {l:List ae} {id:Int}:pf l id=none↔jZ l id=false:=by
 unfold pf jZ
 rw[VY]
 cases List.find? _ _<;>simp
theorem Ip (l:List ae):aA (iF ae.id l)=l.map ae.id:=by unfold aA iF;rw[List.map_map];rfl
theorem aAV {l:List ae} (hl:l.length≤1000000) (hn:(l.map ae.id).Nodup) (s:Score) (hs:s.notes=l):aH (Em s) ([],0)=some (iF ae.id l):=by
 subst hs
 rw[kn (σ:=List (Int×ae)) (st:=fun z k=>(z,k)) (step:=Em s) (l:=s.notes) (fun z x=> .inl (cq z x.id x)) (fun z=>z) (fun _ _=>True) (fun k x z hx _=>by
  have hk:=de hx
  unfold Em Ql
  dsimp only
  rw[ar (by simpa using hk),bl (bm hx),aZ (by omega)];rfl) (fun _ _ _ _ _ _ _=>trivial) (fun z _=>by unfold Em;dsimp only;rw[av (by simp)]) [] trivial,qm (fun(z:List (Int×ae)) (x:ae)=>cq z x.id x) _ _ (fun _ _ _=>rfl),K8 ae.id _ [] (by simp[aA]) hn,List.nil_append]
theorem atL {s:Score} (hl:s.notes.length≤1000000) (hn:(s.notes.map ae.id).Nodup):aH (Ej s) ([],0)=some (iF ae.id s.notes):=by
 rw[kn (σ:=List (Int×ae)) (st:=fun z k=>(z,k)) (step:=Ej s) (l:=s.notes) (fun z x=> .inl (cq z x.id x)) (fun z=>z) (fun _ _=>True) (fun k x z hx _=>by
  have hk:=de hx
  unfold Ej Qj
  dsimp only
  rw[ar (by simpa using hk),bl (bm hx),aZ (by omega)];rfl) (fun _ _ _ _ _ _ _=>trivial) (fun z _=>by unfold Ej;dsimp only;rw[av (by simp)]) [] trivial,qm (fun(z:List (Int×ae)) (x:ae)=>cq z x.id x) _ _ (fun _ _ _=>rfl),K8 ae.id _ [] (by simp[aA]) hn,List.nil_append]
theorem af2 {α β:Type} (p:α→Bool) (g:α→β):∀ (l:List α) (z:List β),l.foldl (fun z x=>if p x=true then z++[g x] else z) z=z++(l.filter p).map g
 | [],z=>by simp
 | x::l,z=>by
  rw[List.foldl_cons,af2 p g l,List.filter_cons]
  split<;>simp
theorem wC (l:List Int):(aE l).length=l.length:=(List.mergeSort_perm _ _).length_eq
theorem Mg {bars:List aT} {l:List ae} (h:gq bars l) {id:Int} (aB:id∈l.map ae.id):1≤id∧id≤1000000:=by
 obtain⟨n,hn,rfl⟩:=List.mem_map.1 aB
 obtain⟨_,_,_,_,hf,_⟩:=IF (h.2.2.1 n hn)
 exact hf.2.2.2.2.1
theorem VE {s:Score} (hb:s.bars.length≤1048576) (l:List aa):Ei s l=some (yT s l):=by
 unfold Ei yT
 rw[xZ hb,aj]
 by_cases h0:(ek s 1 l).2.2=0
 ·rw[if_pos h0]
  obtain⟨hs,_,_,e,ht⟩:=O8 h0
  rw[e] at h0 ⊢
  dsimp only at h0 ⊢
  obtain⟨t,E4,Yq⟩:∃ t:Score,({ (l.foldl eZ (s,[])).1 with version:=1 }:Score)=t∧(l.foldl eZ (s,[])).1.notes=t.notes:=⟨_,rfl,rfl⟩
  rw[E4] at ht ⊢
  rw[Yq]
  have vZ:=hs.2.2.2.1
  have xg:=ht.2.2.2.1
  have l1:=vZ.2.1
  have l2:=xg.2.1
  rw[av (by simp),aAV (by omega) vZ.2.2.2 s rfl,aj]
  unfold Qi
  rw[atL (by omega) xg.2.2.2,aj]
  unfold Qm
  rw[Ip,cu ⟨fun x hx=>by have:=Mg xg hx;unfold ax;omega,by simp[iF];omega⟩]
  have hz:=kn (σ:=List (Int×ae)) (st:=fun z k=>(jx z,k)) (step:=Ek (iF ae.id s.notes) (iF ae.id t.notes)) (l:=aE (t.notes.map ae.id)) (fun z id=> .inl (if(!jZ s.notes id)=true then z++[(2,bare id)] else z)) (fun z=>jx z) (fun k z=>z.length≤k) (fun k id z hx hz=>by
   have hk:=de hx
   rw[wC,List.length_map] at hk
   unfold Ek
   dsimp only
   rw[Ip,ar (decide_eq_true (by rw[wC,List.length_map];omega)),bl (bm hx),Pv]
   unfold KQ Qg
   by_cases hc:(!jZ s.notes id)=true
   ·have vT:(!(s.notes.any fun x=>decide (x.id=id)))=true:=hc
    rw[ar vT,aZ (by rw[wo];omega),cu (by simp[wo];omega),aj,aZ (by omega),if_pos hc,SM,wo];rfl
   ·rw[Bool.not_eq_true] at hc
    have vT:(!(s.notes.any fun x=>decide (x.id=id)))=false:=hc
    rw[av vT,aZ (by omega),if_neg (by rw[hc];simp)];rfl) (fun k id z z' hx hz h=>by
   injection h with h;subst h
   split
   ·simp;omega
   omega) (fun z _=>by unfold Ek;dsimp only;rw[Ip,av (by simp)]) [] (by simp)
  change aH (Ek (iF ae.id s.notes) (iF ae.id t.notes)) ([],0)=_ at hz
  rw[hz,qm (fun(z:List (Int×ae)) id=>if(!jZ s.notes id)=true then z++[(2,bare id)] else z) _ _ (fun _ _ _=>rfl),af2,List.nil_append,aj]
  unfold Qk
  rw[Ip,cu ⟨fun x hx=>by have:=Mg vZ hx;unfold ax;omega,by simp[iF];omega⟩]
  have Q1:(qj s.notes t.notes).length≤20000:=by
   unfold qj
   rw[List.length_map]
   have:=List.length_filter_le (fun id=> !jZ s.notes id) (aE (t.notes.map ae.id))
   rw[wC,List.length_map] at this
   omega
  change ag (aH (El (iF ae.id s.notes) (iF ae.id t.notes)) (jx (qj s.notes t.notes),0)) _=_
  rw[kn (σ:=List (Int×ae)) (st:=fun z k=>(jx z,k)) (step:=El (iF ae.id s.notes) (iF ae.id t.notes)) (l:=aE (s.notes.map ae.id)) (fun z id=> .inl (Ce z (kq s.notes t.notes id))) (fun z=>jx z) (fun k z=>z.length≤20000+k) (fun k id z hx hz=>by
   have hk:=de hx
   rw[wC,List.length_map] at hk
   have qq:=BW.1 (at_mem hx)
   unfold El VG
   dsimp only
   rw[Ip,ar (decide_eq_true (by rw[wC,List.length_map];omega)),bl (bm hx),Pv,JY,JY]
   obtain⟨x,CX,Bi⟩:=List.mem_map.1 qq
   have Q5:pf s.notes id=some x:=by
    have:=Hx (id:=ae.id) vZ.2.2.2 CX
    rw[Bi] at this;exact this
   have arI:(s.notes.find? fun y=>decide (y.id=id))=some x:=Q5
   have zF:kq s.notes t.notes id=if pf t.notes id=some x then none else some (1,x):=by unfold kq;rw[Q5]
   rw[zF,arI]
   unfold KS Qh
   dsimp only[Option.getD]
   cases hy:pf t.notes id with
   | none=>
    have yG:(t.notes.any fun y=>decide (y.id=id))=false:=VZ.1 hy
    rw[yG,Fa,aj,ar rfl,aZ (by rw[wo];omega),cu (by simp[wo];omega),aj,aZ (by omega),if_neg (by simp)]
    unfold Ce
    rw[SM,wo];rfl
   | some y=>
    have hy1:(t.notes.any fun y=>decide (y.id=id))=true:=by
     cases hh:(t.notes.any fun y=>decide (y.id=id)) with
     | true=>rfl
     | false=>rw[VZ.2 hh] at hy;cases hy
    have Mf:(t.notes.find? fun z=>decide (z.id=id))=some y:=hy
    rw[hy1,Mf,yH,aj]
    dsimp only
    by_cases he:y=x
    ·rw[av (by simp[he]),aZ (by omega),if_pos (by rw[he])];rfl
    rw[ar (by simp[he]),aZ (by rw[wo];omega),cu (by simp[wo];omega),aj,aZ (by omega),if_neg (fun h=>he (by injection h))]
    unfold Ce
    rw[SM,wo];rfl) (fun k id z z' hx hz h=>by
   injection h with h;subst h
   cases kq s.notes t.notes id with
   | none=>show z.length≤20000+(k+1);omega
   | some c=>show(z++[c]).length≤20000+(k+1);simp;omega) (fun z _=>by unfold El;dsimp only;rw[Ip,av (by simp)]) (qj s.notes t.notes) (by omega),qm (fun(z:List (Int×ae)) id=>Ce z (kq s.notes t.notes id)) _ _ (fun _ _ _=>rfl),Wb,aj]
  rfl
 rw[if_neg h0]
 dsimp only
 rw[ar (by rw[decide_eq_false h0];rfl)]
end Go.Proofs.YtjigeffmmcmlnaaGreatDoor
namespace Go.Proofs.YtjigeffmmcmlnaaGreatDoor
open Go Go.an au
@[reducible] def axj:e8:=⟨False⟩
attribute [local instance] cJ axj
def pI (id b:Int) (x:ae):Int:=if id < x.id∧(b < 0∨x.id < b) then x.id else b
theorem akG {n m:List ae} (hn:n.length≤1000000) (hm:m.length≤1000000) (id:Int):N7 n m id=some ((n++m).foldl (pI id) (-1)):=by
 unfold N7
 have h1:=kn (σ:=Int) (st:=fun z k=>(z,k)) (step:=I7 n id) (l:=n) (fun z x=> .inl (pI id z x)) (fun z=>z) (fun _ _=>True) (fun k x z hx _=>by
  have hk:=de hx
  unfold I7 ab3 N9 pI
  dsimp only
  simp only[bl (bm hx)]
  rw[ar (by simpa using hk),th,oZ,aj,aZ (by omega),aZ (by omega)]
  by_cases hc:id < x.id∧(z < 0∨x.id < z)
  ·rw[ar (by simp[hc.1];exact hc.2),if_pos hc];rfl
  rw[av (by
   rw[Bool.eq_false_iff];intro h
   simp only[Bool.and_eq_true,Bool.or_eq_true,decide_eq_true_eq] at h
   exact hc h),if_neg hc];rfl) (fun _ _ _ _ _ _ _=>trivial) (fun z _=>by unfold I7;dsimp only;rw[av (by simp)]) (-1) trivial
 rw[h1,qm (pI id) _ _ (fun _ _ _=>rfl),aj]
 unfold T6
 have h2:=kn (σ:=Int) (st:=fun z k=>(z,k)) (step:=I6 m id) (l:=m) (fun z x=> .inl (pI id z x)) (fun z=>z) (fun _ _=>True) (fun k x z hx _=>by
  have hk:=de hx
  unfold I6 ab2 N8 pI
  dsimp only
  simp only[bl (bm hx)]
  rw[ar (by simpa using hk),th,oZ,aj,aZ (by omega),aZ (by omega)]
  by_cases hc:id < x.id∧(z < 0∨x.id < z)
  ·rw[ar (by simp[hc.1];exact hc.2),if_pos hc];rfl
  rw[av (by
   rw[Bool.eq_false_iff];intro h
   simp only[Bool.and_eq_true,Bool.or_eq_true,decide_eq_true_eq] at h
   exact hc h),if_neg hc];rfl) (fun _ _ _ _ _ _ _=>trivial) (fun z _=>by unfold I6;dsimp only;rw[av (by simp)]) (n.foldl (pI id) (-1)) trivial
 rw[h2,qm (pI id) _ _ (fun _ _ _=>rfl),aj,List.foldl_append]
 rfl
theorem Pt {id:Int} (aB:0≤id):∀ (l:List ae) (b:Int),(b < 0∨id < b)→((l.foldl (pI id) b=b∨∃ x∈l,x.id=l.foldl (pI id) b∧id < x.id)∧(∀ x∈l,id < x.id→0≤l.foldl (pI id) b∧l.foldl (pI id) b≤x.id)∧(0≤b→0≤l.foldl (pI id) b∧l.foldl (pI id) b≤b))
 | [],b,_=>⟨.inl rfl,fun _ h=>(by cases h),fun h=>⟨h,Int.le_refl _⟩⟩
 | x::l,b,hb=>by
  rw[List.foldl_cons]
  by_cases hc:id < x.id∧(b < 0∨x.id < b)
  ·have e:pI id b x=x.id:=by unfold pI;rw[if_pos hc]
   rw[e]
   obtain⟨h1,h2,h3⟩:=Pt aB l x.id (.inr hc.1)
   have Lm:=h3 (by omega)
   refine⟨?_,fun y hy aN=>?_,fun h0=>?_⟩
   ·rcases h1 with h1 | ⟨y,hy,h1⟩
    ·right;exact⟨x,by simp,h1.symm,hc.1⟩
    right;exact⟨y,by simp[hy],h1⟩
   ·rcases List.mem_cons.1 hy with rfl | hy
    ·exact Lm
    exact h2 y hy aN
   omega
  have e:pI id b x=b:=by unfold pI;rw[if_neg hc]
  rw[e]
  obtain⟨h1,h2,h3⟩:=Pt aB l b hb
  refine⟨?_,fun y hy aN=>?_,h3⟩
  ·rcases h1 with h1 | ⟨y,hy,h1⟩
   ·exact .inl h1
   right;exact⟨y,by simp[hy],h1⟩
  rcases List.mem_cons.1 hy with rfl | hy
  ·have:=h3 (by omega);omega
  exact h2 y hy aN
def pA (p:Int×ae):aa:=⟨p.1,0,0,p.2⟩
theorem avP {P:List (Int×ae)} (hP:P.length≤1000000):aH FN (P.map pA,0)=some (jx P):=by
 have:=kn (σ:=Nat) (st:=fun z k=>(jx (P.take z)++(P.drop z).map pA,k)) (step:=FN) (l:=P) (fun z _=> .inl (z+1)) (fun z=>jx (P.take z)++(P.drop z).map pA) (fun k z=>z=k) (fun k p z hx hz=>by
  subst hz
  have hk:=de hx
  have hd:P.drop z=p::P.drop (z+1):=by
   rw[List.drop_eq_getElem_cons hk]
   rw[List.getElem?_eq_getElem hk] at hx
   injection hx with hx;rw[hx]
  have ht:P.take (z+1)=P.take z++[p]:=by rw[List.take_add_one,hx];rfl
  have hl:(jx (P.take z)).length=z:=by rw[wo,List.length_take];omega
  have tl:(P.take z).length=z:=by rw[List.length_take];omega
  unfold FN T2
  dsimp only
  rw[hd,List.map_cons,ht,SM,tl]
  have g1:(jx (P.take z)++pA p::(P.drop (z+1)).map pA)[z]?=some (pA p):=by
   rw[List.getElem?_append_right (by omega),hl];simp
  have s1:∀ x y:aa,(jx (P.take z)++x::(P.drop (z+1)).map pA).set z y=jx (P.take z)++y::(P.drop (z+1)).map pA:=fun x y=>by
   rw[List.set_append_right _ _ (by omega),hl];simp
  rw[ar (by
   refine decide_eq_true ?_
   rw[List.length_append,hl];simp;omega),aZ (by omega),bl (bm g1),Int.toNat_natCast,s1]
  have g2:∀ x:aa,(jx (P.take z)++x::(P.drop (z+1)).map pA)[z]?=some x:=fun x=>by
   rw[List.getElem?_append_right (by omega),hl];simp
  rw[bl (bm (g2 _)),s1,aZ (by omega)]
  simp[pA]) (fun k p z z' _ hz h=>by injection h with h;omega) (fun z hz=>by
  subst hz
  unfold FN
  dsimp only
  rw[List.take_length,List.drop_length,List.map_nil,List.append_nil,av (decide_eq_false (by rw[wo];omega))]) 0 rfl
 simp only[List.take_zero,List.drop_zero] at this
 have e:jx []++P.map pA=P.map pA:=rfl
 rw[e] at this
 rw[this]
 have key:∀ (l:List (Int×ae)) (z:Nat),pK (fun(z:Nat) (_:Int×ae)=>(.inl (z+1):Nat⊕List aa)) (fun z=>jx (P.take z)++(P.drop z).map pA) l z=jx (P.take (z+l.length))++(P.drop (z+l.length)).map pA:=by
  intro l
  induction l with
  | nil=>intro z;rfl
  | cons x l ih=>intro z;simp only[pK,List.length_cons];rw[ih,show z+1+l.length=z+(l.length+1) by omega]
 rw[key]
 simp
theorem FD {n m:List ae} {id:Int} {p:Int×ae} (h:kq n m id=some p):p.2.id=id∧p.1=1∧pf n id=some p.2∧pf m id≠some p.2:=by
 unfold kq at h
 cases hx:pf n id with
 | none=>rw[hx] at h;cases h
 | some x=>
  rw[hx] at h
  dsimp only at h
  split at h
  ·cases h
  rename_i ba
  injection h with h;subst h
  have:=List.find?_some hx
  exact⟨by simpa using this,rfl,rfl,ba⟩
theorem VX {l:List ae} {id:Int} {x:ae} (h:pf l id=some x):x∈l∧x.id=id:=⟨List.mem_of_find?_eq_some h,by simpa using List.find?_some h⟩
theorem HL {l:List ae} {id:Int}:jZ l id=true↔id∈l.map ae.id:=by
 unfold jZ;rw[List.any_eq_true,List.mem_map];simp
def u9 (n m:List ae):List Int:=aE (n.map ae.id++(m.map ae.id).filter fun id=> !jZ n id)
theorem H7 {n m:List ae} {id:Int}:id∈u9 n m↔id∈n.map ae.id∨id∈m.map ae.id:=by
 unfold u9
 rw[BW,List.mem_append,List.mem_filter]
 constructor
 ·rintro(h | h)
  ·exact .inl h
  exact .inr h.1
 rintro(h | h)
 ·exact .inl h
 by_cases hh:jZ n id=true
 ·exact .inl (HL.1 hh)
 exact .inr ⟨h,by simp at hh;simp[hh]⟩
theorem YK {n m:List ae} (hn:(n.map ae.id).Nodup) (hm:(m.map ae.id).Nodup):(u9 n m).Pairwise fun a b=>a < b:=by
 refine Ox _ ?_
 rw[List.nodup_append]
 refine⟨hn,hm.sublist List.filter_sublist,fun a ha b hb e=>?_⟩
 subst e
 have:=(List.mem_filter.1 hb).2
 rw[HL.2 ha] at this;cases this
def uL (n:List ae) (l:List Int):List (Int×ae):=(l.filter fun id=> !jZ n id).map fun id=>(2,bare id)
theorem aAt {s t:Score} (vZ:gq s.bars s.notes) (xg:gq t.bars t.notes):∀ (Jv pre:List Int) (id:Int),pre++Jv=u9 s.notes t.notes→0≤id→(∀ u∈pre,u≤id)→(∀ u∈Jv,id < u) →
  aH (FO s t) ((uL s.notes pre).map pA,(pre.filterMap (kq s.notes t.notes)).map pA,id)=some ((uL s.notes (u9 s.notes t.notes)).map pA,((u9 s.notes t.notes).filterMap (kq s.notes t.notes)).map pA):=by
 have l1:=vZ.2.1
 have l2:=xg.2.1
 have ahk:(u9 s.notes t.notes).length≤40000:=by
  unfold u9
  rw[wC,List.length_append,List.length_map]
  have:=List.length_filter_le (fun id=> !jZ s.notes id) (t.notes.map ae.id)
  rw[List.length_map] at this
  omega
 intro Jv
 induction Jv with
 | nil=>
  intro pre id hU aB yz ahZ
  rw[List.append_nil] at hU
  subst hU
  obtain⟨h1,h2,h3⟩:=Pt aB (s.notes++t.notes) (-1) (.inl (by omega))
  have hr:(s.notes++t.notes).foldl (pI id) (-1) = -1:=by
   rcases h1 with h1 | ⟨x,hx,h1,aN⟩
   ·exact h1
   have:x.id∈u9 s.notes t.notes:=H7.2 (by
    rcases List.mem_append.1 hx with hx | hx
    ·exact .inl (List.mem_map.2 ⟨x,hx,rfl⟩)
    exact .inr (List.mem_map.2 ⟨x,hx,rfl⟩))
   have:=yz _ this;omega
  refine si ?_
  unfold FO
  dsimp only
  rw[ar (decide_eq_true aB),akG (by omega) (by omega),aj,hr,ar (by simp)]
 | cons h Jv ih=>
  intro pre id hU aB yz ahZ
  obtain⟨h1,h2,h3⟩:=Pt aB (s.notes++t.notes) (-1) (.inl (by omega))
  have aN:=ahZ h (by simp)
  have ahY:(pre++h::Jv).Pairwise fun a b=>a < b:=by rw[hU];exact YK vZ.2.2.2 xg.2.2.2
  have hhm:h∈u9 s.notes t.notes:=by rw[←hU];simp
  have hex:∃ x∈s.notes++t.notes,x.id=h:=by
   rcases H7.1 hhm with hm | hm
   ·obtain⟨x,hx,he⟩:=List.mem_map.1 hm;exact⟨x,List.mem_append_left _ hx,he⟩
   obtain⟨x,hx,he⟩:=List.mem_map.1 hm;exact⟨x,List.mem_append_right _ hx,he⟩
  obtain⟨x0,CS,he0⟩:=hex
  have hr:(s.notes++t.notes).foldl (pI id) (-1)=h:=by
   have uO:=h2 x0 CS (by omega)
   rcases h1 with h1 | ⟨x,hx,h1,aEa⟩
   ·omega
   have CX:x.id∈u9 s.notes t.notes:=H7.2 (by
    rcases List.mem_append.1 hx with hx | hx
    ·exact .inl (List.mem_map.2 ⟨x,hx,rfl⟩)
    exact .inr (List.mem_map.2 ⟨x,hx,rfl⟩))
   rw[←hU] at CX
   have:h≤x.id:=by
    rcases List.mem_append.1 CX with hp | hp
    ·have:=yz _ hp;omega
    rcases List.mem_cons.1 hp with hp | hp
    ·omega
    have:=(List.pairwise_cons.1 (List.pairwise_append.1 ahY).2.1).1 _ hp;omega
   omega
  have ihh:=ih (pre++[h]) h (by rw[←hU];simp) (by omega) (fun u hu=>by
   rcases List.mem_append.1 hu with hu | hu
   ·have:=yz u hu;omega
   simp at hu;omega) (fun u hu=>(List.pairwise_cons.1 (List.pairwise_append.1 ahY).2.1).1 u hu)
  rw[←ihh]
  have xe:pre.length≤40000:=by rw[←hU] at ahk;simp at ahk;omega
  have Q1:(uL s.notes pre).length≤40000:=by
   unfold uL;rw[List.length_map]
   have:=List.length_filter_le (fun id=> !jZ s.notes id) pre
   omega
  have aEb:(pre.filterMap (kq s.notes t.notes)).length≤40000:=by
   have:=List.length_filterMap_le (kq s.notes t.notes) pre
   omega
  refine vl ?_
  unfold FO
  dsimp only
  rw[ar (decide_eq_true aB),akG (by omega) (by omega),aj,hr,av (decide_eq_false (by omega)),NA (by omega),NA (by omega),aj,aj]
  have aoo:uL s.notes (pre++[h])=uL s.notes pre++uL s.notes [h]:=by unfold uL;rw[List.filter_append,List.map_append]
  rw[aoo,List.filterMap_append,List.map_append,List.map_append]
  rcases zO s.notes fun n=>decide (n.id=h) with ⟨g1,g2⟩ | ⟨i,x,g1,g2,g3,g4⟩
  ·have ca:jZ s.notes h=false:=VZ.1 g1
   have e1:uL s.notes [h]=[(2,bare h)]:=by unfold uL;simp[ca]
   have e2:[h].filterMap (kq s.notes t.notes)=[]:=by
    have:kq s.notes t.notes h=none:=by unfold kq;rw[show pf s.notes h=none from g1]
    simp[this]
   rw[g2,ar (by simp),e1,e2,cu (by simp;omega)]
   simp[pA,bare]
  have CY:jZ s.notes h=true:=HL.2 (List.mem_map.2 ⟨x,at_mem g1,by simpa using g4⟩)
  have e1:uL s.notes [h]=[]:=by unfold uL;simp[CY]
  have e2:kq s.notes t.notes h=if pf t.notes h=some x then none else some (1,x):=by unfold kq;rw[show pf s.notes h=some x from g2]
  rw[g3,av (decide_eq_false (by omega)),e1]
  unfold abX
  rcases zO t.notes fun n=>decide (n.id=h) with ⟨q1,q2⟩ | ⟨j,y,q1,q2,q3,q4⟩
  ·have e3:[h].filterMap (kq s.notes t.notes)=[(1,x)]:=by
    rw[show pf t.notes h=none from q1,if_neg (by simp)] at e2
    simp[e2]
   rw[q2,ar (by simp),aj,ar rfl,bl (bm g1),e3,cu (by simp;omega)]
   simp[pA]
  rw[q3,av (decide_eq_false (by omega)),bl (bm g1),bl (bm q1),aj,bl (bm g1)]
  rw[show pf t.notes h=some y from q2] at e2
  by_cases he:x=y
  ·have e3:[h].filterMap (kq s.notes t.notes)=[]:=by
    rw[if_pos (by rw[he])] at e2
    simp[e2]
   rw[av (by simp[he]),e3];simp
  have e3:[h].filterMap (kq s.notes t.notes)=[(1,x)]:=by
   rw[if_neg (fun h=>he (by injection h with h;exact h.symm))] at e2
   simp[e2]
  rw[ar (by simp[he]),e3,cu (by simp;omega)]
  simp[pA]
theorem aof {n m:List ae} (hn:(n.map ae.id).Nodup) (hm:(m.map ae.id).Nodup):uL n (u9 n m)=qj n m:=by
 unfold uL qj
 congr 1
 refine Jf (R:=fun a b:Int=>a < b) (fun a b h1 h2=>by omega) ((YK hn hm).sublist List.filter_sublist) ((Ox _ hm).sublist List.filter_sublist) fun id=>?_
 rw[List.mem_filter,List.mem_filter,H7,BW]
 constructor
 ·rintro⟨h1 | h1,h2⟩
  ·rw[HL.2 h1] at h2;cases h2
  exact⟨h1,h2⟩
 rintro⟨h1,h2⟩;exact⟨.inr h1,h2⟩
theorem axY {n m:List ae} (hn:(n.map ae.id).Nodup) (hm:(m.map ae.id).Nodup):(u9 n m).filterMap (kq n m)=jA n m:=by
 unfold jA
 have hs:∀ {l:List Int},(l.Pairwise fun a b=>a < b)→(l.filterMap (kq n m)).Pairwise fun p q=>p.2.id < q.2.id:=fun h=>by
  rw[List.pairwise_filterMap]
  refine h.imp fun {i j} cj=>?_
  intro p hp q hq
  rw[(FD hp).1,(FD hq).1];exact cj
 refine Jf (R:=fun p q:Int×ae=>p.2.id < q.2.id) (fun a b h1 h2=>by omega) (hs (YK hn hm)) (hs (Ox _ hn)) fun p=>?_
 rw[List.mem_filterMap,List.mem_filterMap]
 constructor
 ·rintro⟨id,h1,h2⟩
  obtain⟨e1,_,e3,_⟩:=FD h2
  obtain⟨m1,m2⟩:=VX e3
  exact⟨id,BW.2 (List.mem_map.2 ⟨p.2,m1,m2⟩),h2⟩
 rintro⟨id,h1,h2⟩;exact⟨id,H7.2 (.inl (BW.1 h1)),h2⟩
theorem azh (s:Score) (l:List aa):N4 s l=some (yT s l):=by
 unfold N4 yT
 rw[akC,aj]
 by_cases h0:(ek s 1 l).2.2=0
 ·rw[if_pos h0]
  obtain⟨hs,_,_,e,ht⟩:=O8 h0
  rw[e] at h0 ⊢
  dsimp only at h0 ⊢
  obtain⟨t,E4,Yq⟩:∃ t:Score,({ (l.foldl eZ (s,[])).1 with version:=1 }:Score)=t∧(l.foldl eZ (s,[])).1.notes=t.notes:=⟨_,rfl,rfl⟩
  rw[E4] at ht ⊢
  rw[Yq]
  have vZ:=hs.2.2.2.1
  have xg:=ht.2.2.2.1
  have hl:=aAt vZ xg (u9 s.notes t.notes) [] 0 rfl (Int.le_refl _) (fun _ h=>by cases h) (fun u hu=>by
   rcases H7.1 hu with hu | hu
   ·have:=Mg vZ hu;omega
   have:=Mg xg hu;omega)
  change aH (FO s t) ([],[],0)=_ at hl
  rw[av (by simp),hl,aj]
  dsimp only
  rw[aof vZ.2.2.2 xg.2.2.2,axY vZ.2.2.2 xg.2.2.2]
  have l1:=vZ.2.1
  have l2:=xg.2.1
  have hd:(qj s.notes t.notes).length≤20000:=by
   unfold qj
   rw[List.length_map]
   have:=List.length_filter_le (fun id=> !jZ s.notes id) (aE (t.notes.map ae.id))
   rw[wC,List.length_map] at this
   omega
  have hp:(jA s.notes t.notes).length≤20000:=by
   unfold jA
   have:=List.length_filterMap_le (kq s.notes t.notes) (aE (s.notes.map ae.id))
   rw[wC,List.length_map] at this
   omega
  unfold T1 T3
  rw[cu (by simp;omega),←List.map_append,avP (by simp;omega),aj]
 rw[if_neg h0]
 dsimp only
 rw[ar (by rw[decide_eq_false h0];rfl)]
end Go.Proofs.YtjigeffmmcmlnaaGreatDoor
namespace Go.Proofs.YtjigeffmmcmlnaaGreatDoor
open Go Go.an au
@[reducible] def axk:e8:=⟨False⟩
attribute [local instance] cJ axk
theorem atC (p0:Score) (p1 p2:aa) (p3 p4:List aa):Sl p0 p1 p2 p3 p4=tT p3 p4:=rfl
theorem atD (p0:Score) (p1 p2:aa) (p3:List aJ) (p4:List aa) (p5 p6 p7:Score) (p8 p9:List aa):Sp p0 p1 p2 p3 p4 p5 p6 p7 p8 p9=tT p8 p9:=rfl
def G2:aT:=⟨1,⟨4,1⟩,0⟩
def yP:Part:=⟨1,0,0,0,1,⟨0,0⟩,⟨0,0,0⟩,⟨0,0,8⟩⟩
def nt (o:Int):ae:=⟨7,1,1,0,0,⟨0,1⟩,⟨1,1⟩,⟨0,0,o⟩⟩
def sc (v:Int) (n:ae):Score:=⟨v,[G2],[yP],[n]⟩
theorem alg (at_:List (Int×Int)) (n:ae):oK at_ [n]=[n]:=by unfold oK bD;simp
theorem acp {v:Int} {n:ae} (hv:1≤v∧v≤1000000) (hn:gq [G2] [n]) (hw:fS [yP] [n]=0):dO (sc v n):=
 ⟨hv,hn.1,by show vn [yP];decide +kernel,hn,hw,alg _ _⟩
theorem n4:gq [G2] [nt 4]:=by decide +kernel
theorem n5:gq [G2] [nt 5]:=by decide +kernel
theorem n9:gq [G2] [nt 9]:=by decide +kernel
theorem w4:fS [yP] [nt 4]=0:=by decide +kernel
theorem w5:fS [yP] [nt 5]=0:=by decide +kernel
theorem w9:fS [yP] [nt 9]=20:=by decide +kernel
theorem Vy {v:Int} {n:ae} (hs:dO (sc v n)) {x:aa} (hx:eV x) (hk:x.kind=1) (hi:n.id=x.note.id) (hn:gq [G2] [x.note]):bs (sc v n) x=if fS [yP] [x.note]=0 then(sc v x.note,0) else(sc v n,fS [yP] [x.note]):=by
 have e:less (sc v n).notes x.note.id++[x.note]=[x.note]:=by unfold less sc;simp[hi]
 have ew:nU (sc v n) (sc v n).version [x.note]=if fS [yP] [x.note]=0 then(sc v x.note,0) else(DK,fS [yP] [x.note]):=by
  unfold nU
  rw[if_pos ⟨hs,hs.1,hn⟩,alg];rfl
 unfold bs
 rw[if_neg fun h=>h hx,if_neg (by omega),e,ew]
 by_cases hw:fS [yP] [x.note]=0
 ·simp only[if_pos hw,if_true]
 simp only[if_neg hw]
theorem Is:zW=some true:=by
 have e4:Bt 7 4=some (nt 4):=rfl
 have e5:Bt 7 5=some (nt 5):=rfl
 have e9:Bt 7 9=some (nt 9):=rfl
 have er:It 4 1=some ⟨4,1⟩:=rfl
 have esc:(⟨1,[⟨1,⟨4,1⟩,0⟩],[⟨1,0,0,0,1,⟨0,0⟩,⟨0,0,0⟩,⟨0,0,8⟩⟩],[nt 4]⟩:Score)=sc 1 (nt 4):=rfl
 have s1:=acp (v:=1) (by omega) n4 w4
 have s3:=acp (v:=3) (by omega) n5 w5
 have s15:=acp (v:=1) (by omega) n5 w5
 have hb:(sc 1 (nt 4)).bars.length≤1048576:=by decide
 have HM:(sc 3 (nt 5)).bars.length≤1048576:=by decide
 have k1:eV ⟨1,6,2,nt 5⟩:=by decide +kernel
 have k2:eV ⟨2,7,2,bare 9⟩:=by decide +kernel
 have k3:eV ⟨1,1,1,nt 4⟩:=by decide +kernel
 have k4:eV ⟨1,6,2,nt 9⟩:=by decide +kernel
 have k5:¬ eV ⟨0,0,0,bare 0⟩:=by decide +kernel
 have m1:fZ [⟨2,5,1,bare 7⟩] [⟨1,6,2,nt 5⟩]=([⟨1,6,2,nt 5⟩],[⟨7,⟨2,5,1,bare 7⟩,⟨1,6,2,nt 5⟩⟩],0):=by
  have ha:eN ([⟨2,5,1,bare 7⟩]++[⟨1,6,2,nt 5⟩]):=by
   intro x hx y hy h1 h2
   simp at hx hy
   rcases hx with rfl | rfl<;>rcases hy with rfl | rfl<;>simp_all
  have hl:ju ([⟨2,5,1,bare 7⟩]++[⟨1,6,2,nt 5⟩])=[(7,⟨1,6,2,nt 5⟩)]:=by decide +kernel
  have iZ:ju [⟨2,5,1,bare 7⟩]=[(7,⟨2,5,1,bare 7⟩)]:=by decide +kernel
  have hc:eF [⟨2,5,1,bare 7⟩] [⟨1,6,2,nt 5⟩] 7=some ⟨7,⟨2,5,1,bare 7⟩,⟨1,6,2,nt 5⟩⟩:=by decide +kernel
  have hv:(([⟨2,5,1,bare 7⟩]++[⟨1,6,2,nt 5⟩]:List aa).any fun x=> !decide (eV x))=false:=by decide +kernel
  unfold fZ fN od
  rw[if_neg (by decide),if_neg (by rw[hv];simp),if_neg fun h=>h ha,hl,iZ]
  simp[bT,aA,bD,aE,hc]
 have m2:fZ [⟨2,5,1,bare 7⟩] [⟨2,5,1,bare 8⟩]=([],[],61):=by
  have ha:¬ eN ([⟨2,5,1,bare 7⟩]++[⟨2,5,1,bare 8⟩]):=fun h=>by
   have:=h ⟨2,5,1,bare 7⟩ (by simp) ⟨2,5,1,bare 8⟩ (by simp) rfl rfl
   revert this;decide +kernel
  have hv:(([⟨2,5,1,bare 7⟩]++[⟨2,5,1,bare 8⟩]:List aa).any fun x=> !decide (eV x))=false:=by decide +kernel
  unfold fZ
  rw[if_neg (by decide),if_neg (by rw[hv];simp),if_pos ha]
 have c1:bs (sc 1 (nt 4)) ⟨1,6,2,nt 5⟩=(sc 1 (nt 5),0):=by rw[Vy s1 k1 rfl rfl n5,if_pos w5]
 have c2:bs (sc 1 (nt 5)) ⟨2,7,2,bare 9⟩=(sc 1 (nt 5),23):=by
  unfold bs
  rw[if_neg fun h=>h k2,if_pos rfl,if_pos (by decide +kernel)]
 have c3:bs (sc 3 (nt 5)) ⟨1,1,1,nt 4⟩=(sc 3 (nt 4),0):=by rw[Vy s3 k3 rfl rfl n4,if_pos w4]
 have c4:bs (sc 1 (nt 4)) ⟨1,6,2,nt 9⟩=(sc 1 (nt 4),20):=by rw[Vy s1 k4 rfl rfl n9];dsimp only;rw[w9,if_neg (by decide)]
 have c5:bs (sc 1 (nt 4)) ⟨0,0,0,bare 0⟩=(sc 1 (nt 4),1):=by unfold bs;rw[if_pos k5]
 have a1:ek (sc 1 (nt 4)) 3 ([⟨1,6,2,nt 5⟩]++[⟨2,7,2,bare 9⟩])=(sc 3 (nt 5),[0,23],0):=by
  unfold ek
  rw[if_neg (by decide),if_neg fun h=>h ⟨s1,by omega⟩]
  simp only[List.cons_append,List.nil_append,List.foldl_cons,List.foldl_nil,eZ,c1,c2]
  rfl
 have a2:ek (sc 1 (nt 4)) 1 [⟨1,6,2,nt 5⟩]=(sc 1 (nt 5),[0],0):=by
  unfold ek
  rw[if_neg (by decide),if_neg fun h=>h ⟨s1,by omega⟩]
  simp only[List.foldl_cons,List.foldl_nil,eZ,c1]
  rfl
 have u1:yT (sc 1 (nt 4)) [⟨1,6,2,nt 5⟩]=([⟨1,1,1,nt 4⟩],0):=by
  unfold yT
  rw[a2]
  dsimp only
  rw[if_pos rfl]
  have d1:qj (sc 1 (nt 4)).notes (sc 1 (nt 5)).notes=[]:=by
   unfold qj
   rw[show(sc 1 (nt 5)).notes.map ae.id=[7] from rfl,show aE [7]=[7] by simp[aE],show([7]:List Int).filter (fun id=> !jZ (sc 1 (nt 4)).notes id)=[] by decide +kernel];rfl
  have d2:jA (sc 1 (nt 4)).notes (sc 1 (nt 5)).notes=[(1,nt 4)]:=by
   unfold jA
   rw[show(sc 1 (nt 4)).notes.map ae.id=[7] from rfl,show aE [7]=[7] by simp[aE]]
   decide +kernel
  rw[d1,d2];rfl
 have a3:ek (sc 3 (nt 5)) 1 [⟨1,1,1,nt 4⟩]=(sc 1 (nt 4),[0],0):=by
  unfold ek
  rw[if_neg (by decide),if_neg fun h=>h ⟨s3,by omega⟩]
  simp only[List.foldl_cons,List.foldl_nil,eZ,c3]
  rfl
 have a4:ek (sc 1 (nt 4)) 3 [⟨1,6,2,nt 9⟩,⟨0,0,0,bare 0⟩]=(sc 3 (nt 4),[20,1],0):=by
  unfold ek
  rw[if_neg (by decide),if_neg fun h=>h ⟨s1,by omega⟩]
  simp only[List.foldl_cons,List.foldl_nil,eZ,c4,c5]
  rfl
 have a5:ek (sc 1 (nt 4)) 0 []=(DK,[],1):=by
  unfold ek
  rw[if_neg (by decide),if_pos fun h=>by omega]
 unfold zW
 rw[er,aj,e4,aj,e5,aj]
 simp only[esc]
 rw[atC,ya (by decide) (by decide),aj]
 rw[m1]
 dsimp only
 rw[cu (by decide),xZ hb,aj]
 rw[a1]
 dsimp only
 rw[VE hb,aj,u1]
 dsimp only
 rw[xZ HM,aj,a3]
 dsimp only
 rw[e9,aj,xZ hb,aj]
 rw[a4]
 dsimp only
 rw[atD,ya (by decide) (by decide),aj]
 rw[m2]
 dsimp only
 rw[xZ hb,aj,a5]
 dsimp only
 have r1:Z6 0 0 0 0 0 61 1=some true:=by decide +kernel
 rw[r1,aj]
 unfold Z7
 rw[ar rfl,I2 (by decide),aj,ar (by decide +kernel),abU (by decide),aj,ar (by decide +kernel),abV (by decide),aj,ar (by decide +kernel),abV (by decide),aj,aj]
 unfold Z8 z7 TG
 rw[ar (by decide +kernel),ar (by decide +kernel),ar (by decide +kernel),show aP (sc 3 (nt 5)).notes 0=some (nt 5) from rfl,aj,e5,aj,ar (by decide +kernel),abE (by decide),abF (by decide),aks (by decide)]
 decide +kernel
theorem TF {a b:Score} (h1:a.bars.length≤1048576) (h2:a.parts.length≤1048576) (h3:a.notes.length≤1048576):z7 a b=some (decide (a=b)):=by
 unfold z7 TG
 rw[abE h1,abF h2,aks h3,aj,aj,aj,oZ,oZ,oZ,aj]
 congr 1
 rw[Bool.eq_iff_iff,decide_eq_true_iff]
 cases a;cases b
 simp
theorem aeY {s:Score} (hs:s.bars.length≤1048576) (v:Int) (l:List aa):(ek s v l).1.bars.length≤1048576∧(ek s v l).1.parts.length≤1048576∧(ek s v l).1.notes.length≤1048576∧(ek s v l).2.1.length≤1048576:=by
 by_cases h:(ek s v l).2.2=0
 ·obtain⟨Yl,_,hl,e,ht⟩:=O8 h
  obtain⟨_,h2⟩:=K7 l (s,[]) Yl
  rw[e]
  have b1:=ht.2.1.1.2
  have b2:=ht.2.2.1.1.2
  have b3:=ht.2.2.2.1.2.1
  dsimp only at b1 b2 b3 h2 ⊢
  refine⟨by omega,by omega,by omega,?_⟩
  rw[h2];simp;omega
 unfold ek at h ⊢
 split
 ·simp[DK]
 split
 ·simp[DK]
 rename_i h1 h2
 rw[if_neg h1,if_neg h2] at h;exact absurd rfl h
theorem Fs {a b:List aa}:(fZ a b).1.length≤1048576∧(fZ a b).2.1.length≤1048576:=by
 unfold fZ
 split
 ·simp
 rename_i h0
 split
 ·simp
 split
 ·simp
 dsimp only
 have h1:(fN (a++b)).length≤(a++b).length:=by
  have:=(zV (a++b)).2.2
  unfold fN
  rw[(vt aQ _).length_eq];unfold bT;rw[List.length_map];omega
 have h2:(od a b).length≤a.length:=by
  have:=(zV a).2.2
  unfold od
  have h3:=List.length_filterMap_le (eF a b) (aE (aA (ju a)))
  rw[wC] at h3
  unfold aA at h3
  rw[List.length_map] at h3;unfold aA;omega
 rw[List.length_append] at h0 h1
 omega
theorem aAr {s:Score} (l:List aa):(yT s l).1.length≤1048576:=by
 unfold yT
 split
 ·rename_i h
  obtain⟨Yl,_,hl,e,ht⟩:=O8 h
  dsimp only
  rw[wo,List.length_append]
  have l1:=Yl.2.2.2.1.2.1
  have l2:(ek s 1 l).1.notes.length≤20000:=by rw[e];exact ht.2.2.2.1.2.1
  have hd:(qj s.notes (ek s 1 l).1.notes).length≤20000:=by
   unfold qj
   rw[List.length_map]
   have:=List.length_filter_le (fun id=> !jZ s.notes id) (aE ((ek s 1 l).1.notes.map ae.id))
   rw[wC,List.length_map] at this
   omega
  have hp:(jA s.notes (ek s 1 l).1.notes).length≤20000:=by
   unfold jA
   have:=List.length_filterMap_le (kq s.notes (ek s 1 l).1.notes) (aE (s.notes.map ae.id))
   rw[wC,List.length_map] at this
   omega
  omega
 simp
theorem aEf {β:Type} (c:Bool) (x y:β):ak c (some x) (some y)=some (if c=true then x else y):=by cases c<;>rfl
theorem auR {s:Score} (v:Int) {a b:List aa} (hs:s.bars.length≤1048576) (ha:a.length≤1048576) (hb:b.length≤1048576):Se s v a b=some true:=by
 unfold Se
 have uX:∃ c,Sf s a b=some c:=by
  unfold Sf IT Tv NT abP
  simp only[oZ,th,RG,aj]
  exact⟨_,rfl⟩
 obtain⟨c,hc⟩:=uX
 rw[Is,aj,hc,aj]
 cases c
 ·rw[av rfl,xZ hs,akC,aj]
  obtain⟨b1,b2,b3,b4⟩:=aeY hs v a
  generalize ek s v a=p at *
  obtain⟨x,es,e⟩:=p
  dsimp only at b1 b2 b3 b4 ⊢
  rw[aj]
  dsimp only
  unfold ZL
  rw[ar rfl,TF b1 b2 b3,aj,ar (by simp),abV b4,aj,ar (by simp),aj,ya ha hb,azf ha hb,aj]
  obtain⟨m1,m2⟩:=Fs (a:=a) (b:=b)
  generalize fZ a b=p at *
  obtain⟨l,cs,e2⟩:=p
  dsimp only at m1 m2 ⊢
  rw[aj]
  dsimp only
  unfold ZM
  rw[ar (by simp),I2 m1,aj,ar (by simp),abU m2,aj,ar (by simp),aj,VE hs,azh,aj]
  have u1:=aAr (s:=s) a
  generalize yT s a=p at *
  obtain⟨l2,e3⟩:=p
  dsimp only at u1 ⊢
  rw[aj]
  dsimp only
  unfold ZN
  rw[ar (by simp),I2 u1,aj,ar (by simp),aj]
  simp
 rw[ar rfl]
end Go.Proofs.YtjigeffmmcmlnaaGreatDoor
