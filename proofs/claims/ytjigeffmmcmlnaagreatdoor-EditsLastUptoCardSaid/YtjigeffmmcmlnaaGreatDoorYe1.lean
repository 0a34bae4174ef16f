import Derived.Test.YtjigeffmmcmlnaaGreatDoorYd1
set_option linter.all false
set_option linter.unnecessarySimpa false
set_option linter.deprecated false
set_option linter.unusedVariables false
set_option linter.unusedSimpArgs false
set_option linter.unusedSectionVars false
namespace Go.Proofs.YtjigeffmmcmlnaaGreatDoor
open Go Go.an au
@[reducible] def axo:e8:=⟨False⟩
attribute [local instance] cJ axo
def xq (l:List aa):List (Int×Bool):=l.foldl (fun m x=>cq m x.note.id true) []
theorem atF (l:List aa):(aA (xq l)).Nodup∧(∀ k,k∈aA (xq l)↔∃ x∈l,x.note.id=k)∧(∀ k,k∈aA (xq l)→aV (xq l) k false=true)∧(xq l).length≤l.length:=by
 unfold xq
 have key:∀ (l:List aa) (m:List (Int×Bool)),(aA m).Nodup→(∀ k,k∈aA m→aV m k false=true)→(aA (l.foldl (fun m x=>cq m x.note.id true) m)).Nodup∧(∀ k,k∈aA (l.foldl (fun m x=>cq m x.note.id true) m)↔k∈aA m∨∃ x∈l,x.note.id=k)∧(∀ k,k∈aA (l.foldl (fun m x=>cq m x.note.id true) m)→aV (l.foldl (fun m x=>cq m x.note.id true) m) k false=true)∧(l.foldl (fun m x=>cq m x.note.id true) m).length≤m.length+l.length:=by
  intro l
  induction l with
  | nil=>intro m hm hg;exact⟨hm,fun k=>by simp,hg,by simp⟩
  | cons x l ih=>
   intro m hm hg
   obtain⟨g1,g2⟩:=Zu x.note.id true m hm
   obtain⟨h1,h2,h3,h4⟩:=ih (cq m x.note.id true) g1 (fun k hk=>by
    rw[MP]
    split
    ·rfl
    rename_i ba;exact hg k (((g2 k).1 hk).resolve_left ba))
   have hlen:=SE x.note.id true m
   rw[List.foldl_cons]
   refine⟨h1,fun k=>?_,h3,?_⟩
   ·rw[h2,g2]
    constructor
    ·rintro((rfl | h) | ⟨y,hy,he⟩)
     ·exact .inr ⟨x,by simp,rfl⟩
     ·exact .inl h
     exact .inr ⟨y,by simp[hy],he⟩
    rintro(h | ⟨y,hy,he⟩)
    ·exact .inl (.inr h)
    rcases List.mem_cons.1 hy with rfl | hy
    ·exact .inl (.inl he.symm)
    exact .inr ⟨y,hy,he⟩
   rw[List.length_cons];split at hlen<;>omega
 obtain⟨h1,h2,h3,h4⟩:=key l [] (by simp[aA]) (by simp[aA])
 exact⟨h1,fun k=>by rw[h2];simp[aA],h3,by simpa using h4⟩
theorem ak6 {l m:List Int} (hl:l.Nodup) (hm:m.Nodup) (h:∀ k,k∈l↔k∈m):l.length=m.length:=((List.perm_ext_iff_of_nodup hl hm).2 h).length_eq
theorem atE {l:List aa} (hl:l.length≤1000) (a b:List aa) (he:([]++a)++b=l):aH (Fm a b) ([],0)=some (xq l):=by
 subst he
 rw[kn (σ:=List (Int×Bool)) (st:=fun z k=>(z,k)) (step:=Fm a b) (l:=([]++a)++b) (fun z x=> .inl (cq z x.note.id true)) (fun z=>z) (fun _ _=>True) (fun k x z hx _=>by
  have hk:=de hx
  unfold Fm Sc
  dsimp only
  rw[ar (decide_eq_true (by omega)),bl (bm hx),aZ (by omega)];rfl) (fun _ _ _ _ _ _ _=>trivial) (fun z _=>by unfold Fm;dsimp only;rw[av (decide_eq_false (by omega))]) [] trivial,qm (fun(z:List (Int×Bool)) (x:aa)=>cq z x.note.id true) _ _ (fun _ _ _=>rfl)]
 rfl
theorem axE {l:List aa}:((fN l).map fun x=>x.note.id).Nodup∧∀ k,k∈(fN l).map (fun x=>x.note.id)↔∃ x∈l,x.note.id=k:=by
 have hp:((fN l).map fun x=>x.note.id).Perm (aA (ju l)):=by
  rw[←amz];exact(vt aQ _).map _
 refine⟨(hp.nodup_iff).2 (zV l).1,fun k=>?_⟩
 rw[hp.mem_iff,Zt]
 constructor
 ·rintro⟨x,hx⟩;exact⟨x,(oI hx).1,(oI hx).2.1⟩
 rintro⟨x,hx,rfl⟩
 obtain⟨z,hz,_⟩:=VT hx
 exact⟨z,hz⟩
theorem anZ (a b:List aa):((od a b).map aJ.note).Nodup∧∀ k,k∈(od a b).map aJ.note↔(eF a b k).isSome=true:=by
 refine⟨?_,fun k=>?_⟩
 ·have:=KI a b
  unfold List.Nodup
  rw[List.pairwise_map]
  exact this.imp fun h=>by omega
 rw[List.mem_map]
 constructor
 ·rintro⟨c,hc,rfl⟩
  rw[Hr.1 hc];rfl
 intro h
 obtain⟨c,hc⟩:=Option.isSome_iff_exists.1 h
 have hn:=Hp hc
 exact⟨c,Hr.2 (by rw[hn];exact hc),hn⟩
theorem anv {a b:List aa} {k:Int} (h:(eF a b k).isSome=true):∃ x∈a++b,x.note.id=k:=by
 unfold eF at h
 cases hx:ia a k with
 | none=>rw[hx] at h;cases h
 | some x=>exact⟨x,by simp[(oI hx).1],(oI hx).2.1⟩
theorem avb {a b:List aa} (ha:a.length≤1048576) (hb:b.length≤1048576) {z:Int} (hz:0≤z∧z≤1000000) (k:Int) (v:Bool):Fl a b z (k,v)=some (.inl (if(eF a b k).isSome=true then z+1 else z)):=by
 unfold Fl ZH
 dsimp only
 rcases Dj ha k with ⟨e1,e2⟩ | ⟨i,x,e1,e2,e3⟩
 ·have eC:eF a b k=none:=by unfold eF;rw[e1]
  obtain⟨q,hq⟩:∃ q,tz b k=some q:=by
   rcases Dj hb k with ⟨_,g2⟩ | ⟨_,_,_,_,g3⟩
   ·exact⟨_,g2⟩
   exact⟨_,g3⟩
  rw[eC,e2,hq,aj,aj,av (by simp),aj,av rfl];rfl
 rw[e3,aj]
 rcases Dj hb k with ⟨g1,g2⟩ | ⟨j,y,g1,g2,g3⟩
 ·have eC:eF a b k=none:=by unfold eF;rw[e2,g1]
  rw[eC,g2,aj,ar (decide_eq_true (by omega)),av (by simp),aj,av rfl];rfl
 have eC:eF a b k=uJ x y k:=by unfold eF;rw[e2,g2]
 rw[eC,g3,aj,ar (decide_eq_true (by omega)),ar (decide_eq_true (by omega)),bl (bm e1),bl (bm g1),th,aj]
 by_cases hc:x.kind=y.kind∧x.note=y.note
 ·have eP:uJ x y k=none:=by unfold uJ;rw[if_pos hc]
  rw[av (by simp[hc.1,hc.2]),eP];rfl
 have eP:(uJ x y k).isSome=true:=by unfold uJ;rw[if_neg hc];rfl
 have CK:(!decide (x.kind=y.kind) || !decide (x.note=y.note))=true:=by
  rw[Bool.or_eq_true,Bool.not_eq_true',Bool.not_eq_true',decide_eq_false_iff_not,decide_eq_false_iff_not]
  by_cases h1:x.kind=y.kind
  ·exact .inr fun h2=>hc ⟨h1,h2⟩
  exact .inl h1
 rw[ar CK,if_pos eP,aZ (by omega)]
theorem count_eq {a b:List aa} (ha:a.length≤1048576) (hb:b.length≤1048576) {m:List (Int×Bool)} (hm:m.length≤1000):Bv (Fl a b) m 0=some (.inl (((m.filter fun p=>(eF a b p.1).isSome).length:Nat):Int)):=by
 refine au3 fun l hp=>?_
 have key:∀ (l:List (Int×Bool)) (z:Nat),z+l.length≤1000→iterM (Fl a b) l (z:Int)=some (.inl (((z+(l.filter fun p=>(eF a b p.1).isSome).length:Nat)):Int)):=by
  intro l
  induction l with
  | nil=>intro z _;rfl
  | cons p l ih=>
   intro z hz
   rw[List.length_cons] at hz
   obtain⟨k,v⟩:=p
   have hs:=avb ha hb (z:=(z:Int)) ⟨by omega,by omega⟩ k v
   rw[List.filter_cons]
   by_cases hc:(eF a b k).isSome=true
   ·rw[if_pos hc] at hs
    rw[if_pos hc,List.length_cons]
    have:=ih (z+1) (by omega)
    simp only[iterM,hs]
    rw[show(z:Int)+1=((z+1:Nat):Int) from rfl,this]
    congr 2;omega
   rw[if_neg hc] at hs
   rw[if_neg hc]
   simp only[iterM,hs]
   exact ih z (by omega)
 have:=key l 0 (by rw[hp.length_eq];omega)
 rw[show((0:Nat):Int)=0 from rfl] at this
 rw[this,(hp.filter _).length_eq]
 simp
theorem Zw {l:List aa} (hl:l.length≤1048576) {id:Int} {x:aa} (h:ia l id=some x):∃ k:Nat,tz l id=some (k:Int)∧l[k]?=some x:=by
 rcases Dj hl id with ⟨e1,_⟩ | ⟨k,y,e1,e2,e3⟩
 ·rw[e1] at h;cases h
 rw[e2] at h;injection h with h;subst h;exact⟨k,e3,e1⟩
theorem anw {a b:List aa} {c:aJ} (h:eF a b c.note=some c):∃ x y,ia a c.note=some x∧ia b c.note=some y∧uJ x y c.note=some c:=by
 unfold eF at h
 cases hx:ia a c.note with
 | none=>rw[hx] at h;cases h
 | some x=>
  cases hy:ia b c.note with
  | none=>rw[hx,hy] at h;cases h
  | some y=>rw[hx,hy] at h;exact⟨x,y,rfl,rfl,h⟩
theorem auQ {a b:List aa} (ha0:a.length≤1048576) (pO:b.length≤1048576):R6 a b=some true:=by
 unfold R6 ZF
 rw[Is,aj]
 by_cases ha:30 < a.length
 ·rw[ar (decide_eq_true (by omega)),aj,ar rfl]
 rw[av (decide_eq_false (by omega)),aj]
 by_cases hb:30 < b.length
 ·rw[ar (decide_eq_true (by omega))]
 rw[av (decide_eq_false (by omega)),ya (by omega) (by omega),aj]
 by_cases h0:¬ (fZ a b).2.2=0
 ·obtain⟨b1,b2⟩:=avo h0
  generalize fZ a b=p at *
  obtain⟨p1,p2,p3⟩:=p
  dsimp only at b1 b2 h0 ⊢
  subst b1 b2
  rw[ar (by simp[h0])]
  rfl
 have h0:=Classical.not_not.1 h0
 obtain⟨g1,g2,cA,e⟩:=Iz h0
 obtain⟨ml1,ml2⟩:=Fs (a:=a) (b:=b)
 rw[e] at ml1 ml2 ⊢
 dsimp only at ml1 ml2 ⊢
 have bL:([]++a)++b=a++b:=by simp
 rw[av (by simp),bL,List.nil_append,cu (by omega),cu (by omega),atE (l:=a++b) g1 a b bL,aj]
 obtain⟨f1,f2,f3,f4⟩:=atF (a++b)
 have X4:=S1 cA
 unfold Sa
 rw[zX (l:=fN (a++b)) (fun _=>false) false (fun k x hx=>by
  have hk:=de hx
  have hl:=BC.1 (at_mem hx)
  obtain⟨j,j1,j2⟩:=Zw (by omega) hl
  have aB:x.note.id∈aA (xq (a++b)):=(f2 _).2 ⟨x,(oI hl).1,rfl⟩
  unfold MH ZG R7
  simp only[bL]
  rw[ar (decide_eq_true (by omega)),bl (bm hx),j1,aj,av (decide_eq_false (by omega)),bl (bm j2),av (by simp),f3 _ aB]
  by_cases hk0:0 < k
  ·obtain⟨i,rfl⟩:∃ i,k=i+1:=⟨k - 1,by omega⟩
   have hi:(fN (a++b))[i]?=some (fN (a++b))[i]:=List.getElem?_eq_getElem (by omega)
   have oF:(fN (a++b))[i+1]'hk=x:=by rw[List.getElem?_eq_getElem hk] at hx;injection hx
   have aN:=(List.pairwise_iff_getElem.1 X4) i (i+1) (by omega) hk (by omega)
   rw[oF] at aN
   generalize (fN (a++b))[i]=w at hi aN
   rw[ar (decide_eq_true (by omega)),aZ (by omega),show((i+1:Nat):Int) - 1=(i:Int) by omega,bl (bm hi),NV,aj,av (by rw[decide_eq_true (afk.2 aN)];rfl),aj,yH,aZ (by omega)];rfl
  rw[av (decide_eq_false (by omega)),aj,yH,aZ (by omega)];rfl) (by unfold MH;rw[av (by simp)]),aj,if_neg (by simp)]
 dsimp only
 unfold Sd
 rw[count_eq (by omega) (by omega) (by omega),aj]
 dsimp only
 unfold R8
 have eW:=KI a b
 rw[kn (σ:=Bool) (st:=fun z k=>(z,k)) (step:=Iq a b (od a b)) (l:=od a b) (fun z _=> .inl z) (fun z=> .inr z) (fun _ z=>z=true) (fun k c z hx hz=>by
  subst hz
  have hk:=de hx
  obtain⟨x,y,x1,y1,Bj⟩:=anw (Hr.1 (at_mem hx))
  obtain⟨i,i1,i2⟩:=Zw (l:=a) (by omega) x1
  obtain⟨j,j1,j2⟩:=Zw (l:=b) (by omega) y1
  unfold uJ at Bj
  split at Bj
  ·cases Bj
  rename_i ba
  injection Bj with Bj
  have ahs:0 < aQ c.second c.first∧((c.first=x∧c.second=y)∨(c.first=y∧c.second=x)):=by
   by_cases hc:0 < aQ x y
   ·rw[if_pos hc] at Bj;rw[←Bj];exact⟨hc,.inr ⟨rfl,rfl⟩⟩
   rw[if_neg hc] at Bj;rw[←Bj]
   refine⟨?_,.inl ⟨rfl,rfl⟩⟩
   dsimp only
   rw[xX] at hc ⊢
   refine Classical.byContradiction fun hn=>ba ?_
   have:=cA x (by simp[(oI x1).1]) y (by simp[(oI y1).1]) (by omega) (by omega)
   rw[this];exact⟨rfl,rfl⟩
  unfold Iq ZI ZJ Sb
  dsimp only
  rw[ar (decide_eq_true (by omega)),bl (bm hx),i1,j1,aj,aj,av (decide_eq_false (by omega)),av (decide_eq_false (by omega)),NV,decide_eq_true ahs.1]
  have ahP:(ak true (ag (aP a (i:Int)) fun Dy=>ak (decide (c.first=Dy)) (ag (aP b (j:Int)) fun JF=>ak (decide (c.second=JF)) (some true) (ak (decide (c.first=JF)) (some (decide (c.second=Dy))) (some false))) (ag (aP b (j:Int)) fun US=>ak (decide (c.first=US)) (some (decide (c.second=Dy))) (some false))) (some false))=some true:=by
   rw[ar rfl,bl (bm i2),bl (bm j2),bl (bm j2)]
   rcases ahs.2 with ⟨q1,q2⟩ | ⟨q1,q2⟩
   ·rw[ar (decide_eq_true q1),ar (decide_eq_true q2)]
   by_cases q3:c.first=x
   ·rw[ar (decide_eq_true q3)]
    by_cases q4:c.second=y
    ·rw[ar (decide_eq_true q4)]
    rw[av (decide_eq_false q4),ar (decide_eq_true q1),decide_eq_true q2]
   rw[av (decide_eq_false q3),ar (decide_eq_true q1),decide_eq_true q2]
  by_cases hk0:0 < k
  ·obtain⟨m,rfl⟩:∃ m,k=m+1:=⟨k - 1,by omega⟩
   have hm:(od a b)[m]?=some (od a b)[m]:=List.getElem?_eq_getElem (by omega)
   have oF:(od a b)[m+1]'hk=c:=by rw[List.getElem?_eq_getElem hk] at hx;injection hx
   have aN:=(List.pairwise_iff_getElem.1 eW) m (m+1) (by omega) hk (by omega)
   rw[oF] at aN
   generalize (od a b)[m]=w at hm aN
   rw[ar (decide_eq_true (by omega)),aZ (by omega),show((m+1:Nat):Int) - 1=(m:Int) by omega,bl (bm hm),av (decide_eq_false (by omega)),aj,aj,yH,ahP,aj,aZ (by omega)];rfl
  rw[av (decide_eq_false (by omega)),aj,aj,yH,ahP,aj,aZ (by omega)];rfl) (fun k c z z' _ hz h=>by injection h with h;rw[←h];exact hz) (fun z _=>by unfold Iq;dsimp only;rw[av (by simp)]) true rfl,aj,qm (fun(z:Bool) _=>z) _ _ (fun _ _ _=>rfl)]
 have XM:∀ l:List aJ,l.foldl (fun(z:Bool) _=>z) true=true:=by
  intro l
  induction l with
  | nil=>rfl
  | cons c l ih=>rw[List.foldl_cons,ih]
 rw[XM]
 dsimp only
 unfold R9 ZK
 obtain⟨o1,o2⟩:=axE (l:=a++b)
 obtain⟨c1,c2⟩:=anZ a b
 have n1:(fN (a++b)).length=(xq (a++b)).length:=by
  have:=ak6 o1 f1 fun k=>by rw[o2,f2]
  simpa [aA] using this
 have n2:(od a b).length=((xq (a++b)).filter fun p=>(eF a b p.1).isSome).length:=by
  have mo:((((xq (a++b)).filter fun p=>(eF a b p.1).isSome)).map (·.1)).Nodup:=f1.sublist ((List.filter_sublist (l:=xq (a++b))).map _)
  have:=ak6 c1 mo fun k=>by
   rw[c2,List.mem_map]
   constructor
   ·intro h
    obtain⟨x,hx,he⟩:=anv h
    obtain⟨p,hp,Bc⟩:=List.mem_map.1 ((f2 k).2 ⟨x,hx,he⟩)
    exact⟨p,List.mem_filter.2 ⟨hp,by rw[Bc];exact h⟩,Bc⟩
   rintro⟨p,hp,rfl⟩;exact(List.mem_filter.1 hp).2
  simpa using this
 rw[ar rfl,ar (decide_eq_true (by omega)),aj,decide_eq_true (by omega)]
end Go.Proofs.YtjigeffmmcmlnaaGreatDoor
