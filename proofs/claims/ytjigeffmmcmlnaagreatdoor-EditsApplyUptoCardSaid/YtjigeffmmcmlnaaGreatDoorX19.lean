import Derived.Test.YtjigeffmmcmlnaaGreatDoorX14
set_option linter.all false
set_option linter.unnecessarySimpa false
set_option linter.deprecated false
set_option linter.unusedVariables false
set_option linter.unusedSimpArgs false
set_option linter.unusedSectionVars false
namespace Go.Proofs.YtjigeffmmcmlnaaGreatDoor
open Go Go.an au
@[reducible] def aw7:e8:=⟨False⟩
attribute [local instance] cJ aw7
theorem Iv {α:Type} {step:Int→Option (Int⊕(Int⊕Unit))} {l:List α} (p:α→Bool)
  (h:∀ (k:Nat) x,l[k]?=some x→step (k:Int)=some (if p x=true then .inr (.inl (k:Int)) else .inl ((k+1:Nat):Int))) (cM:step (l.length:Int)=some (.inr (.inr ()))) :
  aH step 0=some (match l.findIdx? p with | some i=> .inl (i:Int) | none=> .inr ()):=by
 have:=kn (σ:=Nat) (st:=fun _ k=>k) (step:=step) (l:=l) (fun z x=>if p x=true then .inr (.inl (z:Int)) else .inl (z+1)) (fun _=> .inr ()) (fun k z=>z=k) (fun k x z hx hz=>by
  subst hz;rw[h z x hx];split<;>rename_i hp<;>simp[hp]) (fun k x z z' _ hz hf=>by
  split at hf
  ·cases hf
  injection hf with hf;omega) (fun z _=>cM) 0 rfl
 rw[this]
 congr 1
 clear this h cM
 have key:∀ (l:List α) (z:Nat),pK (fun(z:Nat) x=>if p x=true then .inr (.inl (z:Int)) else .inl (z+1)) (fun _=>(.inr ():Int⊕Unit)) l z=match l.findIdx? p with | some i=> .inl ((z+i:Nat):Int) | none=> .inr ():=by
  intro l
  induction l with
  | nil=>intro z;simp[pK]
  | cons x l ih=>
   intro z
   simp only[pK,List.findIdx?_cons]
   by_cases hp:p x=true
   ·simp[hp]
   simp only[hp,if_false,Bool.false_eq_true]
   rw[ih]
   cases l.findIdx? p<;>simp<;>omega
 simpa using key l 0
def ix {α:Type} (l:List α) (p:α→Bool):Int:=match l.findIdx? p with | some i=>(i:Int) | none=> -1
theorem aih {α:Type} (l:List α) (p:α→Bool):decide (0≤ix l p)=l.any p:=by
 have:(l.findIdx? p).isSome=l.any p:=List.findIdx?_isSome
 unfold ix
 cases hf:l.findIdx? p with
 | none=>rw[hf] at this;simp[←this]
 | some i=>rw[hf] at this;simp[←this]
theorem zO {α:Type} (l:List α) (p:α→Bool):(l.find? p=none∧ix l p = -1)∨∃ (k:Nat) (x:α),l[k]?=some x∧l.find? p=some x∧ix l p=(k:Int)∧p x=true:=by
 unfold ix
 induction l with
 | nil=>left;simp
 | cons x l ih=>
  rw[List.findIdx?_cons,List.find?_cons]
  by_cases hp:p x=true
  ·right;exact⟨0,x,rfl,by simp[hp],by simp[hp],hp⟩
  simp only[hp]
  rcases ih with ⟨h1,h2⟩ | ⟨k,y,h1,h2,h3,h4⟩
  ·left
   refine⟨h1,?_⟩
   cases hf:l.findIdx? p with
   | none=>simp[hf]
   | some i=>rw[hf] at h2;exact absurd h2 (by simp only;omega)
  right
  refine⟨k+1,y,by simpa using h1,h2,?_,h4⟩
  cases hf:l.findIdx? p with
  | none=>rw[hf] at h3;exact absurd h3 (by simp only;omega)
  | some i=>rw[hf] at h3;simp at h3;simp[hf];omega
theorem ML {ρ:Type} {step:Int→Option (Int⊕(ρ⊕Unit))} (n:Nat) (p:Nat→Bool) (r:ρ)
  (h:∀ (k:Nat),k < n→step (k:Int)=some (if p k=true then .inr (.inl r) else .inl ((k+1:Nat):Int))) (cM:step (n:Int)=some (.inr (.inr ()))) :
  aH step 0=some (if(List.range n).any p=true then .inl r else .inr ()):=
 zX (l:=List.range n) p r (fun k x hx=>by
  have hk:=de hx
  rw[List.getElem?_range (by simpa using hk)] at hx
  injection hx with hx;subst hx
  exact h k (by simpa using hk)) (by rw[List.length_range];exact cM)
def xB {α:Type} (q:α→Bool) (r:α→α→Bool) (l:List α) (k:Nat):Bool:=match l[k]? with | some y=>q y||(l.take k).any fun x=>r x y | none=>false
theorem Uh {α:Type} (q:α→Bool) (r:α→α→Bool) (l:List α):(List.range l.length).any (xB q r l)=true↔¬ ((∀ x∈l,q x=false)∧l.Pairwise fun x y=>r x y=false):=by
 rw[List.any_eq_true]
 constructor
 ·rintro⟨k,hk,h⟩ ⟨h1,h2⟩
  have hk:=List.mem_range.1 hk
  unfold xB at h
  rw[List.getElem?_eq_getElem hk] at h
  simp only[Bool.or_eq_true,List.any_eq_true] at h
  rcases h with h | ⟨x,hx,h⟩
  ·rw[h1 _ (List.getElem_mem hk)] at h;cases h
  obtain⟨j,hj,rfl⟩:=List.mem_take_iff_getElem.1 hx
  rw[List.pairwise_iff_getElem] at h2
  rw[h2 j k (by omega) hk (by omega)] at h;cases h
 intro h
 refine Classical.byContradiction fun ca=>h ⟨fun x hx=>?_,?_⟩
 ·refine Classical.byContradiction fun hq=>ca ?_
  obtain⟨k,hk,rfl⟩:=List.mem_iff_getElem.1 hx
  refine⟨k,List.mem_range.2 hk,?_⟩
  unfold xB
  rw[List.getElem?_eq_getElem hk]
  simp at hq;simp[hq]
 rw[List.pairwise_iff_getElem]
 intro i j hi hj cj
 refine Classical.byContradiction fun hr=>ca ⟨j,List.mem_range.2 hj,?_⟩
 unfold xB
 rw[List.getElem?_eq_getElem hj]
 simp only[Bool.or_eq_true,List.any_eq_true]
 right
 exact⟨l[i],List.mem_take_iff_getElem.2 ⟨i,by omega,rfl⟩,by simpa using hr⟩
theorem UH {α:Type} {l:List α} {k j:Nat} {x:α} (h:(l.take k)[j]?=some x):j < k∧l[j]?=some x:=by
 have hj:=de h
 rw[List.length_take] at hj
 rw[List.getElem?_take_of_lt (by omega)] at h
 exact⟨by omega,h⟩
theorem Wa {α ρ:Type} (bad:α→Bool) (id:α→Int) (r:ρ):∀ (l:List α) (z:List (Int×Bool)),pK (fun(z:List (Int×Bool)) x=>if bad x||aV z (id x) false then(.inr (.inl r):_⊕(ρ⊕Unit)) else .inl (cq z (id x) true)) (fun _=> .inr ()) l z =
  if(∀ x∈l,bad x=false)∧(l.map id).Nodup∧(∀ x∈l,aV z (id x) false=false) then .inr () else .inl r
 | [],z=>by simp[pK]
 | x::l,z=>by
  have ih:=Wa bad id r l (cq z (id x) true)
  simp only[pK]
  by_cases h:bad x||aV z (id x) false
  ·rw[if_pos h,if_neg]
   rintro⟨h1,_,h3⟩
   rw[h1 x (by simp),h3 x (by simp)] at h;cases h
  rw[if_neg h]
  simp only[Bool.or_eq_true,not_or,Bool.not_eq_true] at h
  dsimp only
  rw[ih]
  have e:((∀ y∈l,bad y=false)∧(l.map id).Nodup∧∀ y∈l,aV (cq z (id x) true) (id y) false=false)↔((∀ y∈x::l,bad y=false)∧((x::l).map id).Nodup∧∀ y∈x::l,aV z (id y) false=false):=by
   simp only[MP,List.mem_cons,List.map_cons,List.nodup_cons,List.mem_map]
   constructor
   ·rintro⟨h1,h2,h3⟩
    refine⟨?_,⟨?_,h2⟩,?_⟩
    ·rintro y (rfl | hy)
     ·exact h.1
     exact h1 y hy
    ·rintro⟨y,hy,he⟩
     have:=h3 y hy
     rw[if_pos he] at this;cases this
    rintro y (rfl | hy)
    ·exact h.2
    have:=h3 y hy
    split at this
    ·cases this
    exact this
   rintro⟨h1,⟨h2,h3⟩,h4⟩
   refine⟨fun y hy=>h1 y (.inr hy),h3,fun y hy=>?_⟩
   rw[if_neg fun e=>h2 ⟨y,hy,e⟩]
   exact h4 y (.inr hy)
  by_cases hc:((∀ y∈x::l,bad y=false)∧((x::l).map id).Nodup∧∀ y∈x::l,aV z (id y) false=false)
  ·rw[if_pos hc,if_pos (e.2 hc)]
  rw[if_neg hc,if_neg fun h=>hc (e.1 h)]
theorem BH (n lo hi:Int):BG n lo hi=some (decide (lo≤n∧n≤hi)):=by
 unfold BG abo
 simp only[zN,decide_eq_true_eq]
 by_cases h:lo≤n<;>simp[h,aj]
theorem ay2 (n lo hi:Int):Nk n lo hi=some (decide (lo≤n∧n≤hi)):=BH n lo hi
theorem ay7 (n lo hi:Int):FF n lo hi=some (decide (lo≤n∧n≤hi)):=BH n lo hi
theorem NO (n lo hi:Int):vo n lo hi=some (decide (lo≤n∧n≤hi)):=BH n lo hi
theorem akE (n lo hi:Int):FP n lo hi=some (decide (lo≤n∧n≤hi)):=BH n lo hi
theorem aaC (n lo hi:Int):Da n lo hi=some (decide (lo≤n∧n≤hi)):=BH n lo hi
theorem OI (n lo hi:Int):wE n lo hi=some (decide (lo≤n∧n≤hi)):=BH n lo hi
theorem afz (n hi:Int):Ep n hi=some (decide (1≤n∧n≤hi)):=BH n 1 hi
theorem avG (n:Int):IE n=some (decide (1≤n∧n≤1000000)):=by unfold IE;rw[aaC,aj]
theorem acs (n:Int):FT n=some (decide (1≤n∧n≤1000000)):=by unfold FT;rw[OI,aj]
theorem akn (p:az):FE p=some (decide (fO p)):=by
 unfold FE abn fO
 simp only[BH,aj,zN,decide_eq_true_eq]
 by_cases h1:0≤p.step∧p.step≤6
 ·by_cases h2 : -4≤p.alter∧p.alter≤4
  ·simp[h1,h2,aj]
  rw[if_pos h1,if_neg h2,aj]
  simp only[h1,h2,false_and,and_false,and_true,true_and,decide_false]
 rw[if_neg h1,aj]
 simp only[h1,false_and,decide_false]
theorem ay0 {n:Int} (h:0≤n∧n≤6):Tb n=some (Fy n):=by
 have:n=0∨n=1∨n=2∨n=3∨n=4∨n=5∨n=6:=by omega
 rcases this with rfl | rfl | rfl | rfl | rfl | rfl | rfl<;>rfl
theorem IL {p:az} (h:fO p):xA p=some (num p):=by
 have hn:=aaw p.step
 obtain⟨h1,h2,h3⟩:=h
 unfold xA
 rw[aZ (by omega),ay0 h1,aj,aZ (by omega),aZ (by omega)]
 rfl
theorem Oo {p:az} (h:fO p):BU p=some (num p):=by
 unfold BU
 rw[aa6,if_pos h,aj]
def C8 (p:az):Prop:=fO p∧(-2≤p.alter∧p.alter≤2)∧(0≤p.bU∧p.bU≤9)
instance (p:az):Decidable (C8 p):=inferInstanceAs (Decidable (_∧_∧_))
theorem ayZ (p:az):Ni p=some (decide (C8 p)):=by
 unfold Ni abm C8
 simp only[akn,BH,aj,zN,decide_eq_true_eq]
 by_cases h1:fO p<;>by_cases h2 : -2≤p.alter∧p.alter≤2<;>simp[h1,h2,aj]
theorem avH (p:az):M0 p=some (decide (C8 p)):=by
 unfold M0 aay C8
 simp only[aa7,aaC,aj,zN,decide_eq_true_eq]
 by_cases h1:fO p<;>by_cases h2 : -2≤p.alter∧p.alter≤2<;>simp[h1,h2,aj]
theorem ay4 (a b:Int):Np a b=some (pT a b):=by
 unfold Np Ti
 have key:∀ (k:Nat) (a b:Int),b.natAbs≤k→aH Di (a,b)=some (pT a b):=by
  intro k
  induction k with
  | zero=>
   intro a b hb
   have:b=0:=by omega
   subst this
   rw[S6]
   exact si (by unfold Di;dsimp only;rw[av (by simp)])
  | succ k ih=>
   intro a b hb
   by_cases h:b=0
   ·subst h
    rw[S6]
    exact si (by unfold Di;dsimp only;rw[av (by simp)])
   rw[abe h,vl (show Di (a,b)=some (.inl (b,a.tmod b)) by unfold Di;dsimp only;rw[ar (by simp[h]),cu h])]
   refine ih b _ ?_
   have:(a.tmod b).natAbs < b.natAbs:=by rw[Int.natAbs_tmod];exact Nat.mod_lt _ (by omega)
   omega
 rw[key _ a b (Nat.le_refl _),aj]
theorem aog {d:Int} (h1:1≤d) (h2:Int.tmod 1680 d=0):d≤1680:=by
 have:=Int.tmod_add_mul_tdiv 1680 d
 rw[h2] at this
 refine Classical.byContradiction fun h=>?_
 have hq:Int.tdiv 1680 d=0:=Int.tdiv_eq_zero_of_lt (by omega) (by omega)
 rw[hq] at this;omega
theorem Nl (q:Rat):BI q=some (if fx q then gM q else -1):=by
 unfold BI abq
 by_cases h1:q.d < 1
 ·have:¬ fx q:=fun h=>by have:=h.1.1;omega
  rw[ar (by simp[h1]),aj,ar rfl,if_neg this]
 have hd:q.d≠0:=by omega
 rw[av (by simp[h1]),cu hd]
 by_cases h2:Int.tmod 1680 q.d=0
 ·rw[av (by simp[h2])]
  by_cases h3:q.n < 0
  ·have:¬ fx q:=fun h=>by have:=h.2.1;omega
   rw[ar (by simp[h3]),aj,ar rfl,if_neg this]
  rw[av (by simp[h3])]
  by_cases h4:1000000000 < q.n
  ·have:¬ fx q:=fun h=>by have:=h.1.2.2.2.1;omega
   rw[ar (by simp[h4]),aj,ar rfl,if_neg this]
  rw[av (by simp[h4]),ay4,abd _ _ _ (Nat.le_refl _) (by omega) (by omega),aj,aj]
  have Q1:=aog (by omega) h2
  by_cases h5:Int.gcd q.n q.d=1
  ·have fB:fx q:=⟨⟨by omega,by omega,by omega,by omega,h5⟩,by omega,h2⟩
   have hk:=UJ fB.1
   have hp:=B1 fB
   unfold gM at hp
   rw[av (by simp[h5]),cu hd,aZ (by omega),aZ (by omega),if_pos fB]
   rfl
  have:¬ fx q:=fun h=>h5 h.1.2.2.2.2
  rw[ar (by simp;omega),if_neg this]
 have:¬ fx q:=fun h=>h2 h.2.2
 rw[ar (by simp[h2]),aj,ar rfl,if_neg this]
theorem aAi {q:Rat} (h:fx q):0≤gM q:=(B1 h).1
theorem amq {q:Rat} (h:fx q):q.d*Int.tdiv 1680 q.d=1680∧0 < q.d∧0 < Int.tdiv 1680 q.d:=by
 have h1:=Int.tmod_add_mul_tdiv 1680 q.d
 rw[h.2.2] at h1
 have h2:=h.1.1
 have h3:=(UJ h.1).1
 refine⟨by omega,by omega,?_⟩
 rcases Int.lt_or_le 0 (Int.tdiv 1680 q.d) with h4 | h4
 ·exact h4
 have:Int.tdiv 1680 q.d=0:=by omega
 rw[this] at h1;simp at h1
end Go.Proofs.YtjigeffmmcmlnaaGreatDoor
namespace Go.Proofs.YtjigeffmmcmlnaaGreatDoor
open Go Go.an au
@[reducible] def aw8:e8:=⟨False⟩
attribute [local instance] cJ aw8
def vH (b:aT):Prop:=(1≤b.id∧b.id≤1000000)∧fx b.length∧(1≤gM b.length∧gM b.length≤40320)∧(-7≤b.key∧b.key≤7)
instance (b:aT):Decidable (vH b):=inferInstanceAs (Decidable (_∧_∧_∧_))
def qf (l:List aT):Prop:=(1≤l.length∧l.length≤4000)∧(∀ b∈l,vH b)∧(l.map aT.id).Nodup
instance (l:List aT):Decidable (qf l):=inferInstanceAs (Decidable (_∧_∧_))
theorem abj {α:Type} (id:α→Int) (l:List α):(l.Pairwise fun x y=>decide (id x=id y)=false)↔(l.map id).Nodup:=by
 unfold List.Nodup
 rw[List.pairwise_map]
 simp
theorem ay3 {l:List aT} {k:Nat} {b:aT} (h:l[k]?=some b):Th l (k:Int) (if fx b.length then gM b.length else -1)=some (!decide (vH b)):=by
 unfold Th vH
 rw[bl (bm h)]
 simp only[zN,decide_eq_true_eq]
 by_cases h1:b.id < 1
 ·have:¬ (1≤b.id∧b.id≤1000000):=by omega
  simp[h1,this]
 by_cases h2:1000000 < b.id
 ·have:¬ (1≤b.id∧b.id≤1000000):=by omega
  simp[h1,h2,this]
 have h3:(1≤b.id∧b.id≤1000000):=by omega
 rw[if_neg h1,if_neg h2]
 by_cases h4:fx b.length
 ·by_cases h5:gM b.length < 1
  ·have:¬ (1≤gM b.length∧gM b.length≤40320):=by omega
   simp[h4,h5,this]
  by_cases h6:40320 < gM b.length
  ·have:¬ (1≤gM b.length∧gM b.length≤40320):=by omega
   simp[h4,h5,h6,this]
  have h7:(1≤gM b.length∧gM b.length≤40320):=by omega
  by_cases h8:b.key < -7
  ·have:¬ (-7≤b.key∧b.key≤7):=by omega
   simp[h4,h5,h6,h8,this]
  by_cases h9:7 < b.key
  ·have:¬ (-7≤b.key∧b.key≤7):=by omega
   simp[h4,h5,h6,h8,h9,this]
  have:(-7≤b.key∧b.key≤7):=by omega
  simp only[h3,h4,h5,h6,h7,h8,h9,this,if_true,if_false,decide_false,and_self,decide_true,Bool.not_true]
 simp[h4]
theorem akp (l:List aT):IM l=some (decide (qf l)):=by
 unfold IM abr
 by_cases h1:l.length < 1
 ·have:¬ qf l:=fun h=>by have:=h.1.1;omega
  rw[ar (decide_eq_true (by omega)),aj,ar rfl];simp[this]
 rw[av (decide_eq_false (by omega)),aj]
 by_cases h2:4000 < l.length
 ·have:¬ qf l:=fun h=>by have:=h.1.2;omega
  rw[ar (decide_eq_true (by omega))];simp[this]
 rw[av (decide_eq_false (by omega)),ML l.length (xB (fun b=> !decide (vH b)) (fun x y=>decide (x.id=y.id)) l) false (fun k hk=>by
  have hx:l[k]?=some l[k]:=List.getElem?_eq_getElem hk
  generalize l[k]=x at hx
  unfold Nn
  rw[ar (by simpa using hk),bl (bm hx),Nl,aj,ay3 hx,aj]
  unfold xB
  rw[hx]
  dsimp only
  by_cases hb:vH x
  ·rw[av (by simp[hb]),zX (l:=l.take k) (fun y=>decide (y.id=x.id)) false (fun j y hy=>by
    obtain⟨hj,hy⟩:=UH hy
    unfold No Tg
    rw[ar (by simpa using hj),bl (bm hy),bl (bm hx)]
    by_cases he:y.id=x.id
    ·rw[ar (by simp[he])];simp[he]
    ·rw[av (by simp[he]),aZ (by omega)];simp[he]) (by
    unfold No
    rw[List.length_take,Nat.min_eq_left (by omega),av (by simp)]),aj]
   by_cases ha:((l.take k).any fun y=>decide (y.id=x.id))=true
   ·rw[if_pos ha,if_pos (by rw[ha];simp)]
   rw[if_neg ha,if_neg (by simp[hb] at ha ⊢;exact ha)]
   dsimp only
   unfold Te
   rw[aZ (by omega)];rfl
  rw[ar (by simp[hb]),if_pos (by simp[hb])]) (by unfold Nn;rw[av (by simp)]),aj]
 have key:=Uh (fun b=> !decide (vH b)) (fun x y=>decide (x.id=y.id)) l
 rw[abj aT.id] at key
 by_cases hc:qf l
 ·rw[if_neg]
  ·simp[hc,Tf]
  rw[key];exact fun h=>h ⟨fun b hb=>by simp[hc.2.1 b hb],hc.2.2⟩
 rw[if_pos]
 ·simp[hc]
 rw[key];exact fun h=>hc ⟨by omega,fun b hb=>by simpa using h.1 b hb,h.2⟩
theorem avy (q:Rat):MS q=some (decide (fx q)):=by
 unfold MS aap
 rw[ab6,aj]
 by_cases h1:wy q
 ·have hd:q.d≠0:=by have:=h1.1;omega
  rw[ar (by simp[h1])]
  by_cases h2:0≤q.n
  ·rw[ar (by simp[h2]),cu hd,aj];unfold fx;simp[h1,h2]
  rw[av (by simp[h2]),aj];unfold fx;simp[h2]
 rw[av (by simp[h1]),aj];unfold fx;simp[h1]
theorem avz {a b:Rat} (ha:wy a) (hb:wy b):MT a b=some (decide (a.n*b.d < b.n*a.d)):=by
 unfold MT
 rw[azx ha hb,aj]
 dsimp only
 congr 1
 rw[decide_eq_decide]
 unfold jT
 split
 ·simp[*]
 split<;>simp[*]
theorem aAh {q:Rat} (h:fx q):24*q.d < q.n*1↔40320 < gM q:=by
 obtain⟨h1,h2,h3⟩:=amq h
 unfold gM
 generalize Int.tdiv 1680 q.d=k at *
 have e:40320=(24*q.d)*k:=by rw[Int.mul_assoc,h1];rfl
 rw[e,Int.mul_one]
 constructor
 ·exact fun h=>Int.mul_lt_mul_of_pos_right h h3
 exact fun h=>Int.lt_of_mul_lt_mul_right h (by omega)
theorem aAg {q:Rat} (h:fx q):q.n=0↔gM q < 1:=by
 obtain⟨h1,h2,h3⟩:=amq h
 unfold gM
 generalize Int.tdiv 1680 q.d=k at *
 have h4:=h.2.1
 constructor
 ·intro h;rw[h];omega
 intro h5
 refine Classical.byContradiction fun hn=>?_
 have:1*k≤q.n*k:=Int.mul_le_mul_of_nonneg_right (by omega) (by omega)
 omega
theorem avm (m:List (Int×Bool)) (b:aT):Sy m b=some (!decide ((1≤b.id∧b.id≤1000000)∧aV m b.id false=false∧(-7≤b.key∧b.key≤7))):=by
 unfold Sy
 simp only[zN,decide_eq_true_eq]
 by_cases h1:b.id < 1
 ·have:¬ (1≤b.id∧b.id≤1000000):=by omega
  simp[h1,this]
 by_cases h2:1000000 < b.id
 ·have:¬ (1≤b.id∧b.id≤1000000):=by omega
  simp[h1,h2,this]
 have h3:(1≤b.id∧b.id≤1000000):=by omega
 rw[if_neg h1,if_neg h2]
 cases h4:aV m b.id false
 ·by_cases h8:b.key < -7
  ·have:¬ (-7≤b.key∧b.key≤7):=by omega
   simp[h8,this]
  by_cases h9:7 < b.key
  ·have:¬ (-7≤b.key∧b.key≤7):=by omega
   simp[h8,h9,this]
  have:(-7≤b.key∧b.key≤7):=by omega
  simp only[h3,h8,h9,this,if_true,if_false,decide_false,and_self,decide_true,Bool.not_true,Bool.false_eq_true]
 simp
theorem avn (b:aT):Sz b=some (!decide (fx b.length∧(1≤gM b.length∧gM b.length≤40320))):=by
 unfold Sz
 rw[avy,aj]
 by_cases h:fx b.length
 ·rw[av (by simp[h])]
  have h0:=aAg h
  have sV:=aAh h
  by_cases h1:b.length.n=0
  ·have:=h0.1 h1
   rw[ar (by simp[h1])]
   rw[decide_eq_false (fun hx=>by omega)];rfl
  rw[av (by simp[h1]),avz (by decide) h.1,aj]
  have h3:¬ gM b.length < 1:=fun h=>h1 (h0.2 h)
  congr 1
  simp only[h,true_and]
  rw[←decide_not,decide_eq_decide]
  rw[sV];omega
 rw[ar (by simp[h])];simp[h]
theorem aiU {l:List aT} (hl:l.length≤1048576):Ix l=some (decide (qf l)):=by
 unfold Ix
 rw[kn (σ:=List (Int×Bool)) (st:=fun z k=>(z,k)) (l:=l) (fun z x=>if !decide (vH x)||aV z x.id false then .inr (.inl false) else .inl (cq z x.id true)) (fun _=> .inr ()) (fun _ _=>True) (fun k x z hx _=>by
  have hk:=de hx
  unfold MN
  dsimp only
  rw[ar (by simpa using hk),bl (bm hx),avm,aj]
  by_cases h1:(1≤x.id∧x.id≤1000000)∧aV z x.id false=false∧(-7≤x.key∧x.key≤7)
  ·rw[av (by simp only[decide_eq_true h1];rfl),avn,aj]
   by_cases h2:fx x.length∧(1≤gM x.length∧gM x.length≤40320)
   ·have hb:vH x:=⟨h1.1,h2.1,h2.2,h1.2.2⟩
    rw[av (by simp only[decide_eq_true h2];rfl)]
    unfold Sx
    rw[aZ (by omega)]
    simp[hb,h1.2.1]
   have hb:¬ vH x:=fun h=>h2 ⟨h.2.1,h.2.2.1⟩
   rw[ar (by simp only[decide_eq_false h2];rfl)]
   simp[hb]
  rw[ar (by simp only[decide_eq_false h1];rfl),if_pos]
  by_cases hb:vH x
  ·cases hg:aV z x.id false
   ·exact absurd ⟨hb.1,hg,hb.2.2.2⟩ h1
   simp
  simp[hb]) (fun _ _ _ _ _ _ _=>trivial) (fun z _=>by unfold MN;dsimp only;rw[av (by simp)]) [] trivial,aj,Wa]
 by_cases hc:(∀ x∈l,(!decide (vH x))=false)∧(l.map aT.id).Nodup∧∀ x∈l,aV ([]:List (Int×Bool)) x.id false=false
 ·have h1:∀ b∈l,vH b:=fun b hb=>by simpa using hc.1 b hb
  rw[if_pos hc]
  dsimp only
  unfold Sw aah
  by_cases h2:1≤l.length
  ·rw[ar (by simp;omega),aj]
   congr 1
   rw[decide_eq_decide]
   constructor
   ·exact fun h=>⟨⟨h2,by omega⟩,h1,hc.2.1⟩
   rintro⟨⟨_,h⟩,_⟩;omega
  rw[av (by simp;omega),aj]
  congr 1;symm;exact decide_eq_false fun h=>h2 h.1.1
 rw[if_neg hc]
 dsimp only
 congr 1;symm
 exact decide_eq_false fun h=>hc ⟨fun b hb=>by simp[h.2.1 b hb],h.2.2,fun b _=>rfl⟩
def eS (bars:List aT):List (Int×Int):=(bars.foldl (fun(p:List (Int×Int)×Nat) b=>(cq p.1 b.id (p.2:Int),p.2+1)) ([],0)).1
theorem ai7 {bars:List aT} (hl:bars.length≤1048576):IC bars=some (eS bars):=by
 unfold IC
 have:=kn (σ:=List (Int×Int)×Nat) (st:=fun z k=>(z.1,k)) (step:=ID bars) (l:=bars) (fun z x=> .inl (cq z.1 x.id (z.2:Int),z.2+1)) (fun z=>z.1) (fun k z=>z.2=k) (fun k x z hx hz=>by
  have hk:=de hx
  unfold ID SJ
  dsimp only
  rw[ar (by simpa using hk),bl (bm hx),aZ (by omega),hz];rfl) (fun k x z z' hx hz h=>by
  injection h with h;rw[←h];simp[hz]) (fun z _=>by unfold ID;dsimp only;rw[av (by simp)]) ([],0) rfl
 rw[this,qm (fun(z:List (Int×Int)×Nat) (x:aT)=>(cq z.1 x.id (z.2:Int),z.2+1)) _ _ (fun _ _ _=>rfl),aj]
 rfl
theorem aja:∀ (l:List aT) (z:List (Int×Int)×Nat) (id:Int),eu (l.foldl (fun(p:List (Int×Int)×Nat) b=>(cq p.1 b.id (p.2:Int),p.2+1)) z).1 id=(eu z.1 id||l.any fun b=>decide (b.id=id))
 | [],z,id=>by simp
 | b::l,z,id=>by
  rw[List.foldl_cons,aja l,avx]
  simp only[List.any_cons]
  rw[show decide (id=b.id)=decide (b.id=id) from decide_eq_decide.2 eq_comm]
  cases eu z.1 id<;>cases decide (b.id=id)<;>simp
theorem ai9:∀ (l:List aT) (z:List (Int×Int)×Nat) (id:Int),(l.map aT.id).Nodup→aV (l.foldl (fun(p:List (Int×Int)×Nat) b=>(cq p.1 b.id (p.2:Int),p.2+1)) z).1 id 0=match l.findIdx? fun b=>decide (b.id=id) with | some i=>((z.2+i:Nat):Int) | none=>aV z.1 id 0
 | [],z,id,_=>by simp
 | b::l,z,id,hn=>by
  simp only[List.map_cons,List.nodup_cons,List.mem_map] at hn
  rw[List.foldl_cons,ai9 l _ id hn.2,List.findIdx?_cons]
  dsimp only
  by_cases h:b.id=id
  ·have:(l.findIdx? fun b=>decide (b.id=id))=none:=by
    rw[List.findIdx?_eq_none_iff]
    intro x hx
    simp only[decide_eq_false_iff_not]
    exact fun e=>hn.1 ⟨x,hx,by rw[e,h]⟩
   rw[this]
   simp[h,MP]
  simp only[h,decide_false]
  cases hf:l.findIdx? fun b=>decide (b.id=id) with
  | none=>simp[MP,Ne.symm h]
  | some i=>
   simp only[Option.map_some,Bool.false_eq_true,if_false]
   exact congrArg Int.ofNat (by omega:z.2+1+i=z.2+(i+1))
theorem avI (l:List aT) (id:Int):eu (eS l) id=l.any fun b=>decide (b.id=id):=by
 unfold eS;rw[aja];rfl
theorem ai8 {l:List aT} (hn:(l.map aT.id).Nodup) {id:Int} (h:(l.any fun b=>decide (b.id=id))=true):aV (eS l) id 0=ix l fun b=>decide (b.id=id):=by
 unfold eS
 rw[ai9 l _ id hn]
 unfold ix
 cases hf:l.findIdx? fun b=>decide (b.id=id) with
 | none=>
  have:(l.findIdx? fun b=>decide (b.id=id)).isSome=l.any _:=List.findIdx?_isSome
  rw[hf,h] at this;cases this
 | some i=>simp
theorem akq {bars:List aT} (hl:bars.length≤1048576) (id:Int):IN bars id=some (ix bars fun b=>decide (b.id=id)):=by
 unfold IN
 rw[Iv (l:=bars) (fun b=>decide (b.id=id)) (fun k x hx=>by
  have hk:=de hx
  unfold Nq Tj
  rw[ar (by simpa using hk),bl (bm hx)]
  by_cases h:x.id=id
  ·rw[ar (by simp[h])];simp[h]
  rw[av (by simp[h]),aZ (by omega)];simp[h]) (by unfold Nq;rw[av (by simp)]),aj]
 unfold ix
 cases bars.findIdx? _<;>rfl
end Go.Proofs.YtjigeffmmcmlnaaGreatDoor
namespace Go.Proofs.YtjigeffmmcmlnaaGreatDoor
open Go Go.an au
@[reducible] def aw9:e8:=⟨False⟩
attribute [local instance] cJ aw9
theorem th (c d:Bool):ak c (some true) (some d)=some (c||d):=by cases c<;>rfl
theorem oZ (c d:Bool):ak c (some d) (some false)=some (c&&d):=by cases c<;>rfl
theorem RG (c d:Bool):ak c (some false) (some d)=some (!c&&d):=by cases c<;>rfl
def fits (b:aT) (n:ae):Prop:=fx n.start∧fx n.length∧0 < gM n.length∧gM n.start+gM n.length≤gM b.length∧(1≤n.id∧n.id≤1000000)∧(1≤n.part∧n.part≤1000000)∧(0≤n.fR∧n.fR≤9)∧(0≤n.jy∧n.jy≤20)∧C8 n.bM
instance (b:aT) (n:ae):Decidable (fits b n):=inferInstanceAs (Decidable (_∧_∧_∧_∧_∧_∧_∧_∧_))
def V0 (n:ae):Option aT→Prop
 | some b=>fits b n
 | none=>False
instance (n:ae):(o:Option aT)→Decidable (V0 n o)
 | some b=>inferInstanceAs (Decidable (fits b n))
 | none=>inferInstanceAs (Decidable False)
def gV (bars:List aT) (n:ae):Prop:=V0 n (bars.find? fun b=>decide (b.id=n.dC))
instance (bars:List aT) (n:ae):Decidable (gV bars n):=inferInstanceAs (Decidable (V0 n _))
theorem ajd {bars:List aT} {n:ae} (h:(bars.find? fun b=>decide (b.id=n.dC))=none):¬ gV bars n:=by unfold gV;rw[h];exact fun h=>h
theorem aje {bars:List aT} {n:ae} {b:aT} (h:(bars.find? fun b=>decide (b.id=n.dC))=some b):gV bars n↔fits b n:=by unfold gV;rw[h];exact Iff.rfl
def gq (bars:List aT) (l:List ae):Prop:=qf bars∧l.length≤20000∧(∀ n∈l,gV bars n)∧(l.map ae.id).Nodup
instance (bars:List aT) (l:List ae):Decidable (gq bars l):=inferInstanceAs (Decidable (_∧_∧_∧_))
theorem avF {b:aT} (hb:fx b.length) (n:ae):MY b n=some (decide (fits b n)):=by
 unfold MY
 rw[C9,aj]
 by_cases h1:fx n.start
 ·rw[if_pos h1]
  dsimp only
  rw[C9,aj]
  by_cases h2:fx n.length
  ·rw[if_pos h2]
   dsimp only
   rw[C9,aj,if_pos hb]
   dsimp only
   have t1:=B1 h1
   have t2:=B1 h2
   unfold MZ
   rw[aZ (by omega)]
   simp only[avG,aaC,avH,aj,oZ]
   congr 1
   unfold fits
   rw[Bool.eq_iff_iff]
   simp[h1,h2,and_assoc]
  rw[if_neg h2]
  dsimp only
  rw[C9,aj,if_pos hb]
  dsimp only
  unfold MZ fits
  rw[ar rfl,av rfl,aj];simp[h2]
 rw[if_neg h1]
 dsimp only
 rw[C9,aj]
 by_cases h2:fx n.length
 all_goals
  simp only[h2,if_true,if_false]
  rw[C9,aj,if_pos hb]
  dsimp only
  unfold MZ fits
  rw[av rfl,aj];simp[h1]
theorem ay5 {bars:List aT} (hb:qf bars) (n:ae):Nr bars n=some (decide (gV bars n)):=by
 have hl:=hb.1.2
 unfold Nr
 rw[akq (by omega),aj,ayZ,aj]
 unfold abv
 simp only[ay7,aj,th]
 rcases zO bars fun b=>decide (b.id=n.dC) with ⟨h1,h2⟩ | ⟨k,b,h1,h2,h3,h4⟩
 ·rw[h2,ar (by simp),decide_eq_false (ajd h1)]
 have AZ:=(hb.2.1 b (List.mem_of_getElem? h1)).2.1
 rw[h3,decide_eq_decide.2 (aje h2)]
 by_cases hc:C8 n.bM∧(1≤n.id∧n.id≤1000000)∧(1≤n.part∧n.part≤1000000)∧(0≤n.fR∧n.fR≤9)∧(0≤n.jy∧n.jy≤20)
 ·obtain⟨c1,c2,c3,c4,c5⟩:=hc
  rw[av (by simp[c1,c2,c3,c4,c5]),Nl,Nl,aj,aj]
  unfold abw fits
  by_cases d1:fx n.start
  ·by_cases d2:fx n.length
   ·have t1:=B1 d1
    have t2:=B1 d2
    rw[if_pos d1,if_pos d2,aZ (by omega),bl (bm h1),Nl,if_pos AZ,aj]
    simp only[oZ,aj]
    congr 1
    rw[Bool.eq_iff_iff]
    simp[d1,d2,c1,c2,c3,c4,c5,t1]
   rw[if_neg d2]
   simp only[d1,d2,if_true]
   rw[ar (by simp;exact aAi d1),av (by simp),aj]
   simp
  rw[if_neg d1,av (by simp),aj]
  simp[d1]
 rw[ar (by
  rw[show decide ((k:Int) < 0)=false from decide_eq_false (by omega),Bool.false_or]
  refine Classical.byContradiction fun hf=>hc ?_
  simp only[Bool.not_eq_true,Bool.or_eq_false_iff,Bool.not_eq_false',decide_eq_true_eq] at hf
  exact⟨hf.1,hf.2.1,hf.2.2.1,hf.2.2.2.1,hf.2.2.2.2⟩)]
 congr 1;symm
 exact decide_eq_false fun h=>hc ⟨h.2.2.2.2.2.2.2.2,h.2.2.2.2.1,h.2.2.2.2.2.1,h.2.2.2.2.2.2.1,h.2.2.2.2.2.2.2.1⟩
theorem VY {α:Type} (l:List α) (p:α→Bool):l.any p=(l.find? p).isSome:=by
 rw[Bool.eq_iff_iff,List.find?_isSome,List.any_eq_true]
theorem aar {bars:List aT} (hl:bars.length≤1048576) (l:List ae):Fw bars l=some (decide (gq bars l)):=by
 unfold Fw aas
 rw[aiU hl,aj]
 by_cases hb:qf bars
 ·rw[av (by simp[hb]),aj]
  by_cases h1:20000 < l.length
  ·have:¬ gq bars l:=fun h=>by have:=h.2.1;omega
   rw[ar (decide_eq_true (by omega))];simp[this]
  rw[av (decide_eq_false (by omega)),ai7 hl,aj]
  rw[kn (σ:=List (Int×Bool)) (st:=fun z k=>(z,k)) (l:=l) (fun z x=>if !decide (gV bars x)||aV z x.id false then .inr (.inl false) else .inl (cq z x.id true)) (fun _=> .inr ()) (fun _ _=>True) (fun k x z hx _=>by
   have hk:=de hx
   unfold MX aat
   dsimp only
   rw[ar (by simpa using hk),bl (bm hx),avI]
   have LC:=VY bars fun b=>decide (b.id=x.dC)
   rcases zO bars fun b=>decide (b.id=x.dC) with ⟨h1,h2⟩ | ⟨j,b,h1,h2,h3,h4⟩
   ·rw[h1] at LC
    rw[LC,ar (by simp),aj,ar rfl,decide_eq_false (ajd h1)]
    rfl
   rw[decide_eq_decide.2 (aje h2)]
   rw[h2] at LC
   have AZ:=(hb.2.1 b (List.mem_of_getElem? h1)).2.1
   rw[LC,av (by simp),ai8 hb.2.2 (by rw[LC];rfl),h3,bl (bm h1),avF AZ,aj]
   rw[th,aj,Bool.or_comm]
   by_cases hc:(!decide (fits b x)||aV z x.id false)=true
   ·rw[ar hc,if_pos hc]
   rw[av (by simpa using hc),if_neg hc]
   unfold SH
   rw[aZ (by omega)];rfl) (fun _ _ _ _ _ _ _=>trivial) (fun z _=>by unfold MX;dsimp only;rw[av (by simp)]) [] trivial,aj,Wa]
  by_cases hc:(∀ x∈l,(!decide (gV bars x))=false)∧(l.map ae.id).Nodup∧∀ x∈l,aV ([]:List (Int×Bool)) x.id false=false
  ·rw[if_pos hc]
   have:gq bars l:=⟨hb,by omega,fun n hn=>by simpa using hc.1 n hn,hc.2.1⟩
   simp[this,SG]
  rw[if_neg hc]
  have:¬ gq bars l:=fun h=>hc ⟨fun n hn=>by simp[h.2.2.1 n hn],h.2.2.2,fun n _=>rfl⟩
  simp[this]
 have:¬ gq bars l:=fun h=>hb h.1
 rw[ar (by simp[hb]),aj,ar rfl];simp[this]
theorem akt (bars:List aT) (l:List ae):IQ bars l=some (decide (gq bars l)):=by
 unfold IQ abx
 rw[akp,aj]
 by_cases hb:qf bars
 ·rw[av (by simp[hb]),aj]
  by_cases h1:20000 < l.length
  ·have:¬ gq bars l:=fun h=>by have:=h.2.1;omega
   rw[ar (decide_eq_true (by omega))];simp[this]
  rw[av (decide_eq_false (by omega)),ML l.length (xB (fun n=> !decide (gV bars n)) (fun x y=>decide (x.id=y.id)) l) false (fun k hk=>by
   have hx:l[k]?=some l[k]:=List.getElem?_eq_getElem hk
   generalize l[k]=x at hx
   unfold Nw
   rw[ar (by simpa using hk),bl (bm hx),ay5 hb,aj]
   unfold xB
   rw[hx]
   dsimp only
   by_cases hn:gV bars x
   ·rw[av (by simp[hn]),zX (l:=l.take k) (fun y=>decide (y.id=x.id)) false (fun j y hy=>by
     obtain⟨hj,hy⟩:=UH hy
     unfold Nx Ts
     rw[ar (by simpa using hj),bl (bm hy),bl (bm hx)]
     by_cases he:y.id=x.id
     ·rw[ar (by simp[he])];simp[he]
     ·rw[av (by simp[he]),aZ (by omega)];simp[he]) (by
     unfold Nx
     rw[List.length_take,Nat.min_eq_left (by omega),av (by simp)]),aj]
    by_cases ha:((l.take k).any fun y=>decide (y.id=x.id))=true
    ·rw[if_pos ha,if_pos (by rw[ha];simp)]
    rw[if_neg ha,if_neg (by simp[hn] at ha ⊢;exact ha)]
    dsimp only
    unfold Tq
    rw[aZ (by omega)];rfl
   rw[ar (by simp[hn]),if_pos (by simp[hn])]) (by unfold Nw;rw[av (by simp)]),aj]
  have key:=Uh (fun n=> !decide (gV bars n)) (fun x y=>decide (x.id=y.id)) l
  rw[abj ae.id] at key
  by_cases hc:gq bars l
  ·rw[if_neg]
   ·simp[hc,Tr]
   rw[key];exact fun h=>h ⟨fun n hn=>by simp[hc.2.2.1 n hn],hc.2.2.2⟩
  rw[if_pos]
  ·simp[hc]
  rw[key];exact fun h=>hc ⟨hb,by omega,fun n hn=>by simpa using h.1 n hn,h.2⟩
 have:¬ gq bars l:=fun h=>hb h.1
 rw[ar (by simp[hb]),aj,ar rfl];simp[this]
theorem H8 {α:Type} {f:α→Int} {l:List α} (h:(l.map f).Nodup) {a b:α} (ha:a∈l) (hb:b∈l) (e:f a=f b):a=b:=by
 induction l with
 | nil=>cases ha
 | cons x l ih=>
  simp only[List.map_cons,List.nodup_cons,List.mem_map] at h
  rcases List.mem_cons.1 ha with rfl | ha<;>rcases List.mem_cons.1 hb with rfl | hb
  ·rfl
  ·exact absurd ⟨b,‹_›,e.symm⟩ h.1
  ·exact absurd ⟨a,‹_›,e⟩ h.1
  exact ih h.2 ‹_› ‹_›
theorem IF {bars:List aT} {n:ae} (h:gV bars n):∃ (k:Nat) (b:aT),bars[k]?=some b∧b.id=n.dC∧fits b n∧ix bars (fun b=>decide (b.id=n.dC))=(k:Int):=by
 unfold gV at h
 rcases zO bars fun b=>decide (b.id=n.dC) with ⟨h1,h2⟩ | ⟨k,b,h1,h2,h3,h4⟩
 ·rw[h1] at h;exact h.elim
 rw[h2] at h;exact⟨k,b,h1,by simpa using h4,h,h3⟩
theorem ajf {bars:List aT} (hb:qf bars) {n:ae} (h:gV bars n):aV (eS bars) n.dC 0=ix bars (fun b=>decide (b.id=n.dC))∧0≤aV (eS bars) n.dC 0∧aV (eS bars) n.dC 0≤4000:=by
 obtain⟨k,b,h1,h2,h3,h4⟩:=IF h
 have e:aV (eS bars) n.dC 0=ix bars (fun b=>decide (b.id=n.dC)):=ai8 hb.2.2 (by rw[List.any_eq_true];exact⟨b,List.mem_of_getElem? h1,by simp[h2]⟩)
 have hk:=de h1
 have:=hb.1.2
 exact⟨e,by rw[e,h4];omega,by rw[e,h4];omega⟩
theorem avL {bars:List aT} (hb:qf bars) {n:ae} (h:gV bars n):xw (eS bars) n:=by
 obtain⟨k,b,h1,h2,h3,h4⟩:=IF h
 obtain⟨e,i1,i2⟩:=ajf hb h
 unfold fits C8 at h3
 unfold xw
 refine⟨by omega,by omega,h3.1,by omega,h3.2.2.2.2.2.2.2.2.1,by omega⟩
theorem aaA {at_:List (Int×Int)} {l:List ae} (hn:(l.map ae.id).Nodup):oO (dK (nK at_)) l:=by
 intro a ha b hb h1 h2
 have h:=anF (MW at_) h1 h2
 unfold nK at h
 simp only[List.cons.injEq] at h
 exact H8 hn ha hb h.2.2.2.2.2.1
theorem avN {bars:List aT} {l:List ae} (h:gq bars l):M1 bars l=some (oK (eS bars) l):=by
 have:=h.1.1.2
 have:=h.2.1
 unfold M1
 rw[ai7 (by omega),aj,cu (by omega),cu]
 exact⟨by omega,fun n hn=>avL h.1 (h.2.2.1 n hn),aaA h.2.2.2⟩
theorem akv {bars:List aT} (hb:qf bars) {n:ae} (h:gV bars n):IS bars n=some (nK (eS bars) n):=by
 obtain⟨k,b,h1,h2,h3,h4⟩:=IF h
 obtain⟨e,i1,i2⟩:=ajf hb h
 have:=hb.1.2
 unfold IS
 rw[akq (by omega),aj,Nl,if_pos h3.1,aj,IL h3.2.2.2.2.2.2.2.2.1,aj]
 unfold nK
 rw[e]
def SZ (z:Int):Bool⊕Unit:=if z=0 then .inr () else .inl (decide (z < 0))
theorem anm {x y:List Int} (hl:x.length=y.length) (hs:x.length≤1000):aH (BJ x y) 0=some (SZ (iX (x.zipWith (· - ·) y))):=by
 have key:∀ (n k:Nat),k+n=x.length→aH (BJ x y) (k:Int)=some (SZ (iX ((x.drop k).zipWith (· - ·) (y.drop k)))):=by
  intro n
  induction n with
  | zero=>
   intro k hk
   rw[List.drop_eq_nil_of_le (by omega)]
   refine si ?_
   unfold BJ
   rw[av (by simp;omega)];rfl
  | succ n ih=>
   intro k hk
   have h1:k < x.length:=by omega
   have h2:k < y.length:=by omega
   have hx:x[k]?=some x[k]:=List.getElem?_eq_getElem h1
   have hy:y[k]?=some y[k]:=List.getElem?_eq_getElem h2
   rw[List.drop_eq_getElem_cons h1,List.drop_eq_getElem_cons h2]
   simp only[List.zipWith_cons_cons,iX]
   generalize x[k]=u at *
   generalize y[k]=v at *
   by_cases he:u=v
   ·have hs:BJ x y (k:Int)=some (.inl ((k+1:Nat):Int)):=by
     unfold BJ Tk
     rw[ar (by simpa using h1),bl (bm hx),bl (bm hy),av (by simp[he]),aZ (by omega)];rfl
    rw[vl hs,if_pos (by omega)]
    exact ih (k+1) (by omega)
   refine si ?_
   unfold BJ
   rw[ar (by simpa using h1),bl (bm hx),bl (bm hy),ar (by simp[he]),bl (bm hx),bl (bm hy),if_neg (by omega)]
   unfold SZ
   rw[if_neg (by omega)]
   congr 3
   rw[decide_eq_decide];omega
 have:=key x.length 0 (by omega)
 simpa using this
theorem akr {bars:List aT} (hb:qf bars) {a b:ae} (h1:gV bars a) (h2:gV bars b):IP bars a b=some (decide (dK (nK (eS bars)) a b < 0)):=by
 unfold IP
 rw[akv hb h1,akv hb h2,aj,aj,anm (x:=nK (eS bars) a) (y:=nK (eS bars) b) rfl (by rw[MW];omega),aj]
 unfold SZ dK
 by_cases h:iX ((nK (eS bars) a).zipWith (· - ·) (nK (eS bars) b))=0
 ·rw[if_pos h,h];rfl
 rw[if_neg h]
def bk {α:Type} (p:α→Bool) (l:List α):Nat:=(l.reverse.dropWhile p).length
theorem U0 {α:Type} (p:α→Bool) (l:List α):bk p l≤l.length:=by
 unfold bk
 have:=(List.dropWhile_sublist (l:=l.reverse) p).length_le
 simpa using this
def Fb {α:Type} (p:α→Bool) (l:List α) (x:α):List α:=l.take (bk p l)++[x]++l.drop (bk p l)
theorem aae {α:Type} {step:Int→Option (Int⊕Int)} {l:List α} (p:α→Bool)
  (h:∀ (k:Nat) x,l[k]?=some x→step ((k:Int)+1)=some (if p x=true then .inl (k:Int) else .inr ((k:Int)+1))) (h0:step 0=some (.inr 0)) :
  aH step (l.length:Int)=some ((bk p l:Nat):Int):=by
 have key:∀ n,n≤l.length→aH step (n:Int)=some ((bk p (l.take n):Nat):Int):=by
  intro n
  induction n with
  | zero=>intro _;rw[show((0:Nat):Int)=0 from rfl,si h0];rfl
  | succ n ih=>
   intro hn
   have hx:l[n]?=some l[n]:=List.getElem?_eq_getElem (by omega)
   have e:l.take (n+1)=l.take n++[l[n]]:=by rw[List.take_add_one,hx];rfl
   have hb:bk p (l.take (n+1))=if p l[n]=true then bk p (l.take n) else n+1:=by
    unfold bk
    rw[e,List.reverse_append,List.reverse_singleton,List.singleton_append,List.dropWhile_cons]
    split
    ·rfl
    simp;omega
   have hs:=h n _ hx
   rw[hb]
   by_cases hp:p l[n]=true
   ·rw[if_pos hp] at hs ⊢
    have:=ih (by omega)
    rw[←this];exact vl hs
   rw[if_neg hp] at hs ⊢
   exact si hs
 have:=key l.length (Nat.le_refl _)
 rwa [List.take_length] at this
theorem Mn {α:Type} (p:α→Bool) (l:List α) (x:α):(Fb p l x).Perm (x::l):=by
 unfold Fb
 have:(l.take (bk p l)++[x]++l.drop (bk p l)).Perm ([x]++l.take (bk p l)++l.drop (bk p l)):=(List.perm_append_comm).append_right _
 refine this.trans ?_
 simp
theorem aiY {α:Type} {p:α→Bool} {y:α}:∀ {l:List α},y∈l.takeWhile p→p y=true
 | [],h=>by cases h
 | x::l,h=>by
  rw[List.takeWhile_cons] at h
  split at h
  ·rcases List.mem_cons.1 h with rfl | h
   ·assumption
   exact aiY h
  cases h
theorem ano {α:Type} (p:α→Bool) (l:List α):(∀ y∈l.drop (bk p l),p y=true)∧(∀ (y:α),(l.take (bk p l)).getLast?=some y→p y=false):=by
 have e:l=(l.reverse.dropWhile p).reverse++(l.reverse.takeWhile p).reverse:=by
  rw[←List.reverse_append,List.takeWhile_append_dropWhile,List.reverse_reverse]
 have hlen:bk p l=(l.reverse.dropWhile p).reverse.length:=by simp[bk]
 have h1:l.take (bk p l)=(l.reverse.dropWhile p).reverse:=by
  rw[hlen];conv=>lhs;rw[e]
  simp
 have h2:l.drop (bk p l)=(l.reverse.takeWhile p).reverse:=by
  rw[hlen];conv=>lhs;rw[e]
  simp
 constructor
 ·intro y hy
  rw[h2,List.mem_reverse] at hy
  exact aiY hy
 intro y hy
 rw[h1,List.getLast?_reverse] at hy
 have:=List.head?_dropWhile_not p l.reverse
 rw[hy] at this
 simpa using this
theorem YQ {α:Type} {R:α→α→Prop} (tr:∀ a b c,R a b→R b c→R a c) {p:α→Bool} {l:List α} {x:α} (h:l.Pairwise R) (ht:∀ y∈l,p y=true→R x y) (hf:∀ y∈l,p y=false→R y x):(Fb p l x).Pairwise R:=by
 obtain⟨s1,s2⟩:=ano p l
 have bL:∀ y∈l.take (bk p l),R y x:=by
  intro y hy
  have ba:l.take (bk p l)≠[]:=List.ne_nil_of_mem hy
  have vW:=s2 _ (List.getLast?_eq_some_getLast ba)
  have hm:(l.take (bk p l)).getLast ba∈l:=List.mem_of_mem_take (List.getLast_mem ba)
  have hx:=hf _ hm vW
  have L4:(l.take (bk p l)).Pairwise R:=h.sublist (List.take_sublist _ _)
  by_cases he:y=(l.take (bk p l)).getLast ba
  ·rw[he];exact hx
  have hd:l.take (bk p l)=(l.take (bk p l)).dropLast++[(l.take (bk p l)).getLast ba]:=(List.dropLast_concat_getLast ba).symm
  rw[hd] at L4
  have Mf:y∈(l.take (bk p l)).dropLast:=by
   rw[hd] at hy
   rcases List.mem_append.1 hy with hy | hy
   ·exact hy
   simp at hy;exact absurd hy he
  exact tr _ _ _ ((List.pairwise_append.1 L4).2.2 y Mf _ (by simp)) hx
 have hl:(l.take (bk p l)++l.drop (bk p l)).Pairwise R:=by rw[List.take_append_drop];exact h
 rw[List.pairwise_append] at hl
 unfold Fb
 rw[List.append_assoc,List.pairwise_append]
 refine⟨hl.1,?_,?_⟩
 ·rw[List.singleton_append,List.pairwise_cons]
  exact⟨fun y hy=>ht y (List.mem_of_mem_drop hy) (s1 y hy),hl.2.1⟩
 intro a ha b hb
 rw[List.singleton_append,List.mem_cons] at hb
 rcases hb with rfl | hb
 ·exact bL a ha
 exact hl.2.2 a ha b hb
end Go.Proofs.YtjigeffmmcmlnaaGreatDoor
namespace Go.Proofs.YtjigeffmmcmlnaaGreatDoor
open Go Go.an au
@[reducible] def axa:e8:=⟨False⟩
attribute [local instance] cJ axa
theorem P5 (at_:List (Int×Int)):Go.Sort.SWO (Go.Proofs.ltOf (dK (nK at_))):=UF (MW at_)
theorem afl {at_:List (Int×Int)} {a b:ae} (h:dK (nK at_) a b < 0):¬ dK (nK at_) b a < 0:=by
 have:=V7 (nK at_ a) (nK at_ b) rfl
 unfold dK at *
 rw[this];omega
theorem anG (at_:List (Int×Int)) (a b c:ae) (h1:¬ dK (nK at_) b a < 0) (h2:¬ dK (nK at_) c b < 0):¬ dK (nK at_) c a < 0:=
 V8 (nK at_ c) (nK at_ b) (nK at_ a) rfl rfl h2 h1
theorem anH (at_:List (Int×Int)) (a b c:ae) (h1:dK (nK at_) a b < 0) (h2:dK (nK at_) b c < 0):dK (nK at_) a c < 0:=
 V9 (nK at_ a) (nK at_ b) (nK at_ c) rfl rfl h1 h2
def Bl (at_:List (Int×Int)) (z:List ae) (x:ae):List ae:=Fb (fun y=>decide (dK (nK at_) x y < 0)) z x
theorem atK {at_:List (Int×Int)} {z:List ae} (h:z.Pairwise fun a b=>¬ dK (nK at_) b a < 0) (x:ae):(Bl at_ z x).Pairwise fun a b=>¬ dK (nK at_) b a < 0:=by
 unfold Bl
 refine YQ (R:=fun a b=>¬ dK (nK at_) b a < 0) (anG at_) h (fun y _ hp=>?_) fun y _ hp=>?_
 ·exact afl (of_decide_eq_true hp)
 exact of_decide_eq_false hp
theorem af3 {at_:List (Int×Int)}:∀ (l z:List ae),(z.Pairwise fun a b=>¬ dK (nK at_) b a < 0)→((l.foldl (Bl at_) z).Pairwise fun a b=>¬ dK (nK at_) b a < 0)∧(l.foldl (Bl at_) z).Perm (l++z)
 | [],z,h=>⟨h,List.Perm.refl _⟩
 | x::l,z,h=>by
  obtain⟨h1,h2⟩:=af3 l (Bl at_ z x) (atK h x)
  refine⟨h1,h2.trans ?_⟩
  refine((Mn _ z x).append_left l).trans ?_
  exact List.perm_middle
theorem Oy {at_:List (Int×Int)} {l m:List ae} (hm:m.Pairwise fun a b=>¬ dK (nK at_) b a < 0) (hp:m.Perm l) (hn:(l.map ae.id).Nodup):m=oK at_ l:=
 acy hm (Dq (P5 at_) l) (hp.trans (vt _ l).symm) ((aaA hn).perm hp.symm)
theorem ay8 {bars:List aT} (hb:qf bars) {z:List ae} {x:ae} (hz:∀ y∈z,gV bars y) (hx:gV bars x) (hl:z.length≤100000):Ny bars z x=some (Bl (eS bars) z x):=by
 unfold Ny
 rw[aae (l:=z) (fun y=>decide (dK (nK (eS bars)) x y < 0)) (fun k y hy=>by
  have hk:=de hy
  unfold Nz Tu
  rw[ar (decide_eq_true (by omega)),aZ (by omega),show(k:Int)+1 - 1=(k:Int) by omega,bl (bm hy),akr hb hx (hz y (List.mem_of_getElem? hy)),aj,aj]
  by_cases h:dK (nK (eS bars)) x y < 0
  ·rw[ar (by simp[h]),aZ (by omega)];simp[h]
  rw[av (by simp[h])];simp[h]) (by unfold Nz Tu;rw[av (by simp),aj,av rfl]),aj]
 have hle:=U0 (fun y=>decide (dK (nK (eS bars)) x y < 0)) z
 unfold Tt
 rw[cu (by omega),cu (by rw[List.length_take];simp;omega),cu (by rw[List.length_append,List.length_take];simp;omega),cu (by omega),cu (by simp;omega)]
 simp only[Int.toNat_natCast]
 rfl
theorem ay6 {bars:List aT} (hb:qf bars) {l:List ae} (hn:∀ n∈l,gV bars n) (hl:l.length≤100000) (aB:(l.map ae.id).Nodup):Nu bars l=some (oK (eS bars) l):=by
 unfold Nu
 rw[kn (σ:=List ae) (st:=fun z k=>(z,k)) (l:=l) (fun z x=> .inl (Bl (eS bars) z x)) (fun z=>z) (fun k z=>(∀ y∈z,gV bars y)∧z.length=k) (fun k x z hx hz=>by
  have hk:=de hx
  unfold Nv Tp
  dsimp only
  rw[ar (by simpa using hk),bl (bm hx),ay8 hb hz.1 (hn x (List.mem_of_getElem? hx)) (by omega),aj,aZ (by omega)];rfl) (fun k x z z' hx hz h=>by
  injection h with h;subst h
  have hp:=Mn (fun y=>decide (dK (nK (eS bars)) x y < 0)) z x
  refine⟨fun y hy=>?_,?_⟩
  ·rcases List.mem_cons.1 (hp.subset hy) with rfl | hy
   ·exact hn y (List.mem_of_getElem? hx)
   exact hz.1 y hy
  rw[show(Bl (eS bars) z x).length=z.length+1 from hp.length_eq,hz.2]) (fun z _=>by unfold Nv;dsimp only;rw[av (by simp)]) [] ⟨by simp,rfl⟩,qm (Bl (eS bars)) _ _ (fun _ _ _=>rfl),aj]
 obtain⟨h1,h2⟩:=af3 (at_:=eS bars) l [] List.Pairwise.nil
 unfold To
 rw[Oy h1 (by simpa using h2) aB]
theorem afn {α:Type} {R:α→α→Prop} (tr:∀ a b c,R a b→R b c→R a c):∀ {l:List α},(∀ (k:Nat) a b,l[k]?=some a→l[k+1]?=some b→R a b)→l.Pairwise R
 | [],_=>List.Pairwise.nil
 | [a],_=>by simp
 | a::b::l,h=>by
  have ih:=afn tr (l:=b::l) fun k x y h1 h2=>h (k+1) x y (by simpa using h1) (by simpa using h2)
  rw[List.pairwise_cons]
  refine⟨fun y hy=>?_,ih⟩
  have h0:=h 0 a b rfl rfl
  rcases List.mem_cons.1 hy with rfl | hy
  ·exact h0
  exact tr _ _ _ h0 ((List.pairwise_cons.1 ih).1 y hy)
def Hy (at_:List (Int×Int)) (l:List ae) (k:Nat):Bool:=match l[k]?,l[k+1]? with
 | some a,some b=> !decide (dK (nK at_) a b < 0)
 | _,_=>false
theorem api {at_:List (Int×Int)} {l:List ae} (aB:(l.map ae.id).Nodup):(List.range (l.length - 1)).any (Hy at_ l)=true↔¬ oK at_ l=l:=by
 constructor
 ·intro h hs
  obtain⟨k,hk,hg⟩:=List.any_eq_true.1 h
  have hk:=List.mem_range.1 hk
  have h1:l[k]?=some l[k]:=List.getElem?_eq_getElem (by omega)
  have h2:l[k+1]?=some l[k+1]:=List.getElem?_eq_getElem (by omega)
  unfold Hy at hg
  rw[h1,h2] at hg
  simp only[Bool.not_eq_true',decide_eq_false_iff_not] at hg
  have L4:=Dq (P5 at_) l
  rw[show bD (dK (nK at_)) l=l from hs] at L4
  have h3:=(List.pairwise_iff_getElem.1 L4) k (k+1) (by omega) (by omega) (by omega)
  have h4:=aaA (at_:=at_) aB _ (List.getElem_mem (h:=(by omega:k < l.length))) _ (List.getElem_mem (h:=(by omega:k+1 < l.length))) hg h3
  have gj:l.Nodup:=List.Pairwise.of_map ae.id (fun a b cA=>fun e=>cA (by rw[e])) aB
  have:=(List.pairwise_iff_getElem.1 gj) k (k+1) (by omega) (by omega) (by omega)
  exact this h4
 intro hs
 refine Classical.byContradiction fun ca=>hs ?_
 symm
 refine Oy ?_ (List.Perm.refl _) aB
 have:l.Pairwise fun a b=>dK (nK at_) a b < 0:=afn (anH at_) fun k a b h1 h2=>by
  refine Classical.byContradiction fun hc=>ca (List.any_eq_true.2 ⟨k,List.mem_range.2 ?_,?_⟩)
  ·have:=de h2;omega
  unfold Hy;rw[h1,h2];simp[hc]
 exact this.imp fun h=>afl h
theorem au6 {ρ:Type} {step:Int→Option (Int⊕(ρ⊕Unit))} (n:Nat) (p:Nat→Bool) (r:ρ)
  (h:∀ (k:Nat),k < n→step ((k:Int)+1)=some (if p k=true then .inr (.inl r) else .inl ((k:Int)+1+1))) (cM:step ((n:Int)+1)=some (.inr (.inr ()))) :
  aH step 1=some (if(List.range n).any p=true then .inl r else .inr ()):=by
 have:=kn (σ:=Unit) (st:=fun _ k=>k+1) (step:=step) (l:=List.range n) (fun _ x=>if p x=true then .inr (.inl r) else .inl ()) (fun _=> .inr ()) (fun _ _=>True) (fun k x z hx _=>by
  have hk:=de hx
  rw[List.getElem?_range (by simpa using hk)] at hx
  injection hx with hx;subst hx
  rw[h k (by simpa using hk)];split<;>rename_i hp<;>simp[hp]) (fun _ _ _ _ _ _ _=>trivial) (fun z _=>by rw[List.length_range];exact cM) () trivial
 rw[show(0:Int)+1=1 from rfl] at this
 rw[this]
 congr 1
 clear this h cM
 generalize List.range n=l
 induction l with
 | nil=>rfl
 | cons x l ih=>
  simp only[pK,List.any_cons]
  by_cases hp:p x=true
  ·simp[hp]
  simp only[hp,Bool.false_or]
  simpa using ih
def xD (i:Interval):Prop:=(-21≤i.steps∧i.steps≤21)∧(-36≤i.gu∧i.gu≤36)∧(-12≤7*i.gu - 12*i.steps∧7*i.gu - 12*i.steps≤12)
instance (i:Interval):Decidable (xD i):=inferInstanceAs (Decidable (_∧_∧_))
def vm (p:Part):Prop:=(1≤p.id∧p.id≤1000000)∧(0≤p.xC∧p.xC≤99)∧(0≤p.of∧p.of≤1000000)∧(-2≤p.bU∧p.bU≤2)∧(1≤p.wW∧p.wW≤40)∧xD p.shift∧fO p.low∧fO p.high∧p.of≠p.id∧(p.of=0→p.bU=0)∧num p.low≤num p.high
instance (p:Part):Decidable (vm p):=inferInstanceAs (Decidable (_∧_∧_∧_∧_∧_∧_∧_∧_∧_∧_))
def vQ (i:Interval):Prop:=(-70≤i.steps∧i.steps≤70)∧(-120≤i.gu∧i.gu≤120)
instance (i:Interval):Decidable (vQ i):=inferInstanceAs (Decidable (_∧_))
theorem ay1 (i:Interval):Nj i=some (if vQ i then(7*i.gu - 12*i.steps,0) else(0,1)):=by
 unfold Nj Td abp
 simp only[ay2,aj,oZ]
 by_cases h:vQ i
 ·have h':=h
  unfold vQ at h'
  rw[if_pos h,av (by simp;omega),aZ (by omega),aZ (by omega),aZ (by omega)]
 have h':=h
 unfold vQ at h'
 rw[if_neg h,ar (by simp;omega)]
theorem auD (i:Interval):MD i=some (if vQ i then(7*i.gu - 12*i.steps,0) else(0,1)):=by
 unfold MD RY S3 S5 abc
 simp only[akc,aj,oZ]
 by_cases h:vQ i
 ·have h':=h
  unfold vQ at h'
  rw[if_pos h,av (by simp;omega),aZ (by omega),aZ (by omega),aj]
  rw[aj,av (by simp),aZ (by omega),aZ (by omega),aZ (by omega)]
 have h':=h
 unfold vQ at h'
 rw[if_neg h,ar (by simp;omega),aj]
 dsimp only
 rw[aj,ar (by simp)]
theorem az6 (i:Interval):Jt i=some (decide (xD i)):=by
 unfold Jt acW
 rw[auD,aj]
 by_cases h:vQ i
 ·rw[if_pos h]
  dsimp only
  simp only[OI,aj,oZ]
  congr 1
  unfold xD
  rw[Bool.eq_iff_iff]
  simp[and_assoc]
 rw[if_neg h]
 dsimp only
 rw[av (by simp),aj]
 congr 1;symm
 exact decide_eq_false fun hs=>h (by unfold xD at hs;unfold vQ;omega)
theorem azb (i:Interval):NJ i=some (decide (xD i)):=by
 unfold NJ abG
 rw[ay1,aj]
 by_cases h:vQ i
 ·rw[if_pos h]
  dsimp only
  simp only[NO,aj,oZ]
  congr 1
  unfold xD
  rw[Bool.eq_iff_iff]
  simp[and_assoc]
 rw[if_neg h]
 dsimp only
 rw[av (by simp),aj]
 congr 1;symm
 exact decide_eq_false fun hs=>h (by unfold xD at hs;unfold vQ;omega)
def IJ (p:Part):Prop:=(1≤p.id∧p.id≤1000000)∧(0≤p.xC∧p.xC≤99)∧(0≤p.of∧p.of≤1000000)∧(-2≤p.bU∧p.bU≤2)∧(1≤p.wW∧p.wW≤40)
instance (p:Part):Decidable (IJ p):=inferInstanceAs (Decidable (_∧_∧_∧_∧_))
def Df (p:Part):Prop:=p.of≠p.id∧(p.of=0→p.bU=0)
instance (p:Part):Decidable (Df p):=inferInstanceAs (Decidable (_∧_))
def S4 (p:Part):Prop:=fO p.low∧fO p.high∧num p.low≤num p.high
instance (p:Part):Decidable (S4 p):=inferInstanceAs (Decidable (_∧_∧_))
theorem Dg (p:Part):vm p↔IJ p∧Df p∧xD p.shift∧S4 p:=by
 unfold vm IJ Df S4
 constructor
 ·rintro⟨a1,a2,a3,a4,a5,a6,a7,a8,a9,DN,DO⟩;exact⟨⟨a1,a2,a3,a4,a5⟩,⟨a9,DN⟩,a6,a7,a8,DO⟩
 rintro⟨⟨a1,a2,a3,a4,a5⟩,⟨a9,DN⟩,a6,a7,a8,DO⟩;exact⟨a1,a2,a3,a4,a5,a6,a7,a8,a9,DN,DO⟩
theorem azU (p:Part):Ui p=some (decide (IJ p)):=by
 unfold Ui
 simp only[acs,OI,aj,oZ]
 congr 1
 rw[Bool.eq_iff_iff,decide_eq_true_iff]
 unfold IJ
 simp only[Bool.and_eq_true,decide_eq_true_eq]
theorem azV (p:Part) (b:Bool):Uj p b=some (!(b&&decide (Df p)&&decide (xD p.shift))):=by
 unfold Uj
 rw[az6]
 simp only[aj]
 generalize decide (xD p.shift)=s
 cases b
 ·rfl
 by_cases h1:p.of=p.id
 ·have:¬ Df p:=fun h=>h.1 h1
  rw[decide_eq_false this,av (c:= !true) rfl,ar (by simp[h1])];rfl
 rw[av (c:= !true) rfl,av (decide_eq_false h1)]
 by_cases h2:p.of=0
 ·by_cases h3:p.bU=0
  ·have:Df p:=⟨h1,fun _=>h3⟩
   rw[decide_eq_true this,ar (decide_eq_true h2),av (by simp[h3])];simp
  have:¬ Df p:=fun h=>h3 (h.2 h2)
  rw[decide_eq_false this,ar (decide_eq_true h2),ar (by simp[h3])];simp
 have:Df p:=⟨h1,fun h=>absurd h h2⟩
 rw[decide_eq_true this,av (decide_eq_false h2)];simp
theorem azW (p:Part):Uk p=some (decide (S4 p)):=by
 unfold Uk
 simp only[aa7,aj]
 by_cases h1:fO p.low
 ·rw[ar (decide_eq_true h1)]
  by_cases h2:fO p.high
  ·rw[ar (decide_eq_true h2),Oo h1,Oo h2,aj,aj]
   congr 1;rw[decide_eq_decide];exact⟨fun h=>⟨h1,h2,h⟩,fun h=>h.2.2⟩
  rw[av (decide_eq_false h2)];congr 1;symm;exact decide_eq_false fun h=>h2 h.2.1
 rw[av (decide_eq_false h1)];congr 1;symm;exact decide_eq_false fun h=>h1 h.1
theorem azX (p:Part):Oq p=some (decide (vm p)):=by
 unfold Oq
 rw[azU,aj,azV,aj,azW,aj,RG,decide_eq_decide.2 (Dg p)]
 congr 1
 rw[Bool.eq_iff_iff,decide_eq_true_iff]
 simp only[Bool.not_not,Bool.and_eq_true,decide_eq_true_eq,and_assoc]
theorem ay9 (p:Part):NC p=some (decide (vm p)):=by
 unfold NC abz
 simp only[NO,azb,akn,aj,th]
 by_cases hA:IJ p∧xD p.shift∧fO p.low∧fO p.high
 ·have QS:=hA
  obtain⟨⟨a1,a2,a3,a4,a5⟩,a6,a7,a8⟩:=hA
  rw[av (by simp only[a1,a2,a3,a4,a5,decide_eq_true a6,decide_eq_true a7,decide_eq_true a8,and_self,decide_true];rfl)]
  unfold abA
  rw[IL a7,IL a8]
  simp only[aj]
  by_cases h1:p.of=p.id
  ·rw[av (by simp[h1]),aj]
   congr 1;symm;exact decide_eq_false fun h=>((Dg p).1 h).2.1.1 h1
  rw[ar (by simp[h1])]
  by_cases h2:p.of=0
  ·rw[av (by simp[h2])]
   by_cases h3:p.bU=0
   ·rw[ar (decide_eq_true h3),aj]
    congr 1;rw[decide_eq_decide]
    exact⟨fun h=>(Dg p).2 ⟨QS.1,⟨h1,fun _=>h3⟩,a6,a7,a8,h⟩,fun h=>((Dg p).1 h).2.2.2.2.2⟩
   rw[av (decide_eq_false h3),aj]
   congr 1;symm;exact decide_eq_false fun h=>h3 (((Dg p).1 h).2.1.2 h2)
  rw[ar (by simp[h2]),aj]
  congr 1;rw[decide_eq_decide]
  exact⟨fun h=>(Dg p).2 ⟨QS.1,⟨h1,fun h=>absurd h h2⟩,a6,a7,a8,h⟩,fun h=>((Dg p).1 h).2.2.2.2.2⟩
 rw[ar (by
  refine Classical.byContradiction fun hf=>hA ?_
  simp only[Bool.not_eq_true,Bool.or_eq_false_iff,Bool.not_eq_false'] at hf
  obtain⟨b1,b2,b3,b4,b5,b6,b7,b8⟩:=hf
  exact⟨⟨of_decide_eq_true b1,of_decide_eq_true b2,of_decide_eq_true b3,of_decide_eq_true b4,of_decide_eq_true b5⟩,of_decide_eq_true b6,of_decide_eq_true b7,of_decide_eq_true b8⟩)]
 congr 1;symm;exact decide_eq_false fun h=>hA (by
  obtain⟨a1,_,a3,a4⟩:=(Dg p).1 h
  exact⟨a1,a3,a4.1,a4.2.1⟩)
def Bw (l:List Part) (p:Part):Bool:= !decide (p.of=0) && !(l.any fun q=>decide (q.id=p.of)&&decide (q.of=0))
def vn (l:List Part):Prop:=(1≤l.length∧l.length≤60)∧(∀ p∈l,vm p)∧(l.map Part.id).Nodup∧(l.any (Bw l))=false
instance (l:List Part):Decidable (vn l):=inferInstanceAs (Decidable (_∧_∧_∧_))
def iF {α:Type} (id:α→Int) (l:List α):List (Int×α):=l.map fun x=>(id x,x)
theorem K8 {α:Type} (id:α→Int):∀ (l:List α) (z:List (Int×α)),(∀ k∈aA z,k∉l.map id)→(l.map id).Nodup→l.foldl (fun m x=>cq m (id x) x) z=z++iF id l
 | [],z,_,_=>by simp[iF]
 | x::l,z,h,hn=>by
  simp only[List.map_cons,List.nodup_cons,List.mem_cons,not_or] at h hn
  have hx:id x∉aA z:=fun hx=>(h _ hx).1 rfl
  rw[List.foldl_cons,avB x hx,K8 id l _ (fun k hk=>?_) hn.2]
  ·simp[iF]
  simp only[aA,List.map_append,List.mem_append,List.map_cons,List.map_nil,List.mem_singleton] at hk
  rcases hk with hk | rfl
  ·exact(h k hk).2
  exact hn.1
theorem af5 {α:Type} (id:α→Int):∀ (l:List α) (z:List (Int×α)),(l.foldl (fun m x=>cq m (id x) x) z).length≤z.length+l.length∧((l.foldl (fun m x=>cq m (id x) x) z).length=z.length+l.length→(l.map id).Nodup∧∀ k∈aA z,k∉l.map id)
 | [],z=>by simp
 | x::l,z=>by
  obtain⟨h1,h2⟩:=af5 id l (cq z (id x) x)
  have hp:=SE (id x) x z
  rw[List.foldl_cons,List.length_cons]
  by_cases hc:eu z (id x)=true
  ·rw[if_pos hc] at hp
   exact⟨by omega,fun h=>by omega⟩
  rw[if_neg hc] at hp
  refine⟨by omega,fun h=>?_⟩
  obtain⟨h3,h4⟩:=h2 (by omega)
  have vT:id x∉aA z:=fun hk=>hc ((wj _ _).2 hk)
  simp only[List.map_cons,List.nodup_cons,List.mem_cons,not_or]
  refine⟨⟨h4 (id x) ((SB _ _ _ _).2 (.inl rfl)),h3⟩,fun k hk=>⟨fun e=>vT (e▸hk),h4 k ((SB _ _ _ _).2 (.inr hk))⟩⟩
theorem Pv {α:Type} (id:α→Int) (l:List α) (n:Int):eu (iF id l) n=l.any fun x=>decide (id x=n):=by
 rw[Bool.eq_iff_iff,wj,List.any_eq_true]
 unfold iF aA
 simp only[List.map_map,List.mem_map,Function.comp,decide_eq_true_eq]
theorem JY {α:Type} (id:α→Int) (z:α):∀ (l:List α) (n:Int),aV (iF id l) n z=(l.find? fun x=>decide (id x=n)).getD z
 | [],n=>rfl
 | x::l,n=>by
  have ih:=JY id z l n
  unfold iF at *
  rw[List.map_cons,Ft,List.find?_cons]
  by_cases h:n=id x
  ·subst h;simp
  rw[if_neg h,ih,decide_eq_false (Ne.symm h)]
end Go.Proofs.YtjigeffmmcmlnaaGreatDoor
namespace Go.Proofs.YtjigeffmmcmlnaaGreatDoor
open Go Go.an au
@[reducible] def axb:e8:=⟨False⟩
attribute [local instance] cJ axb
theorem aBb {α:Type} {l:List α} {p q:α→Bool} (h:∀ x∈l,p x=q x):l.any p=l.any q:=by
 induction l with
 | nil=>rfl
 | cons x l ih=>rw[List.any_cons,List.any_cons,h x (by simp),ih fun y hy=>h y (by simp[hy])]
theorem Hx {α:Type} {id:α→Int} {l:List α} (hn:(l.map id).Nodup) {x:α} (hx:x∈l):(l.find? fun y=>decide (id y=id x))=some x:=by
 cases hf:l.find? fun y=>decide (id y=id x) with
 | none=>
  have:=List.find?_eq_none.1 hf x hx
  simp at this
 | some y=>
  have h1:=List.mem_of_find?_eq_some hf
  have h2:=List.find?_some hf
  rw[H8 hn h1 hx (by simpa using h2)]
theorem au7 {l:List Part} (hn:(l.map Part.id).Nodup) (p:Part):MM p ⟨iF Part.id l⟩=some (Bw l p):=by
 unfold MM aag Bw
 dsimp only
 rw[Pv,JY]
 by_cases h0:p.of=0
 ·rw[av (by simp[h0]),aj];simp[h0]
 rw[ar (by simp[h0]),decide_eq_false h0]
 cases ha:l.any fun x=>decide (x.id=p.of)
 ·rw[ar (c:= !false) rfl,aj]
  have:(l.any fun q=>decide (q.id=p.of)&&decide (q.of=0))=false:=by
   rw[List.any_eq_false] at ha ⊢
   intro x hx
   have:=ha x hx
   simp at this
   simp[this]
  rw[this];rfl
 rw[av (c:= !true) rfl,aj]
 obtain⟨q,hq,he⟩:=List.any_eq_true.1 ha
 have he:q.id=p.of:=by simpa using he
 have hf:=Hx hn hq
 rw[he] at hf
 rw[hf]
 congr 1
 have:(l.any fun q=>decide (q.id=p.of)&&decide (q.of=0))=decide (q.of=0):=by
  rw[Bool.eq_iff_iff,List.any_eq_true]
  constructor
  ·rintro⟨r,hr,h⟩
   simp only[Bool.and_eq_true,decide_eq_true_eq] at h
   rw[H8 hn hq hr (by rw[he,h.1])];simpa using h.2
  intro h;exact⟨q,hq,by simp[he];simpa using h⟩
 rw[this];rfl
theorem an2 {l:List Part} (hl:l.length≤1000000) (hn:(l.map Part.id).Nodup):KK l ⟨⟨iF Part.id l⟩⟩=some (l.any (Bw l)):=by
 unfold KK
 have:Mk l ⟨⟨iF Part.id l⟩⟩=some (ix l (Bw l)):=by
  unfold Mk
  rw[Iv (l:=l) (Bw l) (fun k x hx=>by
   have hk:=de hx
   unfold Ml RD
   rw[ar (by simpa using hk),bl (bm hx),au7 hn,aj]
   cases Bw l x
   ·rw[av rfl,aZ (by omega)];simp
   rw[ar rfl];simp) (by unfold Ml;rw[av (by simp)]),aj]
  unfold ix
  cases l.findIdx? _<;>rfl
 rw[this,aj,aih]
theorem afZ {α σ ρ:Type} (ok:α→Bool) (g:σ→α→σ) (r:ρ):∀ (l:List α) (z:σ),pK (fun z x=>if ok x=true then .inl (g z x) else(.inr (.inl r):σ⊕(ρ⊕σ))) (fun z=> .inr z) l z=if l.all ok=true then .inr (l.foldl g z) else .inl r
 | [],z=>rfl
 | x::l,z=>by
  have ih:=afZ ok g r l (g z x)
  simp only[pK]
  by_cases h:ok x=true
  ·rw[if_pos h]
   dsimp only
   rw[ih];simp[h]
  rw[if_neg h];simp[h]
theorem azM {l:List Part}:Oj l=some (decide (vn l)):=by
 unfold Oj
 rw[OI,aj]
 by_cases h1:1≤l.length∧l.length≤60
 ·rw[av (by rw[decide_eq_true (by omega)];rfl)]
  rw[kn (σ:=List (Int×Part)) (st:=fun z k=>(z,k)) (l:=l) (fun z x=>if decide (vm x)=true then .inl (cq z x.id x) else .inr (.inl false)) (fun z=> .inr z) (fun _ _=>True) (fun k x z hx _=>by
   have hk:=de hx
   unfold Ol
   dsimp only
   rw[ar (by simpa using hk),bl (bm hx),azX,aj]
   by_cases h:vm x
   ·unfold Ug
    rw[av (by simp[h]),aZ (by omega)];simp[h]
   rw[ar (by simp[h])];simp[h]) (fun _ _ _ _ _ _ _=>trivial) (fun z _=>by unfold Ol;dsimp only;rw[av (by simp)]) [] trivial,aj,afZ]
  by_cases h2:(l.all fun x=>decide (vm x))=true
  ·rw[if_pos h2]
   dsimp only
   have uO:∀ p∈l,vm p:=fun p hp=>by simpa using List.all_eq_true.1 h2 p hp
   unfold Uf aco
   obtain⟨e1,e2⟩:=af5 Part.id l []
   by_cases hn:(l.map Part.id).Nodup
   ·rw[K8 Part.id l [] (by simp[aA]) hn,List.nil_append,ar (by simp[iF]),an2 (by omega) hn,aj,aj]
    congr 1
    rw[Bool.eq_iff_iff,decide_eq_true_iff]
    simp only[Bool.not_eq_true']
    exact⟨fun h=>⟨h1,uO,hn,h⟩,fun h=>h.2.2.2⟩
   rw[av (by
    refine decide_eq_false fun h=>hn (e2 ?_).1
    simp;omega),aj]
   congr 1;symm;exact decide_eq_false fun h=>hn h.2.2.1
  rw[if_neg h2]
  dsimp only
  congr 1;symm
  exact decide_eq_false fun h=>h2 (List.all_eq_true.2 fun p hp=>by simpa using h.2.1 p hp)
 rw[ar (by rw[decide_eq_false (by omega)];rfl)]
 congr 1;symm;exact decide_eq_false fun h=>h1 h.1
theorem akx {l:List Part} (hl:l.length≤1000000) (id:Int):FH l id=some (ix l fun p=>decide (p.id=id)):=by
 unfold FH
 rw[Iv (l:=l) (fun b=>decide (b.id=id)) (fun k x hx=>by
  have hk:=de hx
  unfold ND Tx
  rw[ar (by simpa using hk),bl (bm hx)]
  by_cases h:x.id=id
  ·rw[ar (by simp[h])];simp[h]
  rw[av (by simp[h]),aZ (by omega)];simp[h]) (by unfold ND;rw[av (by simp)]),aj]
 unfold ix
 cases l.findIdx? _<;>rfl
theorem NA {l:List ae} (hl:l.length≤1000000) (id:Int):wv l id=some (ix l fun p=>decide (p.id=id)):=by
 unfold wv
 rw[Iv (l:=l) (fun b=>decide (b.id=id)) (fun k x hx=>by
  have hk:=de hx
  unfold NB Tw
  rw[ar (by simpa using hk),bl (bm hx)]
  by_cases h:x.id=id
  ·rw[ar (by simp[h])];simp[h]
  rw[av (by simp[h]),aZ (by omega)];simp[h]) (by unfold NB;rw[av (by simp)]),aj]
 unfold ix
 cases l.findIdx? _<;>rfl
theorem ail {α:Type} (p:α→Bool):∀ (l:List α) (k:Nat) (x:α),l[k]?=some x→p x=true→(ix l p=(k:Int)↔((l.take k).any p)=false)
 | [],k,x,h,_=>by simp at h
 | y::l,0,x,h,hp=>by
  simp at h;subst h
  simp[ix,List.findIdx?_cons,hp]
 | y::l,k+1,x,h,hp=>by
  have ih:=ail p l k x (by simpa using h) hp
  rw[List.take_succ_cons,List.any_cons]
  unfold ix at ih ⊢
  rw[List.findIdx?_cons]
  cases hy:p y
  ·simp only[Bool.false_or,Bool.false_eq_true,if_false]
   rw[←ih]
   cases l.findIdx? p with
   | none=>simp only[Option.map_none];constructor<;>intro h<;>omega
   | some i=>simp only[Option.map_some];constructor<;>intro h<;>omega
  simp;omega
def Iw (l:List Part) (p:Part):Bool:= !decide (p.of=0)&&(match l.find? fun q=>decide (q.id=p.of) with | some q=> !decide (q.of=0) | none=>true)
theorem aiS {l:List Part} (hn:(l.map Part.id).Nodup) (p:Part):Iw l p=Bw l p:=by
 unfold Iw Bw
 congr 1
 cases hf:l.find? fun q=>decide (q.id=p.of) with
 | none=>
  have:(l.any fun q=>decide (q.id=p.of)&&decide (q.of=0))=false:=by
   rw[List.any_eq_false]
   intro x hx
   have:=List.find?_eq_none.1 hf x hx
   simp at this;simp[this]
  rw[this];rfl
 | some q=>
  have h1:=List.mem_of_find?_eq_some hf
  have h2:q.id=p.of:=by simpa using List.find?_some hf
  have:(l.any fun q=>decide (q.id=p.of)&&decide (q.of=0))=decide (q.of=0):=by
   rw[Bool.eq_iff_iff,List.any_eq_true]
   constructor
   ·rintro⟨r,hr,h⟩
    simp only[Bool.and_eq_true,decide_eq_true_eq] at h
    rw[H8 hn h1 hr (by rw[h2,h.1])];simpa using h.2
   intro h;exact⟨q,h1,by simp[h2];simpa using h⟩
  rw[this]
theorem ak7 {α:Type} {q:α→Bool} {r:α→α→Bool} {l:List α} {k:Nat} {x:α} (h:l[k]?=some x):xB q r l k=(q x||(l.take k).any fun y=>r y x):=by unfold xB;rw[h]
theorem aza {l:List Part}:NF l=some (decide (vn l)):=by
 unfold NF abC
 by_cases h1:l.length < 1
 ·have:¬ vn l:=fun h=>by have:=h.1.1;omega
  rw[ar (decide_eq_true (by omega)),aj,ar rfl];simp[this]
 rw[av (decide_eq_false (by omega)),aj]
 by_cases h2:60 < l.length
 ·have:¬ vn l:=fun h=>by have:=h.1.2;omega
  rw[ar (decide_eq_true (by omega))];simp[this]
 rw[av (
       decide_eq_false (by omega)),ML l.length (xB (fun p=> !decide (vm p)||Iw l p) (fun x y=>decide (x.id=y.id)) l) false (fun k hk=>by
  have hx:l[k]?=some l[k]:=List.getElem?_eq_getElem hk
  generalize l[k]=x at hx
  unfold NG abD
  rw[ar (by simpa using hk),bl (bm hx),ay9,aj]
  simp only[bl (bm hx),akx (l:=l) (by omega),aj]
  rw[ak7 hx]
  rw[th,aj]
  have ahp:=ail (fun p:Part=>decide (p.id=x.id)) l k x hx (by simp)
  by_cases hp:vm x
  ·by_cases hd:((l.take k).any fun p=>decide (p.id=x.id))=false
   ·rw[av (by rw[ahp.2 hd];simp[hp]),hd]
    have XU:Iw l x=(!decide (x.of=0)&&(match l.find? fun q=>decide (q.id=x.of) with | some q=> !decide (q.of=0) | none=>true)):=rfl
    by_cases h0:x.of=0
    ·unfold IU
     rw[ar (decide_eq_true h0),aZ (by omega),XU];simp[h0,hp]
    rw[av (decide_eq_false h0)]
    rcases zO l fun q=>decide (q.id=x.of) with ⟨g1,g2⟩ | ⟨j,q,g1,g2,g3,g4⟩
    ·rw[g2,ar (by simp),XU,g1];simp[h0]
    rw[g3,av (decide_eq_false (by omega)),bl (bm g1),XU,g2]
    by_cases hq:q.of=0
    ·unfold IU
     rw[av (by simp[hq]),aZ (by omega)];simp[hq,hp]
    rw[ar (by simp[hq])];simp[hq,h0]
   have ba:¬ (ix l fun p:Part=>decide (p.id=x.id))=(k:Int):=fun h=>hd (ahp.1 h)
   rw[ar (by simp[ba]),if_pos]
   rw[Bool.not_eq_false] at hd
   rw[hd];simp
  rw[ar (by simp[hp]),if_pos (by simp[hp])]) (by unfold NG;rw[av (by simp)]),aj]
 have key:=Uh (fun p=> !decide (vm p)||Iw l p) (fun x y=>decide (x.id=y.id)) l
 rw[abj Part.id] at key
 have e:((∀ p∈l,(!decide (vm p)||Iw l p)=false)∧(l.map Part.id).Nodup)↔vn l:=by
  constructor
  ·rintro⟨g1,g2⟩
   refine⟨by omega,fun p hp=>?_,g2,?_⟩
   ·have:=g1 p hp;simp at this;exact this.1
   rw[List.any_eq_false];intro p hp
   have:=g1 p hp;rw[aiS g2] at this;simp at this;simp[this.2]
  rintro⟨_,g1,g2,g3⟩
  refine⟨fun p hp=>?_,g2⟩
  rw[aiS g2]
  have:=List.any_eq_false.1 g3 p hp
  simp[g1 p hp];simpa using this
 rw[e] at key
 by_cases hc:vn l
 ·rw[if_neg (fun h=>key.1 h hc)];simp[hc,Ty]
 rw[if_pos (key.2 hc)];simp[hc]
end Go.Proofs.YtjigeffmmcmlnaaGreatDoor
namespace Go.Proofs.YtjigeffmmcmlnaaGreatDoor
open Go Go.an au
@[reducible] def axc:e8:=⟨False⟩
attribute [local instance] cJ axc
def jz (l:List Part) (n:ae):Option Part:=(l.filter fun p=>decide (p.of=0)).find? fun p=>decide (p.id=n.part)
def vO (l:List Part) (n:ae):Bool:=match jz l n with | some p=> !decide (num p.low≤num n.bM∧num n.bM≤num p.high) | none=>false
def fS (l:List Part) (ns:List ae):Int:=if(ns.any fun n=>(jz l n).isNone)=true then 22 else if ns.any (vO l)=true then 20 else 0
theorem aaf {α:Type} {step:Int→Option (Int⊕(Int⊕Unit))} {l:List α} (p:α→Bool)
  (h:∀ (k:Nat) x,l[k]?=some x→step (k:Int)=some (if p x=true then .inr (.inl (k:Int)) else .inl ((k+1:Nat):Int))) (cM:step (l.length:Int)=some (.inr (.inr ()))) :
  (ag (ag (aH step 0) fun o=>match o with | .inl q=>some q | .inr ()=>some (-1)) fun x=>some (decide (0≤x)))=some (l.any p):=by
 rw[Iv p h cM,aj,←aih]
 unfold ix
 cases l.findIdx? p<;>rfl
theorem axK {l:List Part} {n:ae} {p:Part} (h:jz l n=some p):p∈l∧p.of=0∧p.id=n.part:=by
 unfold jz at h
 have h1:=List.mem_of_find?_eq_some h
 have h2:=List.find?_some h
 rw[List.mem_filter] at h1
 exact⟨h1.1,by simpa using h1.2,by simpa using h2⟩
theorem axJ {l:List Part} (hn:(l.map Part.id).Nodup) (n:ae):jz l n=match l.find? fun p=>decide (p.id=n.part) with | some p=>if p.of=0 then some p else none | none=>none:=by
 cases hf:l.find? fun p=>decide (p.id=n.part) with
 | none=>
  unfold jz
  rw[List.find?_eq_none]
  intro x hx
  exact List.find?_eq_none.1 hf x (List.mem_filter.1 hx).1
 | some p=>
  have h1:=List.mem_of_find?_eq_some hf
  have h2:p.id=n.part:=by simpa using List.find?_some hf
  dsimp only
  by_cases h0:p.of=0
  ·rw[if_pos h0]
   unfold jz
   have:=Hx (id:=Part.id) (l:=l.filter fun p=>decide (p.of=0)) (hn.sublist (List.filter_sublist.map _)) (x:=p) (List.mem_filter.2 ⟨h1,by simp[h0]⟩)
   rw[h2] at this;exact this
  rw[if_neg h0]
  unfold jz
  rw[List.find?_eq_none]
  intro x hx
  obtain⟨hx1,YB⟩:=List.mem_filter.1 hx
  simp only[decide_eq_true_eq] at YB ⊢
  intro he
  have:=H8 hn hx1 h1 (by rw[he,h2])
  rw[this] at YB;exact h0 YB
theorem az9 (l:List Part) (n:ae):OH n ⟨iF Part.id (l.filter fun p=>decide (p.of=0))⟩=some (jz l n).isNone:=by
 unfold OH jz
 dsimp only
 rw[Pv,VY]
 cases List.find? _ _<;>rfl
theorem aoH {l:List Part} {n:ae} {p:Part} (h:jz l n=some p) (h1:fO p.low) (h2:fO p.high) (h3:fO n.bM):K3 n ⟨iF Part.id (l.filter fun p=>decide (p.of=0))⟩=some (vO l n):=by
 unfold K3 vO
 dsimp only
 rw[JY]
 have h':=h
 unfold jz at h'
 rw[h',h]
 dsimp only[Option.getD]
 rw[Oo h1,Oo h2,Oo h3,aj,aj,aj,OI,aj]
theorem aAd {l:List Part} (hl:l.length≤1000000) (hn:(l.map Part.id).Nodup) (hp:∀ p∈l,fO p.low∧fO p.high) {ns:List ae} (pj:ns.length≤1000000) (hq:∀ n∈ns,fO n.bM):F6 l ns=some (fS l ns):=by
 unfold F6
 rw[kn (σ:=List (Int×Part)) (st:=fun z k=>(z,k)) (l:=l) (fun z x=> .inl (if decide (x.of=0)=true then cq z x.id x else z)) (fun z=>z) (fun _ _=>True) (fun k x z hx _=>by
  have hk:=de hx
  unfold OL OK
  dsimp only
  rw[ar (by simpa using hk),bl (bm hx)]
  by_cases h:x.of=0
  ·rw[ar (decide_eq_true h),aZ (by omega)];simp[h]
  ·rw[av (decide_eq_false h),aZ (by omega)];simp[h]) (fun _ _ _ _ _ _ _=>trivial) (fun z _=>by unfold OL;dsimp only;rw[av (by simp)]) [] trivial,
  qm (fun(z:List (Int×Part)) (x:Part)=>if decide (x.of=0)=true then cq z x.id x else z) _ _ (fun _ _ _=>rfl),aj,←List.foldl_filter (p:=fun x:Part=>decide (x.of=0)) (f:=fun(z:List (Int×Part)) (x:Part)=>cq z x.id x),
  K8 Part.id _ [] (by simp[aA]) (hn.sublist (List.filter_sublist.map _)),List.nil_append]
 unfold UG fS
 have e1:KL ns ⟨⟨iF Part.id (l.filter fun p=>decide (p.of=0))⟩⟩=some (ns.any fun n=>(jz l n).isNone):=by
  unfold KL RE
  exact aaf (l:=ns) (fun n=>(jz l n).isNone) (fun k x hx=>by
   have hk:=de hx
   unfold Mm RF
   rw[ar (by simpa using hk),bl (bm hx),az9,aj]
   cases (jz l x).isNone
   ·rw[av rfl,aZ (by omega)];simp
   rw[ar rfl];simp) (by unfold Mm;rw[av (by simp)])
 rw[e1,aj]
 by_cases hs:(ns.any fun n=>(jz l n).isNone)=true
 ·rw[ar hs,if_pos hs]
 rw[av (by simpa using hs),if_neg hs]
 have e2:KJ ns ⟨⟨iF Part.id (l.filter fun p=>decide (p.of=0))⟩⟩=some (ns.any (vO l)):=by
  unfold KJ Rz
  exact aaf (l:=ns) (vO l) (fun k x hx=>by
   have hk:=de hx
   have hm:=List.mem_of_getElem? hx
   have E2:∃ p,jz l x=some p:=by
    cases ho:jz l x with
    | none=>exact absurd (List.any_eq_true.2 ⟨x,hm,by simp[ho]⟩) hs
    | some p=>exact⟨p,rfl⟩
   obtain⟨p,ho⟩:=E2
   obtain⟨m1,_,_⟩:=axK ho
   unfold Mi RA
   rw[ar (by simpa using hk),bl (bm hx),aoH ho (hp p m1).1 (hp p m1).2 (hq x hm),aj]
   cases vO l x
   ·rw[av rfl,aZ (by omega)];simp
   rw[ar rfl];simp) (by unfold Mi;rw[av (by simp)])
 rw[e2,aj]
 by_cases hf:ns.any (vO l)=true
 ·rw[ar hf,if_pos hf]
 rw[av (by simpa using hf),if_neg hf];rfl
theorem akw {l:List Part} (hl:l.length≤1000000) (hn:(l.map Part.id).Nodup) (n:ae):(jz l n=none∧FG l n=some (-1))∨∃ (k:Nat) (p:Part),l[k]?=some p∧jz l n=some p∧FG l n=some (k:Int):=by
 unfold FG
 rw[akx hl,aj,axJ hn]
 rcases zO l fun p=>decide (p.id=n.part) with ⟨h1,h2⟩ | ⟨k,p,h1,h2,h3,h4⟩
 ·left;rw[h1,h2,ar (by simp)];exact⟨rfl,rfl⟩
 rw[h2,h3,av (decide_eq_false (by omega)),bl (bm h1)]
 dsimp only
 by_cases h0:p.of=0
 ·right;rw[if_pos h0,av (by simp[h0])];exact⟨k,p,h1,rfl,rfl⟩
 left;rw[if_neg h0,ar (by simp[h0])];exact⟨rfl,rfl⟩
theorem azd {l:List Part} (hl:l.length≤1000000) (hn:(l.map Part.id).Nodup) (hp:∀ p∈l,fO p.low∧fO p.high) {ns:List ae} (pj:ns.length≤1000000) (hq:∀ n∈ns,fO n.bM):FI l ns=some (fS l ns):=by
 unfold FI fS
 rw[zX (l:=ns) (fun n=>(jz l n).isNone) 22 (fun k x hx=>by
  have hk:=de hx
  unfold NN TL
  rw[ar (by simpa using hk),bl (bm hx)]
  rcases akw hl hn x with ⟨g1,g2⟩ | ⟨j,p,g1,g2,g3⟩
  ·rw[g2,aj,ar (by simp),g1];simp
  rw[g3,aj,av (decide_eq_false (by omega)),g2,aZ (by omega)];simp) (by unfold NN;rw[av (by simp)]),aj]
 by_cases hs:(ns.any fun n=>(jz l n).isNone)=true
 ·rw[if_pos hs,if_pos hs]
 rw[if_neg hs,if_neg hs]
 dsimp only
 unfold TJ
 rw[zX (l:=ns) (vO l) 20 (fun k x hx=>by
  have hk:=de hx
  have hm:=List.mem_of_getElem? hx
  unfold NM TK
  rw[ar (by simpa using hk),bl (bm hx)]
  rcases akw hl hn x with ⟨g1,g2⟩ | ⟨j,p,g1,g2,g3⟩
  ·exact absurd (List.any_eq_true.2 ⟨x,hm,by simp[g1]⟩) hs
  have EY:=hp p (List.mem_of_getElem? g1)
  rw[g3,aj,bl (bm g1)]
  unfold Tz vO
  rw[IL (hq x hm),IL EY.1,IL EY.2,aj,aj,aj,NO,aj,aj,g2]
  dsimp only
  by_cases hc:num p.low≤num x.bM∧num x.bM≤num p.high
  ·rw[av (by rw[decide_eq_true hc];rfl),aZ (by omega),if_neg (by rw[decide_eq_true hc];simp)];rfl
  rw[ar (by rw[decide_eq_false hc];rfl),if_pos (by rw[decide_eq_false hc];rfl)]) (by unfold NM;rw[av (by simp)]),aj]
 by_cases hf:ns.any (vO l)=true
 ·rw[if_pos hf,if_pos hf]
 rw[if_neg hf,if_neg hf];rfl
theorem Fq {α:Type} [DecidableEq α] {step:Int→Option (Int⊕(Bool⊕Unit))} {a b:List α} (hl:a.length=b.length)
  (h:∀ (k:Nat) x y,a[k]?=some x→b[k]?=some y→step (k:Int)=some (if x=y then .inl ((k+1:Nat):Int) else .inr (.inl false))) (cM:step (a.length:Int)=some (.inr (.inr ()))) :
  aH step 0=some (if a=b then .inr () else .inl false):=by
 rw[ML a.length (fun k=> !decide (a[k]?=b[k]?)) false (fun k hk=>by
  have h1:a[k]?=some a[k]:=List.getElem?_eq_getElem hk
  have h2:b[k]?=some b[k]:=List.getElem?_eq_getElem (by omega)
  rw[h k _ _ h1 h2,h1,h2]
  by_cases he:a[k]=b[k]
  ·rw[if_pos he,if_neg (by simp[he])]
  rw[if_neg he,if_pos (by simp[he])]) cM]
 congr 1
 by_cases he:a=b
 ·rw[if_pos he,if_neg]
  subst he;simp
 rw[if_neg he,if_pos]
 refine Classical.byContradiction fun ca=>he (List.ext_getElem? fun k=>?_)
 by_cases hk:k < a.length
 ·refine Classical.byContradiction fun ba=>ca (List.any_eq_true.2 ⟨k,List.mem_range.2 hk,by simp[ba]⟩)
 rw[List.getElem?_eq_none (by omega),List.getElem?_eq_none (by omega)]
theorem azZ {a b:List ae} (ha:a.length≤1048576):Ov a b=some (decide (a=b)):=by
 unfold Ov
 by_cases hl:a.length=b.length
 ·rw[av (by simp[hl]),Fq hl (fun k x y h1 h2=>by
   have hk:=de h1
   unfold Ow Un
   rw[ar (by simpa using hk),bl (bm h1),bl (bm h2)]
   by_cases he:x=y
   ·rw[av (by simp[he]),aZ (by omega),if_pos he];rfl
   rw[ar (by simp[he]),if_neg he]) (by unfold Ow;rw[av (by simp)]),aj]
  by_cases he:a=b
  ·rw[if_pos he];simp[he,Um]
  rw[if_neg he];simp[he]
 have:a≠b:=fun h=>hl (by rw[h])
 rw[ar (by rw[decide_eq_false (by omega)];rfl)];simp[this]
theorem abE {a b:List aT} (ha:a.length≤1048576):IV a b=some (decide (a=b)):=by
 unfold IV
 by_cases hl:a.length=b.length
 ·rw[av (by simp[hl]),Fq hl (fun k x y h1 h2=>by
   have hk:=de h1
   unfold NH TB
   rw[ar (by simpa using hk),bl (bm h1),bl (bm h2)]
   by_cases he:x=y
   ·rw[av (by simp[he]),aZ (by omega),if_pos he];rfl
   rw[ar (by simp[he]),if_neg he]) (by unfold NH;rw[av (by simp)]),aj]
  by_cases he:a=b
  ·rw[if_pos he];simp[he,TA]
  rw[if_neg he];simp[he]
 have:a≠b:=fun h=>hl (by rw[h])
 rw[ar (by rw[decide_eq_false (by omega)];rfl)];simp[this]
theorem abF {a b:List Part} (ha:a.length≤1048576):IW a b=some (decide (a=b)):=by
 unfold IW
 by_cases hl:a.length=b.length
 ·rw[av (by simp[hl]),Fq hl (fun k x y h1 h2=>by
   have hk:=de h1
   unfold NI TE
   rw[ar (by simpa using hk),bl (bm h1),bl (bm h2)]
   by_cases he:x=y
   ·rw[av (by simp[he]),aZ (by omega),if_pos he];rfl
   rw[ar (by simp[he]),if_neg he]) (by unfold NI;rw[av (by simp)]),aj]
  by_cases he:a=b
  ·rw[if_pos he];simp[he,TC]
  rw[if_neg he];simp[he]
 have:a≠b:=fun h=>hl (by rw[h])
 rw[ar (by rw[decide_eq_false (by omega)];rfl)];simp[this]
theorem aks {a b:List ae} (ha:a.length≤1048576):Ns a b=some (decide (a=b)):=by
 unfold Ns
 by_cases hl:a.length=b.length
 ·rw[av (by simp[hl]),Fq hl (fun k x y h1 h2=>by
   have hk:=de h1
   unfold Nt Tn
   rw[ar (by simpa using hk),bl (bm h1),bl (bm h2)]
   by_cases he:x=y
   ·rw[av (by simp[he]),aZ (by omega),if_pos he];rfl
   rw[ar (by simp[he]),if_neg he]) (by unfold Nt;rw[av (by simp)]),aj]
  by_cases he:a=b
  ·rw[if_pos he];simp[he,Tl]
  rw[if_neg he];simp[he]
 have:a≠b:=fun h=>hl (by rw[h])
 rw[ar (by rw[decide_eq_false (by omega)];rfl)];simp[this]
theorem I2 {a b:List aa} (ha:a.length≤1048576):Ab a b=some (decide (a=b)):=by
 unfold Ab
 by_cases hl:a.length=b.length
 ·rw[av (by simp[hl]),Fq hl (fun k x y h1 h2=>by
   have hk:=de h1
   unfold N2 T0
   rw[ar (by simpa using hk),bl (bm h1),bl (bm h2)]
   by_cases he:x=y
   ·rw[av (by simp[he]),aZ (by omega),if_pos he];rfl
   rw[ar (by simp[he]),if_neg he]) (by unfold N2;rw[av (by simp)]),aj]
  by_cases he:a=b
  ·rw[if_pos he];simp[he,TZ]
  rw[if_neg he];simp[he]
 have:a≠b:=fun h=>hl (by rw[h])
 rw[ar (by rw[decide_eq_false (by omega)];rfl)];simp[this]
theorem abU {a b:List aJ} (ha:a.length≤1048576):FL a b=some (decide (a=b)):=by
 unfold FL
 by_cases hl:a.length=b.length
 ·rw[av (by simp[hl]),Fq hl (fun k x y h1 h2=>by
   have hk:=de h1
   unfold N0 TW
   rw[ar (by simpa using hk),bl (bm h1),bl (bm h2)]
   by_cases he:x=y
   ·rw[av (by simp[he]),aZ (by omega),if_pos he];rfl
   rw[ar (by simp[he]),if_neg he]) (by unfold N0;rw[av (by simp)]),aj]
  by_cases he:a=b
  ·rw[if_pos he];simp[he,TV]
  rw[if_neg he];simp[he]
 have:a≠b:=fun h=>hl (by rw[h])
 rw[ar (by rw[decide_eq_false (by omega)];rfl)];simp[this]
theorem abV {a b:List Int} (ha:a.length≤1048576):FM a b=some (decide (a=b)):=by
 unfold FM
 by_cases hl:a.length=b.length
 ·rw[av (by simp[hl]),Fq hl (fun k x y h1 h2=>by
   have hk:=de h1
   unfold N1 TY
   rw[ar (by simpa using hk),bl (bm h1),bl (bm h2)]
   by_cases he:x=y
   ·rw[av (by simp[he]),aZ (by omega),if_pos he];rfl
   rw[ar (by simp[he]),if_neg he]) (by unfold N1;rw[av (by simp)]),aj]
  by_cases he:a=b
  ·rw[if_pos he];simp[he,TX]
  rw[if_neg he];simp[he]
 have:a≠b:=fun h=>hl (by rw[h])
 rw[ar (by rw[decide_eq_false (by omega)];rfl)];simp[this]
end Go.Proofs.YtjigeffmmcmlnaaGreatDoor
namespace Go.Proofs.YtjigeffmmcmlnaaGreatDoor
open Go Go.an au
@[reducible] def axd:e8:=⟨False⟩
attribute [local instance] cJ axd
theorem yH {β:Type} (a b:Option β):ak (!true) a b=b:=rfl
theorem Fa {β:Type} (a b:Option β):ak (!false) a b=a:=rfl
def dO (s:Score):Prop:=(1≤s.version∧s.version≤1000000)∧qf s.bars∧vn s.parts∧gq s.bars s.notes∧fS s.parts s.notes=0∧oK (eS s.bars) s.notes=s.notes
noncomputable instance (s:Score):Decidable (dO s):=inferInstanceAs (Decidable (_∧_∧_∧_∧_∧_))
theorem akd {l:List Part} (h:vn l):∀ p∈l,fO p.low∧fO p.high:=fun p hp=>⟨(h.2.1 p hp).2.2.2.2.2.2.1,(h.2.1 p hp).2.2.2.2.2.2.2.1⟩
theorem ajh {bars:List aT} {l:List ae} (h:∀ n∈l,gV bars n):∀ n∈l,fO n.bM:=fun n hn=>by
 obtain⟨k,b,h1,h2,h3,h4⟩:=IF (h n hn)
 exact h3.2.2.2.2.2.2.2.2.1
theorem aml {bars:List aT} {ps:List Part} {ns:List ae} (hp:vn ps) (hn:gq bars ns):F6 ps ns=some (fS ps ns):=
 aAd (by have:=hp.1.2;omega) hp.2.2.1 (akd hp) (by have:=hn.2.1;omega) (ajh hn.2.2.1)
theorem aky {bars:List aT} {ps:List Part} {ns:List ae} (hp:vn ps) (hn:gq bars ns):FI ps ns=some (fS ps ns):=
 azd (by have:=hp.1.2;omega) hp.2.2.1 (akd hp) (by have:=hn.2.1;omega) (ajh hn.2.2.1)
theorem ai0 {bars:List aT} {ns:List ae} (hb:bars.length≤1048576) (hn:gq bars ns):IA bars ns=some (oK (eS bars) ns,0):=by
 unfold IA
 rw[aar hb,aj,av (by simp[hn]),avN hn,aj]
theorem alq {at_:List (Int×Int)} (l:List ae):(oK at_ l).length=l.length:=(vt _ l).length_eq
theorem ak5 {s:Score} (hb:s.bars.length≤1048576):Jc s=some (decide (dO s)):=by
 unfold Jc acj
 rw[acs,aiU hb,azM,aar hb,aj,aj,aj,aj]
 by_cases h1:1≤s.version∧s.version≤1000000
 ·rw[av (by rw[decide_eq_true h1];rfl)]
  by_cases h2:qf s.bars
  ·rw[av (by rw[decide_eq_true h2];rfl)]
   by_cases h3:vn s.parts
   ·rw[av (by rw[decide_eq_true h3];rfl)]
    by_cases h4:gq s.bars s.notes
    ·rw[av (by rw[decide_eq_true h4];rfl),aml h3 h4,aj,aj]
     by_cases h5:fS s.parts s.notes=0
     ·rw[av (by rw[decide_eq_true h5];rfl),ai0 hb h4,aj]
      dsimp only
      unfold ack
      rw[ar (by simp),azZ (by rw[alq];have:=h4.2.1;omega),aj,aj]
      congr 1
      rw[decide_eq_decide]
      exact⟨fun h=>⟨h1,h2,h3,h4,h5,h⟩,fun h=>h.2.2.2.2.2⟩
     rw[ar (by rw[decide_eq_false h5];rfl)]
     congr 1;symm;exact decide_eq_false fun h=>h5 h.2.2.2.2.1
    rw[ar (by rw[decide_eq_false h4];rfl),aj,ar rfl]
    congr 1;symm;exact decide_eq_false fun h=>h4 h.2.2.2.1
   rw[ar (by rw[decide_eq_false h3];rfl),aj,ar rfl]
   congr 1;symm;exact decide_eq_false fun h=>h3 h.2.2.1
  rw[ar (by rw[decide_eq_false h2];rfl),aj,ar rfl]
  congr 1;symm;exact decide_eq_false fun h=>h2 h.2.1
 rw[ar (by rw[decide_eq_false h1];rfl),aj,ar rfl]
 congr 1;symm;exact decide_eq_false fun h=>h1 h.1
theorem IX (s:Score):z8 s=some (decide (dO s)):=by
 unfold z8 abI
 rw[akp,aza,aj,aj,NO,aj]
 by_cases h1:1≤s.version∧s.version≤1000000
 ·rw[av (
        by rw[decide_eq_true h1];rfl)]
  by_cases h2:qf s.bars
  ·rw[av (by rw[decide_eq_true h2];rfl)]
   by_cases h3:vn s.parts
   ·rw[decide_eq_true h3,aj,yH,akt,aj]
    by_cases h4:gq s.bars s.notes
    ·rw[av (by rw[decide_eq_true h4];rfl),aky h3 h4,aj]
     by_cases h5:fS s.parts s.notes=0
     ·rw[av (by rw[decide_eq_true h5];rfl)]
      have hl:=h4.2.1
      rw[au6 (s.notes.length - 1) (Hy (eS s.bars) s.notes) false (fun k hk=>by
       have e1:s.notes[k]?=some s.notes[k]:=List.getElem?_eq_getElem (by omega)
       have e2:s.notes[k+1]?=some s.notes[k+1]:=List.getElem?_eq_getElem (by omega)
       have m1:=h4.2.2.1 _ (List.getElem_mem (h:=(by omega:k < s.notes.length)))
       have m2:=h4.2.2.1 _ (List.getElem_mem (h:=(by omega:k+1 < s.notes.length)))
       generalize s.notes[k]=x at *
       generalize s.notes[k+1]=y at *
       have e3:Hy (eS s.bars) s.notes k = !decide (dK (nK (eS s.bars)) x y < 0):=by unfold Hy;rw[e1,e2]
       unfold NK
       rw[ar (decide_eq_true (by omega)),aZ (by omega),show(k:Int)+1 - 1=(k:Int) by omega,bl (bm e1),show(k:Int)+1=((k+1:Nat):Int) from rfl,bl (bm e2),akr h2 m1 m2,aj,e3]
       by_cases h:dK (nK (eS s.bars)) x y < 0
       ·unfold TH
        rw[av (by rw[decide_eq_true h];rfl),aZ (by omega),if_neg (by rw[decide_eq_true h];simp)]
       ·rw[ar (by rw[decide_eq_false h];rfl),if_pos (by rw[decide_eq_false h];rfl)]) (by
       unfold NK;rw[av (decide_eq_false (by omega))]),aj]
      have key:=api (at_:=eS s.bars) h4.2.2.2
      by_cases h6:oK (eS s.bars) s.notes=s.notes
      ·rw[if_neg (fun h=>key.1 h h6)]
       dsimp only
       rw[decide_eq_true (p:=dO s) ⟨h1,h2,h3,h4,h5,h6⟩];rfl
      rw[if_pos (key.2 h6)]
      dsimp only
      rw[decide_eq_false (p:=dO s) fun h=>h6 h.2.2.2.2.2]
     rw[ar (by rw[decide_eq_false h5];rfl)]
     congr 1;symm;exact decide_eq_false fun h=>h5 h.2.2.2.2.1
    rw[ar (by rw[decide_eq_false h4];rfl)]
    congr 1;symm;exact decide_eq_false fun h=>h4 h.2.2.2.1
   rw[decide_eq_false h3,aj,Fa]
   congr 1;symm;exact decide_eq_false fun h=>h3 h.2.2.1
  rw[ar (by rw[decide_eq_false h2];rfl),aj,ar rfl]
  congr 1;symm;exact decide_eq_false fun h=>h2 h.2.1
 rw[ar (by rw[decide_eq_false h1];rfl),aj,ar rfl]
 congr 1;symm;exact decide_eq_false fun h=>h1 h.1
def DK:Score:=⟨0,[],[],[]⟩
noncomputable def nU (s:Score) (v:Int) (l:List ae):Score×Int:=
 if dO s∧(1≤v∧v≤1000000)∧gq s.bars l then(if fS s.parts l=0 then(⟨v,s.bars,s.parts,oK (eS s.bars) l⟩,0) else(DK,fS s.parts l)) else(DK,1)
theorem acm {s:Score} (hb:s.bars.length≤1048576) (v:Int) (l:List ae):Jd s v l=some (nU s v l):=by
 unfold Jd acn nU
 rw[ak5 hb,acs,aar hb,aj,aj,aj]
 by_cases h1:dO s
 ·rw[av (by rw[decide_eq_true h1];rfl)]
  by_cases h2:1≤v∧v≤1000000
  ·rw[av (by rw[decide_eq_true h2];rfl)]
   by_cases h3:gq s.bars l
   ·rw[decide_eq_true h3,aj,yH,aml h1.2.2.1 h3,aj,if_pos ⟨h1,h2,h3⟩]
    by_cases h4:fS s.parts l=0
    ·rw[av (by rw[decide_eq_true h4];rfl),if_pos h4,ai0 hb h3,aj]
     dsimp only
     unfold P7 P8
     have:=h1.2.1.1.2
     have:=h1.2.2.1.1.2
     rw[cu (by omega),cu (by omega),aj,aj]
    rw[ar (by rw[decide_eq_false h4];rfl),if_neg h4];rfl
   rw[decide_eq_false h3,aj,Fa,if_neg fun h=>h3 h.2.2];rfl
  rw[ar (by rw[decide_eq_false h2];rfl),aj,ar rfl,if_neg fun h=>h2 h.2.1];rfl
 rw[ar (by rw[decide_eq_false h1];rfl),aj,ar rfl,if_neg fun h=>h1 h.1];rfl
theorem azc (s:Score) (v:Int) (l:List ae):NL s v l=some (nU s v l):=by
 unfold NL abJ nU
 rw[IX,aj]
 by_cases h1:dO s
 ·rw[av (by rw[decide_eq_true h1];rfl),NO,aj,aj]
  by_cases h2:1≤v∧v≤1000000
  ·rw[av (by rw[decide_eq_true h2];rfl),akt,aj]
   by_cases h3:gq s.bars l
   ·rw[av (by rw[decide_eq_true h3];rfl),aky h1.2.2.1 h3,aj,if_pos ⟨h1,h2,h3⟩]
    by_cases h4:fS s.parts l=0
    ·have:=h3.2.1
     rw[av (by rw[decide_eq_true h4];rfl),if_pos h4]
     dsimp only
     rw[ay6 h1.2.1 h3.2.2.1 (by omega) h3.2.2.2,aj]
    rw[ar (by rw[decide_eq_false h4];rfl),if_neg h4];rfl
   rw[ar (by rw[decide_eq_false h3];rfl),if_neg fun h=>h3 h.2.2];rfl
  rw[ar (by rw[decide_eq_false h2];rfl),if_neg fun h=>h2 h.2.1];rfl
 rw[ar (by rw[decide_eq_false h1];rfl),aj,ar rfl,if_neg fun h=>h1 h.1];rfl
end Go.Proofs.YtjigeffmmcmlnaaGreatDoor
namespace Go.Proofs.YtjigeffmmcmlnaaGreatDoor
open Go Go.an au
@[reducible] def axe:e8:=⟨False⟩
attribute [local instance] cJ axe
abbrev bare (id:Int):ae:=⟨id,0,0,0,0,⟨0,0⟩,⟨0,0⟩,⟨0,0,0⟩⟩
def eV (e:aa):Prop:=(1≤e.clock∧e.clock≤1000000000)∧(1≤e.ev∧e.ev≤1000000)∧(1≤e.note.id∧e.note.id≤1000000)∧(e.kind=1∨(e.kind=2∧e.note=bare e.note.id))
instance (e:aa):Decidable (eV e):=inferInstanceAs (Decidable (_∧_∧_∧_))
theorem afy (e:aa):Hu e=some (decide (eV e)):=by
 unfold Hu VK VL
 simp only[afz,aj,th,oZ,RG]
 congr 1
 rw[Bool.eq_iff_iff,decide_eq_true_iff]
 unfold eV bare
 simp only[Bool.and_eq_true,Bool.not_or,Bool.not_not,Bool.or_eq_true,decide_eq_true_eq,and_assoc]
theorem akD (e:aa):I4 e=some (decide (eV e)):=by
 unfold I4 abY abZ
 simp only[akE,aj,th,oZ,RG]
 congr 1
 rw[Bool.eq_iff_iff,decide_eq_true_iff]
 unfold eV bare
 simp only[Bool.and_eq_true,Bool.not_or,Bool.not_not,Bool.or_eq_true,decide_eq_true_eq,and_assoc]
def less (l:List ae) (id:Int):List ae:=l.filter fun n=> !decide (n.id=id)
theorem af4 {α:Type} (p:α→Bool):∀ (l z:List α),l.foldl (fun z x=>if p x=true then z++[x] else z) z=z++l.filter p
 | [],z=>by simp
 | x::l,z=>by
  rw[List.foldl_cons,af4 p l,List.filter_cons]
  split<;>simp
theorem aAW {l:List ae} (hl:l.length≤1048576) (s:Score) (x:aa) (n:Int) (id:Int):Ob s x n l id=some (less l id):=by
 unfold Ob
 rw[kn (σ:=List ae) (st:=fun z k=>(z,k)) (l:=l) (fun z x=> .inl (if(!decide (x.id=id))=true then z++[x] else z)) (fun z=>z) (fun k z=>z.length≤k) (fun k x z hx hz=>by
  have hk:=de hx
  unfold Od Oc
  dsimp only
  rw[ar (by simpa using hk),bl (bm hx)]
  by_cases h:x.id=id
  ·rw[av (by simp[h]),aZ (by omega)];simp[h]
  ·rw[ar (by simp[h]),bl (bm hx),cu (by simp;omega),aZ (by omega)];simp[h]) (fun k x z z' hx hz h=>by
  injection h with h;subst h
  split
  ·simp;omega
  omega) (fun z _=>by unfold Od;dsimp only;rw[av (by simp)]) [] (by simp),qm (fun(z:List ae) (x:ae)=>if(!decide (x.id=id))=true then z++[x] else z) _ _ (fun _ _ _=>rfl),aj,af4]
 rfl
theorem Ss (l:List ae) (id:Int):(less l id).length≤l.length:=List.length_filter_le _ _
theorem amC {l:List Part} {ns:List ae}:fS l ns=0↔(∀ n∈ns,jz l n≠none)∧∀ n∈ns,vO l n=false:=by
 unfold fS
 by_cases h1:(ns.any fun n=>(jz l n).isNone)=true
 ·rw[if_pos h1]
  refine⟨fun h=>(by cases h),fun h=>?_⟩
  obtain⟨n,hn,hx⟩:=List.any_eq_true.1 h1
  exact absurd (Option.isNone_iff_eq_none.1 hx) (h.1 n hn)
 rw[if_neg h1]
 have uN:∀ n∈ns,jz l n≠none:=fun n hn hx=>h1 (List.any_eq_true.2 ⟨n,hn,by simp[hx]⟩)
 by_cases h2:ns.any (vO l)=true
 ·rw[if_pos h2]
  refine⟨fun h=>(by cases h),fun h=>?_⟩
  obtain⟨n,hn,hx⟩:=List.any_eq_true.1 h2
  rw[h.2 n hn] at hx;cases hx
 rw[if_neg h2]
 exact⟨fun _=>⟨uN,fun n hn=>by simpa using fun hx=>h2 (List.any_eq_true.2 ⟨n,hn,hx⟩)⟩,fun _=>rfl⟩
theorem OT {l:List Part} {a b:List ae} (h:fS l b=0) (hs:∀ n∈a,n∈b):fS l a=0:=by
 rw[amC] at h ⊢
 exact⟨fun n hn=>h.1 n (hs n hn),fun n hn=>h.2 n (hs n hn)⟩
theorem alu {at_:List (Int×Int)} {l:List ae} (h:oK at_ l=l):l.Pairwise fun a b=>¬ dK (nK at_) b a < 0:=by
 have:=Dq (P5 at_) l
 rwa [show bD (dK (nK at_)) l=l from h] at this
theorem adk {s:Score} (hs:dO s) {v:Int} (hv:1≤v∧v≤1000000) {l:List ae} (hl:l.Sublist s.notes):nU s v l=(⟨v,s.bars,s.parts,l⟩,0):=by
 have hn:gq s.bars l:=⟨hs.2.1,by have:=hl.length_le;have:=hs.2.2.2.1.2.1;omega,fun n hn=>hs.2.2.2.1.2.2.1 n (hl.subset hn),hs.2.2.2.1.2.2.2.sublist (hl.map _)⟩
 have hw:=OT hs.2.2.2.2.1 fun n hn=>hl.subset hn
 unfold nU
 rw[if_pos ⟨hs,hv,hn⟩,if_pos hw,←Oy ((alu hs.2.2.2.2.2).sublist hl) (List.Perm.refl _) hn.2.2.2]
theorem avM {bars:List aT} {l m:List ae} (h:gq bars l) (hp:m.Perm l):gq bars m:=
 ⟨h.1,by rw[hp.length_eq];exact h.2.1,fun n hn=>h.2.2.1 n (hp.subset hn),((hp.map ae.id).nodup_iff).2 h.2.2.2⟩
theorem az4 {at_:List (Int×Int)} {l:List ae} (hn:(l.map ae.id).Nodup):oK at_ (oK at_ l)=oK at_ l:=by
 have hp:(oK at_ l).Perm l:=vt _ l
 symm
 exact Oy (Dq (P5 at_) l) (List.Perm.refl _) (((hp.map ae.id).nodup_iff).2 hn)
theorem UR {s t:Score} {v:Int} {l:List ae} (h:nU s v l=(t,0)):dO t∧t=⟨v,s.bars,s.parts,oK (eS s.bars) l⟩∧gq s.bars l∧fS s.parts l=0:=by
 unfold nU at h
 split at h
 ·rename_i hc
  obtain⟨h1,h2,h3⟩:=hc
  split at h
  ·rename_i hw
   injection h with h4 h5
   subst h4
   have hp:(oK (eS s.bars) l).Perm l:=vt _ l
   exact⟨⟨h2,h1.2.1,h1.2.2.1,avM h3 hp,OT hw fun n hn=>hp.subset hn,az4 h3.2.2.2⟩,rfl,h3,hw⟩
  rename_i hw
  injection h with h4 h5
  exact absurd h5 hw
 injection h with h4 h5;cases h5
noncomputable def bs (s:Score) (x:aa):Score×Int:=
 if ¬ eV x then(s,1)
 else if x.kind=2 then(if(less s.notes x.note.id).length=s.notes.length then(s,23) else(⟨s.version,s.bars,s.parts,less s.notes x.note.id⟩,0))
 else if(nU s s.version (less s.notes x.note.id++[x.note])).2=0 then((nU s s.version (less s.notes x.note.id++[x.note])).1,0) else(s,(nU s s.version (less s.notes x.note.id++[x.note])).2)
theorem azj {s:Score} (hs:dO s) (x:aa):Oa s x=some (bs s x):=by
 have hl:=hs.2.2.2.1.2.1
 have vX:=Ss s.notes x.note.id
 unfold Oa bs
 rw[akD,aj]
 by_cases h1:eV x
 ·rw[av (by rw[decide_eq_true h1];rfl),aAW (by omega),aj,if_neg (fun h=>h h1)]
  by_cases h2:x.kind=2
  ·rw[ar (decide_eq_true h2),if_pos h2]
   by_cases h3:(less s.notes x.note.id).length=s.notes.length
   ·rw[ar (decide_eq_true (by omega)),if_pos h3]
   rw[av (decide_eq_false (by omega)),if_neg h3]
  rw[av (decide_eq_false h2),if_neg h2,cu (by simp;omega),azc,aj]
  by_cases h3:(nU s s.version (less s.notes x.note.id++[x.note])).2=0
  ·rw[if_pos h3];dsimp only;rw[av (by rw[decide_eq_true h3];rfl)]
  rw[if_neg h3];dsimp only;rw[ar (by rw[decide_eq_false h3];rfl)]
 rw[ar (by rw[decide_eq_false h1];rfl),if_pos h1]
theorem aoQ {l:List ae} (hl:l.length≤1048576) (f:qF) (id:Int):K5 l f id=some (ix l fun n=>decide (n.id=id)):=by
 unfold K5 RB
 rw[Iv (l:=l) (fun b=>decide (b.id=id)) (fun k x hx=>by
  have hk:=de hx
  unfold Mj RC RL Qo
  rw[ar (by simpa using hk),bl (bm hx),aj,aj]
  by_cases h:x.id=id
  ·rw[ar (by simp[h])];simp[h]
  rw[av (by simp[h]),aZ (by omega)];simp[h]) (by unfold Mj;rw[av (by simp)]),aj]
 unfold ix
 cases l.findIdx? _<;>rfl
theorem aiO {l:List ae} {id:Int} (h:∀ n∈l,n.id≠id):less l id=l:=by
 unfold less
 rw[List.filter_eq_self]
 intro n hn;simp[h n hn]
theorem aiN:∀ {l:List ae} {k:Nat} {x:ae},(l.map ae.id).Nodup→l[k]?=some x→l.take k++l.drop (k+1)=less l x.id
 | [],k,x,_,h=>by simp at h
 | y::l,0,x,hn,h=>by
  simp at h;subst h
  simp only[List.map_cons,List.nodup_cons,List.mem_map] at hn
  unfold less
  rw[List.filter_cons,if_neg (by simp)]
  exact(aiO fun n hm he=>hn.1 ⟨n,hm,he⟩).symm
 | y::l,k+1,x,hn,h=>by
  simp only[List.map_cons,List.nodup_cons,List.mem_map] at hn
  have hx:l[k]?=some x:=by simpa using h
  have ih:=aiN hn.2 hx
  have:y.id≠x.id:=fun e=>hn.1 ⟨x,List.mem_of_getElem? hx,e.symm⟩
  unfold less at ih ⊢
  rw[List.filter_cons,if_pos (by simp[this]),←ih]
  simp
theorem MJ {l:List ae} {id:Int}:(less l id).length=l.length↔∀ n∈l,n.id≠id:=by
 unfold less
 rw[List.length_filter_eq_length_iff]
 simp
theorem aon {s:Score} (hs:dO s) (x:aa):KU s x=some (bs s x):=by
 have hl:=hs.2.2.2.1.2.1
 have hb:=hs.2.1.1.2
 have hn:=hs.2.2.2.1.2.2.2
 unfold KU bs
 rw[afy,aj]
 by_cases h1:eV x
 ·have mo:(less s.notes x.note.id).Sublist s.notes:=List.filter_sublist
  have vX:=mo.length_le
  rw[av (by rw[decide_eq_true h1];rfl),if_neg (fun h=>h h1),aoQ (by omega),aj,cu (by omega)]
  have zF:∀ l,l=less s.notes x.note.id→x.kind=1→(aG (((l++[x.note]):List ae).length*96≤140737488355328) (Eo s (l++[x.note])))=some (if(nU s s.version (less s.notes x.note.id++[x.note])).2=0 then((nU s s.version (less s.notes x.note.id++[x.note])).1,0) else(s,(nU s s.version (less s.notes x.note.id++[x.note])).2)):=by
   rintro l rfl hk
   unfold Eo
   rw[cu (by simp;omega),acm (by omega),aj]
   by_cases h3:(nU s s.version (less s.notes x.note.id++[x.note])).2=0
   ·rw[if_pos h3];dsimp only;rw[av (by rw[decide_eq_true h3];rfl)]
   rw[if_neg h3];dsimp only;rw[ar (by rw[decide_eq_false h3];rfl)]
  rcases zO s.notes fun n=>decide (n.id=x.note.id) with ⟨g1,g2⟩ | ⟨k,y,g1,g2,g3,g4⟩
  ·have ca:∀ n∈s.notes,n.id≠x.note.id:=fun n hm=>by simpa using List.find?_eq_none.1 g1 n hm
   rw[g2,av (by decide)]
   unfold Ht
   by_cases h2:x.kind=2
   ·rw[av (decide_eq_false (by omega)),ar (by decide),if_pos h2,if_pos (MJ.2 ca)]
   have hk:x.kind=1:=by rcases h1.2.2.2 with h | h;exact h;exact absurd h.1 h2
   rw[ar (decide_eq_true hk),if_neg h2]
   exact zF _ (aiO ca).symm hk
  have hy:y.id=x.note.id:=by simpa using g4
  have hk:=de g1
  rw[g3,ar (decide_eq_true (by omega)),aZ (by omega),cu (by omega),cu (by omega)]
  have e:s.notes.take (k:Int).toNat++s.notes.drop ((k:Int)+1).toNat=less s.notes x.note.id:=by
   rw[show((k:Int)).toNat=k by omega,show((k:Int)+1).toNat=k+1 by omega,aiN hn g1,hy]
  rw[e]
  unfold Ht
  by_cases h2:x.kind=2
  ·rw[av (decide_eq_false (by omega)),av (decide_eq_false (by omega)),if_pos h2,if_neg (fun h=>MJ.1 h y (List.mem_of_getElem? g1) hy)]
   unfold Eo
   rw[acm (by omega),aj,adk hs hs.1 mo]
   dsimp only
   rw[av (by simp)]
  have hk:x.kind=1:=by rcases h1.2.2.2 with h | h;exact h;exact absurd h.1 h2
  rw[ar (decide_eq_true hk),if_neg h2]
  exact zF _ rfl hk
 rw[ar (by rw[decide_eq_false h1];rfl),if_pos h1]
theorem xY {s:Score} (hs:dO s) (x:aa):dO (bs s x).1:=by
 unfold bs
 split
 ·exact hs
 split
 ·split
  ·exact hs
  have mo:(less s.notes x.note.id).Sublist s.notes:=List.filter_sublist
  exact(UR (adk hs hs.1 mo)).1
 split
 ·rename_i h
  exact(UR (t:=(nU s s.version (less s.notes x.note.id++[x.note])).1) (Prod.ext rfl h)).1
 exact hs
noncomputable def eZ (p:Score×List Int) (x:aa):Score×List Int:=((bs p.1 x).1,p.2++[(bs p.1 x).2])
noncomputable def ek (s:Score) (v:Int) (l:List aa):Score×List Int×Int:=
 if 1000 < l.length then(DK,[],2) else if ¬ (dO s∧(1≤v∧v≤1000000)) then(DK,[],1)
 else({ (l.foldl eZ (s,[])).1 with version:=v },(l.foldl eZ (s,[])).2,0)
theorem K7:∀ (l:List aa) (p:Score×List Int),dO p.1→dO (l.foldl eZ p).1∧(l.foldl eZ p).2.length=p.2.length+l.length
 | [],p,h=>⟨h,rfl⟩
 | x::l,p,h=>by
  obtain⟨h1,h2⟩:=K7 l (eZ p x) (xY h x)
  refine⟨h1,?_⟩
  rw[List.foldl_cons,h2]
  simp[eZ];omega
theorem akC (s:Score) (v:Int) (l:List aa):IY s v l=some (ek s v l):=by
 unfold IY abO ek
 by_cases h0:1000 < l.length
 ·rw[ar (decide_eq_true (by omega)),if_pos h0];rfl
 rw[av (decide_eq_false (by omega)),if_neg h0,IX,aj,akE,aj,th,aj]
 by_cases h1:dO s∧(1≤v∧v≤1000000)
 ·rw[av (by rw[decide_eq_true h1.1,decide_eq_true h1.2];rfl),if_neg (fun h=>h h1)]
  rw[kn (σ:=Score×List Int) (st:=fun z k=>(z.1,z.2,k)) (l:=l) (fun z x=> .inl (eZ z x)) (fun z=>z) (fun k z=>dO z.1∧z.2.length=k) (fun k x z hx hz=>by
   have hk:=de hx
   unfold NS TO
   dsimp only
   rw[ar (by simpa using hk),bl (bm hx),azj hz.1,aj]
   rw[cu (by simp;omega),aZ (by omega)];rfl) (fun k x z z' hx hz h=>by
   injection h with h;subst h
   exact⟨xY hz.1 x,by simp[eZ,hz.2]⟩) (fun z _=>by unfold NS;dsimp only;rw[av (by simp)]) (s,[]) ⟨h1.1,rfl⟩,qm eZ _ _ (fun _ _ _=>rfl),aj]
  rfl
 rw[ar (by
  by_cases h2:dO s
  ·rw[decide_eq_false (p:=1≤v∧v≤1000000) fun h=>h1 ⟨h2,h⟩];simp
  rw[decide_eq_false h2];simp),if_pos h1];rfl
theorem xZ {s:Score} (hb:s.bars.length≤1048576) (v:Int) (l:List aa):tS s v l=some (ek s v l):=by
 unfold tS VB ek
 by_cases h0:1000 < l.length
 ·rw[ar (decide_eq_true (by omega)),if_pos h0];rfl
 rw[av (decide_eq_false (by omega)),if_neg h0,ak5 hb,aj,afz,aj,th,aj]
 by_cases h1:dO s∧(1≤v∧v≤1000000)
 ·rw[av (by rw[decide_eq_true h1.1,decide_eq_true h1.2];rfl),if_neg (fun h=>h h1)]
  rw[kn (σ:=Score×List Int) (st:=fun z k=>(z.1,z.2,k)) (l:=l) (fun z x=> .inl (eZ z x)) (fun z=>z) (fun k z=>dO z.1∧z.2.length=k) (fun k x z hx hz=>by
   have hk:=de hx
   unfold KN Qe Qc
   dsimp only
   rw[ar (by simpa using hk),bl (bm hx),aon hz.1,aj]
   rw[cu (by simp;omega),aj]
   dsimp only
   rw[aZ (by omega)];rfl) (fun k x z z' hx hz h=>by
   injection h with h;subst h
   exact⟨xY hz.1 x,by simp[eZ,hz.2]⟩) (fun z _=>by unfold KN;dsimp only;rw[av (by simp)]) (s,[]) ⟨h1.1,rfl⟩,qm eZ _ _ (fun _ _ _=>rfl),aj]
  obtain⟨h2,h3⟩:=K7 l (s,[]) h1.1
  generalize l.foldl eZ (s,[])=r at *
  obtain⟨t,es⟩:=r
  dsimp only at h2 h3 ⊢
  unfold Qd
  have:=h2.2.1.1.2
  rw[acm (by omega),aj,adk h2 h1.2 (List.Sublist.refl _)]
  dsimp only
  rw[av (by simp)]
 rw[ar (by
  by_cases h2:dO s
  ·rw[decide_eq_false (p:=1≤v∧v≤1000000) fun h=>h1 ⟨h2,h⟩];simp
  rw[decide_eq_false h2];simp),if_pos h1];rfl
end Go.Proofs.YtjigeffmmcmlnaaGreatDoor
namespace Go.Proofs.YtjigeffmmcmlnaaGreatDoor
open Go Go.an au
@[reducible] def axf:e8:=⟨False⟩
attribute [local instance] cJ axf
theorem aiR {α σ τ ρ:Type} (st:σ→Int→τ) {step:τ→Option (τ⊕ρ)} {l:List α} (f:σ→α→σ) (fin:σ→ρ) (Inv:Nat→σ→Prop)
  (h:∀ (k:Nat) x z,l[k]?=some x→Inv k z→step (st z (k:Int))=some (.inl (st (f z x) ((k+1:Nat):Int)))∧Inv (k+1) (f z x))
  (cM:∀ z,Inv l.length z→step (st z (l.length:Int))=some (.inr (fin z))) (z0:σ) (h0:Inv 0 z0):∃ z,Inv l.length z∧aH step (st z0 0)=some (fin z):=by
 have key:∀ (n k:Nat) (z:σ),k+n=l.length→Inv k z→∃ z',Inv l.length z'∧aH step (st z (k:Int))=some (fin z'):=by
  intro n
  induction n with
  | zero=>
   intro k z hk hi
   have:k=l.length:=by omega
   subst this
   exact⟨z,hi,si (cM z hi)⟩
  | succ n ih=>
   intro k z hk hi
   have hx:l[k]?=some l[k]:=List.getElem?_eq_getElem (by omega)
   obtain⟨h1,h2⟩:=h k _ z hx hi
   obtain⟨z',h3,h4⟩:=ih (k+1) _ (by omega) h2
   exact⟨z',h3,by rw[vl h1];exact h4⟩
 simpa using key l.length 0 z0 (by omega) h0
theorem Jf {α:Type} {R:α→α→Prop} (asym:∀ a b,R a b→¬ R b a) {l m:List α} (hl:l.Pairwise R) (hm:m.Pairwise R) (h:∀ x,x∈l↔x∈m):l=m:=by
 have nd:∀ {l:List α},l.Pairwise R→l.Nodup:=fun hp=>hp.imp fun {a b} cA=>by intro e;subst e;exact asym _ _ cA cA
 have hp:l.Perm m:=(List.perm_ext_iff_of_nodup (nd hl) (nd hm)).2 h
 exact List.Perm.eq_of_pairwise (le:=R) (fun a b _ _ h1 h2=>absurd h2 (asym a b h1)) hl hm hp
theorem afp {x y:Int}:jT x y < 0↔x < y:=by unfold jT;split<;>(try split)<;>omega
theorem afo {x y:Int}:0 < jT x y↔y < x:=by unfold jT;split<;>(try split)<;>omega
theorem P9 {x y:Int}:jT x y=0↔x=y:=by unfold jT;split<;>(try split)<;>omega
theorem xX {x y:aa}:0 < aQ x y↔(y.clock < x.clock∨(x.clock=y.clock∧y.ev < x.ev)):=by
 unfold aQ
 split
 ·rename_i h;rw[P9] at h;rw[afo];omega
 rename_i h;rw[P9] at h;rw[afo];omega
theorem KG {x y:aa}:aQ x y < 0↔(x.clock < y.clock∨(x.clock=y.clock∧x.ev < y.ev)):=by
 unfold aQ
 split
 ·rename_i h;rw[P9] at h;rw[afp];omega
 rename_i h;rw[P9] at h;rw[afp];omega
theorem NV (x y:aa):Aa x y=some (decide (0 < aQ x y)):=by
 unfold Aa abS
 simp only[th,oZ,aj]
 congr 1
 rw[Bool.eq_iff_iff,decide_eq_true_iff,xX]
 simp
def sj (id:Int) (o:Option aa) (x:aa):Option aa:=if x.note.id=id then(match o with | none=>some x | some y=>if 0 < aQ x y then some x else some y) else o
theorem ai2 {id:Int} {x:aa} (h:x.note.id=id):sj id none x=some x:=by unfold sj;rw[if_pos h]
theorem ai4 {id:Int} {x y:aa} (h:x.note.id=id):sj id (some y) x=if 0 < aQ x y then some x else some y:=by unfold sj;rw[if_pos h]
theorem ai3 {id:Int} {x:aa} {o:Option aa} (h:¬ x.note.id=id):sj id o x=o:=by unfold sj;rw[if_neg h]
def ia (l:List aa) (id:Int):Option aa:=l.foldl (sj id) none
theorem aiJ:∀ (l:List aa) (id:Int) (o:Option aa) (x:aa),l.foldl (sj id) o=some x→(o=some x∨(x∈l∧x.note.id=id))∧(∀ y,(o=some y∨(y∈l∧y.note.id=id))→¬ 0 < aQ y x)
 | [],id,o,x,h=>by
  simp only[List.foldl_nil] at h
  subst h
  refine⟨.inl rfl,?_⟩
  rintro y (h | ⟨h,_⟩)
  ·injection h with h;subst h;rw[xX];omega
  cases h
 | z::l,id,o,x,h=>by
  rw[List.foldl_cons] at h
  obtain⟨h1,h2⟩:=aiJ l id _ x h
  by_cases hz:z.note.id=id
  ·cases o with
   | none=>
    rw[ai2 hz] at h1 h2
    refine⟨?_,?_⟩
    ·rcases h1 with h1 | h1
     ·injection h1 with h1;right;exact⟨by rw[h1];simp,by rw[←h1];exact hz⟩
     right;exact⟨by simp[h1.1],h1.2⟩
    rintro y (hy | ⟨hy,hi⟩)
    ·cases hy
    rcases List.mem_cons.1 hy with rfl | hy
    ·exact h2 y (.inl rfl)
    exact h2 y (.inr ⟨hy,hi⟩)
   | some u=>
    rw[ai4 hz] at h1 h2
    by_cases hc:0 < aQ z u
    ·rw[if_pos hc] at h1 h2
     refine⟨?_,?_⟩
     ·rcases h1 with h1 | h1
      ·injection h1 with h1;right;exact⟨by rw[h1];simp,by rw[←h1];exact hz⟩
      right;exact⟨by simp[h1.1],h1.2⟩
     rintro y (hy | ⟨hy,hi⟩)
     ·injection hy with hy;subst hy
      have:=h2 z (.inl rfl)
      rw[xX] at this hc ⊢;omega
     rcases List.mem_cons.1 hy with rfl | hy
     ·exact h2 y (.inl rfl)
     exact h2 y (.inr ⟨hy,hi⟩)
    rw[if_neg hc] at h1 h2
    refine⟨?_,?_⟩
    ·rcases h1 with h1 | h1
     ·exact .inl h1
     right;exact⟨by simp[h1.1],h1.2⟩
    rintro y (hy | ⟨hy,hi⟩)
    ·exact h2 y (.inl hy)
    rcases List.mem_cons.1 hy with rfl | hy
    ·have:=h2 u (.inl rfl)
     rw[xX] at this hc ⊢;omega
    exact h2 y (.inr ⟨hy,hi⟩)
  rw[ai3 hz] at h1 h2
  refine⟨?_,?_⟩
  ·rcases h1 with h1 | h1
   ·exact .inl h1
   right;exact⟨by simp[h1.1],h1.2⟩
  rintro y (hy | ⟨hy,hi⟩)
  ·exact h2 y (.inl hy)
  rcases List.mem_cons.1 hy with rfl | hy
  ·exact absurd hi hz
  exact h2 y (.inr ⟨hy,hi⟩)
theorem aiI:∀ (l:List aa) (id:Int) (o:Option aa),(l.foldl (sj id) o).isSome=(o.isSome||l.any fun x=>decide (x.note.id=id))
 | [],id,o=>by simp
 | z::l,id,o=>by
  rw[List.foldl_cons,aiI l,List.any_cons]
  unfold sj
  by_cases hz:z.note.id=id
  ·rw[if_pos hz,decide_eq_true hz]
   cases o with
   | none=>simp
   | some u=>dsimp only;split<;>simp
  rw[if_neg hz,decide_eq_false hz];simp
theorem oI {l:List aa} {id:Int} {x:aa} (h:ia l id=some x):x∈l∧x.note.id=id∧∀ y∈l,y.note.id=id→¬ 0 < aQ y x:=by
 obtain⟨h1,h2⟩:=aiJ l id none x h
 rcases h1 with h1 | h1
 ·cases h1
 exact⟨h1.1,h1.2,fun y hy hi=>h2 y (.inr ⟨hy,hi⟩)⟩
theorem Zv (l:List aa) (id:Int):(ia l id).isSome=l.any fun x=>decide (x.note.id=id):=by
 unfold ia;rw[aiI];rfl
def eN (l:List aa):Prop:=∀ x∈l,∀ y∈l,x.clock=y.clock→x.ev=y.ev→x=y
noncomputable instance (l:List aa):Decidable (eN l):=Classical.propDecidable _
theorem auG {l:List aa} (ha:eN l) {id:Int} {x:aa} (h1:x∈l) (h2:x.note.id=id) (h3:∀ y∈l,y.note.id=id→¬ 0 < aQ y x):ia l id=some x:=by
 have hs:=Zv l id
 rw[show(l.any fun x=>decide (x.note.id=id))=true from List.any_eq_true.2 ⟨x,h1,by simp[h2]⟩] at hs
 obtain⟨z,hz⟩:=Option.isSome_iff_exists.1 hs
 obtain⟨g1,g2,g3⟩:=oI hz
 have e1:=h3 z g1 g2
 have e2:=g3 x h1 h2
 rw[xX] at e1 e2
 rw[hz,ha x h1 z g1 (by omega) (by omega)]
abbrev uz:aa:=⟨0,0,0,⟨0,0,0,0,0,⟨0,0⟩,⟨0,0⟩,⟨0,0,0⟩⟩⟩
def ue {α:Type} (m:List (Int×α)) (k:Int):Option α:=(m.find? fun p=>decide (k=p.1)).map (·.2)
theorem avA {α:Type} (k:Int):ue ([]:List (Int×α)) k=none:=rfl
theorem C3 {α:Type} (p:Int×α) (m:List (Int×α)) (k:Int):ue (p::m) k=if k=p.1 then some p.2 else ue m k:=by
 unfold ue
 rw[List.find?_cons]
 by_cases h:k=p.1
 ·rw[decide_eq_true h,if_pos h];rfl
 rw[decide_eq_false h,if_neg h]
theorem SD {α:Type} (n:Int) (v:α) (k:Int):∀ (m:List (Int×α)),ue (cq m n v) k=if k=n then some v else ue m k
 | []=>by rw[MV,C3]
 | p::m=>by
  have ih:=SD n v k m
  rw[MU]
  by_cases h:n=p.1
  ·rw[if_pos h,C3,C3]
   by_cases h2:k=n
   ·rw[if_pos h2,if_pos h2]
   rw[if_neg h2,if_neg h2,if_neg (by rw[←h];exact h2)]
  rw[if_neg h,C3,C3,ih]
  by_cases h2:k=n
  ·subst h2;rw[if_neg h,if_pos rfl,if_pos rfl]
  rw[if_neg h2,if_neg h2]
theorem MQ {α:Type}:∀ (m:List (Int×α)) (k:Int),eu m k=(ue m k).isSome
 | [],k=>rfl
 | p::m,k=>by
  have ih:=MQ m k
  rw[C3]
  by_cases h:k=p.1
  ·rw[if_pos h,(wj _ _).2 (by simp[aA,h])];rfl
  rw[if_neg h,←ih,Bool.eq_iff_iff,wj,wj];simp[aA,h]
theorem SA {α:Type} (z:α):∀ (m:List (Int×α)) (k:Int),aV m k z=(ue m k).getD z
 | [],k=>rfl
 | p::m,k=>by
  rw[C3,Ft,SA z m k]
  split<;>rfl
theorem SC {α:Type}:∀ {m:List (Int×α)},(aA m).Nodup→∀ {k:Int} {v:α},ue m k=some v↔(k,v)∈m
 | [],_,k,v=>by simp[avA]
 | p::m,hn,k,v=>by
  simp only[aA,List.map_cons,List.nodup_cons] at hn
  have ih:=SC (m:=m) hn.2 (k:=k) (v:=v)
  rw[C3,List.mem_cons]
  by_cases h:k=p.1
  ·rw[if_pos h]
   constructor
   ·intro e;injection e with e;left;rw[h,←e]
   rintro(e | e)
   ·rw[←e]
   exact absurd (List.mem_map.2 ⟨_,e,by rw[h]⟩) hn.1
  rw[if_neg h,ih]
  exact⟨fun e=> .inr e,fun e=>e.resolve_left fun e=>h (by rw[←e])⟩
def sQ (m:List (Int×aa)) (x:aa):List (Int×aa):=if(!eu m x.note.id||decide (0 < aQ x (aV m x.note.id uz)))=true then cq m x.note.id x else m
def ju (l:List aa):List (Int×aa):=l.foldl sQ []
theorem am4 (m:List (Int×aa)) (x:aa) (id:Int):ue (sQ m x) id=sj id (ue m id) x:=by
 by_cases h:x.note.id=id
 ·subst h
  cases ho:ue m x.note.id with
  | none=>
   have c:(!eu m x.note.id||decide (0 < aQ x (aV m x.note.id uz)))=true:=by rw[MQ,ho];rfl
   unfold sQ
   rw[if_pos c,SD,if_pos rfl,ai2 rfl]
  | some y=>
   have e:(!eu m x.note.id||decide (0 < aQ x (aV m x.note.id uz)))=decide (0 < aQ x y):=by rw[MQ,SA,ho];rfl
   unfold sQ
   rw[ai4 rfl]
   by_cases hc:0 < aQ x y
   ·rw[if_pos (by rw[e,decide_eq_true hc]),SD,if_pos rfl,if_pos hc]
   rw[if_neg (by rw[e,decide_eq_false hc];simp),if_neg hc,ho]
 rw[ai3 h]
 unfold sQ
 split
 ·rw[SD,if_neg (Ne.symm h)]
 rfl
theorem Fk (l:List aa) (id:Int):ue (ju l) id=ia l id:=by
 unfold ju ia
 have key:∀ (l:List aa) (m:List (Int×aa)),ue (l.foldl sQ m) id=l.foldl (sj id) (ue m id):=by
  intro l
  induction l with
  | nil=>intro m;rfl
  | cons x l ih=>intro m;rw[List.foldl_cons,List.foldl_cons,ih,am4]
 exact key l []
theorem zV (l:List aa):(aA (ju l)).Nodup∧(∀ k,k∈aA (ju l)→∃ x∈l,x.note.id=k)∧(ju l).length≤l.length:=by
 unfold ju
 have key:∀ (l:List aa) (m:List (Int×aa)),(aA m).Nodup→(aA (l.foldl sQ m)).Nodup∧(∀ k,k∈aA (l.foldl sQ m)→k∈aA m∨∃ x∈l,x.note.id=k)∧(l.foldl sQ m).length≤m.length+l.length:=by
  intro l
  induction l with
  | nil=>intro m hm;exact⟨hm,fun k hk=> .inl hk,by simp⟩
  | cons x l ih=>
   intro m hm
   have h1:(aA (sQ m x)).Nodup∧(∀ k,k∈aA (sQ m x)→k=x.note.id∨k∈aA m)∧(sQ m x).length≤m.length+1:=by
    unfold sQ
    split
    ·obtain⟨g1,g2⟩:=Zu x.note.id x m hm
     refine⟨g1,fun k hk=>(g2 k).1 hk,?_⟩
     rw[SE];split<;>omega
    exact⟨hm,fun k hk=> .inr hk,by omega⟩
   obtain⟨g1,g2,g3⟩:=ih _ h1.1
   refine⟨g1,fun k hk=>?_,by rw[List.foldl_cons,List.length_cons];omega⟩
   rcases g2 k hk with hk | ⟨y,hy,he⟩
   ·rcases h1.2.1 k hk with rfl | hk
    ·exact .inr ⟨x,by simp,rfl⟩
    exact .inl hk
   exact .inr ⟨y,by simp[hy],he⟩
 obtain⟨h1,h2,h3⟩:=key l [] (by simp[aA])
 exact⟨h1,fun k hk=>(h2 k hk).resolve_left (by simp[aA]),by simpa using h3⟩
theorem VM {l:List aa} (hl:l.length≤1048576):vM l=some (ju l):=by
 unfold vM
 rw[kn (σ:=List (Int×aa)) (st:=fun z k=>(z,k)) (l:=l) (fun z x=> .inl (sQ z x)) (fun z=>z) (fun _ _=>True) (fun k x z hx _=>by
  have hk:=de hx
  unfold KW VO KV
  dsimp only
  rw[ar (by simpa using hk),bl (bm hx),VJ,aj,th,aj]
  unfold sQ
  split
  ·rename_i h
   rw[ar h,aZ (by omega)];rfl
  rename_i h
  rw[Bool.not_eq_true] at h
  rw[av h,aZ (by omega)];rfl) (fun _ _ _ _ _ _ _=>trivial) (fun z _=>by unfold KW;dsimp only;rw[av (by simp)]) [] trivial,qm sQ _ _ (fun _ _ _=>rfl),aj]
 rfl
theorem Dj {l:List aa} (hl:l.length≤1048576) (id:Int):(ia l id=none∧tz l id=some (-1))∨∃ (k:Nat) (x:aa),l[k]?=some x∧ia l id=some x∧tz l id=some (k:Int):=by
 let f:Option (Nat×aa)×Nat→aa→Option (Nat×aa)×Nat:=fun z x=>(if x.note.id=id then(match z.1 with | none=>some (z.2,x) | some y=>if 0 < aQ x y.2 then some (z.2,x) else some y) else z.1,z.2+1)
 obtain⟨z,⟨i1,i2,i3⟩,hz⟩:=aiR (l:=l) (step:=FJ l id) (σ:=Option (Nat×aa)×Nat) (st:=fun z k=>((match z.1 with | none=> -1 | some y=>(y.1:Int)),k)) f (fun z=>match z.1 with | none=> -1 | some y=>(y.1:Int))
  (
   fun k z=>z.2=k∧(∀ y,z.1=some y→l[y.1]?=some y.2)∧z.1.map (·.2)=(l.take k).foldl (sj id) none) (fun k x z hx hz=>by
   have hk:=de hx
   obtain⟨o,k'⟩:=z
   obtain⟨h1,h2,h3⟩:=hz
   dsimp only at h1 h2 h3
   subst h1
   have ah1:(l.take (k'+1)).foldl (sj id) none=sj id ((l.take k').foldl (sj id) none) x:=by
    rw[List.take_add_one,hx];simp[List.foldl_append]
   refine⟨?_,rfl,?_,?_⟩
   ·unfold FJ abR NU
    dsimp only[f]
    rw[ar (by simpa using hk),bl (bm hx)]
    by_cases hi:x.note.id=id
    ·rw[ar (decide_eq_true hi),if_pos hi]
     cases o with
     | none=>
      dsimp only
      rw[ar (by simp),aj,ar rfl,aZ (by omega)];rfl
     | some y=>
      dsimp only
      rw[av (decide_eq_false (Int.not_lt.2 (Int.natCast_nonneg y.1))),bl (bm (h2 y rfl)),NV,aj,aj]
      by_cases hc:0 < aQ x y.2
      ·rw[ar (decide_eq_true hc),aZ (by omega),if_pos hc];rfl
      rw[av (decide_eq_false hc),aZ (by omega),if_neg hc];rfl
    rw[av (decide_eq_false hi),aj,av rfl,aZ (by omega),if_neg hi];rfl
   ·intro y hy
    dsimp only[f] at hy
    by_cases hi:x.note.id=id
    ·rw[if_pos hi] at hy
     cases o with
     | none=>dsimp only at hy;injection hy with hy;subst hy;exact hx
     | some u=>
      dsimp only at hy
      split at hy
      ·injection hy with hy;subst hy;exact hx
      injection hy with hy;subst hy;exact h2 _ rfl
    rw[if_neg hi] at hy;exact h2 y hy
   rw[ah1,←h3]
   dsimp only[f]
   unfold sj
   by_cases hi:x.note.id=id
   ·rw[if_pos hi,if_pos hi]
    cases o with
    | none=>rfl
    | some u=>by_cases hc:0 < aQ x u.2<;>simp[hc]
   rw[if_neg hi,if_neg hi]) (fun z _=>by unfold FJ;dsimp only;rw[av (by simp)]) (none,0) ⟨rfl,by simp,rfl⟩
 have e:tz l id=some (match z.1 with | none=> -1 | some y=>(y.1:Int)):=by
  unfold tz
  have:aH (FJ l id) (-1,0)=_:=hz
  rw[this,aj];rfl
 rw[List.take_length] at i3
 have e3:ia l id=z.1.map (·.2):=i3.symm
 cases ho:z.1 with
 | none=>left;rw[e3,ho,e,ho];exact⟨rfl,rfl⟩
 | some y=>right;rw[e3,e,ho];exact⟨y.1,y.2,i2 y ho,rfl,rfl⟩
end Go.Proofs.YtjigeffmmcmlnaaGreatDoor
namespace Go.Proofs.YtjigeffmmcmlnaaGreatDoor
open Go Go.an au
@[reducible] def axg:e8:=⟨False⟩
attribute [local instance] cJ axg
abbrev dq (x:aa):P2:=⟨x.clock,x.ev⟩
theorem OG (x y:aa):dq x=dq y↔x.clock=y.clock∧x.ev=y.ev:=by unfold dq;simp
theorem af0:∀ (l:List aa) (z:List (P2×aa)),pK (fun(z:List (P2×aa)) x=>if(pU z (dq x) && !decide (x=o4 z (dq x) uz))=true then(.inr (.inl false):_⊕(Bool⊕Unit)) else .inl (pV z (dq x) x)) (fun _=> .inr ()) l z =
  if eN l∧(∀ x∈l,pU z (dq x)=true→x=o4 z (dq x) uz) then .inr () else .inl false
 | [],z=>by rw[if_pos ⟨fun _ h=>(by cases h),fun _ h=>(by cases h)⟩];rfl
 | x::l,z=>by
  have ih:=af0 l (pV z (dq x) x)
  simp only[pK]
  by_cases h:(pU z (dq x) && !decide (x=o4 z (dq x) uz))=true
  ·rw[if_pos h,if_neg]
   simp only[Bool.and_eq_true,Bool.not_eq_true',decide_eq_false_iff_not] at h
   exact fun hh=>h.2 (hh.2 x (by simp) h.1)
  rw[if_neg h]
  dsimp only
  rw[ih]
  have hx:pU z (dq x)=true→x=o4 z (dq x) uz:=fun hp=>by
   simp only[hp,Bool.true_and,Bool.not_eq_true',decide_eq_false_iff_not,Classical.not_not] at h
   exact h
  have e:(eN l∧∀ y∈l,pU (pV z (dq x) x) (dq y)=true→y=o4 (pV z (dq x) x) (dq y) uz)↔(eN (x::l)∧∀ y∈x::l,pU z (dq y)=true→y=o4 z (dq y) uz):=by
   simp only[akf,axN]
   constructor
   ·rintro⟨h1,h2⟩
    have uO:∀ y∈l,dq y=dq x→y=x:=fun y hy he=>by
     have:=h2 y hy (by simp[he]);rwa [if_pos he] at this
    refine⟨?_,?_⟩
    ·intro u hu v hv e1 e2
     have es:dq u=dq v:=(OG u v).2 ⟨e1,e2⟩
     rcases List.mem_cons.1 hu with rfl | hu<;>rcases List.mem_cons.1 hv with rfl | hv
     ·rfl
     ·exact(uO v ‹_› es.symm).symm
     ·exact uO u ‹_› es
     exact h1 u ‹_› v ‹_› e1 e2
    intro y hy hp
    rcases List.mem_cons.1 hy with rfl | hy
    ·exact hx hp
    by_cases he:dq y=dq x
    ·have hyx:=uO y hy he;subst hyx;exact hx hp
    have:=h2 y hy (by simp[hp]);rwa [if_neg he] at this
   rintro⟨h1,h2⟩
   refine⟨fun u hu v hv=>h1 u (by simp[hu]) v (by simp[hv]),fun y hy hp=>?_⟩
   by_cases he:dq y=dq x
   ·rw[if_pos he]
    have:=(OG y x).1 he
    exact h1 y (by simp[hy]) x (by simp) this.1 this.2
   rw[if_neg he]
   simp[he] at hp
   exact h2 y (by simp[hy]) hp
  by_cases hc:eN (x::l)∧∀ y∈x::l,pU z (dq y)=true→y=o4 z (dq y) uz
  ·rw[if_pos hc,if_pos (e.2 hc)]
  rw[if_neg hc,if_neg fun h=>hc (e.1 h)]
theorem aom {l:List aa} (hl:l.length≤1048576):En l=some (decide (eN l)):=by
 unfold En
 rw[kn (σ:=List (P2×aa)) (st:=fun z k=>(z,k)) (l:=l) (fun(z:List (P2×aa)) x=>if(pU z (dq x) && !decide (x=o4 z (dq x) uz))=true then .inr (.inl false) else .inl (pV z (dq x) x)) (fun _=> .inr ()) (fun _ _=>True) (fun k x z hx _=>by
  have hk:=de hx
  unfold KT VI Qn Cy
  dsimp only
  rw[ar (by simpa using hk),bl (bm hx),aj,oZ,aj,aj,aZ (by omega)]
  by_cases h:(pU z (dq x) && !decide (x=o4 z (dq x) uz))=true
  ·rw[ar h,if_pos h]
  rw[if_neg h];rw[Bool.not_eq_true] at h;rw[av h];rfl) (fun _ _ _ _ _ _ _=>trivial) (fun z _=>by unfold KT;dsimp only;rw[av (by simp)]) [] trivial,aj,af0]
 by_cases h:eN l
 ·rw[if_pos ⟨h,fun x _ hp=>by simp[pU,kp] at hp⟩,decide_eq_true h];rfl
 rw[if_neg fun hh=>h hh.1,decide_eq_false h]
theorem akl {α:Type} {R:α→α→Prop} (rf:∀ a,R a a) (sy:∀ a b,R a b→R b a):∀ {l:List α},l.Pairwise R↔∀ x∈l,∀ y∈l,R x y
 | []=>by simp
 | a::l=>by
  rw[List.pairwise_cons,akl rf sy (l:=l)]
  constructor
  ·rintro⟨h1,h2⟩ x hx y hy
   rcases List.mem_cons.1 hx with rfl | hx<;>rcases List.mem_cons.1 hy with rfl | hy
   ·exact rf _
   ·exact h1 y ‹_›
   ·exact sy _ _ (h1 x ‹_›)
   exact h2 x ‹_› y ‹_›
  intro h;exact⟨fun y hy=>h a (by simp) y (by simp[hy]),fun x hx y hy=>h x (by simp[hx]) y (by simp[hy])⟩
theorem azg (x y:aa):N3 x y=some (decide (dq x=dq y)):=by
 unfold N3 abW
 rw[oZ,aj]
 congr 1
 rw[Bool.eq_iff_iff,decide_eq_true_iff,OG];simp
theorem aze {l:List aa} (hl:l.length≤1048576):NP l=some (decide (eN l)):=by
 unfold NP
 rw[ML l.length (xB (fun _=>false) (fun y x=>decide (dq x=dq y) && !decide (x=y)) l) false (fun k hk=>by
  have hx:l[k]?=some l[k]:=List.getElem?_eq_getElem hk
  generalize l[k]=x at hx
  unfold NQ
  rw[ak7 hx,ar (by simpa using hk),zX (l:=l.take k) (fun y=>decide (dq x=dq y) && !decide (x=y)) false (fun j y hy=>by
    obtain⟨hj,hy⟩:=UH hy
    unfold NR abM TN
    rw[ar (by simpa using hj),bl (bm hx),bl (bm hy),azg,aj,oZ,aj]
    split
    ·rename_i h;rw[ar h]
    ·rename_i h;rw[Bool.not_eq_true] at h;rw[av h,aZ (by omega)];rfl) (by
    unfold NR
    rw[List.length_take,Nat.min_eq_left (by omega),av (by simp)]),aj,Bool.false_or]
  by_cases h:((l.take k).any fun y=>decide (dq x=dq y) && !decide (x=y))=true
  ·rw[if_pos h,if_pos h]
  rw[if_neg h,if_neg h]
  dsimp only
  unfold TM
  rw[aZ (by omega)];rfl) (by unfold NQ;rw[av (by simp)]),aj]
 have key:=Uh (fun _=>false) (fun(y x:aa)=>decide (dq x=dq y) && !decide (x=y)) l
 have e:(
      (∀ x∈l,(fun _:aa=>false) x=false)∧l.Pairwise fun y x=>(decide (dq x=dq y) && !decide (x=y))=false)↔eN l:=by
  have e1:(l.Pairwise fun y x=>(decide (dq x=dq y) && !decide (x=y))=false)↔l.Pairwise fun x y=>x.clock=y.clock→x.ev=y.ev→x=y:=by
   constructor
   ·exact fun h=>h.imp fun {a b} cA h1 h2=>by
     have:dq b=dq a:=(OG b a).2 ⟨h1.symm,h2.symm⟩
     simp[this] at cA;exact cA.symm
   exact fun h=>h.imp fun {a b} cA=>by
    by_cases hs:dq b=dq a
    ·have:=(OG b a).1 hs
     simp[hs,(cA this.1.symm this.2.symm).symm]
    simp[hs]
  rw[e1,akl (fun a _ _=>rfl) (fun a b h h1 h2=>(h h1.symm h2.symm).symm)]
  exact⟨fun h=>h.2,fun h=>⟨fun _ _=>rfl,h⟩⟩
 rw[e] at key
 by_cases hc:eN l
 ·rw[if_neg (fun h=>key.1 h hc),decide_eq_true hc];rfl
 rw[if_pos (key.2 hc),decide_eq_false hc]
def uJ (x y:aa) (id:Int):Option aJ:=if x.kind=y.kind∧x.note=y.note then none else some (if 0 < aQ x y then⟨id,y,x⟩ else⟨id,x,y⟩)
def eF (a b:List aa) (id:Int):Option aJ:=match ia a id,ia b id with
 | some x,some y=>uJ x y id
 | _,_=>none
theorem anY {x y:aa} {id:Int} {c:aJ} (h:uJ x y id=some c):c.note=id:=by
 unfold uJ at h
 split at h
 ·cases h
 injection h with h;subst h;split<;>rfl
theorem Hp {a b:List aa} {id:Int} {c:aJ} (h:eF a b id=some c):c.note=id:=by
 unfold eF at h
 split at h
 ·exact anY h
 cases h
def fN (l:List aa):List aa:=bD aQ (bT (ju l))
def od (a b:List aa):List aJ:=(aE (aA (ju a))).filterMap (eF a b)
noncomputable def fZ (a b:List aa):List aa×List aJ×Int:=
 if 1000 < (a++b).length then([],[],2) else if((a++b).any fun x=> !decide (eV x))=true then([],[],1) else if ¬ eN (a++b) then([],[],61) else(fN (a++b),od a b,0)
theorem adi {l:List aa} {x:aa}:x∈bT (ju l)↔ia l x.note.id=some x:=by
 obtain⟨h1,_,_⟩:=zV l
 unfold bT
 rw[List.mem_map]
 constructor
 ·rintro⟨⟨k,v⟩,h,rfl⟩
  have:=(SC h1).2 h
  rw[Fk] at this
  have h2:=(oI this).2.1
  dsimp only at *
  rw[h2];exact this
 intro h
 rw[←Fk] at h
 exact⟨_,(SC h1).1 h,rfl⟩
theorem BC {l:List aa} {x:aa}:x∈fN l↔ia l x.note.id=some x:=by
 rw[←adi];exact(vt aQ _).mem_iff
theorem amz (l:List aa):(bT (ju l)).map (fun x=>x.note.id)=aA (ju l):=by
 unfold bT aA
 rw[List.map_map]
 refine List.map_congr_left fun p hp=>?_
 have:=(SC (zV l).1 (k:=p.1) (v:=p.2)).2 hp
 rw[Fk] at this
 exact(oI this).2.1
theorem amy {l:List aa} (ha:eN l):oO aQ (bT (ju l)):=by
 intro x hx y hy h1 h2
 have hx:=(oI (adi.1 hx)).1
 have hy:=(oI (adi.1 hy)).1
 rw[KG] at h1 h2
 exact ha x hx y hy (by omega) (by omega)
theorem anE (a b c:aa) (h1:aQ a b < 0) (h2:aQ b c < 0):aQ a c < 0:=by rw[KG] at *;omega
theorem afj (a b:aa) (h1:aQ a b < 0):¬ aQ b a < 0:=by rw[KG] at *;omega
theorem aAa {α:Type} {cf:α→α→Int} {l:List α} (h:l.Pairwise fun a b=>¬ cf b a < 0) (ha:oO cf l) (hn:l.Nodup):l.Pairwise fun a b=>cf a b < 0:=by
 rw[List.pairwise_iff_getElem] at h ⊢
 intro i j hi hj cj
 refine Classical.byContradiction fun hc=>?_
 have h1:=ha _ (List.getElem_mem hi) _ (List.getElem_mem hj) hc (h i j hi hj cj)
 exact(List.pairwise_iff_getElem.1 hn) i j hi hj cj h1
theorem S1 {l:List aa} (ha:eN l):(fN l).Pairwise fun a b=>aQ a b < 0:=by
 have hp:=vt aQ (bT (ju l))
 have h0:((bT (ju l)).map fun x=>x.note.id).Nodup:=by rw[amz];exact(zV l).1
 have hn:(bT (ju l)).Nodup:=List.Pairwise.of_map (fun x:aa=>x.note.id) (fun a b cA=>fun e=>cA (by rw[e])) h0
 exact aAa (Dq OJ _) ((amy ha).perm hp.symm) ((hp.nodup_iff).2 hn)
theorem Ox (l:List Int) (hn:l.Nodup):(aE l).Pairwise fun a b=>a < b:=by
 have hp:(aE l).Perm l:=List.mergeSort_perm _ _
 have h1:(aE l).Pairwise fun a b=>leI a b=true:=List.pairwise_mergeSort (le:=leI) (fun a b c h1 h2=>by simp only[leI,decide_eq_true_eq] at *;omega) (fun a b=>by simp only[leI,Bool.or_eq_true,decide_eq_true_eq];omega) l
 have h2:=(hp.nodup_iff).2 hn
 rw[List.pairwise_iff_getElem] at h1 ⊢
 intro i j hi hj cj
 have e1:=h1 i j hi hj cj
 have e2:=(List.pairwise_iff_getElem.1 h2) i j hi hj cj
 simp only[leI,decide_eq_true_eq] at e1
 omega
theorem BW {l:List Int} {x:Int}:x∈aE l↔x∈l:=(List.mergeSort_perm l leI).mem_iff
theorem Zt {l:List aa} {id:Int}:id∈aA (ju l)↔∃ x,ia l id=some x:=by
 rw[←wj,MQ,Fk,Option.isSome_iff_exists]
theorem Hr {a b:List aa} {c:aJ}:c∈od a b↔eF a b c.note=some c:=by
 unfold od
 rw[List.mem_filterMap]
 constructor
 ·rintro⟨id,h1,h2⟩
  rw[Hp h2];exact h2
 intro h
 refine⟨c.note,BW.2 (Zt.2 ?_),h⟩
 unfold eF at h
 cases hx:ia a c.note with
 | none=>rw[hx] at h;cases h
 | some x=>exact⟨x,rfl⟩
theorem KI (a b:List aa):(od a b).Pairwise fun c d=>c.note < d.note:=by
 unfold od
 rw[List.pairwise_filterMap]
 refine(Ox _ (zV a).1).imp fun {i j} cj=>?_
 intro c hc d hd
 rw[Hp hc,Hp hd];exact cj
theorem azK {a b:List aa} (ha:a.length≤1048576) (hb:b.length≤1048576):FQ [a,b]=some (a++b):=by
 unfold FQ
 have s0:BS [a,b] (0,0)=some (.inl ((a.length:Int),1)):=by
  unfold BS Oi
  dsimp only
  rw[ar (by simp),show aP [a,b] 0=some a from rfl,aj,aZ (by omega),av (decide_eq_false (by omega)),aZ (by omega)]
  simp
 have s1:BS [a,b] ((a.length:Int),1)=some (.inl ((a.length:Int)+(b.length:Int),2)):=by
  unfold BS Oi
  dsimp only
  rw[ar (by simp),show aP [a,b] 1=some b from rfl,aj,aZ (by omega),av (decide_eq_false (by omega)),aZ (by omega)]
  rfl
 have s2:BS [a,b] ((a.length:Int)+(b.length:Int),2)=some (.inr ((a.length:Int)+(b.length:Int))):=by
  unfold BS
  dsimp only
  rw[av (by simp)]
 have t0:BR [a,b] ([],0)=some (.inl (a,1)):=by
  unfold BR Oh
  dsimp only
  rw[ar (by simp),show aP [a,b] 0=some a from rfl,aj,cu (by simp;omega),aZ (by omega)]
  rfl
 have t1:BR [a,b] (a,1)=some (.inl (a++b,2)):=by
  unfold BR Oh
  dsimp only
  rw[ar (by simp),show aP [a,b] 1=some b from rfl,aj,cu (by simp;omega),aZ (by omega)]
  rfl
 have t2:BR [a,b] (a++b,2)=some (.inr (a++b)):=by
  unfold BR
  dsimp only
  rw[av (by simp)]
 rw[vl s0,vl s1,si s2,aj]
 unfold Ue
 rw[cu (by omega),vl t0,vl t1,si t2,aj]
 rfl
theorem an1 {l:List aa} (hl:l.length≤10000000) (f:uB):Eg l f=some (l.any fun x=> !decide (eV x)):=by
 unfold Eg Rx
 exact aaf (l:=l) (fun x=> !decide (eV x)) (fun k x hx=>by
  have hk:=de hx
  unfold Mh Ry SK
  rw[ar (by simpa using hk),bl (bm hx),afy,aj,aj]
  split
  ·rename_i h;rw[ar h]
  rename_i h;rw[Bool.not_eq_true] at h;rw[av h,aZ (by omega)];rfl) (by unfold Mh;rw[av (by simp)])
def Ce {β:Type} (z:List β):Option β→List β
 | none=>z
 | some c=>z++[c]
theorem Wb {α β:Type} (g:α→Option β):∀ (l:List α) (z:List β),l.foldl (fun z x=>Ce z (g x)) z=z++l.filterMap g
 | [],z=>by simp
 | x::l,z=>by
  rw[List.foldl_cons,Wb g l,List.filterMap_cons]
  cases g x<;>simp[Ce]
end Go.Proofs.YtjigeffmmcmlnaaGreatDoor
namespace Go.Proofs.YtjigeffmmcmlnaaGreatDoor
open Go Go.an au
@[reducible] def axh:e8:=⟨False⟩
attribute [local instance] cJ axh
theorem at_mem {α:Type} {l:List α} {k:Nat} {x:α} (h:l[k]?=some x):x∈l:=List.mem_of_getElem? h
theorem ya {a b:List aa} (ha:a.length≤1048576) (hb:b.length≤1048576):tT a b=some (fZ a b):=by
 unfold tT fZ
 rw[azK ha hb,aj]
 by_cases h0:1000 < (a++b).length
 ·rw[ar (decide_eq_true (by omega)),if_pos h0]
 rw[av (decide_eq_false (by omega)),if_neg h0,an1 (by omega),aj]
 by_cases h1:((a++b).any fun x=> !decide (eV x))=true
 ·rw[ar h1,if_pos h1]
 rw[if_neg h1]
 rw[Bool.not_eq_true] at h1
 rw[av h1,aom (by omega),aj]
 by_cases h2:eN (a++b)
 ·rw[if_neg fun h=>h h2,av (by rw[decide_eq_true h2];rfl)]
  have hlen:a.length≤1000∧b.length≤1000:=by rw[List.length_append] at h0;omega
  have fB:∀ x∈a++b,eV x:=fun x hx=>by
   have:=List.any_eq_false.1 h1 x hx
   simpa using this
  unfold Qf
  obtain⟨k1,k2,k3⟩:=zV (a++b)
  obtain⟨ka1,ka2,ka3⟩:=zV a
  rw[VM (by omega),aj,cu ⟨amy h2,by omega⟩,VM (by omega),aj,VM (by omega),aj,cu ⟨fun k hk=>by
   obtain⟨x,hx,he⟩:=ka2 k hk
   have:=(fB x (by simp[hx])).2.2.1
   unfold ax;omega,by omega⟩]
  have hL:(aE (aA (ju a))).length≤1000:=by
   have:(aE (aA (ju a))).length=(aA (ju a)).length:=(List.mergeSort_perm _ _).length_eq
   rw[this];unfold aA;rw[List.length_map];omega
  rw[kn (σ:=List aJ) (st:=fun z k=>(z,k)) (l:=aE (aA (ju a))) (fun z id=> .inl (Ce z (eF a b id))) (fun z=>z) (fun k z=>z.length≤k) (fun k id z hx hz=>by
   have hk:=de hx
   obtain⟨x,Rw⟩:=Zt.1 (BW.1 (at_mem hx))
   have gx:aV (ju a) id uz=x:=by rw[SA,Fk,Rw];rfl
   unfold KP VD
   dsimp only
   rw[ar (decide_eq_true (by omega)),bl (bm hx),MQ,Fk,gx]
   unfold eF
   rw[Rw]
   cases hy:ia b id with
   | none=>
    dsimp only[Option.isSome]
    unfold Eh
    rw[Fa,aj,ar rfl,aZ (by omega)];rfl
   | some y=>
    have gy:aV (ju b) id uz=y:=by rw[SA,Fk,hy];rfl
    dsimp only[Option.isSome]
    rw[yH,gy,oZ,aj]
    unfold uJ
    by_cases hc:x.kind=y.kind∧x.note=y.note
    ·unfold Eh
     rw[ar (by rw[decide_eq_true hc.1,decide_eq_true hc.2];rfl),if_pos hc,aZ (by omega)];rfl
    have CK:(decide (x.kind=y.kind)&&decide (x.note=y.note))=false:=by
     rw[Bool.and_eq_false_iff,decide_eq_false_iff_not,decide_eq_false_iff_not]
     by_cases h1:x.kind=y.kind
     ·exact .inr fun h2=>hc ⟨h1,h2⟩
     exact .inl h1
    rw[av CK,if_neg hc,VJ,aj]
    unfold KO Eh
    by_cases aN:0 < aQ x y
    ·rw[ar (decide_eq_true aN),if_pos aN,cu (by simp;omega),aZ (by omega)];rfl
    rw[av (decide_eq_false aN),if_neg aN,cu (by simp;omega),aZ (by omega)];rfl) (fun k id z z' hx hz h=>by
   injection h with h;subst h
   cases eF a b id with
   | none=>show z.length≤k+1;omega
   | some c=>show(z++[c]).length≤k+1;simp;omega) (fun z _=>by unfold KP;dsimp only;rw[av (by simp)]) [] (by simp),qm (fun(z:List aJ) id=>Ce z (eF a b id)) _ _ (fun _ _ _=>rfl),aj,Wb]
  rfl
 rw[if_pos h2,ar (by rw[decide_eq_false h2];rfl)]
def H9 (z:List aJ) (c:aJ):List aJ:=Fb (fun d=>decide (c.note < d.note)) z c
theorem azi {z:List aJ} {a b:List aa} (hz:z.length≤100000) (ha:a.length≤1048576) (hb:b.length≤1048576) (id:Int):N5 z a b id=some (match eF a b id with | none=>z | some c=>H9 z c):=by
 unfold N5 ab0 eF
 rcases Dj ha id with ⟨e1,e2⟩ | ⟨i,x,e1,e2,e3⟩
 ·rw[e1,e2,aj]
  rcases Dj hb id with ⟨_,g2⟩ | ⟨_,_,_,_,g3⟩
  ·rw[g2,aj,ar (by simp),aj,ar rfl]
  rw[g3,aj,ar (by simp),aj,ar rfl]
 rw[e2,e3,aj]
 rcases Dj hb id with ⟨g1,g2⟩ | ⟨j,y,g1,g2,g3⟩
 ·rw[g1,g2,aj,av (decide_eq_false (by omega)),ar (by simp),aj,ar rfl]
 rw[g2,g3,aj,av (decide_eq_false (by omega)),av (decide_eq_false (by omega))]
 simp only[bl (bm e1),bl (bm g1)]
 rw[oZ,aj]
 unfold uJ
 by_cases hc:x.kind=y.kind∧x.note=y.note
 ·rw[ar (by rw[decide_eq_true hc.1,decide_eq_true hc.2];rfl),if_pos hc]
 have CK:(decide (x.kind=y.kind)&&decide (x.note=y.note))=false:=by
  rw[Bool.and_eq_false_iff,decide_eq_false_iff_not,decide_eq_false_iff_not]
  by_cases h1:x.kind=y.kind
  ·exact .inr fun h2=>hc ⟨h1,h2⟩
  exact .inl h1
 rw[av CK,if_neg hc,NV,aj]
 have put:∀ c:aJ,c.note=id→I5 z id c=some (H9 z c):=by
  rintro c rfl
  unfold I5
  rw[aae (l:=z) (fun d=>decide (c.note < d.note)) (fun k d hd=>by
   have hk:=de hd
   unfold N6 T5
   rw[ar (decide_eq_true (by omega)),aZ (by omega),show(k:Int)+1 - 1=(k:Int) by omega,bl (bm hd),aj]
   by_cases h:c.note < d.note
   ·rw[ar (by simp[h]),aZ (by omega)];simp[h]
   rw[av (by simp[h])];simp[h]) (by unfold N6 T5;rw[av (by simp),aj,av rfl]),aj]
  have hle:=U0 (fun d:aJ=>decide (c.note < d.note)) z
  unfold T4
  rw[cu (by omega),cu (by rw[List.length_take];simp;omega),cu (by rw[List.length_append,List.length_take];simp;omega),cu (by omega),cu (by simp;omega)]
  simp only[Int.toNat_natCast]
  rfl
 by_cases aN:0 < aQ x y
 ·rw[ar (decide_eq_true aN),if_pos aN];exact put _ rfl
 rw[av (decide_eq_false aN),if_neg aN];exact put _ rfl
def YR (z:List aa) (x:aa):List aa:=Fb (fun y=>decide (0 < aQ y x)) z x
theorem afk {x y:aa}:0 < aQ x y↔aQ y x < 0:=by rw[xX,KG];omega
def am3 (a b:List aa) (k:Nat) (z:List aa×List aJ×Nat):Prop:=z.2.2=k∧(z.1.Pairwise fun a b=>aQ a b < 0)∧(∀ x,x∈z.1↔ia (a++b) x.note.id=some x∧∃ y∈(a++b).take k,y.note.id=x.note.id) ∧
 (z.2.1.Pairwise fun c d=>c.note < d.note)∧(∀ c,c∈z.2.1↔eF a b c.note=some c∧∃ y∈(a++b).take k,y.note.id=c.note)∧z.1.length≤k∧z.2.1.length≤k
theorem azf {a b:List aa} (ha:a.length≤1048576) (hb:b.length≤1048576):NW a b=some (fZ a b):=by
 unfold NW fZ
 have cA:(a++b).length=a.length+b.length:=List.length_append
 rw[cu (by omega),cu (by omega)]
 by_cases h0:1000 < (a++b).length
 ·rw[ar (decide_eq_true (by omega)),if_pos h0]
 rw[av (decide_eq_false (by omega)),if_neg h0,zX (l:=a++b) (fun x=> !decide (eV x)) ([],[],1) (fun k x hx=>by
  have hk:=de hx
  unfold NY TS
  rw[ar (decide_eq_true (by omega)),bl (bm hx),akD,aj]
  by_cases h:eV x
  ·rw[av (by rw[decide_eq_true h];rfl),aZ (by omega)];simp[h]
  rw[ar (by rw[decide_eq_false h];rfl)];simp[h]) (by unfold NY;rw[av (by simp)]),aj]
 by_cases h1:((a++b).any fun x=> !decide (eV x))=true
 ·rw[if_pos h1,if_pos h1]
 rw[if_neg h1,if_neg h1]
 dsimp only
 unfold TP
 rw[aze (by omega),aj]
 by_cases h2:eN (a++b)
 ·rw[if_neg fun h=>h h2,av (by rw[decide_eq_true h2];rfl)]
  obtain⟨z,⟨i0,i1,i2,i3,i4,i5,i6⟩,hz⟩:=aiR (l:=a++b) (step:=Dk a b) (σ:=List aa×List aJ×Nat) (st:=fun z k=>(z.1,z.2.1,k))
   (
    fun z x=>if(((a++b).take z.2.2).any fun y=>decide (y.note.id=x.note.id))=true then(z.1,z.2.1,z.2.2+1) else
    (YR z.1 ((ia (a++b) x.note.id).getD uz),(match eF a b x.note.id with | none=>z.2.1 | some c=>H9 z.2.1 c),z.2.2+1)) (fun z=>(z.1,z.2.1)) (am3 a b) (fun k x z hx hz=>by
   have hk:=de hx
   obtain⟨zo,zc,zk⟩:=z
   obtain⟨j0,j1,j2,j3,j4,j5,j6⟩:=hz
   dsimp only at j0 j1 j2 j3 j4 j5 j6 ⊢
   subst j0
   have bL:=Zv (a++b) x.note.id
   rw[show((a++b).any fun y=>decide (y.note.id=x.note.id))=true from List.any_eq_true.2 ⟨x,at_mem hx,by simp⟩] at bL
   obtain⟨w,hw⟩:=Option.isSome_iff_exists.1 bL
   have jc:(a++b).take (zk+1)=(a++b).take zk++[x]:=by rw[List.take_add_one,hx];rfl
   have Rr:aH (FK a b (zk:Int) x) (false,0)=some (((a++b).take zk).any fun y=>decide (y.note.id=x.note.id)):=by
    have:=kn (σ:=Bool) (st:=fun z k=>(z,k)) (step:=FK a b (zk:Int) x) (l:=(a++b).take zk) (fun z y=> .inl (z||decide (y.note.id=x.note.id))) (fun z=>z) (fun _ _=>True) (fun j y z hy _=>by
     obtain⟨hj,hy⟩:=UH hy
     unfold FK abT TQ
     dsimp only
     rw[ar (decide_eq_true (by omega)),bl (bm hy),th,aj,aZ (by omega)];rfl) (fun _ _ _ _ _ _ _=>trivial) (fun z _=>by
     unfold FK;dsimp only;rw[List.length_take,Nat.min_eq_left (by omega),av (by simp)]) false trivial
    rw[this,qm (fun(z:Bool) (y:aa)=>z||decide (y.note.id=x.note.id)) _ _ (fun _ _ _=>rfl)]
    congr 1
    generalize (a++b).take zk=l
    have key:∀ (l:List aa) (z:Bool),l.foldl (fun(z:Bool) y=>z||decide (y.note.id=x.note.id)) z=(z||l.any fun y=>decide (y.note.id=x.note.id)):=by
     intro l
     induction l with
     | nil=>intro z;simp
     | cons u l ih=>intro z;rw[List.foldl_cons,ih,List.any_cons,Bool.or_assoc]
    rw[key];simp
   by_cases hs:(((a++b).take zk).any fun y=>decide (y.note.id=x.note.id))=true
   ·rw[if_pos hs]
    obtain⟨u,hu,Ma⟩:=List.any_eq_true.1 hs
    have Ma:u.note.id=x.note.id:=by simpa using Ma
    have same:∀ id,(∃ y∈(a++b).take (zk+1),y.note.id=id)↔∃ y∈(a++b).take zk,y.note.id=id:=fun id=>by
     rw[jc]
     constructor
     ·rintro⟨y,hy,he⟩
      rcases List.mem_append.1 hy with hy | hy
      ·exact⟨y,hy,he⟩
      simp at hy;subst hy;exact⟨u,hu,by rw[Ma,he]⟩
     rintro⟨y,hy,he⟩;exact⟨y,List.mem_append_left _ hy,he⟩
    refine⟨?_,rfl,j1,fun y=>by rw[j2,same],j3,fun c=>by rw[j4,same],by dsimp only;omega,by dsimp only;omega⟩
    unfold Dk NX IZ
    dsimp only
    rw[ar (decide_eq_true (by omega)),bl (bm hx),Rr,aj,ar hs,aZ (by omega)];rfl
   rw[if_neg hs,hw]
   dsimp only[Option.getD]
   obtain⟨w1,w2,w3⟩:=oI hw
   have ca:∀ y∈(a++b).take zk,y.note.id≠x.note.id:=fun y hy he=>hs (List.any_eq_true.2 ⟨y,hy,by simp[he]⟩)
   have pE:=Mn (fun y=>decide (0 < aQ y w)) zo w
   have acr:∀ id,(∃ y∈(a++b).take (zk+1),y.note.id=id)↔id=x.note.id∨∃ y∈(a++b).take zk,y.note.id=id:=fun id=>by
    rw[jc]
    constructor
    ·rintro⟨y,hy,he⟩
     rcases List.mem_append.1 hy with hy | hy
     ·exact .inr ⟨y,hy,he⟩
     simp at hy;subst hy;exact .inl he.symm
    rintro(rfl | ⟨y,hy,he⟩)
    ·exact⟨x,by simp,rfl⟩
    exact⟨y,List.mem_append_left _ hy,he⟩
   have fW:(match eF a b x.note.id with | none=>zc | some c=>H9 zc c).length≤zk+1:=by
    cases eF a b x.note.id with
    | none=>dsimp only;omega
    | some c=>dsimp only;rw[show(H9 zc c).length=zc.length+1 from(Mn _ zc c).length_eq];omega
   refine⟨?_,rfl,?_,?_,?_,?_,?_,fW⟩
   ·unfold Dk NX
    dsimp only
    rw[ar (decide_eq_true (by omega)),bl (bm hx),Rr,aj,av (by simpa using hs)]
    rcases Dj (l:=a++b) (by omega) x.note.id with ⟨q1,_⟩ | ⟨j,v,q1,q2,q3⟩
    ·rw[q1] at hw;cases hw
    rw[hw] at q2;injection q2 with q2;subst q2
    rw[q3,aj,bl (bm q1)]
    rw[aae (l:=zo) (fun y=>decide (0 < aQ y w)) (fun k d hd=>by
     have hk:=de hd
     unfold NZ TU
     rw[ar (decide_eq_true (by omega)),aZ (by omega),show(k:Int)+1 - 1=(k:Int) by omega,bl (bm hd),NV,aj,aj]
     by_cases h:0 < aQ d w
     ·rw[ar (by simp[h]),aZ (by omega)];simp[h]
     rw[av (by simp[h])];simp[h]) (by unfold NZ TU;rw[av (by simp),aj,av rfl]),aj]
    have hle:=U0 (fun y:aa=>decide (0 < aQ y w)) zo
    unfold TR IZ
    rw[cu (by omega),cu (by rw[List.length_take];simp;omega),cu (by rw[List.length_append,List.length_take];simp;omega),cu (by omega),cu (by simp;omega),azi (by omega) (by omega) (by omega),aj,aZ (by omega)]
    simp only[Int.toNat_natCast]
    rfl
   ·refine YQ (R:=fun a b=>aQ a b < 0) anE j1 (fun y _ hp=>?_) fun y hy hp=>?_
    ·exact afk.1 (of_decide_eq_true hp)
    have hp:=of_decide_eq_false hp
    obtain⟨y1,y2,Mf,y3⟩:=(j2 y).1 hy
    refine Classical.byContradiction fun hc=>?_
    have hyw:y=w:=by
     have m1:=(oI y1).1
     rw[xX] at hp;rw[KG] at hc
     exact h2 y m1 w w1 (by omega) (by omega)
    subst hyw
    exact ca y2 Mf (by rw[y3,w2])
   ·intro y
    rw[show y∈YR zo w↔y∈w::zo from pE.mem_iff,List.mem_cons,j2,acr]
    constructor
    ·rintro(rfl | ⟨g1,g2⟩)
     ·exact⟨by rw[w2];exact hw,.inl w2⟩
     exact⟨g1,.inr g2⟩
    rintro⟨g1,g2 | g2⟩
    ·left;rw[g2,hw] at g1;injection g1 with g1;exact g1.symm
    exact .inr ⟨g1,g2⟩
   ·cases hc:eF a b x.note.id with
    | none=>exact j3
    | some c=>
     have QZ:=Hp hc
     refine YQ (R:=fun c d:aJ=>c.note < d.note) (fun a b c h1 h2=>Int.lt_trans h1 h2) j3 (fun d _ hp=>of_decide_eq_true hp) fun d hd hp=>?_
     have hp:=of_decide_eq_false hp
     obtain⟨d1,d2,HO,d3⟩:=(j4 d).1 hd
     have:d.note≠c.note:=fun e=>ca d2 HO (by rw[d3,e,QZ])
     omega
   ·intro d
    cases hc:eF a b x.note.id with
    | none=>
     dsimp only
     rw[j4,acr]
     constructor
     ·rintro⟨g1,g2⟩;exact⟨g1,.inr g2⟩
     rintro⟨g1,g2 | g2⟩
     ·rw[g2,hc] at g1;cases g1
     exact⟨g1,g2⟩
    | some c=>
     have QZ:=Hp hc
     dsimp only
     rw[show d∈H9 zc c↔d∈c::zc from(Mn _ zc c).mem_iff,List.mem_cons,j4,acr]
     constructor
     ·rintro(rfl | ⟨g1,g2⟩)
      ·exact⟨by rw[QZ];exact hc,.inl QZ⟩
      exact⟨g1,.inr g2⟩
     rintro⟨g1,g2 | g2⟩
     ·left;rw[g2,hc] at g1;injection g1 with g1;exact g1.symm
     exact .inr ⟨g1,g2⟩
   dsimp only;rw[show(YR zo w).length=zo.length+1 from pE.length_eq];omega) (fun z _=>by unfold Dk;dsimp only;rw[av (by simp)]) ([],[],0) ⟨rfl,List.Pairwise.nil,by simp,List.Pairwise.nil,by simp,by simp,by simp⟩
  have YE:aH (Dk a b) ([],[],0)=some (z.1,z.2.1):=hz
  rw[YE,aj]
  dsimp only
  unfold TT
  rw[List.take_length] at i2 i4
  have e1:z.1=fN (a++b):=Jf afj i1 (S1 h2) fun x=>by
   rw[i2,BC]
   exact⟨fun h=>h.1,fun h=>⟨h,x,(oI h).1,rfl⟩⟩
  have e2:z.2.1=od a b:=Jf (R:=fun c d:aJ=>c.note < d.note) (fun c d h1 h2=>by omega) i3 (KI a b) fun c=>by
   rw[i4,Hr]
   refine⟨fun h=>h.1,fun h=>⟨h,?_⟩⟩
   unfold eF at h
   cases hx:ia a c.note with
   | none=>rw[hx] at h;cases h
   | some x=>obtain⟨x1,x2,_⟩:=oI hx;exact⟨x,by simp[x1],x2⟩
  rw[e1,e2]
 rw[if_pos h2,ar (by rw[decide_eq_false h2];rfl)]
end Go.Proofs.YtjigeffmmcmlnaaGreatDoor
