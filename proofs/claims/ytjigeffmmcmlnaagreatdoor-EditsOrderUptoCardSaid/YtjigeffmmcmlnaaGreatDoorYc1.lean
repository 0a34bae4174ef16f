import Derived.Test.YtjigeffmmcmlnaaGreatDoorYa1
set_option linter.all false
set_option linter.unnecessarySimpa false
set_option linter.deprecated false
set_option linter.unusedVariables false
set_option linter.unusedSimpArgs false
set_option linter.unusedSectionVars false
namespace Go.Proofs.YtjigeffmmcmlnaaGreatDoor
open Go Go.an au
@[reducible] def axm:e8:=⟨False⟩
attribute [local instance] cJ axm
theorem ak8 {s t:Score} (hs:dO s) (ht:dO t) (h1:s.version=t.version) (h2:s.bars=t.bars) (h3:s.parts=t.parts) (h4:∀ n,n∈s.notes↔n∈t.notes):s=t:=by
 have nd:∀ {l:List ae},(l.map ae.id).Nodup→l.Nodup:=fun h=>List.Pairwise.of_map ae.id (fun a b cA=>fun e=>cA (by rw[e])) h
 have hp:s.notes.Perm t.notes:=(List.perm_ext_iff_of_nodup (nd hs.2.2.2.1.2.2.2) (nd ht.2.2.2.1.2.2.2)).2 h4
 have e:s.notes=t.notes:=by
  have e1:=Oy (at_:=eS s.bars) (alu hs.2.2.2.2.2) hp ht.2.2.2.1.2.2.2
  rw[h2,ht.2.2.2.2.2] at e1
  exact e1
 cases s;cases t
 simp at h1 h2 h3 e
 simp[h1,h2,h3,e]
theorem aAY {l:List Part} {a:List ae} (h:fS l a=0) (n:ae):fS l (a++[n])=fS l [n]:=by
 rw[amC] at h
 have e1:(a.any fun n=>(jz l n).isNone)=false:=List.any_eq_false.2 fun m hm=>by
  have:=h.1 m hm
  cases ho:jz l m with
  | none=>exact absurd ho this
  | some p=>simp
 have e2:a.any (vO l)=false:=List.any_eq_false.2 fun m hm=>by rw[h.2 m hm];simp
 unfold fS
 rw[List.any_append,List.any_append,e1,e2,Bool.false_or,Bool.false_or]
def CI (l:List ae) (id:Int):Prop:=∃ n∈l,n.id=id
noncomputable instance (l:List ae) (id:Int):Decidable (CI l id):=Classical.propDecidable _
noncomputable def Ef (s:Score) (x:aa):Int:=
 if ¬ eV x then 1 else if x.kind=2 then(if CI s.notes x.note.id then 0 else 23) else if ¬ gV s.bars x.note then 1 else fS s.parts [x.note]
theorem ajg {bars:List aT} {l:List ae} (h:gq bars l) (hl:l.length≤10000) (n:ae):gq bars (less l n.id++[n])↔gV bars n:=by
 constructor
 ·exact fun hh=>hh.2.2.1 n (by simp)
 intro hn
 have vX:=Ss l n.id
 refine⟨h.1,by simp;omega,fun m hm=>?_,?_⟩
 ·rcases List.mem_append.1 hm with hm | hm
  ·exact h.2.2.1 m (MK.1 hm).1
  simp at hm;rw[hm];exact hn
 rw[List.map_append,List.nodup_append]
 refine⟨h.2.2.2.sublist ((List.filter_sublist (l:=l)).map _),by simp,fun a ha b hb e=>?_⟩
 obtain⟨m,hm,rfl⟩:=List.mem_map.1 ha
 simp at hb
 exact(MK.1 hm).2 (by rw[e,hb])
theorem Hq {s:Score} (hs:dO s) (hl:s.notes.length≤10000) (x:aa):(bs s x).2=Ef s x:=by
 have hw:=OT hs.2.2.2.2.1 (a:=less s.notes x.note.id) fun n hn=>(MK.1 hn).1
 unfold bs Ef
 by_cases h1:eV x
 ·have uN:¬ ¬ eV x:=fun h=>h h1
  rw[if_neg uN,if_neg uN]
  by_cases h2:x.kind=2
  ·rw[if_pos h2,if_pos h2]
   by_cases h3:(less s.notes x.note.id).length=s.notes.length
   ·rw[if_pos h3,if_neg]
    rintro⟨n,hn,he⟩
    exact MJ.1 h3 n hn he
   rw[if_neg h3,if_pos]
   exact Classical.byContradiction fun ca=>h3 (MJ.2 fun n hn he=>ca ⟨n,hn,he⟩)
  rw[if_neg h2,if_neg h2]
  have e2:(nU s s.version (less s.notes x.note.id++[x.note])).2=if ¬ gV s.bars x.note then 1 else fS s.parts [x.note]:=by
   unfold nU
   by_cases h3:gV s.bars x.note
   ·have Lm:¬ ¬ gV s.bars x.note:=fun h=>h h3
    rw[if_pos ⟨hs,hs.1,(ajg hs.2.2.2.1 hl x.note).2 h3⟩,if_neg Lm,aAY hw]
    by_cases h4:fS s.parts [x.note]=0
    ·rw[if_pos h4,h4]
    rw[if_neg h4]
   rw[if_neg fun h=>h3 ((ajg hs.2.2.2.1 hl x.note).1 h.2.2),if_pos h3]
  by_cases h3:(nU s s.version (less s.notes x.note.id++[x.note])).2=0
  ·rw[if_pos h3];dsimp only;rw[←e2,h3]
  rw[if_neg h3];exact e2
 rw[if_pos h1,if_pos h1]
theorem KH (s:Score) (hs:dO s) (x:aa):(bs s x).1.version=s.version∧(bs s x).1.bars=s.bars∧(bs s x).1.parts=s.parts:=by
 by_cases h:(bs s x).2=0
 ·obtain⟨_,h1,h2,h3,_⟩:=AG hs h;exact⟨h1,h2,h3⟩
 rw[Ed h];exact⟨rfl,rfl,rfl⟩
theorem P6 {s:Score} (x:aa):(bs s x).1.notes.length≤s.notes.length+1:=by
 have vX:=Ss s.notes x.note.id
 unfold bs
 split
 ·dsimp only;omega
 split
 ·split
  ·dsimp only;omega
  dsimp only;omega
 split
 ·rename_i h
  obtain⟨_,g2,_,_⟩:=UR (t:=(nU s s.version (less s.notes x.note.id++[x.note])).1) (Prod.ext rfl h)
  rw[g2];dsimp only;rw[alq];simp;omega
 dsimp only;omega
theorem afm {s:Score} (hs:dO s) {x:aa} {id:Int} (hi:id≠x.note.id):CI (bs s x).1.notes id↔CI s.notes id:=by
 by_cases h:(bs s x).2=0
 ·obtain⟨_,_,_,_,hm,_,_⟩:=AG hs h
  constructor
  ·rintro⟨n,hn,he⟩
   rcases (hm n).1 hn with h1 | h1
   ·exact⟨n,h1.1,he⟩
   exact absurd (by rw[←he,h1.2]) hi
  rintro⟨n,hn,he⟩;exact⟨n,(hm n).2 (.inl ⟨hn,by rw[he];exact hi⟩),he⟩
 rw[Ed h]
theorem afr {s t:Score} (h2:s.bars=t.bars) (h3:s.parts=t.parts) {x:aa} (h4:CI s.notes x.note.id↔CI t.notes x.note.id):Ef s x=Ef t x:=by
 unfold Ef
 rw[h2,h3]
 by_cases h:CI s.notes x.note.id
 ·rw[if_pos h,if_pos (h4.1 h)]
 rw[if_neg h,if_neg fun hh=>h (h4.2 hh)]
theorem anI {s:Score} (hs:dO s) (hl:s.notes.length≤1000) {x y:aa} (hi:x.note.id≠y.note.id):(bs (bs s x).1 y).1=(bs (bs s y).1 x).1∧(bs s x).2=(bs (bs s y).1 x).2∧(bs (bs s x).1 y).2=(bs s y).2:=by
 have sx:=xY hs x
 have sy:=xY hs y
 have lx:=P6 (s:=s) x
 have ly:=P6 (s:=s) y
 obtain⟨vx,bx,px⟩:=KH s hs x
 obtain⟨vy,by_,py⟩:=KH s hs y
 have c1:(bs s x).2=(bs (bs s y).1 x).2:=by
  rw[Hq hs (by omega),Hq sy (by omega)]
  exact afr by_.symm py.symm (afm hs hi).symm
 have c2:(bs (bs s x).1 y).2=(bs s y).2:=by
  rw[Hq hs (by omega),Hq sx (by omega)]
  exact afr bx px (afm hs (Ne.symm hi))
 refine⟨?_,c1,c2⟩
 obtain⟨vxy,bxy,pxy⟩:=KH _ sx y
 obtain⟨vyx,byx,pyx⟩:=KH _ sy x
 refine ak8 (xY sx y) (xY sy x) (by rw[vxy,vx,vyx,vy]) (by rw[bxy,bx,byx,by_]) (by rw[pxy,px,pyx,py]) fun n=>?_
 by_cases hx:(bs s x).2=0
 ·obtain⟨_,_,_,_,m1,_,_⟩:=AG hs hx
  obtain⟨_,_,_,_,m2,_,_⟩:=AG sy (c1▸hx)
  by_cases hy:(bs s y).2=0
  ·obtain⟨_,_,_,_,m3,_,_⟩:=AG hs hy
   obtain⟨_,_,_,_,m4,_,_⟩:=AG sx (c2.symm▸hy)
   rw[m4,m2,m1,m3]
   constructor
   ·rintro(⟨h1 | h1,h2⟩ | h1)
    ·exact .inl ⟨.inl ⟨h1.1,h2⟩,h1.2⟩
    ·exact .inr h1
    exact .inl ⟨.inr h1,by rw[h1.2];exact Ne.symm hi⟩
   rintro(⟨h1 | h1,h2⟩ | h1)
   ·exact .inl ⟨.inl ⟨h1.1,h2⟩,h1.2⟩
   ·exact .inr h1
   exact .inl ⟨.inr h1,by rw[h1.2];exact hi⟩
  rw[Ed (by rw[c2];exact hy),m2,m1,Ed hy]
 rw[Ed (s:=(bs s y).1) (by rw[←c1];exact hx),Ed hx]
theorem auU {s:Score} (x y:aa) (zG:s.bars.length≤1048576):Sh s x y=some true:=by
 unfold Sh ZT
 rw[Is,aj]
 obtain⟨c,hc,LH⟩:=VU s []
 rw[hc,aj]
 cases c
 ·rw[Fa,aj,ar rfl]
 rw[yH,IX,aj]
 by_cases hs:¬ dO s
 ·rw[ar (by rw[decide_eq_false hs];rfl),aj,ar rfl]
 have hs:=Classical.not_not.1 hs
 rw[av (by rw[decide_eq_true hs];rfl),aj]
 by_cases hi:x.note.id=y.note.id
 ·rw[ar (decide_eq_true hi)]
 rw[av (decide_eq_false hi)]
 obtain⟨f1,f2,f3,_⟩:=LH rfl
 have AX:∀ u v:aa,ek s 5 [u,v]=({ (bs (bs s u).1 v).1 with version:=5 },[(bs s u).2,(bs (bs s u).1 v).2],0):=fun u v=>by
  unfold ek
  rw[if_neg (by simp),if_neg fun h=>h ⟨hs,by omega⟩]
  rfl
 obtain⟨e1,e2,e3⟩:=anI hs (by omega) hi
 obtain⟨l1,l2,l3,_⟩:=aeY zG 5 [x,y]
 rw[AX] at l1 l2 l3
 rw[xZ zG,aj,AX]
 dsimp only
 rw[xZ zG,aj,AX]
 dsimp only
 unfold ZU
 rw[av (by simp),av (by simp),av (by simp),aj,av (by simp)]
 unfold ZV
 rw[ar rfl,TF l1 l2 l3,aj,e1,ar (by simp),show aP [(bs s x).2,(bs (bs s x).1 y).2] 0=some (bs s x).2 from rfl,show aP [(bs s y).2,(bs (bs s y).1 x).2] 1=some (bs (bs s y).1 x).2 from rfl,aj,aj,ar (by simp[e2]),
  show aP [(bs s x).2,(bs (bs s x).1 y).2] 1=some (bs (bs s x).1 y).2 from rfl,show aP [(bs s y).2,(bs (bs s y).1 x).2] 0=some (bs s y).2 from rfl,aj,aj,aj]
 simp[e3]
end Go.Proofs.YtjigeffmmcmlnaaGreatDoor
