import Derived.Test.YtjigeffmmcmlnaaGreatDoorYc1
set_option linter.all false
set_option linter.unnecessarySimpa false
set_option linter.deprecated false
set_option linter.unusedVariables false
set_option linter.unusedSimpArgs false
set_option linter.unusedSectionVars false
namespace Go.Proofs.YtjigeffmmcmlnaaGreatDoor
open Go Go.an au
@[reducible] def axn:e8:=⟨False⟩
attribute [local instance] cJ axn
def Cd (l:List aa) (id:Int) (x:aa):Prop:=x∈l∧x.note.id=id∧∀ y∈l,y.note.id=id→¬ 0 < aQ y x
theorem RZ {l:List aa} (ha:eN l) {id:Int} {x:aa}:ia l id=some x↔Cd l id x:=
 ⟨fun h=>oI h,fun h=>auG ha h.1 h.2.1 h.2.2⟩
theorem VT {l:List aa} {y:aa} (hy:y∈l):∃ z,ia l y.note.id=some z∧¬ 0 < aQ y z:=by
 have hs:=Zv l y.note.id
 rw[show(l.any fun x=>decide (x.note.id=y.note.id))=true from List.any_eq_true.2 ⟨y,hy,by simp⟩] at hs
 obtain⟨z,hz⟩:=Option.isSome_iff_exists.1 hs
 exact⟨z,hz,(oI hz).2.2 y hy rfl⟩
theorem ai5 {a b c:aa} (h1:¬ 0 < aQ a b) (h2:¬ 0 < aQ b c):¬ 0 < aQ a c:=by rw[xX] at *;omega
theorem UX {l m:List aa} (h:eN l) (hs:∀ x∈m,x∈l):eN m:=fun x hx y hy=>h x (hs x hx) y (hs y hy)
theorem II {l:List aa} {x:aa} (h:x∈fN l):x∈l:=(oI (BC.1 h)).1
theorem aa5 {l m:List aa} (hl:eN l) (hm:eN m) (h:∀ id x,Cd l id x↔Cd m id x):fN l=fN m:=
 Jf afj (S1 hl) (S1 hm) fun x=>by rw[BC,BC,RZ hl,RZ hm,h]
theorem axF (l:List aa):(fN l).length≤l.length:=by
 have:=(zV l).2.2
 unfold fN
 rw[(vt aQ _).length_eq];unfold bT;rw[List.length_map];exact this
theorem Iz {a b:List aa} (h:(fZ a b).2.2=0):(a++b).length≤1000∧(∀ x∈a++b,eV x)∧eN (a++b)∧fZ a b=(fN (a++b),od a b,0):=by
 unfold fZ at h ⊢
 by_cases h0:1000 < (a++b).length
 ·rw[if_pos h0] at h;cases h
 rw[if_neg h0] at h ⊢
 by_cases h1:((a++b).any fun x=> !decide (eV x))=true
 ·rw[if_pos h1] at h;cases h
 rw[if_neg h1] at h ⊢
 by_cases h2:eN (a++b)
 ·have uO:¬ ¬ eN (a++b):=fun h=>h h2
  rw[if_neg uO]
  refine⟨by omega,fun x hx=>?_,h2,rfl⟩
  rw[Bool.not_eq_true] at h1
  simpa using List.any_eq_false.1 h1 x hx
 rw[if_pos h2] at h;cases h
theorem avt {a b:List aa} (h0:(a++b).length≤1000) (h1:∀ x∈a++b,eV x) (h2:eN (a++b)):fZ a b=(fN (a++b),od a b,0):=by
 have uO:¬ ¬ eN (a++b):=fun h=>h h2
 unfold fZ
 rw[if_neg (by omega),if_neg,if_neg uO]
 rw[Bool.not_eq_true,List.any_eq_false]
 intro x hx;simp[h1 x hx]
theorem avo {a b:List aa} (h:(fZ a b).2.2≠0):(fZ a b).1=[]∧(fZ a b).2.1=[]:=by
 unfold fZ at h ⊢
 split
 ·exact⟨rfl,rfl⟩
 rename_i h0
 rw[if_neg h0] at h
 split
 ·exact⟨rfl,rfl⟩
 rename_i h1
 rw[if_neg h1] at h
 split
 ·exact⟨rfl,rfl⟩
 rename_i h2
 rw[if_neg h2] at h;exact absurd rfl h
theorem aam {a b:List aa} {x:aa}:x∈a++b↔x∈b++a:=by simp[or_comm]
theorem aeW {a b:List aa}:eN (a++b)↔eN (b++a):=⟨fun h=>UX h fun x hx=>aam.2 hx,fun h=>UX h fun x hx=>aam.1 hx⟩
theorem anu {a b:List aa} (h:eN (a++b)) (id:Int):eF a b id=eF b a id:=by
 unfold eF
 cases hx:ia a id with
 | none=>cases ia b id<;>rfl
 | some x=>
  cases hy:ia b id with
  | none=>rfl
  | some y=>
   dsimp only
   unfold uJ
   by_cases hc:x.kind=y.kind∧x.note=y.note
   ·rw[if_pos hc,if_pos ⟨hc.1.symm,hc.2.symm⟩]
   have vT:¬ (y.kind=x.kind∧y.note=x.note):=fun h=>hc ⟨h.1.symm,h.2.symm⟩
   rw[if_neg hc,if_neg vT]
   by_cases h1:0 < aQ x y
   ·have h2:¬ 0 < aQ y x:=by rw[xX] at h1 ⊢;omega
    rw[if_pos h1,if_neg h2]
   by_cases h2:0 < aQ y x
   ·rw[if_neg h1,if_pos h2]
   have:=h x (by simp[(oI hx).1]) y (by simp[(oI hy).1])
   rw[xX] at h1 h2
   have e:=this (by omega) (by omega)
   exact absurd ⟨by rw[e],by rw[e]⟩ hc
theorem avp (a b:List aa):fZ a b=fZ b a:=by
 have hl:(a++b).length=(b++a).length:=by simp;omega
 have ha:((a++b).any fun x=> !decide (eV x))=((b++a).any fun x=> !decide (eV x)):=by rw[List.any_append,List.any_append,Bool.or_comm]
 unfold fZ
 rw[hl,ha]
 by_cases h2:eN (a++b)
 ·have uO:¬ ¬ eN (a++b):=fun h=>h h2
  have h3:=aeW.1 h2
  have Lm:¬ ¬ eN (b++a):=fun h=>h h3
  rw[if_neg uO,if_neg Lm,aa5 h2 h3 fun id x=>by unfold Cd;simp only[aam (a:=a) (b:=b)]]
  rw[show od a b=od b a from Jf (R:=fun c d:aJ=>c.note < d.note) (fun c d h1 h2=>by omega) (KI a b) (KI b a) fun c=>by rw[Hr,Hr,anu h2]]
 rw[if_pos h2,if_pos fun h=>h2 (aeW.2 h)]
theorem an0 (a:List aa):od a a=[]:=by
 unfold od
 rw[List.filterMap_eq_nil_iff]
 intro id _
 unfold eF
 cases ia a id with
 | none=>rfl
 | some x=>dsimp only;unfold uJ;rw[if_pos ⟨rfl,rfl⟩]
theorem auI {a b c:List aa} (cA:eN (a++b)) (LF:eN (b++c)) {id:Int} {x:aa} (h:Cd (fN (a++b)++c) id x):Cd (a++fN (b++c)) id x:=by
 obtain⟨h1,h2,h3⟩:=h
 have fc:∀ y,y∈a∨y∈b∨y∈c→y.note.id=id→¬ 0 < aQ y x:=fun y hy hi=>by
  have go:y∈a++b→¬ 0 < aQ y x:=fun hy=>by
   obtain⟨z,hz,YG⟩:=VT hy
   have z2:=(oI hz).2.1
   exact ai5 YG (h3 z (List.mem_append_left _ (BC.2 (by rw[z2];exact hz))) (by rw[z2,hi]))
  rcases hy with hy | hy | hy
  ·exact go (List.mem_append_left _ hy)
  ·exact go (List.mem_append_right _ hy)
  exact h3 y (List.mem_append_right _ hy) hi
 have iJ:x∈a∨x∈b++c:=by
  rcases List.mem_append.1 h1 with h | h
  ·rcases List.mem_append.1 (II h) with h | h
   ·exact .inl h
   exact .inr (List.mem_append_left _ h)
  exact .inr (List.mem_append_right _ h)
 refine⟨?_,h2,fun y hy hi=>?_⟩
 ·rcases iJ with h | h
  ·exact List.mem_append_left _ h
  refine List.mem_append_right _ (BC.2 ((RZ LF).2 ⟨h,rfl,fun y hy hi=>?_⟩))
  rcases List.mem_append.1 hy with hy | hy
  ·exact fc y (.inr (.inl hy)) (by rw[hi,h2])
  exact fc y (.inr (.inr hy)) (by rw[hi,h2])
 rcases List.mem_append.1 hy with hy | hy
 ·exact fc y (.inl hy) hi
 rcases List.mem_append.1 (II hy) with hy | hy
 ·exact fc y (.inr (.inl hy)) hi
 exact fc y (.inr (.inr hy)) hi
theorem auN {a b c:List aa} (cA:eN (a++b)) (LF:eN (b++c)) {id:Int} {x:aa} (h:Cd (a++fN (b++c)) id x):Cd (fN (a++b)++c) id x:=by
 obtain⟨h1,h2,h3⟩:=h
 have fc:∀ y,y∈a∨y∈b∨y∈c→y.note.id=id→¬ 0 < aQ y x:=fun y hy hi=>by
  have go:y∈b++c→¬ 0 < aQ y x:=fun hy=>by
   obtain⟨z,hz,YG⟩:=VT hy
   have z2:=(oI hz).2.1
   exact ai5 YG (h3 z (List.mem_append_right _ (BC.2 (by rw[z2];exact hz))) (by rw[z2,hi]))
  rcases hy with hy | hy | hy
  ·exact h3 y (List.mem_append_left _ hy) hi
  ·exact go (List.mem_append_left _ hy)
  exact go (List.mem_append_right _ hy)
 have iJ:x∈a++b∨x∈c:=by
  rcases List.mem_append.1 h1 with h | h
  ·exact .inl (List.mem_append_left _ h)
  rcases List.mem_append.1 (II h) with h | h
  ·exact .inl (List.mem_append_right _ h)
  exact .inr h
 refine⟨?_,h2,fun y hy hi=>?_⟩
 ·rcases iJ with h | h
  ·refine List.mem_append_left _ (BC.2 ((RZ cA).2 ⟨h,rfl,fun y hy hi=>?_⟩))
   rcases List.mem_append.1 hy with hy | hy
   ·exact fc y (.inl hy) (by rw[hi,h2])
   exact fc y (.inr (.inl hy)) (by rw[hi,h2])
  exact List.mem_append_right _ h
 rcases List.mem_append.1 hy with hy | hy
 ·rcases List.mem_append.1 (II hy) with hy | hy
  ·exact fc y (.inl hy) hi
  exact fc y (.inr (.inl hy)) hi
 exact fc y (.inr (.inr hy)) hi
theorem axI {a:List aa} (h:eN (a++a)):eN (fN (a++a)++a)∧fN (fN (a++a)++a)=fN (a++a):=by
 have mo:∀ x∈fN (a++a)++a,x∈a++a:=fun x hx=>by
  rcases List.mem_append.1 hx with h | h
  ·exact II h
  exact List.mem_append_left _ h
 have h2:=UX h mo
 refine⟨h2,aa5 h2 h fun id x=>⟨fun hx=>⟨mo x hx.1,hx.2.1,fun y hy hi=>hx.2.2 y (List.mem_append_right _ (by simpa using hy)) hi⟩,fun hx=>⟨List.mem_append_right _ (by simpa using hx.1),hx.2.1,fun y hy hi=>hx.2.2 y (mo y hy) hi⟩⟩⟩
theorem auT {a b c:List aa} (ha:a.length≤30) (hb:b.length≤30) (hc:c.length≤30):Ir a b c (fZ a b).1 (fZ a b).2.2 true=some true:=by
 have hm:=(Fs (a:=a) (b:=b)).1
 have LZ:=(Fs (a:=b) (b:=c)).1
 unfold Ir
 rw[ya (by omega) (by omega),aj]
 generalize hz:fZ b c=z at *
 obtain⟨z1,z2,z3⟩:=z
 dsimp only at LZ ⊢
 unfold ZR
 rw[th,aj]
 by_cases h1:(fZ a b).2.2=0
 ·by_cases h2:z3=0
  ·rw[av (by simp[h1,h2]),ya hm (by omega),aj]
   generalize hl:fZ (fZ a b).1 c=l at *
   obtain⟨l1,l2,l3⟩:=l
   dsimp only
   rw[ya (by omega) LZ,aj]
   generalize hr:fZ a z1=r at *
   obtain⟨r1,r2,r3⟩:=r
   dsimp only
   unfold ZS
   rw[ar rfl]
   by_cases h3:l3=0
   ·rw[av (by simp[h3])]
    by_cases h4:r3=0
    ·obtain⟨_,_,cA,eab⟩:=Iz h1
     obtain⟨_,_,LF,ebc⟩:=Iz (a:=b) (b:=c) (by rw[hz];exact h2)
     rw[eab] at hl
     rw[hz] at ebc
     injection ebc with ez1 _
     subst ez1
     obtain⟨_,_,iZ,el⟩:=Iz (a:=fN (a++b)) (b:=c) (by rw[hl];exact h3)
     obtain⟨_,_,Ro,er⟩:=Iz (a:=a) (b:=fN (b++c)) (by rw[hr];exact h4)
     rw[hl] at el;rw[hr] at er
     injection el with el _;injection er with er _
     have hlen:=(Fs (a:=fN (a++b)) (b:=c)).1
     rw[hl] at hlen
     rw[av (by simp[h4]),I2 hlen,aj,aj,el,er,aa5 iZ Ro fun id x=>⟨auI cA LF,auN cA LF⟩]
     simp
    rw[ar (by simp[h4]),aj]
   rw[ar (by simp[h3]),aj]
  rw[ar (by simp[h2])]
 rw[ar (by simp[h1])]
theorem auS {a b c:List aa} (ha0:a.length≤1048576) (pO:b.length≤1048576) (QY:c.length≤1048576):Sg a b c=some true:=by
 unfold Sg ZO
 rw[Is,aj]
 by_cases ha:30 < a.length
 ·rw[ar (decide_eq_true (by omega)),aj,ar rfl]
 rw[av (decide_eq_false (by omega))]
 by_cases hb:30 < b.length
 ·rw[ar (decide_eq_true (by omega)),aj,ar rfl]
 rw[av (decide_eq_false (by omega)),aj]
 by_cases hc:30 < c.length
 ·rw[ar (decide_eq_true (by omega))]
 rw[av (decide_eq_false (by omega)),ya (by omega) (by omega),aj]
 have hj:=auT (a:=a) (b:=b) (c:=c) (by omega) (by omega) (by omega)
 obtain⟨m1,m2⟩:=Fs (a:=a) (b:=b)
 have hcm:=avp a b
 generalize hp:fZ a b=p at *
 obtain⟨p1,p2,p3⟩:=p
 dsimp only at hj m1 m2 ⊢
 rw[ya (by omega) (by omega),aj,←hcm]
 dsimp only
 unfold ZP
 rw[av (by simp),I2 m1,aj,av (by simp),abU m2,aj,aj,av (by simp),ya (by omega) (by omega),aj]
 have cZ:=(Fs (a:=a) (b:=a)).1
 generalize hq:fZ a a=q at *
 obtain⟨q1,q2,q3⟩:=q
 dsimp only at cZ ⊢
 by_cases h0:q3=0
 ·rw[ar (decide_eq_true h0)]
  obtain⟨g1,g2,g3,g4⟩:=Iz (a:=a) (b:=a) (by rw[hq];exact h0)
  rw[hq] at g4
  injection g4 with g4 g5
  injection g5 with g5 _
  subst g4 g5
  obtain⟨k1,k2⟩:=axI g3
  have hol:=axF (a++a)
  have hmk:=avt (a:=fN (a++a)) (b:=a) (by rw[List.length_append] at *;omega) (fun x hx=>by
   rcases List.mem_append.1 hx with h | h
   ·exact g2 x (II h)
   exact g2 x (List.mem_append_left _ h)) k1
  rw[ya cZ (by omega),aj,hmk]
  dsimp only
  unfold ZQ
  rw[ar rfl,ar (by rw[an0];simp),ar (by simp),I2 cZ,aj,aj,k2,decide_eq_true rfl]
  exact hj
 rw[av (decide_eq_false h0)]
 exact hj
end Go.Proofs.YtjigeffmmcmlnaaGreatDoor
