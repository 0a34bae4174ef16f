import Derived.Test.YtjigeffmmcmlnaaGreatDoorX20
set_option linter.all false
set_option linter.unnecessarySimpa false
set_option linter.deprecated false
set_option linter.unusedVariables false
set_option linter.unusedSimpArgs false
set_option linter.unusedSectionVars false
namespace Go.Proofs.YtjigeffmmcmlnaaGreatDoor
open Go Go.an au
@[reducible] def axl:e8:=⟨False⟩
attribute [local instance] cJ axl
theorem Ed {s:Score} {x:aa} (h:(bs s x).2≠0):(bs s x).1=s:=by
 unfold bs at h ⊢
 split
 ·rfl
 rename_i h1
 rw[if_neg h1] at h
 split
 ·rename_i h2
  rw[if_pos h2] at h
  split
  ·rfl
  rename_i h3;rw[if_neg h3] at h;exact absurd rfl h
 rename_i h2
 rw[if_neg h2] at h
 split
 ·rename_i h3;rw[if_pos h3] at h;exact absurd rfl h
 rfl
theorem MK {l:List ae} {id:Int} {n:ae}:n∈less l id↔n∈l∧n.id≠id:=by
 unfold less;rw[List.mem_filter];simp
theorem AG {s:Score} (hs:dO s) {x:aa} (h:(bs s x).2=0):eV x∧(bs s x).1.version=s.version∧(bs s x).1.bars=s.bars∧(bs s x).1.parts=s.parts ∧
  (∀ n,n∈(bs s x).1.notes↔(n∈s.notes∧n.id≠x.note.id)∨(x.kind≠2∧n=x.note))∧(x.kind=2→∃ n∈s.notes,n.id=x.note.id)∧(x.kind≠2→gV s.bars x.note∧fS s.parts [x.note]=0):=by
 unfold bs at h ⊢
 by_cases h1:eV x
 ·rw[if_neg (fun hh=>hh h1)] at h ⊢
  by_cases h2:x.kind=2
  ·rw[if_pos h2] at h ⊢
   by_cases h3:(less s.notes x.note.id).length=s.notes.length
   ·rw[if_pos h3] at h;cases h
   rw[if_neg h3]
   refine⟨h1,rfl,rfl,rfl,fun n=>?_,fun _=>?_,fun hh=>absurd h2 hh⟩
   ·dsimp only;rw[MK];simp[h2]
   refine Classical.byContradiction fun ca=>h3 (MJ.2 fun n hn he=>ca ⟨n,hn,he⟩)
  rw[if_neg h2] at h ⊢
  by_cases h3:(nU s s.version (less s.notes x.note.id++[x.note])).2=0
  ·rw[if_pos h3]
   obtain⟨g1,g2,g3,g4⟩:=UR (t:=(nU s s.version (less s.notes x.note.id++[x.note])).1) (Prod.ext rfl h3)
   rw[g2]
   have hp:(oK (eS s.bars) (less s.notes x.note.id++[x.note])).Perm (less s.notes x.note.id++[x.note]):=vt _ _
   refine⟨h1,rfl,rfl,rfl,fun n=>?_,fun hh=>absurd hh h2,fun _=>⟨g3.2.2.1 _ (by simp),OT g4 fun n hn=>by simp at hn;simp[hn]⟩⟩
   dsimp only
   rw[hp.mem_iff,List.mem_append,MK,List.mem_singleton]
   simp[h2]
  rw[if_neg h3] at h;exact absurd h h3
 rw[if_pos h1] at h;cases h
theorem SL {l:List ae} (hl:l.length≤1000000) (hn:(l.map ae.id).Nodup) {n:ae} (h:n∈l):∃ k:Nat,wv l n.id=some (k:Int)∧l[k]?=some n:=by
 have hf:=Hx (id:=ae.id) hn h
 rw[NA hl]
 rcases zO l fun y=>decide (y.id=n.id) with ⟨h1,_⟩ | ⟨k,y,h1,h2,h3,_⟩
 ·rw[h1] at hf;cases hf
 rw[h2] at hf;injection hf with hf;subst hf
 exact⟨k,by rw[h3],h1⟩
theorem avK {l:List ae} (hl:l.length≤1000000) {id:Int} (h:∀ n∈l,n.id≠id):wv l id=some (-1):=by
 rw[NA hl]
 rcases zO l fun y=>decide (y.id=id) with ⟨_,h2⟩ | ⟨k,y,h1,_,_,h4⟩
 ·rw[h2]
 exact absurd (by simpa using h4) (h y (at_mem h1))
theorem VU (s:Score) (l:List aa):∃ c,Fp s l=some c∧(c=true→s.bars.length≤60∧s.parts.length≤61∧s.notes.length≤60∧l.length≤30):=by
 unfold Fp ZZ IT Tv
 simp only[oZ,aj]
 exact⟨_,rfl,fun h=>by simp at h;omega⟩
theorem auP {s:Score} (x:aa) (zG:s.bars.length≤1048576):R1 s x=some true:=by
 unfold R1 Zy
 rw[Is,aj]
 obtain⟨c,hc,LH⟩:=VU s []
 rw[hc,aj]
 cases c
 ·rw[Fa,aj,ar rfl]
 rw[yH,IX,aj,aj]
 by_cases hs:¬ dO s
 ·rw[ar (by rw[decide_eq_false hs];rfl)]
 have hs:=Classical.not_not.1 hs
 obtain⟨f1,f2,f3,_⟩:=LH rfl
 have AX:ek s 5 [x]=({ (bs s x).1 with version:=5 },[(bs s x).2],0):=by
  unfold ek
  rw[if_neg (by simp),if_neg fun h=>h ⟨hs,by omega⟩]
  rfl
 have ht:=xY hs x
 have ht5:dO { (bs s x).1 with version:=5 }:=⟨⟨show(1:Int)≤5 by decide,show(5:Int)≤1000000 by decide⟩,ht.2.1,ht.2.2.1,ht.2.2.2.1,ht.2.2.2.2.1,ht.2.2.2.2.2⟩
 rw[av (by rw[decide_eq_true hs];rfl),xZ zG,aj,AX]
 dsimp only
 unfold ZA
 rw[av (by simp),av (by simp),IX,aj,av (by rw[decide_eq_true ht5];rfl),aj,av (by simp),show aP [(bs s x).2] 0=some (bs s x).2 from rfl,aj]
 by_cases h0:¬ (bs s x).2=0
 ·rw[ar (by rw[decide_eq_false h0];rfl)]
  unfold ZE
  dsimp only
  have e:=Ed h0
  rw[ar rfl,e,TF (by omega) (by omega) (by omega),aj,aj]
  simp
 have h0:=Classical.not_not.1 h0
 rw[av (by rw[decide_eq_true h0];rfl)]
 obtain⟨hx,e1,e2,e3,hm,HU,LU⟩:=AG hs h0
 generalize hT:(bs s x).1=T at *
 have tn:=ht.2.2.2.1.2.2.2
 have tl:=ht.2.2.2.1.2.1
 have sn:=hs.2.2.2.1.2.2.2
 rw[zX (l:=s.notes) (fun _=>false) false (fun k n hn=>by
  have hk:=de hn
  unfold MF Zz R2
  dsimp only
  rw[ar (decide_eq_true (by omega)),bl (bm hn)]
  by_cases hi:n.id=x.note.id
  ·obtain⟨q,hq⟩:∃ q,wv T.notes n.id=some q:=⟨_,NA (by omega) _⟩
   rw[hq,aj,av (by simp[hi]),aj,av rfl,aZ (by omega)];rfl
  obtain⟨j,g1,g2⟩:=SL (by omega) tn ((hm n).2 (.inl ⟨at_mem hn,hi⟩))
  rw[g1,aj,ar (by simp[hi]),av (decide_eq_false (by omega)),bl (bm g2),aj,av (by simp),aZ (by omega)];rfl) (by unfold MF;rw[av (by simp)]),aj,if_neg (by simp)]
 dsimp only
 unfold R5
 rw[zX (l:=T.notes) (fun _=>false) false (fun k n hn=>by
  have hk:=de hn
  unfold MG ZB R4
  dsimp only
  rw[ar (decide_eq_true (by omega)),bl (bm hn)]
  by_cases hi:n.id=x.note.id
  ·rw[av (by simp[hi]),aj,av rfl,aZ (by omega)];rfl
  have qq:n∈s.notes:=by
   rcases (hm n).1 (at_mem hn) with h | h
   ·exact h.1
   exact absurd (by rw[h.2]) hi
  obtain⟨j,g1,g2⟩:=SL (by omega) sn qq
  rw[ar (by simp[hi]),g1,aj,aj,av (decide_eq_false (by omega)),aZ (by omega)];rfl) (by unfold MG;dsimp only;rw[av (by simp)]),aj,if_neg (by simp)]
 dsimp only
 unfold R3
 dsimp only
 by_cases hk:x.kind=2
 ·obtain⟨n0,EW,ba⟩:=HU hk
  obtain⟨j,g1,g2⟩:=SL (by omega) sn EW
  rw[ba] at g1
  rw[avK (by omega) (fun n hn he=>by
   rcases (hm n).1 hn with h | h
   ·exact h.2 he
   exact h.1 hk),aj,ar (decide_eq_true hk)]
  unfold ZC
  rw[ar rfl,ar (by simp),g1,aj,aj]
  simp
 obtain⟨j,g1,g2⟩:=SL (by omega) tn ((hm x.note).2 (.inr ⟨hk,rfl⟩))
 rw[g1,aj,av (decide_eq_false hk)]
 unfold ZD
 dsimp only
 rw[ar rfl,ar (decide_eq_true (by omega)),bl (bm g2),ar (by simp),abE (by omega),aj,e2,ar (by simp),abF (by omega),aj,aj,e3]
 simp
end Go.Proofs.YtjigeffmmcmlnaaGreatDoor
