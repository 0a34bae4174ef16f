import Derived.Test.YtfhkmedbfiphbaaGreatDoorX7
set_option linter.all false
namespace Go.Proofs.YtfhkmedbfiphbaaGreatDoor
open Go Go.aj Go.Sy
attribute [local instance] cD dh
theorem aaF {s:Score} (hs:cL s) {b:aD} (hb:b∈s.bars):(s.bars.find? fun x=>decide (x.id=b.id))=some b:=qQ (id:=aD.id) hs.2.1.2.2 hb
theorem afr {s:Score} (hs:cL s) {p:Part} (hp:p∈s.parts) {b:aD} (hb:b∈s.bars) {w:Written} (hw:eN b.length w) (x:aE):gn s.bars ⟨w.id,bJ p,b.id,w.bm,w.bH,w.start,w.length,x⟩↔kx x:=by
 obtain⟨o1,o2,o3,o4⟩:=rO hs hp
 have oG:=(hs.2.2.1.2.1 _ o3).1
 rw[o4] at oG
 obtain⟨w1,w2,w3,w4,w5,w6,w7,w8⟩:=hw
 rw[Fv (n:=⟨w.id,bJ p,b.id,w.bm,w.bH,w.start,w.length,x⟩) (aaF hs hb)]
 unfold fits
 exact⟨fun h=>h.2.2.2.2.2.2.2.2,fun h=>⟨w5,w6,w7,w8,w1,oG,w2,w3,h⟩⟩
theorem acC {s:Score} (hs:cL s) {p:Part} (hp:p∈s.parts) {b:aD} (hb:b∈s.bars) {w:Written} (hw:eN b.length w) (x:aE):FP (⟨p,s,iw s p⟩,⟨w.id,bJ p,b.id,w.bm,w.bH,w.start,w.length,x⟩)=some (decide (qR s p x)):=by
 obtain⟨o1,o2,o3,o4⟩:=rO hs hp
 have oG:=hs.2.2.1.2.1 _ o3
 have zU:=hs.2.1.1.2
 have hn:=afr hs hp hb hw x
 unfold FP
 dsimp only
 rw[Fm (by omega),af]
 have e:eG s.bars [⟨w.id,bJ p,b.id,w.bm,w.bH,w.start,w.length,x⟩]↔kx x:=by
  unfold eG
  simp only[List.length_cons,List.length_nil,List.map_cons,List.map_nil,List.mem_singleton,forall_eq]
  exact⟨fun h=>hn.1 h.2.2.1,fun h=>⟨hs.2.1,by omega,hn.2 h,by simp⟩⟩
 have e':decide (eG s.bars [⟨w.id,bJ p,b.id,w.bm,w.bH,w.start,w.length,x⟩])=decide (kx x):=decide_eq_decide.2 e
 rw[e']
 by_cases h:kx x
 ·rw[ak (by simp[h]),acf oG h.1,af]
  dsimp only
  have e2:qR s p x↔(num (iw s p).low≤num x∧num x≤num (iw s p).high):=⟨fun hh=>hh.2,fun hh=>⟨h,hh⟩⟩
  rw[decide_eq_decide.2 e2]
  cases hd:decide (num (iw s p).low≤num x∧num x≤num (iw s p).high)<;>rfl
 rw[ai (by simp[h]),decide_eq_false (fun hh=>h hh.1)]
def BY (s:Score) (p:Part) (b:aD) (w:Written):Int:=if(dx p b w).2=0∧qR s p (jB (dx p b w).1 p.au) then 0 else 20
theorem aeS {s:Score} (hs:cL s) {p:Part} (hp:p∈s.parts) {b:aD} (hb:b∈s.bars) {w:Written} (hw:eN b.length w):∃ n,FQ (⟨p,s,iw s p⟩,b,w)=some (n,BY s p b w)∧n.id=w.id∧(BY s p b w=0→n=tq s p b w):=by
 have dR:=hs.2.2.1.2.1 p hp
 have kN:=qG hs hb
 obtain⟨o1,o2,o3,o4⟩:=rO hs hp
 have Aj:=KY p b w
 have abR:=dR.2.2.2.1
 unfold FQ Mq
 dsimp only
 rw[Tb dR kN.2.2.2,af]
 have fW:e8 w.aM (cQ (j6 p b.key))=dx p b w:=rfl
 rw[fW,o4]
 unfold BY
 by_cases h0:(dx p b w).2=0
 ·rw[ak (by simp[h0]),aJ (by omega),af]
  dsimp only
  rw[ak (c:= !true) rfl,acC hs hp hb hw,af,af]
  have hx:(⟨(dx p b w).1.step,(dx p b w).1.alter,(dx p b w).1.au - p.au⟩:aE)=jB (dx p b w).1 p.au:=rfl
  rw[hx]
  by_cases hf:qR s p (jB (dx p b w).1 p.au)
  ·rw[ak (by simp[hf]),if_pos ⟨h0,hf⟩];exact⟨_,rfl,rfl,fun _=>rfl⟩
  rw[ai (by simp[hf]),if_neg (fun h=>hf h.2)];exact⟨_,rfl,rfl,fun h=>by cases h⟩
 rw[ai (by simp[h0]),af]
 dsimp only
 rw[ai (c:= !false) rfl,af,ai rfl,if_neg (fun h=>h0 h.1)]
 exact⟨_,rfl,rfl,fun h=>by cases h⟩
def Nv (s:Score) (p:Part):List (Int×Bool):=(others s p).foldl (fun m n=>bz m n.id true) []
theorem Rp {α:Type} (id:α→Int) (k:Int):∀ (l:List α) (z:List (Int×Bool)),bB (l.foldl (fun m x=>bz m (id x) true) z) k false=(bB z k false||l.any fun x=>decide (id x=k))
 | [],z=>by simp
 | x::l,z=>by
  rw[List.foldl_cons,Rp id k l,x6,List.any_cons]
  by_cases h:k=id x
  ·rw[if_pos h];simp[h]
  rw[if_neg h,decide_eq_false (Ne.symm h)];simp
theorem aiL (s:Score) (p:Part) (k:Int):bB (Nv s p) k false=(others s p).any fun n=>decide (n.id=k):=by
 unfold Nv
 rw[Rp];rfl
theorem afV {s:Score} (hl:s.notes.length≤1000000) (p:Part):aU (fun v5:(Int×((List (Int×Bool))×(List ag)))=>ab (aA v5.1 (s.notes.length:Int)) (aa (aa (av s.notes v5.1) fun v6=>ab (!(ay v6.part (bJ p))) (ar (decide ((List.append v5.2.2 (v6::([]:List ag))).length*96≤140737488355328∧(List.append v5.2.2 (v6::([]:List ag))).length≤9223372036854775807)) <| some ((bz v5.2.1 v6.id true),(List.append v5.2.2 (v6::([]:List ag))))) (some (v5.2.1,v5.2.2))) fun(v6:((List (Int×Bool))×(List ag)))=>ar (az (v5.1+1)) <| some (.inl ((v5.1+1),(v6.1,v6.2)))) (some (.inr (v5.2.1,v5.2.2)))) (0,(([]:List (Int×Bool)),([]:List ag)))=some (Nv s p,others s p):=by
 rw[fg (σ:=List (Int×Bool)×List ag) (st:=fun z k=>(k,z)) (l:=s.notes) (fun z n=> .inl (if(!decide (n.part=bJ p))=true then(bz z.1 n.id true,z.2++[n]) else z)) (fun z=>z) (fun k z=>z.2.length≤k) (fun k n z hx hz=>by
  have hk:=bU hx
  dsimp only
  rw[ai (decide_eq_true (by omega)),aX (aW hx)]
  by_cases h:n.part=bJ p
  ·rw[ak (by simp[h]),af,aJ (by omega)];simp[h]
  ·rw[ai (by simp[h]),cq (decide_eq_true (by
    show(z.2++[n]).length*96≤_∧(z.2++[n]).length≤_
    rw[List.length_append];simp only[List.length_cons,List.length_nil];omega)),af,aJ (by omega)]
   simp only[h,decide_false,Bool.not_false,if_true]
   rfl) (fun k n z z' hx hz h=>by
  injection h with h;subst h
  split
  ·rw[List.length_append];simp only[List.length_cons,List.length_nil];omega
  omega) (fun z _=>by dsimp only;rw[ak (by simp)]) ([],[]) (by simp),lC (fun(z:List (Int×Bool)×List ag) (n:ag)=>if(!decide (n.part=bJ p))=true then(bz z.1 n.id true,z.2++[n]) else z) _ _ (fun _ _ _=>rfl)]
 congr 1
 have key:∀ (l:List ag) (z:List (Int×Bool)×List ag),l.foldl (fun(z:List (Int×Bool)×List ag) (n:ag)=>if(!decide (n.part=bJ p))=true then(bz z.1 n.id true,z.2++[n]) else z) z=((l.filter fun n=> !decide (n.part=bJ p)).foldl (fun m n=>bz m n.id true) z.1,z.2++l.filter fun n=> !decide (n.part=bJ p)):=by
  intro l
  induction l with
  | nil=>intro z;simp
  | cons n l ih=>
   intro z
   rw[List.foldl_cons,ih,List.filter_cons]
   by_cases h:(!decide (n.part=bJ p))=true
   ·rw[if_pos h,if_pos h];simp
   rw[if_neg h,if_neg h]
 rw[key]
 rfl
theorem ahe {s:Score} (hl:s.notes.length≤1000000) (p:Part):aU (fun v6:(Int×(List ag))=>ab (aA v6.1 (s.notes.length:Int)) (aa (aa (av s.notes v6.1) fun v7=>aa (tG p) fun v8=>ab (!(ay v7.part v8)) (aa (av s.notes v6.1) fun v9=>ar (decide ((List.append v6.2 (v9::([]:List ag))).length*96≤140737488355328∧(List.append v6.2 (v9::([]:List ag))).length≤9223372036854775807)) <| some (List.append v6.2 (v9::([]:List ag)))) (some v6.2)) fun(v7:(List ag))=>ar (az (v6.1+1)) <| some (.inl ((v6.1+1),v7))) (some (.inr v6.2))) (0,([]:List ag))=some (others s p):=by
 rw[fg (σ:=List ag) (st:=fun z k=>(k,z)) (l:=s.notes) (fun z n=> .inl (if(!decide (n.part=bJ p))=true then z++[n] else z)) (fun z=>z) (fun k z=>z.length≤k) (fun k n z hx hz=>by
  have hk:=bU hx
  dsimp only
  rw[ai (decide_eq_true (by omega)),aX (aW hx),Hb,af]
  by_cases h:n.part=bJ p
  ·rw[ak (by simp[h]),af,aJ (by omega)];simp[h]
  ·rw[ai (by simp[h]),aX (aW hx),cq (decide_eq_true (by
    show(z++[n]).length*96≤_∧(z++[n]).length≤_
    rw[List.length_append];simp only[List.length_cons,List.length_nil];omega)),af,aJ (by omega)]
   simp only[h,decide_false,Bool.not_false,if_true]
   rfl) (fun k n z z' hx hz h=>by
  injection h with h;subst h
  split
  ·rw[List.length_append];simp only[List.length_cons,List.length_nil];omega
  omega) (fun z _=>by dsimp only;rw[ak (by simp)]) [] (by simp),lC (fun(z:List ag) (n:ag)=>if(!decide (n.part=bJ p))=true then z++[n] else z) _ _ (fun _ _ _=>rfl)]
 congr 1
 have key:∀ (l:List ag) (z:List ag),l.foldl (fun(z:List ag) (n:ag)=>if(!decide (n.part=bJ p))=true then z++[n] else z) z=z++l.filter fun n=> !decide (n.part=bJ p):=by
  intro l
  induction l with
  | nil=>intro z;simp
  | cons n l ih=>
   intro z
   rw[List.foldl_cons,ih,List.filter_cons]
   by_cases h:(!decide (n.part=bJ p))=true
   ·rw[if_pos h,if_pos h];simp
   rw[if_neg h,if_neg h]
 rw[key]
 rfl
end Go.Proofs.YtfhkmedbfiphbaaGreatDoor
namespace Go.Proofs.YtfhkmedbfiphbaaGreatDoor
open Go Go.aj Go.Sy
attribute [local instance] cD dh
def dX {α β ρ:Type} (E:α→Int) (N:α→β) (R:α→ρ) (fin:List β→ρ) (l:List α) (z:List β):ρ:=match l.find? fun x=>decide (E x≠0) with
 | some x=>R x
 | none=>fin (z++l.map N)
theorem zD {α β ρ:Type} (E:α→Int) (N:α→β) (R:α→ρ) (fin:List β→ρ) (x:α) (l:List α) (z:List β):dX E N R fin (x::l) z=if E x=0 then dX E N R fin l (z++[N x]) else R x:=by
 unfold dX
 rw[List.find?_cons]
 by_cases h:E x=0
 ·rw[if_pos h,decide_eq_false (by simpa using h)]
  dsimp only
  cases l.find? fun x=>decide (E x≠0) with
  | none=>simp
  | some y=>rfl
 rw[if_neg h,decide_eq_true h]
theorem DB {α β ρ:Type} (E:α→Int) (N:α→β) (R:α→ρ) (fin:List β→ρ):∀ (l:List α) (z:List β),fu (fun(z:List β) x=>if E x=0 then .inl (z++[N x]) else .inr (R x)) fin l z=dX E N R fin l z
 | [],z=>by unfold dX;simp[fu]
 | x::l,z=>by
  have ih:=DB E N R fin l (z++[N x])
  rw[zD]
  simp only[fu]
  by_cases h:E x=0
  ·rw[if_pos h,if_pos h];exact ih
  rw[if_neg h,if_neg h]
theorem Rh {α β ρ:Type} (E:α→Int) (N:α→β) (R:α→ρ) (fin:List β→ρ):∀ (l m:List α) (z:List β),dX E N R fin (l++m) z=dX E N R (fun z'=>dX E N R fin m z') l z
 | [],m,z=>by
  simp only[dX,List.nil_append,List.find?_nil,List.map_nil,List.append_nil]
 | x::l,m,z=>by
  rw[List.cons_append,zD,zD,Rh E N R fin l m]
def bY (s:Score) (v:View):List (aD×Written):=(v.bg.zip s.bars).flatMap fun x=>x.1.notes.map fun w=>(x.2,w)
theorem aaL {α σ ρ:Type} (f:σ→α→σ⊕ρ) (fin:σ→ρ) (x:α) (xs:List α) (z:σ):fu f fin (x::xs) z=Sum.elim (fu f fin xs) id (f z x):=by
 simp only[fu]
 cases f z x<;>rfl
theorem DC {ρ:Type} (E:aD×Written→Int) (N:aD×Written→ag) (R:aD×Written→ρ) (fin:List ag→ρ):∀ (l:List (br×aD)) (z:List ag),fu (fun(z:List ag) (x:br×aD)=>dX (ρ:=(List ag)⊕ρ) (fun w=>E (x.2,w)) (fun w=>N (x.2,w)) (fun w=> .inr (R (x.2,w))) (fun z=> .inl z) x.1.notes z) fin l z=dX E N R fin (l.flatMap fun x=>x.1.notes.map fun w=>(x.2,w)) z
 | [],z=>by unfold dX;simp[fu]
 | x::l,z=>by
  rw[List.flatMap_cons,Rh,aaL]
  have key:∀ (ws:List Written) (z:List ag),Sum.elim (fu (fun(z:List ag) (x:br×aD)=>dX (ρ:=(List ag)⊕ρ) (fun w=>E (x.2,w)) (fun w=>N (x.2,w)) (fun w=> .inr (R (x.2,w))) (fun z=> .inl z) x.1.notes z) fin l) id (dX (ρ:=(List ag)⊕ρ) (fun w=>E (x.2,w)) (fun w=>N (x.2,w)) (fun w=> .inr (R (x.2,w))) (fun z=> .inl z) ws z)=dX E N R (fun z'=>dX E N R fin (l.flatMap fun x=>x.1.notes.map fun w=>(x.2,w)) z') (ws.map fun w=>(x.2,w)) z:=by
   intro ws
   induction ws with
   | nil=>
    intro z
    have h1:∀ {β:Type} (E':Written→Int) (N':Written→ag) (R':Written→β) (uC:List ag→β) (z:List ag),dX E' N' R' uC [] z=uC z:=fun E' N' R' uC z=>by unfold dX;simp
    have h2:∀ {β:Type} (E':aD×Written→Int) (N':aD×Written→ag) (R':aD×Written→β) (uC:List ag→β) (z:List ag),dX E' N' R' uC [] z=uC z:=fun E' N' R' uC z=>by unfold dX;simp
    rw[List.map_nil,h1,h2]
    exact DC E N R fin l z
   | cons w ws ih=>
    intro z
    rw[List.map_cons,zD,zD]
    by_cases h:E (x.2,w)=0
    ·rw[if_pos h,if_pos h];exact ih _
    rw[if_neg h,if_neg h];rfl
  exact key x.1.notes z
def pE (s:Score) (p:Part) (q:aD×Written):Int:=ql s p q.1 q.2
def pN (s:Score) (p:Part) (q:aD×Written):ag:=tq s p q.1 q.2
noncomputable def qP (s:Score) (ver:Int) (l:List ag):Score×Int×Int:=if 20000 < l.length then(jg,0,2) else if(jJ s ver l).2≠0 then(jg,0,(jJ s ver l).2) else((jJ s ver l).1,0,0)
open Classical in
noncomputable def ct (s:Score) (ver:Int) (v:View):Score×Int×Int:=
 if(1≤ver∧ver≤1000000)∧ej s v then(match partOf s v.part with
  | some p=>dX (pE s p) (pN s p) (fun q=>(jg,q.2.id,pE s p q)) (qP s ver) (bY s v) (others s p)
  | none=>(jg,0,1)) else(jg,0,1)
theorem I8 {α β:Type} {E:α→Int} {N:α→β} {ρ:Type} {R:α→ρ} {l:List α} {z z':List β} (h:dX (ρ:=(List β)⊕ρ) E N (fun x=> .inr (R x)) (fun z=> .inl z) l z = .inl z'):z'.length=z.length+l.length:=by
 unfold dX at h
 split at h
 ·cases h
 injection h with h;subst h;simp
theorem FF {s:Score} (p:Part):(others s p).length≤s.notes.length:=List.length_filter_le _ _
theorem pv {α:Type} (l:List α) (x:α):(List.append l (x::([]:List α))).length=l.length+1:=by
 show(l++[x]).length=_
 simp
theorem oP {s:Score} {v:View} (hb:s.bars.length≤1048576) (hv:(c6 v).length≤1000000) (ver:Int):iy (s,ver,v)=some (ct s ver v):=by
 unfold iy ct
 dsimp only
 by_cases h0:1≤ver∧ver≤1000000
 ·rw[ak (decide_eq_false (by omega)),ak (decide_eq_false (by omega)),XO hb hv,af,af]
  by_cases h1:ej s v
  ·obtain⟨hs,hlen,⟨p,hp,bA⟩,h4,h5⟩:=h1
   have h1:ej s v:=⟨hs,hlen,⟨p,hp,bA⟩,h4,h5⟩
   obtain⟨dR,fM,an⟩:=od hs hp
   obtain⟨o1,o2,o3,o4⟩:=rO hs fM
   have iY:=hs.2.2.2.1.2.1
   have hol:=FF (s:=s) p
   rw[ak (by simp[h1]),afv hs hp,af,if_pos ⟨h0,h1⟩,hp]
   dsimp only
   rw[o4,afV (by omega),af]
   unfold Mp
   dsimp only
   rw[af]
   dsimp only
   rw[fg (σ:=List ag) (st:=fun z k=>(k,z)) (l:=v.bg.zip s.bars) (fun z x=>dX (ρ:=(List ag)⊕((List ag)⊕(Score×Int×Int))) (fun w=>pE s p (x.2,w)) (fun w=>pN s p (x.2,w)) (fun w=> .inr (.inr (jg,w.id,pE s p (x.2,w)))) (fun z=> .inl z) x.1.notes z) (fun z=> .inl z) (fun k z=>z.length≤20000+1000000*k) (fun k x z hx hz=>by
    obtain⟨q1,q2⟩:=oA hx
    have hk:=bU q1
    have hm:=List.mem_of_getElem? q1
    have hbm:=List.mem_of_getElem? q2
    have hn:=pZ hm
    have zU:=hs.2.1.1.2
    have D2:=bU q2
    have sP:=List.all_eq_true.1 bA x (List.mem_of_getElem? hx)
    unfold j8 at sP
    simp only[Bool.and_eq_true,decide_eq_true_eq,List.all_eq_true] at sP
    dsimp only
    rw[ai (decide_eq_true (by omega)),aX (aW q1)]
    rw[fg (σ:=List ag) (st:=fun z k=>(k,z)) (l:=x.1.notes) (fun z w=>if pE s p (x.2,w)=0 then .inl (z++[pN s p (x.2,w)]) else .inr (.inr (.inr (.inr (jg,w.id,pE s p (x.2,w)))))) (fun z=> .inl z) (fun j zz=>zz.length≤z.length+j) (fun j w zz hw vq=>by
     have hj:=bU hw
     have S0:=sP.2 w (List.mem_of_getElem? hw)
     rw[sP.1.1.2.2] at S0
     obtain⟨n,e1,e2,e3⟩:=aeS hs fM hbm S0
     dsimp only
     rw[ai (decide_eq_true (by omega)),aX (aW hw),aX (aW q2),e1,af,aiL]
     have nO:pE s p (x.2,w)=if((others s p).any fun n=>decide (n.id=w.id))=true then 5 else BY s p x.2 w:=rfl
     rw[nO]
     by_cases ht:((others s p).any fun n=>decide (n.id=w.id))=true
     ·rw[ai ht,af,ai (by decide),if_pos ht,if_neg (by decide),e2];rfl
     ·rw[ak (by simpa using ht),af,if_neg ht]
      by_cases he:BY s p x.2 w=0
      ·rw[ak (by simp[he]),cq (decide_eq_true (by rw[pv];omega)),ak (by simp[he]),aJ (by omega),if_pos he,e3 he];rfl
      rw[ai (by simp[he]),if_neg he,e2];rfl) (fun j w zz X4 hw vq hf=>by
     split at hf
     ·injection hf with hf;subst hf;rw[List.length_append];simp only[List.length_cons,List.length_nil];omega
     cases hf) (fun zz _=>by dsimp only;rw[ak (by simp)]) z (by omega)]
    rw[DB (fun w=>pE s p (x.2,w)) (fun w=>pN s p (x.2,w))]
    unfold dX
    cases (x.1.notes.find? fun w=>decide (pE s p (x.2,w)≠0)) with
    | some w=>rfl
    | none=>dsimp only;rw[fQ,aJ (by omega)];rfl) (fun k x z z' hx hz hf=>by
    obtain⟨q1,q2⟩:=oA hx
    have hn:=pZ (List.mem_of_getElem? q1)
    have:=I8 hf
    omega) (fun z _=>by
    dsimp only
    rw[ak (decide_eq_false (by rw[List.length_zip];omega))]) (others s p) (by omega),DC (pE s p) (pN s p) (fun q=>Sum.inr (jg,q.2.id,pE s p q))]
   rw[show((v.bg.zip s.bars).flatMap fun x=>x.1.notes.map fun w=>(x.2,w))=bY s v from rfl]
   unfold dX
   cases (bY s v).find? fun q=>decide (pE s p q≠0) with
   | some q=>rfl
   | none=>
    dsimp only
    rw[fQ]
    unfold qP
    generalize others s p++(bY s v).map (pN s p)=l
    by_cases hl:20000 < l.length
    ·rw[ai (decide_eq_true (by omega)),if_pos hl];rfl
    rw[ak (decide_eq_false (by omega)),if_neg hl,ahH hb,af]
    by_cases hw:(jJ s ver l).2=0
    ·rw[ak (by simp[hw]),if_neg (by simp[hw])]
    rw[ai (by simp[hw]),if_pos hw];rfl
  rw[ai (by simp[h1]),if_neg (fun h=>h1 h.2)];rfl
 rw[if_neg (fun h=>h0 h.1)]
 by_cases h1:ver < 1
 ·rw[ai (decide_eq_true h1),af,ai rfl];rfl
 rw[ak (decide_eq_false h1),ai (decide_eq_true (by omega)),af,ai rfl];rfl
end Go.Proofs.YtfhkmedbfiphbaaGreatDoor
namespace Go.Proofs.YtfhkmedbfiphbaaGreatDoor
open Go Go.aj Go.Sy
attribute [local instance] cD dh
theorem Wd {s:Score} {v:View} (hb:s.bars.length≤1048576) (hv:(c6 v).length≤1000000) (ver:Int):BJ (s,ver,v)=some (ct s ver v):=by
 unfold BJ ct
 dsimp only
 by_cases h0:1≤ver∧ver≤1000000
 ·rw[ak (decide_eq_false (by omega)),ak (decide_eq_false (by omega)),Wb hv,af,af]
  by_cases h1:ej s v
  ·obtain⟨hs,hlen,⟨p,hp,bA⟩,h4,h5⟩:=h1
   have h1:ej s v:=⟨hs,hlen,⟨p,hp,bA⟩,h4,h5⟩
   obtain⟨dR,fM,an⟩:=od hs hp
   have iY:=hs.2.2.2.1.2.1
   have hol:=FF (s:=s) p
   have oH:=hs.2.2.1.1.2
   rw[ak (by simp[h1]),yy (by omega),af,if_pos ⟨h0,h1⟩,hp]
   dsimp only
   have ep:av s.parts (ix s.parts fun q=>decide (q.id=v.part))=some p:=by
    unfold partOf at hp
    rcases mq s.parts fun q=>decide (q.id=v.part) with ⟨g1,g2⟩ | ⟨k,q,g1,g2,g3,g4⟩
    ·rw[g1] at hp;cases hp
    rw[g2] at hp
    injection hp with hp;subst hp
    rw[g3];exact aW g1
   rw[ep,af,ahe (by omega),af]
   rw[fg (σ:=List ag) (st:=fun z k=>(k,z)) (l:=v.bg.zip s.bars) (fun z x=>dX (ρ:=(List ag)⊕((List ag)⊕(Score×Int×Int))) (fun w=>pE s p (x.2,w)) (fun w=>pN s p (x.2,w)) (fun w=> .inr (.inr (jg,w.id,pE s p (x.2,w)))) (fun z=> .inl z) x.1.notes z) (fun z=> .inl z) (fun k z=>z.length≤20000+1000000*k) (fun k x z hx hz=>by
    obtain⟨q1,q2⟩:=oA hx
    have hk:=bU q1
    have hm:=List.mem_of_getElem? q1
    have hn:=pZ hm
    have zU:=hs.2.1.1.2
    have D2:=bU q2
    dsimp only
    rw[ai (decide_eq_true (by omega))]
    rw[fg (σ:=List ag) (st:=fun z k=>(k,z)) (l:=x.1.notes) (fun z w=>if pE s p (x.2,w)=0 then .inl (z++[pN s p (x.2,w)]) else .inr (.inr (.inr (.inr (jg,w.id,pE s p (x.2,w)))))) (fun z=> .inl z) (fun j zz=>zz.length≤z.length+j) (fun j w zz hw vq=>by
     have hj:=bU hw
     obtain⟨n,e1,e3⟩:=ahf hs fM q2 w
     dsimp only
     rw[aX (aW q1),ai (decide_eq_true (by omega)),aX (aW q1),aX (aW hw),e1,af]
     have nO:pE s p (x.2,w)=ql s p x.2 w:=rfl
     rw[nO]
     by_cases he:ql s p x.2 w=0
     ·rw[ak (by simp[he]),cq (decide_eq_true (by rw[pv];omega)),aJ (by omega),if_pos he,e3 he];rfl
     ·rw[ai (by simp[he]),if_neg he];rfl) (fun j w zz X4 hw vq hf=>by
     split at hf
     ·injection hf with hf;subst hf;rw[List.length_append];simp only[List.length_cons,List.length_nil];omega
     cases hf) (fun zz _=>by dsimp only;rw[aX (aW q1),ak (by simp)]) z (by omega)]
    rw[DB (fun w=>pE s p (x.2,w)) (fun w=>pN s p (x.2,w))]
    unfold dX
    cases (x.1.notes.find? fun w=>decide (pE s p (x.2,w)≠0)) with
    | some w=>rfl
    | none=>dsimp only;rw[fQ,aJ (by omega)];rfl) (fun k x z z' hx hz hf=>by
    obtain⟨q1,q2⟩:=oA hx
    have hn:=pZ (List.mem_of_getElem? q1)
    have:=I8 hf
    omega) (fun z _=>by
    dsimp only
    rw[ak (decide_eq_false (by rw[List.length_zip];omega))]) (others s p) (by omega),DC (pE s p) (pN s p) (fun q=>Sum.inr (jg,q.2.id,pE s p q))]
   rw[show((v.bg.zip s.bars).flatMap fun x=>x.1.notes.map fun w=>(x.2,w))=bY s v from rfl]
   unfold dX
   cases (bY s v).find? fun q=>decide (pE s p q≠0) with
   | some q=>rfl
   | none=>
    dsimp only
    rw[fQ]
    unfold qP
    generalize others s p++(bY s v).map (pN s p)=l
    by_cases hl:20000 < l.length
    ·rw[ai (decide_eq_true (by omega)),if_pos hl];rfl
    rw[ak (decide_eq_false (by omega)),if_neg hl,ag2,af]
    by_cases hw:(jJ s ver l).2=0
    ·rw[ak (by simp[hw]),if_neg (by simp[hw])]
    rw[ai (by simp[hw]),if_pos hw];rfl
  rw[ai (by simp[h1]),if_neg (fun h=>h1 h.2)];rfl
 rw[if_neg (fun h=>h0 h.1)]
 by_cases h1:ver < 1
 ·rw[ai (decide_eq_true h1),af,ai rfl];rfl
 rw[ak (decide_eq_false h1),ai (decide_eq_true (by omega)),af,ai rfl];rfl
end Go.Proofs.YtfhkmedbfiphbaaGreatDoor
namespace Go.Proofs.YtfhkmedbfiphbaaGreatDoor
open Go Go.aj Go.Sy
attribute [local instance] cD dh
theorem Uf {l:List ag} (hl:l.length≤1000000000) (hn:(l.map ag.id).Nodup):Bj l=some (iE ag.id l):=by
 unfold Bj
 rw[fg (σ:=List (Int×ag)) (st:=fun z k=>(k,z)) (l:=l) (fun z n=> .inl (bz z n.id n)) (fun z=>z) (fun _ _=>True) (fun k n z hx _=>by
  have hk:=bU hx
  dsimp only
  rw[ai (decide_eq_true (by omega)),aX (aW hx),aJ (by omega)];rfl) (fun _ _ _ _ _ _ _=>trivial) (fun z _=>by dsimp only;rw[ak (by simp)]) [] trivial,lC (fun(z:List (Int×ag)) (n:ag)=>bz z n.id n) _ _ (fun _ _ _=>rfl),af]
 have:=DD ag.id l [] (by simp) hn
 rw[List.nil_append] at this
 rw[←this]
theorem YO {l:List ag}:(iE ag.id l).map (·.1)=l.map ag.id:=by
 unfold iE
 rw[List.map_map]
 rfl
theorem Xc {l:List ag} (hl:l.length≤1000000000) (an:∀ n∈l,1≤n.id∧n.id≤1000000):wi (iE ag.id l)=some (dG (l.map ag.id)):=by
 unfold wi
 rw[cq,YO]
 rw[Bool.and_eq_true,List.all_eq_true]
 refine⟨fun q hq=>?_,decide_eq_true (by unfold iE;rw[List.length_map];omega)⟩
 unfold iE at hq
 obtain⟨n,hn,rfl⟩:=List.mem_map.1 hq
 have:=an n hn
 exact decide_eq_true (by unfold aj.kW;dsimp only;omega)
def gK (raw:List (Int×ag)):List bj:=raw.zipIdx.map fun x=>⟨x.1.1,(x.2:Int)+1,1,x.1.2⟩
theorem xj (raw:List (Int×ag)):(gK raw).length=raw.length:=by unfold gK;simp
theorem QM (raw:List (Int×ag)) (r:Int×ag):gK (raw++[r])=gK raw++[⟨r.1,(raw.length:Int)+1,1,r.2⟩]:=by
 unfold gK
 rw[List.zipIdx_append,List.map_append]
 simp
def ajr:ag:=⟨0,0,0,0,0,⟨0,0⟩,⟨0,0⟩,⟨0,0,0⟩⟩
def l5 (id:Int):ag:=⟨id,0,0,0,0,⟨0,0⟩,⟨0,0⟩,⟨0,0,0⟩⟩
def dr (l:List ag) (id:Int):Bool:=l.any fun n=>decide (n.id=id)
def jn (l:List ag) (id:Int):ag:=(l.find? fun n=>decide (n.id=id)).getD ajr
def gI (a b:List ag) (id:Int):Bool:= !dr a id || !decide (jn a id=jn b id)
def ev (a b:List ag):List (Int×ag):=((dG (a.map ag.id)).filter fun id=> !dr b id).map (fun id=>((2:Int),l5 id))++((dG (b.map ag.id)).filter (gI a b)).map fun id=>((1:Int),jn b id)
theorem yM (xs:List Int):(dG xs).length=xs.length:=by unfold dG;exact(List.mergeSort_perm _ _).length_eq
open Classical in
theorem EZ {s:Score} {v:View} (hb:s.bars.length≤1048576) (hv:(c6 v).length≤1000000) (h:(ct s 1 v).2.2=0→eG s.bars (ct s 1 v).1.notes∧cL s):tC (s,v)=some (if(ct s 1 v).2.2=0 then(gK (ev s.notes (ct s 1 v).1.notes),0) else([],(ct s 1 v).2.2)):=by
 unfold tC
 dsimp only
 rw[oP hb hv,af]
 by_cases h0:(ct s 1 v).2.2=0
 ·obtain⟨ht,hs⟩:=h h0
  rw[ak (by simp[h0]),if_pos h0]
  generalize (ct s 1 v).1.notes=b at ht
  have ha:=hs.2.2.2.1
  generalize s.notes=a at ha
  have ha2:=ha.2.1
  have jS:=ht.2.1
  have KU:∀ n∈a,1≤n.id∧n.id≤1000000:=fun n hn=>by
   obtain⟨k,b,_,_,hf,_⟩:=n3 (ha.2.2.1 n hn)
   exact hf.2.2.2.2.1
  have KV:∀ n∈b,1≤n.id∧n.id≤1000000:=fun n hn=>by
   obtain⟨k,b,_,_,hf,_⟩:=n3 (ht.2.2.1 n hn)
   exact hf.2.2.2.2.1
  rw[Uf (by omega) ha.2.2.2,af,Uf (by omega) ht.2.2.2,af]
  have keys:∀ m:List (Int×ag),FT m=some m:=fun m=>rfl
  rw[keys,af,Xc (by omega) KU,af]
  have uU:=yM (a.map ag.id)
  have Ad:=yM (b.map ag.id)
  rw[List.length_map] at uU Ad
  have e0:((0:Int),([]:List bj))=(0,gK []):=rfl
  rw[e0,fg (σ:=List (Int×ag)) (st:=fun z k=>(k,gK z)) (l:=dG (a.map ag.id)) (fun z id=> .inl (if(!dr b id)=true then z++[((2:Int),l5 id)] else z)) (fun z=>gK z) (fun k z=>z.length≤k) (fun k id z hx hz=>by
   have hk:=bU hx
   dsimp only
   rw[ai (decide_eq_true (by omega)),aX (aW hx),CW]
   by_cases hh:dr b id=true
   ·have qX:(b.any fun x=>decide (x.id=id))=true:=hh
    rw[qX,ak (c:= !true) rfl,af,aJ (by omega),hh];rfl
   ·rw[Bool.not_eq_true] at hh
    have qX:(b.any fun x=>decide (x.id=id))=false:=hh
    rw[qX,ai (c:= !false) rfl,xj,aJ (by omega),cq (decide_eq_true (by rw[pv,xj];omega)),af,aJ (by omega),hh]
    rw[if_pos (c:=(!false)=true) rfl,QM]
    rfl) (fun k x z z' hx hz hf=>by
   injection hf with hf;subst hf
   split
   ·rw[List.length_append];simp only[List.length_cons,List.length_nil];omega
   omega) (fun z _=>by dsimp only;rw[ak (by simp)]) [] (by simp),lC (fun(z:List (Int×ag)) (id:Int)=>if(!dr b id)=true then z++[((2:Int),l5 id)] else z) _ _ (fun _ _ _=>rfl),af]
  have Ua:∀ (q:Int→Bool) (g:Int→Int×ag) (l:List Int) (z:List (Int×ag)),l.foldl (fun z id=>if q id=true then z++[g id] else z) z=z++(l.filter q).map g:=by
   intro q g l
   induction l with
   | nil=>intro z;simp
   | cons x l ih=>
    intro z
    rw[List.foldl_cons,ih,List.filter_cons]
    by_cases hq:q x=true
    ·rw[if_pos hq,if_pos hq];simp
    rw[if_neg hq,if_neg hq]
  rw[Ua (fun id=> !dr b id) (fun id=>((2:Int),l5 id)),List.nil_append,keys,af,Xc (by omega) KV,af]
  have oM:(((dG (a.map ag.id)).filter fun id=> !dr b id).map (fun id=>((2:Int),l5 id))).length≤20000:=by
   rw[List.length_map]
   exact Nat.le_trans (List.length_filter_le _ _) (by omega)
  unfold ev
  generalize ((dG (a.map ag.id)).filter fun id=> !dr b id).map (fun id=>((2:Int),l5 id))=z0 at oM ⊢
  rw[fg (σ:=List (Int×ag)) (st:=fun z k=>(k,gK z)) (l:=dG (b.map ag.id)) (fun z id=> .inl (if gI a b id=true then z++[((1:Int),jn b id)] else z)) (fun z=>gK z) (fun k z=>z.length≤20000+k) (fun k id z hx hz=>by
   have hk:=bU hx
   dsimp only
   rw[ai (decide_eq_true (by omega)),aX (aW hx),CW,y5,y5,qH,vu,af]
   have hc:(!(a.any fun x=>decide (x.id=id)) || !decide (((a.find? fun x=>decide (x.id=id)).getD ⟨0,0,0,0,0,⟨0,0⟩,⟨0,0⟩,⟨0,0,0⟩⟩)=((b.find? fun x=>decide (x.id=id)).getD ⟨0,0,0,0,0,⟨0,0⟩,⟨0,0⟩,⟨0,0,0⟩⟩)))=gI a b id:=rfl
   rw[hc]
   by_cases hh:gI a b id=true
   ·rw[ai hh,xj,aJ (by omega),cq (decide_eq_true (by rw[pv,xj];omega)),af,aJ (by omega),if_pos hh]
    rw[QM]
    rfl
   ·rw[ak (by simpa using hh),af,aJ (by omega),if_neg hh];rfl) (fun k x z z' hx hz hf=>by
   injection hf with hf;subst hf
   split
   ·rw[List.length_append];simp only[List.length_cons,List.length_nil];omega
   omega) (fun z _=>by dsimp only;rw[ak (by simp)]) z0 (by omega),lC (fun(z:List (Int×ag)) (id:Int)=>if gI a b id=true then z++[((1:Int),jn b id)] else z) _ _ (fun _ _ _=>rfl),af,Ua (gI a b) (fun id=>((1:Int),jn b id))]
 rw[ai (by simp[h0]),if_neg h0]
end Go.Proofs.YtfhkmedbfiphbaaGreatDoor
namespace Go.Proofs.YtfhkmedbfiphbaaGreatDoor
open Go Go.aj Go.Sy
attribute [local instance] cD dh
def nx (k HF id:Int):Int:=if k < id∧(HF=0∨id < HF) then id else HF
theorem Vj {l:List ag} (hl:l.length≤1000000000) (k z0:Int):aU (fun v3:(Int×Int)=>ab (aA v3.2 (l.length:Int)) (aa (aa (aa (av l v3.2) fun v4=>ab (aA k v4.id) (ab (ay v3.1 0) (some true) (aa (av l v3.2) fun v5=>some (aA v5.id v3.1))) (some false)) fun(v4:Bool)=>ab v4 (aa (av l v3.2) fun v5=>some v5.id) (some v3.1)) fun(v4:Int)=>ar (az (v3.2+1)) <| some (.inl (v4,(v3.2+1)))) (some (.inr v3.1))) (z0,0)=some (l.foldl (fun z n=>nx k z n.id) z0):=by
 rw[fg (σ:=Int) (st:=fun z j=>(z,j)) (l:=l) (fun z n=> .inl (nx k z n.id)) (fun z=>z) (fun _ _=>True) (fun j n z hx _=>by
  have hj:=bU hx
  dsimp only
  rw[ai (decide_eq_true (by omega)),aX (aW hx),aX (aW hx),aX (aW hx)]
  unfold nx
  by_cases h1:k < n.id
  ·rw[ai (by simp[h1])]
   by_cases h2:z=0
   ·rw[ai (by simp[h2]),af,ai rfl,af,aJ (by omega),if_pos ⟨h1,.inl h2⟩];rfl
   rw[ak (by simp[h2]),af]
   by_cases h3:n.id < z
   ·rw[ai (by simp[h3]),af,aJ (by omega),if_pos ⟨h1,.inr h3⟩];rfl
   rw[ak (by simpa using h3),af,aJ (by omega),if_neg (by rintro⟨_,h | h⟩;exact h2 h;exact h3 h)];rfl
  rw[ak (by simpa using h1),af,ak rfl,af,aJ (by omega),if_neg (fun h=>h1 h.1)];rfl) (fun _ _ _ _ _ _ _=>trivial) (fun z _=>by dsimp only;rw[ak (by simp)]) z0 trivial,lC (fun(z:Int) (n:ag)=>nx k z n.id) _ _ (fun _ _ _=>rfl)]
theorem afj {a b:List ag} (ha:a.length≤1000000000) (hb:b.length≤1000000000) (k:Int):ym (a,b,k)=some (((a++b).map ag.id).foldl (nx k) 0):=by
 unfold ym
 dsimp only
 rw[Vj ha,af,Vj hb,af]
 rw[List.map_append,List.foldl_append,List.foldl_map,List.foldl_map]
theorem Vk (k:Int):∀ (l:List Int) (z:Int),(∀ x∈l,1≤x)→(z=0∨(k < z∧1≤z))→let r:=l.foldl (nx k) z
  (r=0∧z=0∧∀ x∈l,¬ k < x)∨(k < r∧1≤r∧(r=z∨r∈l)∧(z=0∨r≤z)∧∀ x∈l,k < x→r≤x)
 | [],z,_,hz=>by
  simp only[List.foldl_nil]
  rcases hz with hz | hz
  ·left;exact⟨hz,hz,fun _ h=>by cases h⟩
  right;exact⟨hz.1,hz.2,by simp,.inr (Int.le_refl _),fun _ h=>by cases h⟩
 | x::l,z,hl,hz=>by
  simp only[List.foldl_cons]
  have hx:=hl x (by simp)
  have AB:nx k z x=0∨(k < nx k z x∧1≤nx k z x):=by
   unfold nx
   split
   ·rename_i h;right;exact⟨h.1,hx⟩
   exact hz
  have ih:=Vk k l (nx k z x) (fun y hy=>hl y (by simp[hy])) AB
  dsimp only at ih
  generalize l.foldl (nx k) (nx k z x)=r at *
  unfold nx at ih
  rcases ih with ⟨h1,h2,h3⟩ | ⟨h1,h2,h3,h4,h5⟩
  ·split at h2
   ·omega
   rename_i hc
   left
   refine⟨h1,h2,fun y hy=>?_⟩
   rcases List.mem_cons.1 hy with rfl | hy
   ·intro hk;exact hc ⟨hk,.inl h2⟩
   exact h3 y hy
  right
  refine⟨h1,h2,?_,?_,?_⟩
  ·split at h3
   ·rcases h3 with h3 | h3
    ·right;rw[h3];simp
    right;simp[h3]
   rcases h3 with h3 | h3
   ·left;exact h3
   right;simp[h3]
  ·split at h4
   ·rename_i hc;rcases hc.2 with h | h
    ·left;exact h
    right;omega
   rename_i hc;exact h4
  intro y hy hk
  rcases List.mem_cons.1 hy with rfl | hy
  ·split at h4
   ·omega
   rename_i hc
   rcases h4 with h4 | h4
   ·exact absurd ⟨hk,.inl h4⟩ hc
   refine Classical.byContradiction fun hn=>hc ⟨hk,.inr (by omega)⟩
  exact h5 y hy hk
def rK (U:List Int) (k:Int):Int:=(U.find? fun x=>decide (k < x)).getD 0
theorem afB {ids U:List Int} (dO:∀ x∈ids,1≤x) (hU:U.Pairwise (· < ·)) (hm:∀ x,x∈U↔x∈ids) (k:Int):ids.foldl (nx k) 0=rK U k:=by
 have h:=Vk k ids 0 dO (.inl rfl)
 dsimp only at h
 unfold rK
 cases hf:U.find? fun x=>decide (k < x) with
 | none=>
  have hn:=List.find?_eq_none.1 hf
  rcases h with ⟨h1,_,_⟩ | ⟨h1,_,h3,_,_⟩
  ·exact h1
  rcases h3 with h3 | h3
  ·omega
  have:=hn _ ((hm _).2 h3)
  simp at this;omega
 | some u=>
  have hu:=List.mem_of_find?_eq_some hf
  have hk:k < u:=by simpa using List.find?_some hf
  rcases h with ⟨_,_,h3⟩ | ⟨h1,h2,h3,_,h5⟩
  ·exact absurd hk (h3 u ((hm u).1 hu))
  rcases h3 with h3 | h3
  ·omega
  have hle:=h5 u ((hm u).1 hu) hk
  show _=u
  refine Int.le_antisymm hle ?_
  obtain⟨l1,l2,rfl,bS⟩:∃ l1 l2,U=l1++u::l2∧∀ x∈l1,¬ k < x:=by
   obtain⟨_,l1,l2,h1,h2⟩:=List.find?_eq_some_iff_append.1 hf
   exact⟨l1,l2,h1,fun x hx=>by simpa using h2 x hx⟩
  have hr:=(hm _).2 h3
  rw[List.pairwise_append] at hU
  rcases List.mem_append.1 hr with hr | hr
  ·exact absurd h1 (bS _ hr)
  rcases List.mem_cons.1 hr with hr | hr
  ·omega
  have:=(List.pairwise_cons.1 hU.2.1).1 _ hr
  omega
end Go.Proofs.YtfhkmedbfiphbaaGreatDoor
namespace Go.Proofs.YtfhkmedbfiphbaaGreatDoor
open Go Go.aj Go.Sy
attribute [local instance] cD dh
def n4 (l:List bj):List bj:=l.zipIdx.map fun x=>⟨x.1.kind,(x.2:Int)+1,1,x.1.note⟩
theorem Vg (l:List bj):(n4 l).length=l.length:=by unfold n4;simp
theorem afy (l:List bj) (e:bj):n4 (l++[e])=n4 l++[⟨e.kind,(l.length:Int)+1,1,e.note⟩]:=by
 unfold n4
 rw[List.zipIdx_append,List.map_append]
 simp
theorem afz {l:List bj} (hl:l.length≤1000000):aU (fun v4:(Int×(List bj))=>ab (aA v4.1 (v4.2.length:Int)) (ar (az (v4.1+1)) <| ar ((leI 0 v4.1)&&(aA v4.1 (v4.2.length:Int))) <| aa (av v4.2 v4.1) fun v5=>ar ((leI 0 v4.1)&&(aA v4.1 ((List.set v4.2 (Int.toNat v4.1) (⟨v5.kind,(v4.1+1),v5.mc,v5.note⟩:bj)).length:Int))) <| aa (av (List.set v4.2 (Int.toNat v4.1) (⟨v5.kind,(v4.1+1),v5.mc,v5.note⟩:bj)) v4.1) fun v6=>ar (az (v4.1+1)) <| some (.inl ((v4.1+1),(List.set (List.set v4.2 (Int.toNat v4.1) (⟨v5.kind,(v4.1+1),v5.mc,v5.note⟩:bj)) (Int.toNat v4.1) (⟨v6.kind,v6.clock,1,v6.note⟩:bj))))) (some (.inr v4.2))) (0,l)=some (n4 l):=by
 have WW:∀ {α:Type} (A B:List α) (x y:α),(A++x::B).set A.length y=A++y::B:=by
  intro α A B x y
  rw[List.set_append_right _ _ (Nat.le_refl _)];simp
 have RD:∀ {α:Type} (A B:List α) (x:α),av (A++x::B) (A.length:Int)=some x:=fun A B x=>aW (by rw[List.getElem?_append_right (Nat.le_refl _)];simp)
 have key:∀ (n k:Nat),k+n=l.length→aU (fun v4:(Int×(List bj))=>ab (aA v4.1 (v4.2.length:Int)) (ar (az (v4.1+1)) <| ar ((leI 0 v4.1)&&(aA v4.1 (v4.2.length:Int))) <| aa (av v4.2 v4.1) fun v5=>ar ((leI 0 v4.1)&&(aA v4.1 ((List.set v4.2 (Int.toNat v4.1) (⟨v5.kind,(v4.1+1),v5.mc,v5.note⟩:bj)).length:Int))) <| aa (av (List.set v4.2 (Int.toNat v4.1) (⟨v5.kind,(v4.1+1),v5.mc,v5.note⟩:bj)) v4.1) fun v6=>ar (az (v4.1+1)) <| some (.inl ((v4.1+1),(List.set (List.set v4.2 (Int.toNat v4.1) (⟨v5.kind,(v4.1+1),v5.mc,v5.note⟩:bj)) (Int.toNat v4.1) (⟨v6.kind,v6.clock,1,v6.note⟩:bj))))) (some (.inr v4.2))) ((k:Int),n4 (l.take k)++l.drop k)=some (n4 l):=by
  intro n
  induction n with
  | zero=>
   intro k hk
   have:k=l.length:=by omega
   subst this
   rw[List.take_length,List.drop_length,List.append_nil]
   refine kv ?_
   dsimp only
   rw[ak (decide_eq_false (by rw[Vg];omega))]
  | succ n ih=>
   intro k hk
   have aN:k < l.length:=by omega
   have hx:l[k]?=some l[k]:=List.getElem?_eq_getElem aN
   have hd:l.drop k=l[k]::l.drop (k+1):=List.drop_eq_getElem_cons aN
   have hA:(n4 (l.take k)).length=k:=by rw[Vg,List.length_take];omega
   have hs:=afy (l.take k) l[k]
   rw[←wD hx,List.length_take,Nat.min_eq_left (by omega)] at hs
   have:=ih (k+1) (by omega)
   rw[hs,List.append_assoc,List.singleton_append] at this
   rw[hd]
   generalize l[k]=e at *
   generalize l.drop (k+1)=B at *
   generalize n4 (l.take k)=A at *
   subst hA
   rw[←this]
   refine oQ ?_
   dsimp only
   rw[ai (decide_eq_true (by rw[List.length_append,List.length_cons];omega)),aJ (by omega),cq (by rw[Bool.and_eq_true];exact⟨decide_eq_true (by omega),decide_eq_true (by rw[List.length_append,List.length_cons];omega)⟩),RD,af]
   rw[show Int.toNat (A.length:Int)=A.length from rfl,WW,cq (by rw[Bool.and_eq_true];exact⟨decide_eq_true (by omega),decide_eq_true (by rw[List.length_append,List.length_cons];omega)⟩),RD,af,aJ (by omega),WW]
   rfl
 have:=key l.length 0 (by omega)
 exact this
theorem afi {pre rest:List Int} {x:Int} (hU:(pre++x::rest).Pairwise (· < ·)):rK (pre++x::rest) x=rest.head?.getD 0:=by
 unfold rK
 rw[List.pairwise_append] at hU
 rw[List.find?_append,List.find?_eq_none.2 (fun y hy=>by
  have:=hU.2.2 y hy x (by simp)
  simp;omega),Option.none_or,List.find?_cons,decide_eq_false (by omega)]
 cases rest with
 | nil=>rfl
 | cons y r=>
  have:=(List.pairwise_cons.1 hU.2.1).1 y (by simp)
  rw[List.find?_cons,decide_eq_true this];rfl
theorem ajd {σ ρ:Type} {step:Int×σ→Option ((Int×σ)⊕ρ)} {U:List Int} (hU:U.Pairwise (· < ·)) (g:Int→σ→σ) (fin:σ→ρ) (Inv:Nat→σ→Prop)
  (h:∀ (k:Nat) x z,U[k]?=some x→Inv k z→step (x,z)=some (.inl (rK U x,g x z))) (hinv:∀ (k:Nat) x z,U[k]?=some x→Inv k z→Inv (k+1) (g x z))
  (h0:∀ z,Inv U.length z→step (0,z)=some (.inr (fin z))) (z:σ) (hz:Inv 0 z):aU step (U.head?.getD 0,z)=some (fin (U.foldl (fun z x=>g x z) z)):=by
 have key:∀ (Cf pre:List Int) (z:σ),U=pre++Cf→Inv pre.length z→aU step (Cf.head?.getD 0,z)=some (fin (Cf.foldl (fun z x=>g x z) z)):=by
  intro Cf
  induction Cf with
  | nil=>
   intro pre z he hi
   rw[List.append_nil] at he
   rw[←he] at hi
   exact kv (h0 z hi)
  | cons x rest ih=>
   intro pre z he hi
   have hx:U[pre.length]?=some x:=by rw[he,List.getElem?_append_right (Nat.le_refl _)];simp
   have hn:rK U x=rest.head?.getD 0:=by
    rw[he];rw[he] at hU;exact afi hU
   rw[List.foldl_cons]
   have hs:=h pre.length x z hx hi
   rw[hn] at hs
   have:=ih (pre++[x]) (g x z) (by rw[he,List.append_assoc];rfl) (by rw[List.length_append];exact hinv _ x z hx hi)
   rw[←this]
   exact oQ hs
 exact key U [] z rfl hz
theorem GZ:∀ {l m:List Int},l.Pairwise (· < ·)→m.Pairwise (· < ·)→(∀ x,x∈l↔x∈m)→l=m
 | [],[],_,_,_=>rfl
 | [],y::m,_,_,h=>absurd ((h y).2 (by simp)) (by simp)
 | x::l,[],_,_,h=>absurd ((h x).1 (by simp)) (by simp)
 | x::l,y::m,hl,hm,h=>by
  rw[List.pairwise_cons] at hl hm
  have e:x=y:=by
   have h1:=(h x).1 (by simp)
   have h2:=(h y).2 (by simp)
   rcases List.mem_cons.1 h1 with h1 | h1
   ·exact h1
   rcases List.mem_cons.1 h2 with h2 | h2
   ·exact h2.symm
   have:=hm.1 x h1
   have:=hl.1 y h2
   omega
  subst e
  congr 1
  refine GZ hl.2 hm.2 fun z=>⟨fun hz=>?_,fun hz=>?_⟩
  ·rcases List.mem_cons.1 ((h z).1 (by simp[hz])) with rfl | h'
   ·exact absurd (hl.1 z hz) (by omega)
   exact h'
  rcases List.mem_cons.1 ((h z).2 (by simp[hz])) with rfl | h'
  ·exact absurd (hm.1 z hz) (by omega)
  exact h'
end Go.Proofs.YtfhkmedbfiphbaaGreatDoor
namespace Go.Proofs.YtfhkmedbfiphbaaGreatDoor
open Go Go.aj Go.Sy
attribute [local instance] cD dh
def mN:List Int→List Int
 | []=>[]
 | x::l=>if(mN l).contains x then mN l else x::mN l
theorem II (y:Int):∀ l:List Int,y∈mN l↔y∈l
 | []=>by simp[mN]
 | x::l=>by
  have ih:=II y l
  unfold mN
  split
  ·rename_i h
   rw[ih,List.mem_cons]
   have hx:x∈l:=(II x l).1 (by simpa using h)
   exact⟨.inr,fun h=>by rcases h with rfl | h;exact hx;exact h⟩
  rw[List.mem_cons,List.mem_cons,ih]
theorem IJ:∀ l:List Int,(mN l).Nodup
 | []=>by simp[mN]
 | x::l=>by
  unfold mN
  split
  ·exact IJ l
  rename_i h
  rw[List.nodup_cons]
  exact⟨by simpa using h,IJ l⟩
theorem E0 (a b:Int):Go.leI a b=true↔a≤b:=by unfold Go.leI;simp
theorem tT (x:Int) (l:List Int):x∈dG l↔x∈l:=(List.mergeSort_perm _ _).mem_iff
theorem Cb {l:List Int} (h:l.Nodup):(dG l).Pairwise (· < ·):=by
 have h1:(dG l).Pairwise fun a b=>Go.leI a b=true:=List.pairwise_mergeSort (fun a b c h1 h2=>by rw[E0] at *;omega) (fun a b=>by rw[Bool.or_eq_true,E0,E0];omega) l
 have h2:(dG l).Nodup:=(List.mergeSort_perm l Go.leI).nodup_iff.2 h
 refine(h1.and h2).imp fun {a b} dg=>?_
 have h3:=(E0 a b).1 dg.1
 have:=dg.2
 omega
def oi (a b:List ag):List Int:=dG (mN ((a++b).map ag.id))
theorem Hr (a b:List ag):(oi a b).Pairwise (· < ·):=Cb (IJ _)
theorem Hs (a b:List ag) (x:Int):x∈oi a b↔x∈(a++b).map ag.id:=by unfold oi;rw[tT,II]
theorem zT (l:List ag) (x:Int):dr l x=true↔x∈l.map ag.id:=by
 unfold dr
 rw[List.any_eq_true,List.mem_map]
 exact⟨fun⟨n,h1,h2⟩=>⟨n,h1,by simpa using h2⟩,fun⟨n,h1,h2⟩=>⟨n,h1,by simpa using h2⟩⟩
theorem GL {l:List Int} (h:l.Pairwise (· < ·)) (p:Int→Bool):(l.filter p).Pairwise (· < ·):=h.sublist List.filter_sublist
theorem Z1 {a b:List ag} (ha:(a.map ag.id).Nodup):(oi a b).filter (fun id=> !dr b id)=(dG (a.map ag.id)).filter fun id=> !dr b id:=by
 refine GZ (GL (Hr a b) _) (GL (Cb ha) _) fun x=>?_
 rw[List.mem_filter,List.mem_filter,Hs,tT,List.map_append,List.mem_append]
 constructor
 ·rintro⟨h1 | h1,h2⟩
  ·exact⟨h1,h2⟩
  rw[←zT] at h1;rw[h1] at h2;cases h2
 rintro⟨h1,h2⟩;exact⟨.inl h1,h2⟩
theorem agJ {a b:List ag} (hb:(b.map ag.id).Nodup):(oi a b).filter (fun id=>dr b id&&gI a b id)=(dG (b.map ag.id)).filter (gI a b):=by
 refine GZ (GL (Hr a b) _) (GL (Cb hb) _) fun x=>?_
 rw[List.mem_filter,List.mem_filter,Hs,tT,List.map_append,List.mem_append,Bool.and_eq_true,zT]
 constructor
 ·rintro⟨_,h2,h3⟩;exact⟨h2,h3⟩
 rintro⟨h1,h2⟩;exact⟨.inr h1,h1,h2⟩
def gU (a b:List ag) (x:Int) (z:List bj×List bj):List bj×List bj:=if dr b x=true then(if gI a b x=true then(z.1,z.2++[⟨1,0,0,jn b x⟩]) else z) else(z.1++[⟨2,0,0,l5 x⟩],z.2)
theorem RA (a b:List ag):∀ (l:List Int) (z:List bj×List bj),l.foldl (fun z x=>gU a b x z) z=(z.1++(l.filter fun id=> !dr b id).map (fun id=>(⟨2,0,0,l5 id⟩:bj)),z.2++(l.filter fun id=>dr b id&&gI a b id).map fun id=>(⟨1,0,0,jn b id⟩:bj))
 | [],z=>by simp
 | x::l,z=>by
  rw[List.foldl_cons,RA a b l,List.filter_cons,List.filter_cons]
  unfold gU
  by_cases h1:dr b x=true
  ·rw[if_pos h1,h1]
   by_cases h2:gI a b x=true
   ·rw[if_pos h2,h2];simp
   rw[Bool.not_eq_true] at h2
   rw[h2];simp
  rw[Bool.not_eq_true] at h1
  rw[h1];simp
theorem afx (raw:List (Int×ag)):n4 (raw.map fun r=>(⟨r.1,0,0,r.2⟩:bj))=gK raw:=by
 unfold n4 gK
 rw[List.zipIdx_map,List.map_map]
 rfl
end Go.Proofs.YtfhkmedbfiphbaaGreatDoor
namespace Go.Proofs.YtfhkmedbfiphbaaGreatDoor
open Go Go.aj Go.Sy
attribute [local instance] cD dh
theorem s7 {l:List ag} {id:Int}:(dr l id=false∧(ix l fun n=>decide (n.id=id)) = -1)∨∃ k:Nat,dr l id=true∧(ix l fun n=>decide (n.id=id))=(k:Int)∧l[k]?=some (jn l id):=by
 rcases mq l fun n=>decide (n.id=id) with ⟨h1,h2⟩ | ⟨k,x,h1,h2,h3,h4⟩
 ·left
  refine⟨?_,h2⟩
  unfold dr
  rw[zC,h1];rfl
 right
 refine⟨k,?_,h3,?_⟩
 ·unfold dr;rw[zC,h2];rfl
 unfold jn;rw[h2,h1];rfl
theorem ahc {s:Score} {v:View} (hb:s.bars.length≤1048576) (hv:(c6 v).length≤1000000) (h:(ct s 1 v).2.2=0→eG s.bars (ct s 1 v).1.notes∧cL s):Gh (s,v)=some (if(ct s 1 v).2.2=0 then(gK (ev s.notes (ct s 1 v).1.notes),0) else([],(ct s 1 v).2.2)):=by
 unfold Gh
 dsimp only
 rw[Wd hb hv,af]
 by_cases h0:(ct s 1 v).2.2=0
 ·obtain⟨ht,hs⟩:=h h0
  rw[ak (by simp[h0]),if_pos h0]
  generalize (ct s 1 v).1.notes=b at ht
  have ha:=hs.2.2.2.1
  generalize s.notes=a at ha
  have ha2:=ha.2.1
  have jS:=ht.2.1
  have KU:∀ n∈a,1≤n.id∧n.id≤1000000:=fun n hn=>by
   obtain⟨k,b,_,_,hf,_⟩:=n3 (ha.2.2.1 n hn)
   exact hf.2.2.2.2.1
  have KV:∀ n∈b,1≤n.id∧n.id≤1000000:=fun n hn=>by
   obtain⟨k,b,_,_,hf,_⟩:=n3 (ht.2.2.1 n hn)
   exact hf.2.2.2.2.1
  have dO:∀ x∈(a++b).map ag.id,1≤x:=fun x hx=>by
   obtain⟨n,hn,rfl⟩:=List.mem_map.1 hx
   rcases List.mem_append.1 hn with hn | hn
   ·exact(KU n hn).1
   exact(KV n hn).1
  have SF:∀ k,ym (a,b,k)=some (rK (oi a b) k):=fun k=>by rw[afj (by omega) (by omega),afB dO (Hr a b) (Hs a b)]
  have bO:∀ x∈oi a b,1≤x:=fun x hx=>dO x ((Hs a b x).1 hx)
  have vg:rK (oi a b) 0=(oi a b).head?.getD 0:=by
   unfold rK
   generalize oi a b=U at bO
   cases U with
   | nil=>rfl
   | cons x U=>
    have:=bO x (by simp)
    rw[List.find?_cons,decide_eq_true (by omega)];rfl
  have hUl:(oi a b).length≤40000:=by
   unfold oi
   rw[yM]
   have:∀ l:List Int,(mN l).length≤l.length:=by
    intro l
    induction l with
    | nil=>simp[mN]
    | cons x l ih=>
     unfold mN
     split
     ·simp;omega
     simp;omega
   have h1:=this ((a++b).map ag.id)
   rw[List.length_map,List.length_append] at h1
   omega
  rw[SF,af,vg]
  rw[ajd (σ:=List bj×List bj) (Hr a b) (gU a b) (fun z=>z) (fun k z=>z.1.length≤k∧z.2.length≤k) (fun k x z hx hz=>by
   have hk:=bU hx
   have hp:=bO x (List.mem_of_getElem? hx)
   dsimp only
   rw[ai (decide_eq_true (by omega)),wm (by omega),af,wm (by omega),af,SF]
   unfold gU
   rcases s7 (l:=b) (id:=x) with ⟨g1,g2⟩ | ⟨j,g1,g2,g3⟩
   ·rw[g2,ai (by decide),cq (decide_eq_true (by rw[pv];omega)),af,af,g1];rfl
   ·rw[g2,ak (by simp),g1,if_pos rfl]
    have hc:(aa (ab (aA (ix a fun n=>decide (n.id=x)) 0) (some true) (aa (av a (ix a fun n=>decide (n.id=x))) fun v7=>aa (av b (j:Int)) fun v8=>some (!(iR v7 v8)))) fun(v7:Bool)=>some v7)=some (gI a b x):=by
     unfold gI
     rcases s7 (l:=a) (id:=x) with ⟨e1,e2⟩ | ⟨i,e1,e2,e3⟩
     ·rw[e2,ai (by decide),af,e1];rfl
     rw[e2,ak (by simp),aX (aW e3),aX (aW g3),af,qH,e1];rfl
    have y4:∀ {β:Type} (o:Option Bool) (f:Bool→Option β) (z:Bool),(aa o fun v=>some v)=some z→aa o f=f z:=by
     intro β o f z h
     cases o with
     | none=>cases h
     | some y=>injection h with h;subst h;rfl
    rw[y4 _ _ _ hc]
    by_cases hh:gI a b x=true
    ·rw[ai hh,aX (aW g3),cq (decide_eq_true (by rw[pv];omega)),af,af,if_pos hh];rfl
    rw[ak (by simpa using hh),af,af,if_neg hh]) (fun k x z hx hz=>by
   unfold gU
   split
   ·split
    ·dsimp only;rw[List.length_append];simp only[List.length_cons,List.length_nil];omega
    omega
   dsimp only;rw[List.length_append];simp only[List.length_cons,List.length_nil];omega) (fun z _=>by dsimp only;rw[ak (by simp)]) ([],[]) (by simp),RA,af]
  dsimp only
  rw[List.nil_append,List.nil_append,Z1 ha.2.2.2,agJ ht.2.2.2]
  have jW:((dG (a.map ag.id)).filter fun id=> !dr b id).length≤20000:=Nat.le_trans (List.length_filter_le _ _) (by rw[yM,List.length_map];omega)
  have dQ:((dG (b.map ag.id)).filter (gI a b)).length≤20000:=Nat.le_trans (List.length_filter_le _ _) (by rw[yM,List.length_map];omega)
  have DS:List.append (((dG (a.map ag.id)).filter fun id=> !dr b id).map (fun id=>(⟨2,0,0,l5 id⟩:bj))) (((dG (b.map ag.id)).filter (gI a b)).map fun id=>(⟨1,0,0,jn b id⟩:bj))=(ev a b).map fun r=>(⟨r.1,0,0,r.2⟩:bj):=by
   unfold ev
   rw[List.map_append,List.map_map,List.map_map];rfl
  have hlen:(ev a b).length≤40000:=by unfold ev;rw[List.length_append,List.length_map,List.length_map];omega
  rw[DS,cq (decide_eq_true (by rw[List.length_map];omega)),afz (by rw[List.length_map];omega),af,afx]
 rw[ai (by simp[h0]),if_neg h0]
end Go.Proofs.YtfhkmedbfiphbaaGreatDoor
namespace Go.Proofs.YtfhkmedbfiphbaaGreatDoor
open Go Go.aj Go.Sy
attribute [local instance] cD dh
theorem ajf (s:Score) (ver:Int) (l:List ag):(jJ s ver l).2=0→cL s∧(1≤ver∧ver≤1000000)∧eG s.bars l∧gr s.parts l=0∧(jJ s ver l).1=⟨ver,s.bars,s.parts,fZ (cg s.bars) l⟩:=by
 unfold jJ
 by_cases h:cL s∧(1≤ver∧ver≤1000000)∧eG s.bars l
 ·rw[if_pos h]
  by_cases hw:gr s.parts l=0
  ·rw[if_pos hw];exact fun _=>⟨h.1,h.2.1,h.2.2,hw,rfl⟩
  rw[if_neg hw];exact fun e=>absurd e hw
 rw[if_neg h];intro e;cases e
theorem Cd (at_:List (Int×Int)) (l:List ag):(fZ at_ l).Perm l:=G9 _ l
theorem Vc {bars:List aD} {l m:List ag} (h:eG bars l) (hp:m.Perm l):eG bars m:=
 ⟨h.1,by rw[hp.length_eq];exact h.2.1,fun n hn=>h.2.2.1 n (hp.subset hn),(hp.map ag.id).nodup_iff.2 h.2.2.2⟩
def eh (s:Score) (p:Part) (v:View):List ag:=others s p++(bY s v).map (pN s p)
theorem VQ {s:Score} {ver:Int} {v:View} (h:(ct s ver v).2.2=0):(1≤ver∧ver≤1000000)∧ej s v∧∃ p,partOf s v.part=some p∧(∀ q∈bY s v,pE s p q=0)∧(eh s p v).length≤20000∧eG s.bars (eh s p v)∧gr s.parts (eh s p v)=0∧ct s ver v=(⟨ver,s.bars,s.parts,fZ (cg s.bars) (eh s p v)⟩,0,0):=by
 unfold ct at h ⊢
 by_cases h0:(1≤ver∧ver≤1000000)∧ej s v
 ·rw[if_pos h0] at h ⊢
  refine⟨h0.1,h0.2,?_⟩
  cases hp:partOf s v.part with
  | none=>rw[hp] at h;cases h
  | some p=>
   rw[hp] at h
   dsimp only at h ⊢
   unfold dX at h ⊢
   cases hf:(bY s v).find? fun q=>decide (pE s p q≠0) with
   | some q=>
    rw[hf] at h
    have:=List.find?_some hf
    simp only[ne_eq,decide_eq_true_eq] at this
    exact absurd h this
   | none=>
    rw[hf] at h
    dsimp only at h ⊢
    have bA:∀ q∈bY s v,pE s p q=0:=fun q hq=>by
     have:=List.find?_eq_none.1 hf q hq
     simpa using this
    unfold qP at h ⊢
    by_cases hl:20000 < (others s p++(bY s v).map (pN s p)).length
    ·rw[if_pos hl] at h;cases h
    rw[if_neg hl] at h ⊢
    by_cases hw:(jJ s ver (others s p++(bY s v).map (pN s p))).2=0
    ·obtain⟨w1,w2,w3,w4,w5⟩:=ajf s ver _ hw
     rw[if_neg (by simp[hw]),w5]
     exact⟨p,rfl,bA,by unfold eh;omega,w3,w4,rfl⟩
    rw[if_pos hw] at h;exact absurd h hw
 rw[if_neg h0] at h;cases h
theorem BZ {s:Score} {ver:Int} {v:View} (h:(ct s ver v).2.2=0):eG s.bars (ct s ver v).1.notes∧cL s:=by
 obtain⟨_,hv,p,_,_,_,hn,_,he⟩:=VQ h
 rw[he]
 exact⟨Vc hn (Cd _ _),hv.1⟩
end Go.Proofs.YtfhkmedbfiphbaaGreatDoor
namespace Go.Proofs.YtfhkmedbfiphbaaGreatDoor
open Go Go.aj Go.Sy
attribute [local instance] cD dh
def qg (x:aE) (n:Int):aE:=⟨x.step,x.alter,x.au+n⟩
def mu (p:Part) (n:ag):ag:=⟨n.id,p.id,n.aZ,n.bm,n.bH,n.start,n.length,qg n.aM p.au⟩
def ke (s:Score) (p:Part):List ag:=(s.notes.filter fun n=>decide (n.part=bJ p)).map (mu p)
theorem VL {s:Score} (hs:cL s) {id:Int} {p:Part} (hp:partOf s id=some p):BK (s,id)=some (ke s p,0):=by
 have hb:=hs.2.1.1.2
 have oH:=hs.2.2.1.1.2
 have iY:=hs.2.2.2.1.2.1
 obtain⟨dR,fM,an⟩:=od hs hp
 have Aj:=dR.2.2.2.1
 unfold BK
 dsimp only
 rw[B8 (by omega),af,ak (by simp[hs]),W2 (by omega),af]
 dsimp only
 unfold partOf at hp
 rcases mq s.parts fun q=>decide (q.id=id) with ⟨h1,h2⟩ | ⟨k,q,h1,h2,h3,h4⟩
 ·rw[h1] at hp;cases hp
 rw[h2] at hp
 injection hp with hp;subst hp
 rw[h3,ak (by simp),show max (k:Int) 0=(k:Int) by omega,aX (aW h1)]
 have hpd:Gp (s,q)=some (s,bJ q,q):=by
  unfold Gp bJ
  dsimp only
  by_cases h0:q.of=0
  ·rw[ai (by simp[h0]),af,if_pos h0]
  rw[ak (by simp[h0]),af,if_neg h0]
 rw[hpd,af]
 dsimp only
 rw[fg (σ:=List ag) (st:=fun z k=>(k,z)) (l:=s.notes) (fun z n=> .inl (if decide (n.part=bJ q)=true then z++[mu q n] else z)) (fun z=>z) (fun k z=>z.length≤k) (fun j n z hx hz=>by
  have hj:=bU hx
  have hn:=hs.2.2.2.1.2.2.1 n (List.mem_of_getElem? hx)
  obtain⟨_,_,_,_,hf,_⟩:=n3 hn
  have ho:=hf.2.2.2.2.2.2.2.2.2.2
  dsimp only
  rw[ai (decide_eq_true (by omega)),aX (aW hx)]
  by_cases h:n.part=bJ q
  ·rw[ak (by simp[h]),aJ (by omega),cq (decide_eq_true (by rw[pv];omega)),af,aJ (by omega),if_pos (decide_eq_true h)];rfl
  ·rw[ai (by simp[h]),af,aJ (by omega),if_neg (by simpa using h)];rfl) (fun j n z z' hx hz hf=>by
  injection hf with hf;subst hf
  split
  ·rw[List.length_append];simp only[List.length_cons,List.length_nil];omega
  omega) (fun z _=>by dsimp only;rw[ak (by simp)]) [] (by simp),lC (fun(z:List ag) (n:ag)=>if decide (n.part=bJ q)=true then z++[mu q n] else z) _ _ (fun _ _ _=>rfl),af]
 have key:∀ (l:List ag) (z:List ag),l.foldl (fun z n=>if decide (n.part=bJ q)=true then z++[mu q n] else z) z=z++(l.filter fun n=>decide (n.part=bJ q)).map (mu q):=by
  intro l
  induction l with
  | nil=>intro z;simp
  | cons n l ih=>
   intro z
   rw[List.foldl_cons,ih,List.filter_cons]
   by_cases h:decide (n.part=bJ q)=true
   ·rw[if_pos h,if_pos h];simp
   rw[if_neg h,if_neg h]
 rw[key]
 rfl
end Go.Proofs.YtfhkmedbfiphbaaGreatDoor
namespace Go.Proofs.YtfhkmedbfiphbaaGreatDoor
open Go Go.aj Go.Sy
attribute [local instance] cD dh
def qv (p:Part) (b:aD) (n:ag):Written:=⟨n.id,n.bm,n.bH,n.start,n.length,(e8 n.aM (j6 p b.key)).1⟩
theorem ajj {p:Part} (hp:eM p) {b:aD} (hk:dS b.key) (n:ag):BR (⟨p⟩,b,n)=some (qv p b n):=by
 unfold BR
 dsimp only
 rw[ach hp hk,af]
 rfl
theorem RI {p:Part} (hp:eM p) {b:aD} (hk:dS b.key):∀ (l:List ag) (out:List Written),out.length+l.length≤1000000→aU (fun v6:((List ag)×(List Written))=>aa (ab (aA 0 (v6.1.length:Int)) (aa (av v6.1 0) fun v7=>some (ay v7.aZ b.id)) (some false)) fun(v7:Bool)=>ab v7 (aa (av v6.1 0) fun v8=>aa (BR (⟨p⟩,(b,v8))) fun v9=>ar (decide ((List.append v6.2 (v9::([]:List Written))).length*80≤140737488355328∧(List.append v6.2 (v9::([]:List Written))).length≤9223372036854775807)) <| ar ((leI 0 1)&&(leI 1 (v6.1.length:Int))) <| some (.inl ((List.drop (Int.toNat 1) v6.1),(List.append v6.2 (v9::([]:List Written)))))) (some (.inr (v6.1,v6.2)))) (l,out)=some (l.dropWhile (fun n=>decide (n.aZ=b.id)),out++(l.takeWhile fun n=>decide (n.aZ=b.id)).map (qv p b))
 | [],out,_=>by
  refine(kv (r:=(([]:List ag),out)) ?_).trans ?_
  ·dsimp only
   rw[ak (by simp),af,ak rfl]
  simp
 | n::l,out,hl=>by
  have h0:av (n::l) (0:Int)=some n:=rfl
  simp only[List.length_cons] at hl
  rw[List.dropWhile_cons,List.takeWhile_cons]
  by_cases h:n.aZ=b.id
  ·have hd:decide (n.aZ=b.id)=true:=decide_eq_true h
   rw[oQ (z':=(l,out++[qv p b n])) (by
    dsimp only
    rw[ai (decide_eq_true (by simp only[List.length_cons];omega)),h0,af,af,ai (by simp[h]),af,ajj hp hk,af,cq (decide_eq_true (by rw[pv];omega)),cq (by
     rw[Bool.and_eq_true];exact⟨by decide,decide_eq_true (by simp only[List.length_cons];omega)⟩)]
    rfl),RI hp hk l _ (by rw[List.length_append];simp only[List.length_cons,List.length_nil];omega),if_pos hd,if_pos hd]
   simp
  have hd:¬ decide (n.aZ=b.id)=true:=by simpa using h
  rw[if_neg hd,if_neg hd]
  refine(kv (r:=(n::l,out)) ?_).trans ?_
  ·dsimp only
   rw[ai (decide_eq_true (by simp only[List.length_cons];omega)),h0,af,af,ak (by simp[h])]
  simp
def getM (p:Part):List aD→List ag→List br
 | [],_=>[]
 | b::bs,l=>⟨b.id,nW p b.key,b.length,(l.takeWhile fun n=>decide (n.aZ=b.id)).map (qv p b)⟩::getM p bs (l.dropWhile fun n=>decide (n.aZ=b.id))
def gZ (s:Score) (p:Part):View:=⟨p.id,getM p s.bars (ke s p)⟩
def DG (p:Part) (z:List ag×List br) (b:aD):List ag×List br:=(z.1.dropWhile (fun n=>decide (n.aZ=b.id)),z.2++[⟨b.id,nW p b.key,b.length,(z.1.takeWhile fun n=>decide (n.aZ=b.id)).map (qv p b)⟩])
theorem Ry (p:Part):∀ (bs:List aD) (z:List ag×List br),(bs.foldl (DG p) z).2=z.2++getM p bs z.1
 | [],z=>by simp[getM]
 | b::bs,z=>by
  rw[List.foldl_cons,Ry p bs]
  show(z.2++[_])++getM p bs _=z.2++(_::getM p bs _)
  rw[List.append_assoc]
  rfl
theorem Z0 {α:Type} (q:α→Bool) (l:List α):(l.dropWhile q).length≤l.length:=(List.dropWhile_sublist q).length_le
theorem get_eq {s:Score} (hs:cL s) {id:Int} {p:Part} (hp:partOf s id=some p):rT (s,id)=some (gZ s p,0):=by
 have hb:=hs.2.1.1.2
 have oH:=hs.2.2.1.1.2
 have iY:=hs.2.2.2.1.2.1
 obtain⟨dR,fM,an⟩:=od hs hp
 have abQ:(ke s p).length≤20000:=by unfold ke;rw[List.length_map];exact Nat.le_trans (List.length_filter_le _ _) iY
 unfold rT
 dsimp only
 rw[VL hs hp,af,ak (by simp),NM (by omega),af,hp]
 dsimp only
 rw[fg (σ:=List ag×List br) (st:=fun z k=>(k,z)) (l:=s.bars) (fun z b=> .inl (DG p z b)) (fun z=>z.2) (fun k z=>z.1.length≤20000∧z.2.length≤k) (fun k b z hx hz=>by
  have hk:=bU hx
  have kN:=qG hs (List.mem_of_getElem? hx)
  dsimp only
  rw[ai (decide_eq_true (by omega)),aX (aW hx),RI dR kN.2.2.2 z.1 [] (by simp only[List.length_nil];omega),af]
  dsimp only
  rw[XR dR kN.2.2.2,af,cq (decide_eq_true (by rw[pv];omega)),aJ (by omega)]
  rfl) (fun k b z z' hx hz hf=>by
  injection hf with hf;subst hf
  unfold DG
  dsimp only
  have:=Z0 (fun n=>decide (n.aZ=b.id)) z.1
  rw[List.length_append]
  simp only[List.length_cons,List.length_nil]
  omega) (fun z _=>by dsimp only;rw[ak (by simp)]) (ke s p,[]) ⟨abQ,by simp⟩,lC (DG p) _ _ (fun _ _ _=>rfl),af,Ry]
 rfl
end Go.Proofs.YtfhkmedbfiphbaaGreatDoor
namespace Go.Proofs.YtfhkmedbfiphbaaGreatDoor
open Go Go.aj Go.Sy
attribute [local instance] cD dh
def sE (p:Part) (q:aD×Written):Int:=(dx p q.1 q.2).2
def sN (p:Part) (q:aD×Written):ag:=⟨q.2.id,p.id,q.1.id,q.2.bm,q.2.bH,q.2.start,q.2.length,(dx p q.1 q.2).1⟩
open Classical in
noncomputable def Ha (s:Score) (v:View):List ag×Int:=
 if ej s v then(match partOf s v.part with
  | some p=>dX (sE p) (sN p) (fun _=>(([]:List ag),(3:Int))) (fun l=>(l,0)) (bY s v) []
  | none=>([],1)) else([],1)
theorem aif {s:Score} {v:View} (hb:s.bars.length≤1048576) (hv:(c6 v).length≤1000000):Gy (s,v)=some (Ha s v):=by
 unfold Gy Ha
 dsimp only
 rw[XO hb hv,af]
 by_cases h1:ej s v
 ·obtain⟨hs,hlen,⟨p,hp,bA⟩,h4,h5⟩:=h1
  have h1:ej s v:=⟨hs,hlen,⟨p,hp,bA⟩,h4,h5⟩
  obtain⟨dR,fM,an⟩:=od hs hp
  have oH:=hs.2.2.1.1.2
  rw[ak (by simp[h1]),NM (by omega),af,if_pos h1,hp]
  dsimp only
  rw[fg (σ:=List ag) (st:=fun z k=>(k,z)) (l:=v.bg.zip s.bars) (fun z x=>dX (ρ:=(List ag)⊕((List ag)⊕(List ag×Int))) (fun w=>sE p (x.2,w)) (fun w=>sN p (x.2,w)) (fun w=> .inr (.inr ([],3))) (fun z=> .inl z) x.1.notes z) (fun z=> .inl z) (fun k z=>z.length≤20000+1000000*k) (fun k x z hx hz=>by
   obtain⟨q1,q2⟩:=oA hx
   have hk:=bU q1
   have hm:=List.mem_of_getElem? q1
   have kN:=qG hs (List.mem_of_getElem? q2)
   have hn:=pZ hm
   have zU:=hs.2.1.1.2
   have sP:=List.all_eq_true.1 bA x (List.mem_of_getElem? hx)
   unfold j8 at sP
   simp only[Bool.and_eq_true,decide_eq_true_eq,List.all_eq_true] at sP
   have abb:x.1.aZ=x.2.id:=sP.1.1.1
   dsimp only
   rw[ai (decide_eq_true (by omega)),aX (aW q1)]
   rw[fg (σ:=List ag) (st:=fun z k=>(k,z)) (l:=x.1.notes) (fun z w=>if sE p (x.2,w)=0 then .inl (z++[sN p (x.2,w)]) else .inr (.inr (.inr (.inr ([],3))))) (fun z=> .inl z) (fun j zz=>zz.length≤z.length+j) (fun j w zz hw vq=>by
    have hj:=bU hw
    dsimp only
    rw[ai (decide_eq_true (by omega)),aX (aW hw),aX (aW q2),Tb dR kN.2.2.2,af]
    have fW:e8 w.aM (cQ (j6 p x.2.key))=dx p x.2 w:=rfl
    have sT:sE p (x.2,w)=(dx p x.2 w).2:=rfl
    rw[fW,sT]
    by_cases he:(dx p x.2 w).2=0
    ·rw[ak (by simp[he]),cq (decide_eq_true (by rw[pv];omega)),aJ (by omega),if_pos he,abb];rfl
    ·rw[ai (by simp[he]),if_neg he]) (fun j w zz X4 hw vq hf=>by
    split at hf
    ·injection hf with hf;subst hf;rw[List.length_append];simp only[List.length_cons,List.length_nil];omega
    cases hf) (fun zz _=>by dsimp only;rw[ak (by simp)]) z (by omega)]
   rw[DB (fun w=>sE p (x.2,w)) (fun w=>sN p (x.2,w))]
   unfold dX
   cases (x.1.notes.find? fun w=>decide (sE p (x.2,w)≠0)) with
   | some w=>rfl
   | none=>dsimp only;rw[fQ,aJ (by omega)];rfl) (fun k x z z' hx hz hf=>by
   obtain⟨q1,q2⟩:=oA hx
   have hn:=pZ (List.mem_of_getElem? q1)
   have:=I8 hf
   omega) (fun z _=>by
   dsimp only
   rw[ak (decide_eq_false (by rw[List.length_zip];omega))]) [] (by simp),DC (sE p) (sN p) (fun q=>Sum.inr ([],3))]
  rw[show((v.bg.zip s.bars).flatMap fun x=>x.1.notes.map fun w=>(x.2,w))=bY s v from rfl]
  unfold dX
  cases (bY s v).find? fun q=>decide (sE p q≠0) with
  | some q=>rfl
  | none=>rfl
 rw[ai (by simp[h1]),if_neg h1]
end Go.Proofs.YtfhkmedbfiphbaaGreatDoor
namespace Go.Proofs.YtfhkmedbfiphbaaGreatDoor
open Go Go.aj Go.Sy
attribute [local instance] cD dh
theorem af9 (a n:Int):pl (kF a n)=a:=by unfold pl kF;dsimp only;omega
theorem Vh (a n:Int):num (kF a n)=n:=by unfold num kF;dsimp only;omega
theorem aaN {i:Interval}:dq (cQ i)↔dq i:=by unfold dq cQ;dsimp only;omega
theorem Yq (i:Interval):cQ (cQ i)=i:=by unfold cQ;cases i;simp
theorem N6 {x:aE} {i:Interval} (h:(e8 x i).2=0):e8 (e8 x i).1 (cQ i)=(x,0):=by
 unfold e8 at h
 by_cases h1:bZ x∧dq i
 ·rw[if_pos h1] at h
  by_cases h2:bZ (kF (pl x+i.steps) (num x+i.bG))
  ·have e:e8 x i=(kF (pl x+i.steps) (num x+i.bG),0):=by unfold e8;rw[if_pos h1,if_pos h2]
   rw[e]
   unfold e8
   dsimp only
   rw[af9,Vh,show pl x+i.steps+(cQ i).steps=pl x by unfold cQ;dsimp only;omega,show num x+i.bG+(cQ i).bG=num x by unfold cQ;dsimp only;omega,Ot h1.1,if_pos ⟨h2,aaN.2 h1.2⟩,if_pos h1.1]
  rw[if_neg h2] at h;cases h
 rw[if_neg h1] at h;cases h
theorem X8 {x:aE} {i:Interval} (h:(e8 x i).2=0):bZ x∧dq i∧bZ (e8 x i).1:=by
 unfold e8 at h ⊢
 by_cases h1:bZ x∧dq i
 ·rw[if_pos h1] at h ⊢
  by_cases h2:bZ (kF (pl x+i.steps) (num x+i.bG))
  ·rw[if_pos h2];exact⟨h1.1,h1.2,h2⟩
  rw[if_neg h2] at h;cases h
 rw[if_neg h1] at h;cases h
end Go.Proofs.YtfhkmedbfiphbaaGreatDoor
namespace Go.Proofs.YtfhkmedbfiphbaaGreatDoor
open Go Go.aj Go.Sy
attribute [local instance] cD dh
theorem QA {α:Type} {q:α→Bool}:∀ {l:List α},(l.Pairwise fun n m=>q m=true→q n=true)→l.takeWhile q=l.filter q∧l.dropWhile q=l.filter fun x=> !q x
 | [],_=>⟨rfl,rfl⟩
 | x::l,h=>by
  rw[List.pairwise_cons] at h
  obtain⟨i1,i2⟩:=QA h.2
  by_cases hx:q x=true
  ·rw[List.takeWhile_cons,List.dropWhile_cons,List.filter_cons,List.filter_cons,if_pos hx,if_pos hx,if_pos hx,if_neg (by simp[hx]),i1,i2]
   exact⟨rfl,rfl⟩
  have bS:∀ y∈l,q y=false:=fun y hy=>by
   cases hq:q y
   ·rfl
   exact absurd (h.1 y hy hq) hx
  rw[List.takeWhile_cons,List.dropWhile_cons,List.filter_cons,List.filter_cons,if_neg hx,if_neg hx,if_neg hx,if_pos (by simpa using hx)]
  refine⟨(List.filter_eq_nil_iff.2 fun y hy=>by simp[bS y hy]).symm,?_⟩
  congr 1
  exact(List.filter_eq_self.2 fun y hy=>by simp[bS y hy]).symm
end Go.Proofs.YtfhkmedbfiphbaaGreatDoor
namespace Go.Proofs.YtfhkmedbfiphbaaGreatDoor
open Go Go.aj Go.Sy
attribute [local instance] cD dh
def ou (bs:List aD) (id:Int):Nat:=bs.findIdx fun b=>decide (b.id=id)
def rH (p:Part) (l:List ag) (b:aD):br:=⟨b.id,nW p b.key,b.length,(l.filter fun n=>decide (n.aZ=b.id)).map (qv p b)⟩
theorem RE (p:Part):∀ (bs:List aD) (l:List ag),(bs.map aD.id).Nodup→(l.Pairwise fun n m=>ou bs n.aZ≤ou bs m.aZ)→getM p bs l=bs.map (rH p l)
 | [],l,_,_=>rfl
 | b::bs,l,hn,hp=>by
  simp only[List.map_cons,List.nodup_cons,List.mem_map] at hn
  have h0:∀ id,ou (b::bs) id=if b.id=id then 0 else ou bs id+1:=by
   intro id
   unfold ou
   rw[List.findIdx_cons]
   by_cases h:b.id=id<;>simp[h]
  obtain⟨c1,c2⟩:=QA (q:=fun n:ag=>decide (n.aZ=b.id)) (l:=l) (hp.imp fun {n m} h hm=>by
   have hm:m.aZ=b.id:=by simpa using hm
   rw[h0,h0,if_pos hm.symm] at h
   by_cases hb:b.id=n.aZ
   ·simp[hb]
   rw[if_neg hb] at h;omega)
  show _::getM p bs _=_
  rw[List.map_cons,c1,c2,RE p bs _ hn.2 (by
   refine List.Pairwise.imp_of_mem ?_ (hp.sublist List.filter_sublist)
   intro n m Af Kf h
   have e1:=(List.mem_filter.1 Af).2
   have e2:=(List.mem_filter.1 Kf).2
   simp only[Bool.not_eq_true',decide_eq_false_iff_not] at e1 e2
   rw[h0,h0,if_neg (Ne.symm e1),if_neg (Ne.symm e2)] at h
   omega)]
  congr 1
  refine List.map_congr_left fun b' bI=>?_
  have bc:b'.id≠b.id:=fun e=>hn.1 ⟨b',bI,e⟩
  unfold rH
  rw[List.filter_filter]
  congr 2
  refine List.filter_congr fun n _=>?_
  by_cases h:n.aZ=b'.id
  ·simp[h,bc]
  simp[h]
end Go.Proofs.YtfhkmedbfiphbaaGreatDoor
namespace Go.Proofs.YtfhkmedbfiphbaaGreatDoor
open Go Go.aj Go.Sy
attribute [local instance] cD dh
theorem OD {bars:List aD} {id:Int} {k:Nat} (h:(ix bars fun b=>decide (b.id=id))=(k:Int)):ou bars id=k:=by
 unfold ix at h
 cases hf:bars.findIdx? fun b=>decide (b.id=id) with
 | none=>rw[hf] at h;dsimp only at h;omega
 | some i=>
  rw[hf] at h
  dsimp only at h
  have:=(List.findIdx?_eq_some_iff_findIdx_eq.1 hf).2
  unfold ou
  omega
theorem afu {s:Score} (hs:cL s):s.notes.Pairwise fun n m=>ou s.bars n.aZ≤ou s.bars m.aZ:=by
 have lJ:=yL (Nt (A8 (cg s.bars))) s.notes
 rw[show qo (bM (nK (cg s.bars))) s.notes=s.notes from hs.2.2.2.2.2] at lJ
 refine List.Pairwise.imp_of_mem ?_ lJ
 intro n m hn hm h
 have on:=hs.2.2.2.1.2.2.1 n hn
 have om:=hs.2.2.2.1.2.2.1 m hm
 obtain⟨k,b,_,_,_,e1⟩:=n3 on
 obtain⟨j,b',_,_,_,e2⟩:=n3 om
 have i1:=(Fw hs.2.1 on).1
 have i2:=(Fw hs.2.1 om).1
 rw[OD e1,OD e2]
 unfold bM nK at h
 simp only[List.zipWith_cons_cons,eD] at h
 rw[i1,i2,e1,e2] at h
 split at h
 ·omega
 omega
theorem agd {s:Score} (hs:cL s) (p:Part):(ke s p).Pairwise fun n m=>ou s.bars n.aZ≤ou s.bars m.aZ:=by
 unfold ke
 rw[List.pairwise_map]
 exact(afu hs).sublist List.filter_sublist
theorem sF {s:Score} (hs:cL s) (p:Part):gZ s p=⟨p.id,s.bars.map (rH p (ke s p))⟩:=by
 unfold gZ
 rw[RE p s.bars _ hs.2.1.2.2 (agd hs p)]
end Go.Proofs.YtfhkmedbfiphbaaGreatDoor
namespace Go.Proofs.YtfhkmedbfiphbaaGreatDoor
open Go Go.aj Go.Sy
attribute [local instance] cD dh
theorem ajg {s:Score} {ver:Int} {l:List ag} (h1:cL s) (h2:1≤ver∧ver≤1000000) (h3:eG s.bars l) (h4:gr s.parts l=0):jJ s ver l=(⟨ver,s.bars,s.parts,fZ (cg s.bars) l⟩,0):=by
 unfold jJ
 rw[if_pos ⟨h1,h2,h3⟩,if_pos h4]
theorem VP {s:Score} {ver:Int} {v:View} {p:Part} (h0:1≤ver∧ver≤1000000) (hv:ej s v) (hp:partOf s v.part=some p) (hE:∀ q∈bY s v,pE s p q=0) (hl:(eh s p v).length≤20000) (hn:eG s.bars (eh s p v)) (hw:gr s.parts (eh s p v)=0) :
  ct s ver v=(⟨ver,s.bars,s.parts,fZ (cg s.bars) (eh s p v)⟩,0,0):=by
 unfold ct
 rw[if_pos ⟨h0,hv⟩,hp]
 dsimp only
 unfold dX
 have hf:((bY s v).find? fun q=>decide (pE s p q≠0))=none:=List.find?_eq_none.2 fun q hq=>by simp[hE q hq]
 rw[hf]
 dsimp only
 unfold qP
 have e:jJ s ver (others s p++(bY s v).map (pN s p))=_:=ajg hv.1 h0 hn hw
 rw[if_neg (by show ¬ 20000 < (eh s p v).length;omega),e]
 rfl
theorem GH {s:Score} {ver:Int} {v:View} {p:Part} {q:aD×Written} (h0:1≤ver∧ver≤1000000) (hv:ej s v) (hp:partOf s v.part=some p) (hf:((bY s v).find? fun q=>decide (pE s p q≠0))=some q):ct s ver v=(jg,q.2.id,pE s p q):=by
 unfold ct
 rw[if_pos ⟨h0,hv⟩,hp]
 dsimp only
 unfold dX
 rw[hf]
theorem agn {s:Score} {ver:Int} {v:View} (h:¬ ((1≤ver∧ver≤1000000)∧ej s v)):ct s ver v=(jg,0,1):=by unfold ct;rw[if_neg h]
theorem Yu (a b:bj):CS a b=decide (a=b):=by
 obtain⟨k,c,e,n⟩:=a;obtain⟨k',c',e',n'⟩:=b
 have:CS ⟨k,c,e,n⟩ ⟨k',c',e',n'⟩=(decide (k=k')&&(decide (c=c')&&(decide (e=e')&&iR n n'))):=by
  show dJ _ _=_
  simp only[iR,cells,aC.cells]
  rfl
 rw[this,qH]
 by_cases h:k=k'<;>by_cases h2:c=c'<;>by_cases h3:e=e'<;>by_cases h4:n=n'<;>simp[h,h2,h3,h4]
theorem yz {a b:Score} (h1:a.bars.length≤1048576) (h2:a.parts.length≤1048576) (h3:a.notes.length≤1048576):oY (a,b)=some (decide (a=b)):=by
 unfold oY
 dsimp only
 rw[agZ h1,af,ag0 h2,af,agS h3,af]
 obtain⟨v,x,y,z⟩:=a;obtain⟨v',x',y',z'⟩:=b
 by_cases h:v=v'<;>by_cases k1:x=x'<;>by_cases k2:y=y'<;>by_cases k3:z=z'<;>simp[h,k1,k2,k3,ab,ay,aa]
theorem ahd {a b:List bj} (ha:a.length≤1048576):MC (a,b)=some (decide (a=b)):=yE Yu ha
end Go.Proofs.YtfhkmedbfiphbaaGreatDoor
namespace Go.Proofs.YtfhkmedbfiphbaaGreatDoor
open Go Go.aj Go.Sy
attribute [local instance] cD dh
def nt (id part step Me:Int):ag:=⟨id,part,1,0,0,⟨0,1⟩,⟨1,1⟩,⟨step,0,Me⟩⟩
def fq:Score:=⟨1,[⟨1,⟨4,1⟩,0⟩],[⟨1,0,0,0,1,⟨0,0⟩,⟨0,0,0⟩,⟨0,0,8⟩⟩,⟨2,0,0,0,1,⟨0,0⟩,⟨0,0,0⟩,⟨0,0,8⟩⟩,⟨3,0,1,-1,1,⟨-1,-2⟩,⟨0,0,0⟩,⟨0,0,8⟩⟩],[nt 5 1 4 4,nt 6 2 0 5]⟩
def zt:Part:=⟨3,0,1,-1,1,⟨-1,-2⟩,⟨0,0,0⟩,⟨0,0,8⟩⟩
def gX (id step Me:Int):Written:=⟨id,0,0,⟨0,1⟩,⟨1,1⟩,⟨step,0,Me⟩⟩
def zr (w:Written):br:=⟨1,2,⟨4,1⟩,[w]⟩
def ly (w:Written):View:=⟨3,[zr w]⟩
theorem Vb (a b c d:Int):vZ (a,b,c,d)=some (nt a b c d):=rfl
theorem Q5:FM ()=some fq:=rfl
theorem W9 {l m:List ag} (h:uK (cg fq.bars) m 0=false) (hm:m.length=2) (an:(m.map ag.id).Nodup) (hp:m.Perm l):fZ (cg fq.bars) l=m:=by
 have hn:¬ ¬ fZ (cg fq.bars) m=m:=fun hc=>by
  have:=(RB an).2 hc
  rw[hm] at this
  simp[List.range_succ,h] at this
 have hs:fZ (cg fq.bars) m=m:=Classical.byContradiction hn
 have lJ:(fZ (cg fq.bars) m).Pairwise fun a b=>¬ bM (nK (cg fq.bars)) b a < 0:=yL (Df _) m
 rw[hs] at lJ
 exact(wA lJ hp ((hp.map ag.id).nodup_iff.1 an)).symm
theorem Q3:cL fq:=⟨by decide +kernel,by decide +kernel,by decide +kernel,by decide +kernel,by decide +kernel,W9 (by decide +kernel) rfl (by decide +kernel) (.refl _)⟩
theorem zu:partOf fq 3=some zt:=by kernel_rfl
theorem aaj:rT (fq,3)=some (ly (gX 5 5 3),0):=(get_eq Q3 zu).trans (by kernel_rfl)
theorem IY (w:Written) (h:((ly w).bg.zip fq.bars).all (j8 zt)=true):ej fq (ly w):=⟨Q3,rfl,⟨zt,zu,h⟩,by show 1≤20000;omega,by simp[c6,ly,zr]⟩
def exT:Score:=⟨2,fq.bars,fq.parts,[nt 5 1 5 4,nt 6 2 0 5]⟩
theorem Du:eh fq zt (ly (gX 5 6 3))=[nt 6 2 0 5,nt 5 1 5 4]:=by kernel_rfl
theorem Q4 (ver:Int) (h:1≤ver∧ver≤1000000):ct fq ver (ly (gX 5 6 3))=(⟨ver,fq.bars,fq.parts,[nt 5 1 5 4,nt 6 2 0 5]⟩,0,0):=by
 have h1:=VP (s:=fq) (v:=ly (gX 5 6 3)) (p:=zt) h (IY _ (by decide +kernel)) zu (fun q hq=>by
  have e:bY fq (ly (gX 5 6 3))=[(⟨1,⟨4,1⟩,0⟩,gX 5 6 3)]:=by kernel_rfl
  rw[e,List.mem_singleton] at hq
  subst hq;decide +kernel) (by rw[Du];decide) (by rw[Du];decide +kernel) (by rw[Du];decide +kernel)
 rw[Du,W9 (m:=[nt 5 1 5 4,nt 6 2 0 5]) (by decide +kernel) rfl (by decide +kernel) (.swap _ _ _)] at h1
 exact h1
theorem Dv (w:Written) (ver:Int):iy (fq,ver,ly w)=some (ct fq ver (ly w)):=oP (by decide) (by show 1≤1000000;omega) ver
theorem aal:iy (fq,2,ly (gX 5 6 3))=some (exT,0,0):=by rw[Dv,Q4 2 (by omega)];rfl
theorem aam:iy (fq,2,ly (gX 6 6 3))=some (jg,6,5):=by
 rw[Dv,GH (q:=(⟨1,⟨4,1⟩,0⟩,gX 6 6 3)) (by omega) (IY _ (by decide +kernel)) zu (by kernel_rfl)]
 kernel_rfl
theorem aan:iy (fq,2,ly (gX 5 5 12))=some (jg,5,20):=by
 rw[Dv,GH (q:=(⟨1,⟨4,1⟩,0⟩,gX 5 5 12)) (by omega) (IY _ (by decide +kernel)) zu (by kernel_rfl)]
 kernel_rfl
theorem aak:iy (fq,0,ly (gX 5 5 3))=some (jg,0,1):=by rw[Dv,agn (by omega)]
theorem aap:dG [5,6]=[5,6]:=GZ (Cb (by decide)) (by decide) (fun x=>tT x _)
theorem aao:ev fq.notes [nt 5 1 5 4,nt 6 2 0 5]=[(1,nt 5 1 5 4)]:=by
 unfold ev
 have e1:fq.notes.map ag.id=[5,6]:=rfl
 have e2:([nt 5 1 5 4,nt 6 2 0 5]:List ag).map ag.id=[5,6]:=rfl
 rw[e1,e2,aap]
 show _=([(1,nt 5 1 5 4)]:List (Int×ag))
 kernel_rfl
theorem aai:tC (fq,ly (gX 5 6 3))=some ([⟨1,1,1,nt 5 1 5 4⟩],0):=by
 rw[EZ (by decide) (by show 1≤1000000;omega) (fun h=>BZ h),Q4 1 (by omega),if_pos rfl]
 dsimp only
 rw[aao]
 rfl
theorem head_eq:tB ()=some true:=by
 refine(bo Q5).trans ?_
 refine(bo aaj).trans ?_
 refine(bo (x:=false) (by kernel_rfl)).trans ?_
 refine(xL _ _).trans ?_
 refine(bo (x:=zr (gX 5 5 3)) (by kernel_rfl)).trans ?_
 refine(bo (x:=zr (gX 5 5 3)) (by kernel_rfl)).trans ?_
 refine(bo (x:=gX 5 5 3) (by kernel_rfl)).trans ?_
 refine(cq (by kernel_rfl)).trans ?_
 refine(bo (x:=gX 5 5 3) (by kernel_rfl)).trans ?_
 refine(bo aal).trans ?_
 refine(cq (by kernel_rfl)).trans ?_
 refine(cq (by kernel_rfl)).trans ?_
 refine(bo aai).trans ?_
 refine(cq (by kernel_rfl)).trans ?_
 refine(cq (by kernel_rfl)).trans ?_
 refine(cq (by kernel_rfl)).trans ?_
 refine(bo (x:=gX 5 6 3) (by kernel_rfl)).trans ?_
 refine(bo aam).trans ?_
 refine(cq (by kernel_rfl)).trans ?_
 refine(cq (by kernel_rfl)).trans ?_
 refine(bo (x:=zr (gX 5 5 3)) (by kernel_rfl)).trans ?_
 refine(bo (x:=gX 5 5 3) (by kernel_rfl)).trans ?_
 refine(cq (by kernel_rfl)).trans ?_
 refine(bo (x:=gX 6 6 3) (by kernel_rfl)).trans ?_
 refine(cq (by kernel_rfl)).trans ?_
 refine(bo (x:=gX 5 5 3) (by kernel_rfl)).trans ?_
 refine(bo aan).trans ?_
 refine(cq (by kernel_rfl)).trans ?_
 refine(cq (by kernel_rfl)).trans ?_
 refine(bo aak).trans ?_
 refine(bo (x:=false) (by kernel_rfl)).trans ?_
 refine(xL _ _).trans ?_
 refine(bo Q5).trans ?_
 refine(bo (Vb _ _ _ _)).trans ?_
 refine(bo (Vb _ _ _ _)).trans ?_
 refine(bo (x:=true) ?_).trans rfl
 refine(bo (x:=true) ?_).trans ?_
 ·refine(yz (by decide) (by decide) (by decide)).trans ?_
  exact congrArg some (decide_eq_true (by rfl))
 kernel_rfl
end Go.Proofs.YtfhkmedbfiphbaaGreatDoor
namespace Go.Proofs.YtfhkmedbfiphbaaGreatDoor
open Go Go.aj Go.Sy
attribute [local instance] cD dh
theorem ajn (f:Nat) (t:Ty) (x:t.den):1≤cM (f+1) t x:=by cases t<;>simp[cM]
theorem XY (f:Nat) (t:Ty) (xs:List t.den):xs.length+1≤cM (f+2) (.list t) xs:=by
 show xs.length+1≤(List.map (fun x=>cM (f+1) t x) xs).sum+1
 have:∀ l:List t.den,l.length≤(List.map (fun x=>cM (f+1) t x) l).sum:=fun l=>by
  induction l with
  | nil=>exact Nat.zero_le _
  | cons x l ih=>have:=ajn f t x;simp only[List.length_cons,List.map_cons,List.sum_cons];omega
 have:=this xs
 omega
def wM (m:br):Nat:=cM 7 (.st 8) m
structure CF (v:View):Prop where
 ms:v.bg.length≤1048576
 all:(c6 v).length≤1048576
theorem yJ {v:View} (h:cM 9 (.st 9) v≤1048576):CF v:=by
 have h:1+((v.bg.map wM).sum+1)+1≤1048576:=h
 have h1:v.bg.length+1≤(v.bg.map wM).sum+1:=XY 6 (.st 8) v.bg
 refine⟨by omega,?_⟩
 have key:∀ l:List br,(l.flatMap br.notes).length≤(l.map wM).sum:=fun l=>by
  induction l with
  | nil=>exact Nat.zero_le _
  | cons m l ih=>
   have h2:m.notes.length+1≤cM 6 (.list (.st 7)) m.notes:=XY 4 (.st 7) m.notes
   have h3:wM m=1+(1+(cM 6 (.st 0) m.length+cM 6 (.list (.st 7)) m.notes))+1:=rfl
   rw[List.map_cons,List.sum_cons,List.flatMap_cons,List.length_append]
   omega
 have:=key v.bg
 unfold c6;omega
def gY (s:Score):Prop:=s.bars.length≤60∧s.parts.length≤61∧s.notes.length≤60
instance (s:Score):Decidable (gY s):=inferInstanceAs (Decidable (_∧_∧_))
def jk (v:View):Prop:=v.bg.length≤60∧(c6 v).length≤80
instance (v:View):Decidable (jk v):=inferInstanceAs (Decidable (_∧_))
theorem MZ (s:Score):BB s=some (decide (gY s)):=by
 unfold BB
 rw[yZ,af]
 congr 1
 rw[Bool.eq_iff_iff,decide_eq_true_iff (p:=gY s)]
 simp only[Bool.and_eq_true,decide_eq_true_eq]
 unfold gY;omega
theorem ag7 {v:View} (h:CF v):Ge v=some (decide (jk v)):=by
 have ajI:∀ l:List br,(l.map fun m=>m.notes.length).sum=(l.flatMap br.notes).length:=fun l=>by rw[List.length_flatMap]
 have hle:∀ k,((v.bg.take k).flatMap br.notes).length≤(c6 v).length:=fun k=>by
  have:c6 v=(v.bg.take k).flatMap br.notes++(v.bg.drop k).flatMap br.notes:=by unfold c6;rw[←List.flatMap_append,List.take_append_drop]
  rw[this,List.length_append];omega
 unfold Ge
 rw[fg (σ:=Int) (st:=fun z k=>(z,k)) (l:=v.bg.take 61) (fun z m=> .inl (z+(m.notes.length:Int))) (fun z=>z) (fun k z=>z=(((v.bg.take k).flatMap br.notes).length:Int)) (fun k x z hx hi=>by
  have hk:=yQ hx
  have cK:=hk.2
  have aN:=bU cK
  have hm:=hle k
  have jq:=hle (k+1)
  rw[wD cK,List.flatMap_append,List.length_append] at jq
  simp only[List.flatMap_cons,List.flatMap_nil,List.append_nil] at jq
  have h1:=h.all
  dsimp only
  rw[ai (by simpa using aN),af,ai (by simp;omega),aX (aW cK),aJ (by omega),aJ (by omega)]
  rfl) (fun k x z z' hx hi hz=>by
  have cK:=(yQ hx).2
  injection hz with hz
  rw[wD cK,List.flatMap_append,List.length_append,←hz,hi]
  simp) (fun z hi=>by
  dsimp only
  have:(v.bg.take 61).length=min 61 v.bg.length:=List.length_take
  by_cases hm:v.bg.length≤61
  ·rw[ak (by simp;omega),af];rfl
  rw[ai (by simp;omega),af,ak (by simp;omega)]) 0 rfl]
 rw[lC (f:=fun(z:Int) (m:br)=> .inl (z+(m.notes.length:Int))) (fin:=fun z=>z) (fun z m=>z+(m.notes.length:Int)) (v.bg.take 61) 0 (fun _ _ _=>rfl),af]
 by_cases hm:v.bg.length≤60
 ·rw[ai (decide_eq_true (by omega)),af,List.take_of_length_le (by omega)]
  have hf:∀ (l:List br) (z:Int),l.foldl (fun z m=>z+(m.notes.length:Int)) z=z+((l.flatMap br.notes).length:Int):=fun l=>by
   induction l with
   | nil=>intro z;simp
   | cons m l ih=>intro z;rw[List.foldl_cons,ih,List.flatMap_cons,List.length_append];omega
  rw[hf]
  congr 1
  rw[Bool.eq_iff_iff,decide_eq_true_iff (p:=jk v),decide_eq_true_iff]
  unfold jk c6;omega
 rw[ak (decide_eq_false (by omega)),af]
 congr 1
 rw[eq_comm,decide_eq_false_iff_not]
 exact fun h=>hm h.1
theorem Q7 {s:Score} {v:View} (h:CF v):Bi (s,v)=some (decide (gY s∧jk v)):=by
 unfold Bi
 dsimp only
 rw[MZ,af,ag7 h,af,j3,af]
 congr 1
 rw[Bool.eq_iff_iff];simp
open Classical in
theorem Cs {s:Score} {v:View} (h:CF v):qh (s,v)=some (decide ((gY s∧jk v)∧ej s v)):=by
 unfold qh
 dsimp only
 rw[Q7 h,af]
 by_cases hf:gY s∧jk v
 ·rw[ai (by simp[hf]),Wb (by have:=hf.2.2;omega),af,af]
  congr 1
  rw[Bool.eq_iff_iff];simp[hf]
 rw[ak (by simpa using hf),af]
 congr 1
 rw[eq_comm,decide_eq_false_iff_not];exact fun h=>hf h.1
end Go.Proofs.YtfhkmedbfiphbaaGreatDoor
namespace Go.Proofs.YtfhkmedbfiphbaaGreatDoor
open Go Go.aj Go.Sy
attribute [local instance] cD dh
def Sd (at_:List (Int×Int)) (l:List ag):Prop:=l.Pairwise fun a b=>¬ bM (nK at_) b a < 0
section
variable {at_:List (Int×Int)} {l m:List ag}
theorem Nh (l:List ag):Sd at_ (fZ at_ l):=yL (Df at_) l
theorem ahM (hl:Sd at_ l) (hm:Sd at_ m) (hp:l.Perm m) (hn:(m.map ag.id).Nodup):l=m:=
 (wA hl hp hn).trans (wA hm (.refl _) hn).symm
theorem B9 (h:Sd at_ l) (q:ag→Bool):Sd at_ (l.filter q):=List.Pairwise.sublist List.filter_sublist h
theorem aic (h:Sd at_ l) (hn:(l.map ag.id).Nodup):fZ at_ l=l:=(wA h (.refl _) hn).symm
theorem Od {α:Type} {p:α→Bool} {l m:List α} (h:l.Perm m):l.any p=m.any p:=by
 rw[Bool.eq_iff_iff,List.any_eq_true,List.any_eq_true]
 exact⟨fun⟨x,hx,hp⟩=>⟨x,h.subset hx,hp⟩,fun⟨x,hx,hp⟩=>⟨x,h.symm.subset hx,hp⟩⟩
theorem ajl {ps:List Part} (h:l.Perm m):gr ps l=gr ps m:=by
 unfold gr;rw[Od h,Od h]
theorem G3 {s:Score} (hs:cL s):Sd (cg s.bars) s.notes:=by
 have:=Nh (at_:=cg s.bars) s.notes
 rw[hs.2.2.2.2.2] at this;exact this
end
noncomputable def aY (s:Score) (ver:Int) (p:Part) (v:View):Score:=⟨ver,s.bars,s.parts,fZ (cg s.bars) (eh s p v)⟩
structure gv (s:Score) (ver:Int) (p:Part) (v:View):Prop where
 vok:1≤ver∧ver≤1000000
 view:ej s v
 part:partOf s v.part=some p
 ok:∀ q∈bY s v,pE s p q=0
 len:(eh s p v).length≤20000
 notes:eG s.bars (eh s p v)
 ajk:gr s.parts (eh s p v)=0
 eq:ct s ver v=(aY s ver p v,0,0)
theorem gv.mk' {s:Score} {ver:Int} {p:Part} {v:View} (h1:1≤ver∧ver≤1000000) (h2:ej s v) (h3:partOf s v.part=some p) (h4:∀ q∈bY s v,pE s p q=0) (h5:(eh s p v).length≤20000) (h6:eG s.bars (eh s p v)) (h7:gr s.parts (eh s p v)=0):gv s ver p v:=
 ⟨h1,h2,h3,h4,h5,h6,h7,VP h1 h2 h3 h4 h5 h6 h7⟩
theorem GK {s:Score} {ver:Int} {v:View} (h:(ct s ver v).2.2=0):∃ p,gv s ver p v:=by
 obtain⟨h1,h2,p,h3,h4,h5,h6,h7,h8⟩:=VQ h
 exact⟨p,h1,h2,h3,h4,h5,h6,h7,h8⟩
section
variable {s:Score} {ver:Int} {p:Part} {v:View}
theorem gv.ids (h:gv s ver p v):((eh s p v).map ag.id).Nodup:=h.notes.2.2.2
theorem gv.score (h:gv s ver p v):cL (aY s ver p v):=
 ⟨h.vok,h.view.1.2.1,h.view.1.2.2.1,Vc h.notes (Cd _ _),(ajl (Cd _ _)).trans h.ajk,aic (Nh _) (((Cd _ _).map ag.id).nodup_iff.2 h.ids)⟩
theorem aaC (s:Score) (p:Part) (v:View):(eh s p v).filter (fun n=>decide (n.part=bJ p))=(bY s v).map (pN s p):=by
 unfold eh
 rw[List.filter_append]
 have h1:(others s p).filter (fun n=>decide (n.part=bJ p))=[]:=List.filter_eq_nil_iff.2 fun n hn=>by
  have:=(List.mem_filter.1 hn).2
  simpa using this
 have h2:((bY s v).map (pN s p)).filter (fun n=>decide (n.part=bJ p))=(bY s v).map (pN s p):=List.filter_eq_self.2 fun n hn=>by
  obtain⟨q,_,rfl⟩:=List.mem_map.1 hn
  exact decide_eq_true rfl
 rw[h1,h2];rfl
theorem aaA (s:Score) (p:Part) (v:View) (k:Int) (hk:k≠bJ p):(eh s p v).filter (fun n=>decide (n.part=k))=s.notes.filter fun n=>decide (n.part=k):=by
 unfold eh
 rw[List.filter_append]
 have h2:((bY s v).map (pN s p)).filter (fun n=>decide (n.part=k))=[]:=List.filter_eq_nil_iff.2 fun n hn=>by
  obtain⟨q,_,rfl⟩:=List.mem_map.1 hn
  have:(pN s p q).part=bJ p:=rfl
  simp[this,Ne.symm hk]
 rw[h2,List.append_nil]
 unfold others
 rw[List.filter_filter]
 refine List.filter_congr fun n _=>?_
 by_cases h:n.part=k
 ·have:¬ n.part=bJ p:=fun e=>hk (h.symm.trans e)
  simp[h,hk]
 simp[h]
theorem aaB (s:Score) (p:Part) (v:View):(eh s p v).filter (fun n=> !decide (n.part=bJ p))=others s p:=by
 unfold eh
 rw[List.filter_append]
 have h2:((bY s v).map (pN s p)).filter (fun n=> !decide (n.part=bJ p))=[]:=List.filter_eq_nil_iff.2 fun n hn=>by
  obtain⟨q,_,rfl⟩:=List.mem_map.1 hn
  have:(pN s p q).part=bJ p:=rfl
  simp[this]
 rw[h2,List.append_nil]
 unfold others
 rw[List.filter_filter]
 refine List.filter_congr fun n _=>by simp
theorem gv.filter (h:gv s ver p v) (q:ag→Bool) {m:List ag} (hm:Sd (cg s.bars) m) (e:(eh s p v).filter q=m):(aY s ver p v).notes.filter q=m:=by
 have dO:(m.map ag.id).Nodup:=by rw[←e];exact h.ids.sublist (List.filter_sublist.map _)
 exact ahM (B9 (Nh _) q) hm (by rw[←e];exact(Cd _ _).filter q) dO
theorem gv.oth (h:gv s ver p v) (k:Int) (hk:k≠bJ p):(aY s ver p v).notes.filter (fun n=>decide (n.part=k))=s.notes.filter fun n=>decide (n.part=k):=
 h.filter _ (B9 (G3 h.view.1) _) (aaA s p v k hk)
theorem gv.others (h:gv s ver p v):Go.Proofs.YtfhkmedbfiphbaaGreatDoor.others (aY s ver p v) p=Go.Proofs.YtfhkmedbfiphbaaGreatDoor.others s p:=
 h.filter _ (B9 (G3 h.view.1) _) (aaB s p v)
end
end Go.Proofs.YtfhkmedbfiphbaaGreatDoor
namespace Go.Proofs.YtfhkmedbfiphbaaGreatDoor
open Go Go.aj Go.Sy
attribute [local instance] cD dh
theorem VR {s:Score} {ver:Int} {v:View} (h:(ct s ver v).2.2≠0):(ct s ver v).1=jg:=by
 unfold ct at h ⊢
 split at h
 ·rename_i h0
  rw[if_pos h0]
  cases hp:partOf s v.part with
  | none=>rfl
  | some p=>
   rw[hp] at h
   dsimp only at h ⊢
   unfold dX at h ⊢
   split at h
   ·rfl
   unfold qP at h ⊢
   split at h
   ·rename_i h1;rw[if_pos h1]
   rename_i h1;rw[if_neg h1]
   split at h
   ·rename_i h2;rw[if_pos h2]
   exact absurd rfl h
 rename_i h0;rw[if_neg h0]
theorem GI {s:Score} {ver:Int} {v:View} (hf:gY s):(ct s ver v).1.bars.length≤60∧(ct s ver v).1.parts.length≤61∧(ct s ver v).1.notes.length≤20000:=by
 by_cases h:(ct s ver v).2.2=0
 ·obtain⟨p,hp⟩:=GK h
  rw[hp.eq]
  exact⟨hf.1,hf.2.1,by show(fZ _ _).length≤_;rw[Xa];exact hp.len⟩
 rw[VR h];exact⟨Nat.zero_le _,Nat.zero_le _,Nat.zero_le _⟩
theorem Wf (a b:List ag):(ev a b).length≤a.length+b.length:=by
 unfold ev
 rw[List.length_append,List.length_map,List.length_map]
 have h1:=List.length_filter_le (fun id=> !dr b id) (dG (a.map ag.id))
 have h2:=List.length_filter_le (gI a b) (dG (b.map ag.id))
 rw[yM,List.length_map] at h1 h2
 omega
theorem aet (s:Ty.den (.st 6)) (h0:cM 9 (.st 6) s≤1048576) (o0:ec 9 (.st 6) s) (ver:Ty.den (.int .i64)) (h1:cM 9 (.int .i64) ver≤1048576) (o1:ec 9 (.int .i64) ver) (v:Ty.den (.st 9)) (h2:cM 9 (.st 9) v≤1048576) (o2:ec 9 (.st 9) v):VA (s,ver,v)=some true:=by
 change Score at s;change Int at ver;change View at v
 have hv:=yJ h2
 refine(bo head_eq).trans ((bo (Q7 hv)).trans ?_)
 by_cases hf:gY s∧jk v
 ·have hb:s.bars.length≤1048576:=by have:=hf.1.1;omega
  have ha:(c6 v).length≤1000000:=by have:=hf.2.2;omega
  obtain⟨b1,b2,b3⟩:=GI (ver:=ver) (v:=v) hf.1
  refine(ak (by simp[hf])).trans ?_
  refine(bo (oP hb ha ver)).trans ((bo (Wd hb ha ver)).trans ?_)
  refine(bo (x:=true) ?_).trans ?_
  ·refine(mV _ _).trans ((bo (yz (by omega) (by omega) (by omega))).trans ?_)
   simp[ab,ay]
  refine(bo (EZ hb ha fun h=>BZ h)).trans ((bo (ahc hb ha fun h=>BZ h)).trans ?_)
  refine(bo (x:=true) ?_).trans rfl
  refine(mV _ _).trans ((bo (ahd ?_)).trans ?_)
  ·split
   ·rw[xj]
    have:=Wf s.notes (ct s 1 v).1.notes
    have h3:=(GI (ver:=1) (v:=v) hf.1).2.2
    have:=hf.1.2.2
    omega
   exact Nat.zero_le _
  simp[ab,ay]
 exact ai (by rw[decide_eq_false hf];rfl)
end Go.Proofs.YtfhkmedbfiphbaaGreatDoor
namespace Go.Proofs.YtfhkmedbfiphbaaGreatDoor
open Go Go.aj Go.Sy
attribute [local instance] cD dh
theorem Tl {bars:List aD} (hb:iC bars) {k:Nat} {b:aD} (h:bars[k]?=some b):bB (cg bars) b.id 0=(k:Int):=by
 rw[L8 hb.2.2 (List.any_eq_true.2 ⟨b,List.mem_of_getElem? h,by simp⟩)]
 refine(K7 _ bars k b h (by simp)).2 ?_
 rw[List.any_eq_false]
 intro y hy an
 obtain⟨j,hj⟩:=List.getElem?_of_mem hy
 obtain⟨uT,hj⟩:=yQ hj
 have hn:=hb.2.2
 unfold List.Nodup at hn
 rw[List.pairwise_map,List.pairwise_iff_getElem] at hn
 have h1:=bU h
 have h2:=bU hj
 refine hn j k h2 h1 uT ?_
 rw[List.getElem?_eq_getElem h1] at h
 rw[List.getElem?_eq_getElem h2] at hj
 injection h with h;injection hj with hj
 rw[h,hj];simpa using an
theorem NN {s:Score} {v:View} {p:Part} (hv:ej s v) (hp:partOf s v.part=some p):∀ x∈v.bg.zip s.bars,nJ p x.2 x.1∧py (fun a b=> !decide (bM wK b a < 0)) x.1.notes=true∧∀ w∈x.1.notes,eN x.1.length w:=by
 obtain⟨_,_,⟨p',jY,bA⟩,_⟩:=hv
 rw[hp] at jY;injection jY with jY;subst jY
 intro x hx
 have:=List.all_eq_true.1 bA x hx
 unfold j8 at this
 simp only[Bool.and_eq_true,decide_eq_true_eq,List.all_eq_true] at this
 exact⟨this.1.1,this.1.2,this.2⟩
theorem Bd {s:Score} {p:Part} {q:aD×Written} (h:pE s p q=0):((others s p).any fun n=>decide (n.id=q.2.id))=false∧(dx p q.1 q.2).2=0∧qR s p (jB (dx p q.1 q.2).1 p.au):=by
 unfold pE ql at h
 split at h
 ·cases h
 rename_i h1
 split at h
 ·rename_i h2;exact⟨by simpa using h1,h2⟩
 cases h
theorem X7 {x:aE} {i:Interval} (h:(e8 x i).2=0):(e8 x i).1=kF (pl x+i.steps) (num x+i.bG):=by
 unfold e8 at h ⊢
 split at h
 ·rename_i h1
  rw[if_pos h1]
  split at h
  ·rename_i h2;rw[if_pos h2]
  cases h
 cases h
theorem afA (x:aE) (n:Int):num (jB x n)=num x - 12*n:=by unfold num jB;dsimp only;omega
theorem Vi {s:Score} {p:Part} {b:aD} {w:Written} (h:(dx p b w).2=0):num (pN s p (b,w)).aM=num w.aM+((cQ (j6 p b.key)).bG - 12*p.au):=by
 show num (jB (dx p b w).1 p.au)=_
 rw[afA]
 unfold dx at h ⊢
 rw[X7 h,Vh];omega
theorem Qt {at_:List (Int×Int)} {s:Score} {p:Part} {b:aD} {len:Rat} {w u:Written} (hw:eN len w) (hu:eN len u) (h1:(dx p b w).2=0) (h2:(dx p b u).2=0):bM (nK at_) (pN s p (b,w)) (pN s p (b,u))=bM wK w u:=by
 have e1:tk w.start=ew w.start:=if_pos hw.2.2.2.2.1
 have e2:tk u.start=ew u.start:=if_pos hu.2.2.2.2.1
 have e3:ht w.aM=num w.aM:=if_pos hw.2.2.2.1
 have e4:ht u.aM=num u.aM:=if_pos hu.2.2.2.1
 have n1:=Vi (s:=s) h1
 have n2:=Vi (s:=s) h2
 unfold bM nK wK
 rw[n1,n2,e1,e2,e3,e4]
 simp only[List.zipWith_cons_cons,List.zipWith_nil_left,eD,pN,tq,Int.sub_self,if_true]
 have e5:num w.aM+((cQ (j6 p b.key)).bG - 12*p.au) - (num u.aM+((cQ (j6 p b.key)).bG - 12*p.au))=num w.aM - num u.aM:=by omega
 rw[e5]
theorem Fe {s:Score} {v:View} {q:aD×Written}:q∈bY s v↔∃ x∈v.bg.zip s.bars,q.1=x.2∧q.2∈x.1.notes:=by
 unfold bY
 rw[List.mem_flatMap]
 constructor
 ·rintro⟨x,hx,hq⟩
  obtain⟨w,hw,rfl⟩:=List.mem_map.1 hq
  exact⟨x,hx,rfl,hw⟩
 rintro⟨x,hx,h1,h2⟩
 exact⟨x,hx,List.mem_map.2 ⟨q.2,h2,by rw[←h1]⟩⟩
theorem af7 {s:Score} {v:View} {p:Part} (hv:ej s v) (hp:partOf s v.part=some p) (hE:∀ q∈bY s v,(dx p q.1 q.2).2=0):Sd (cg s.bars) ((bY s v).map (pN s p)):=by
 have fW:∀ x∈v.bg.zip s.bars,∀ w∈x.1.notes,(dx p x.2 w).2=0:=fun x hx w hw=>hE (x.2,w) (Fe.2 ⟨x,hx,rfl,hw⟩)
 unfold Sd
 rw[List.pairwise_map]
 show List.Pairwise _ ((v.bg.zip s.bars).flatMap fun x=>x.1.notes.map fun w=>(x.2,w))
 rw[List.pairwise_flatMap]
 refine⟨fun x hx=>?_,?_⟩
 ·rw[List.pairwise_map]
  obtain⟨h1,h2,h3⟩:=NN hv hp x hx
  have lJ:x.1.notes.Pairwise fun a b=>¬ bM wK b a < 0:=Iz (fun a b c h1 h2=>Dz (wK c) (wK b) (wK a) rfl rfl h2 h1) fun k a b ha hb=>by
   have:=Iy.1 h2 k a b ha hb
   rw[Bool.not_eq_true',decide_eq_false_iff_not] at this
   exact this
  refine List.Pairwise.imp_of_mem (fun {a b} ha hb dg=>?_) lJ
  rw[Qt (h3 b hb) (h3 a ha) (fW x hx b hb) (fW x hx a ha)]
  exact dg
 rw[List.pairwise_iff_getElem]
 intro i j hi hj cm a ha b hb
 obtain⟨w,_,rfl⟩:=List.mem_map.1 ha
 obtain⟨u,_,rfl⟩:=List.mem_map.1 hb
 have gi:=oA (List.getElem?_eq_getElem hi)
 have gj:=oA (List.getElem?_eq_getElem hj)
 have k1:=Tl hv.1.2.1 gi.2
 have k2:=Tl hv.1.2.1 gj.2
 refine Ix ?_
 unfold bM nK
 simp only[List.zipWith_cons_cons,eD,pN,tq,k1,k2]
 rw[if_neg (by omega)];omega
theorem zE {α β:Type} (key:α→Int) (f:α→List β):∀ {l:List α} {x:α},(l.map key).Nodup→x∈l→(l.flatMap fun y=>if key y=key x then f y else [])=f x
 | [],x,_,h=>by cases h
 | y::l,x,hn,h=>by
  rw[List.map_cons,List.nodup_cons] at hn
  rw[List.flatMap_cons]
  rcases List.mem_cons.1 h with rfl | h
  ·rw[if_pos rfl]
   have:(l.flatMap fun y=>if key y=key x then f y else [])=[]:=List.flatMap_eq_nil_iff.2 fun y hy=>if_neg fun(e:key y=key x)=>hn.1 (e▸List.mem_map.2 ⟨y,hy,rfl⟩)
   rw[this,List.append_nil]
  rw[if_neg fun(e:key y=key x)=>hn.1 (e▸List.mem_map.2 ⟨x,h,rfl⟩),List.nil_append]
  exact zE key f hn.2 h
theorem af6 {s:Score} {v:View} (hb:(s.bars.map aD.id).Nodup) (hl:v.bg.length=s.bars.length) {m:br} {b:aD} (hx:(m,b)∈v.bg.zip s.bars):(bY s v).filter (fun q=>decide (q.1.id=b.id))=m.notes.map fun w=>(b,w):=by
 unfold bY
 rw[List.filter_flatMap]
 have hk:((v.bg.zip s.bars).map fun x=>x.2.id).Nodup:=by
  have:((v.bg.zip s.bars).map fun x=>x.2.id)=s.bars.map aD.id:=by
   rw[show(fun x:br×aD=>x.2.id)=aD.id ∘ Prod.snd from rfl,←List.map_map,List.map_snd_zip (by omega)]
  rw[this];exact hb
 have:=zE (fun x:br×aD=>x.2.id) (fun x=>x.1.notes.map fun w=>(x.2,w)) hk hx
 dsimp only at this
 rw[←this]
 congr 1
 funext x
 by_cases h:x.2.id=b.id
 ·rw[if_pos h]
  exact List.filter_eq_self.2 fun q hq=>by obtain⟨w,_,rfl⟩:=List.mem_map.1 hq;simpa using h
 rw[if_neg h]
 exact List.filter_eq_nil_iff.2 fun q hq=>by obtain⟨w,_,rfl⟩:=List.mem_map.1 hq;simpa using h
theorem afG (x:aE) (n:Int):qg (jB x n) n=x:=by unfold qg jB;cases x;dsimp only;congr 1;omega
theorem Vo (x:aE) (n:Int):jB (qg x n) n=x:=by unfold qg jB;cases x;dsimp only;congr 1;omega
theorem ajm {s:Score} {p:Part} {b:aD} {w:Written} (h:(dx p b w).2=0):qv p b (mu p (pN s p (b,w)))=w:=by
 unfold qv mu pN tq
 dsimp only
 rw[afG]
 unfold dx at h ⊢
 have:=N6 h
 rw[Yq] at this
 rw[this]
theorem gv.own {s:Score} {ver:Int} {p:Part} {v:View} (h:gv s ver p v):(aY s ver p v).notes.filter (fun n=>decide (n.part=bJ p))=(bY s v).map (pN s p):=
 h.filter _ (af7 h.view h.part fun q hq=>(Bd (h.ok q hq)).2.1) (aaC s p v)
theorem gv.get {s:Score} {ver:Int} {p:Part} {v:View} (h:gv s ver p v):gZ (aY s ver p v) p=v:=by
 rw[sF h.score p]
 have an:p.id=v.part:=(od h.view.1 h.part).2.2
 have hl:=h.view.2.1
 obtain⟨vp,ms⟩:=v
 congr 1
 apply List.ext_getElem?
 intro k
 rw[List.getElem?_map]
 cases hb:(aY s ver p ⟨vp,ms⟩).bars[k]? with
 | none=>
  have hb:s.bars[k]?=none:=hb
  have:ms.length=s.bars.length:=hl
  rw[List.getElem?_eq_none_iff] at hb
  rw[List.getElem?_eq_none (by omega)];rfl
 | some b=>
  have hb:s.bars[k]?=some b:=hb
  have fB:ms.length=s.bars.length:=hl
  have hk:=bU hb
  have hm:ms[k]?=some (ms[k]'(by omega)):=List.getElem?_eq_getElem _
  generalize ms[k]'(by omega)=m at hm
  rw[hm]
  have hx:(m,b)∈ms.zip s.bars:=List.mem_of_getElem? (List.getElem?_zip_eq_some.2 ⟨hm,hb⟩)
  obtain⟨h1,h2,h3⟩:=NN h.view h.part (m,b) hx
  show some (rH p (ke (aY s ver p ⟨vp,ms⟩) p) b)=some m
  congr 1
  have Kl:((ke (aY s ver p ⟨vp,ms⟩) p).filter fun n=>decide (n.aZ=b.id)).map (qv p b)=m.notes:=by
   unfold ke
   rw[h.own,List.map_map,List.filter_map]
   have e:((fun n=>decide (n.aZ=b.id)) ∘ (mu p ∘ pN s p))=fun q:aD×Written=>decide (q.1.id=b.id):=rfl
   rw[e,af6 h.view.1.2.1.2.2 hl hx,List.map_map,List.map_map]
   refine(List.map_congr_left fun w hw=>?_).trans (List.map_id _)
   exact ajm (Bd (h.ok (b,w) (Fe.2 ⟨_,hx,rfl,hw⟩))).2.1
  unfold rH
  rw[Kl]
  obtain⟨g1,g2,g3⟩:=h1
  dsimp only at g1 g2 g3
  obtain⟨x,y,z,u⟩:=m
  dsimp only at *
  rw[g1,g2,g3]
end Go.Proofs.YtfhkmedbfiphbaaGreatDoor
namespace Go.Proofs.YtfhkmedbfiphbaaGreatDoor
open Go Go.aj Go.Sy
attribute [local instance] cD dh
theorem MO {s:Score} {v:View} (hl:v.bg.length=s.bars.length):(bY s v).map (·.2)=c6 v:=by
 unfold bY c6
 rw[List.map_flatMap]
 have e:(fun x:br×aD=>(x.1.notes.map fun w=>(x.2,w)).map (·.2))=fun x=>x.1.notes:=by
  funext x;rw[List.map_map];exact List.map_id _
 rw[e]
 have:v.bg=(v.bg.zip s.bars).map (·.1):=(List.map_fst_zip (by omega)).symm
 conv=>rhs;rw[this,List.flatMap_map]
theorem Gz {s:Score} {v:View} (hl:v.bg.length=s.bars.length):(bY s v).length=(c6 v).length:=by rw[←MO hl,List.length_map]
theorem NT {ps:List Part} {ns:List ag}:gr ps ns=0↔∀ n∈ns,∃ o,gq ps n=some o∧num o.low≤num n.aM∧num n.aM≤num o.high:=by
 unfold gr
 by_cases h1:(ns.any fun n=>(gq ps n).isNone)=true
 ·rw[if_pos h1]
  refine⟨fun h=>by omega,fun h=>?_⟩
  obtain⟨n,hn,hx⟩:=List.any_eq_true.1 h1
  obtain⟨o,ho,_⟩:=h n hn
  rw[ho] at hx;cases hx
 rw[if_neg h1]
 by_cases h2:ns.any (mO ps)=true
 ·rw[if_pos h2]
  refine⟨fun h=>by omega,fun h=>?_⟩
  obtain⟨n,hn,hx⟩:=List.any_eq_true.1 h2
  obtain⟨o,ho,h3⟩:=h n hn
  unfold mO at hx
  rw[ho] at hx
  simp[h3] at hx
 rw[if_neg h2]
 refine⟨fun _ n hn=>?_,fun _=>rfl⟩
 cases ho:gq ps n with
 | none=>exact absurd (List.any_eq_true.2 ⟨n,hn,by rw[ho];rfl⟩) h1
 | some o=>
  refine⟨o,rfl,?_⟩
  have:=List.any_eq_false.1 (Bool.not_eq_true _▸h2) n hn
  unfold mO at this
  rw[ho] at this
  simpa using this
theorem Yr {bars:List aD} (hb:iC bars) {b:aD} (h:b∈bars):(bars.find? fun x=>decide (x.id=b.id))=some b:=qQ hb.2.2 h
theorem af4 {s:Score} {p:Part} (hs:cL s) (hp:p∈s.parts) {b:aD} {w:Written} (hw:eN b.length w) (hf:qR s p (jB (dx p b w).1 p.au)):fits b (pN s p (b,w)):=by
 obtain⟨w1,w2,w3,w4,w5,w6,w7,w8⟩:=hw
 obtain⟨o1,o2,o3,o4⟩:=rO hs hp
 have ho:=(hs.2.2.1.2.1 _ o3).1
 have jt:1≤bJ p∧bJ p≤1000000:=o4▸ho
 exact⟨w5,w6,w7,w8,w1,jt,w2,w3,hf.1⟩
theorem MU {s:Score} {ver:Int} {v:View} {p:Part} (hl:(eh s p v).length≤20000) (hv:ej s v) (hp:partOf s v.part=some p) (h0:1≤ver∧ver≤1000000) (hE:∀ q∈bY s v,pE s p q=0):gv s ver p v:=by
 have hs:=hv.1
 have ra:=(od hs hp).2.1
 obtain⟨o1,o2,o3,o4⟩:=rO hs ra
 have Kz:=hs.2.2.2.1
 have R3:=hs.2.1
 have hq:∀ q∈bY s v,q.1∈s.bars∧eN q.1.length q.2∧qR s p (jB (dx p q.1 q.2).1 p.au):=fun q hq=>by
  obtain⟨x,hx,h1,h2⟩:=Fe.1 hq
  obtain⟨g1,g2,g3⟩:=NN hv hp x hx
  rw[h1]
  refine⟨(List.of_mem_zip hx).2,?_,?_⟩
  ·have:=g3 q.2 h2
   rw[g1.2.2] at this;exact this
  have:=(Bd (hE q hq)).2.2
  rw[h1] at this;exact this
 refine .mk' h0 hv hp hE hl ⟨R3,hl,fun n hn=>?_,?_⟩ (NT.2 fun n hn=>?_)
 ·rcases List.mem_append.1 hn with hn | hn
  ·exact Kz.2.2.1 n (List.mem_filter.1 hn).1
  obtain⟨q,Am,rfl⟩:=List.mem_map.1 hn
  obtain⟨h1,h2,h3⟩:=hq q Am
  exact(Fv (Yr R3 h1)).2 (af4 hs ra h2 h3)
 ·unfold eh
  rw[List.map_append,List.nodup_append]
  have e:((bY s v).map (pN s p)).map ag.id=(c6 v).map Written.id:=by
   rw[←MO hv.2.1,List.map_map,List.map_map];rfl
  refine⟨Kz.2.2.2.sublist (List.filter_sublist.map _),by rw[e];exact hv.2.2.2.2,fun a ha b hb=>?_⟩
  obtain⟨n,hn,rfl⟩:=List.mem_map.1 ha
  obtain⟨m,hm,rfl⟩:=List.mem_map.1 hb
  obtain⟨q,Am,rfl⟩:=List.mem_map.1 hm
  intro he
  have:=(Bd (hE q Am)).1
  rw[List.any_eq_false] at this
  exact this n hn (decide_eq_true he)
 rcases List.mem_append.1 hn with hn | hn
 ·exact NT.1 hs.2.2.2.2.1 n (List.mem_filter.1 hn).1
 obtain⟨q,Am,rfl⟩:=List.mem_map.1 hn
 obtain⟨h1,h2,h3⟩:=hq q Am
 refine⟨iw s p,?_,h3.2⟩
 rw[Ml hs.2.2.1.2.2.1]
 have:(s.parts.find? fun q=>decide (q.id=bJ p))=some (iw s p):=o1
 show(match s.parts.find? fun q=>decide (q.id=bJ p) with | some p=>if p.of=0 then some p else none | none=>none)=_
 rw[this]
 exact if_pos o2
end Go.Proofs.YtfhkmedbfiphbaaGreatDoor
namespace Go.Proofs.YtfhkmedbfiphbaaGreatDoor
open Go Go.aj Go.Sy
attribute [local instance] cD dh
theorem all_eq {v:View} (hm:v.bg.length≤1000000) (ha:(c6 v).length≤1000000):yd v=some (c6 v):=by
 unfold yd
 rw[fg (σ:=List Written) (st:=fun z k=>(k,z)) (l:=v.bg) (fun z m=> .inl (z++m.notes)) (fun z=>z) (fun k z=>z=(v.bg.take k).flatMap br.notes) (fun k x z hx hi=>by
  have aN:=bU hx
  have hle:((v.bg.take (k+1)).flatMap br.notes).length≤(c6 v).length:=by
   have:c6 v=(v.bg.take (k+1)).flatMap br.notes++(v.bg.drop (k+1)).flatMap br.notes:=by unfold c6;rw[←List.flatMap_append,List.take_append_drop]
   rw[this,List.length_append];omega
  rw[wD hx,List.flatMap_append,List.length_append] at hle
  simp only[List.flatMap_cons,List.flatMap_nil,List.append_nil] at hle
  have hz:(List.append z x.notes).length=z.length+x.notes.length:=List.length_append
  rw[←hi] at hle
  dsimp only
  rw[ai (decide_eq_true (by omega)),aX (aW hx),cq (decide_eq_true (by rw[hz];omega)),aJ (by omega)]
  rfl) (fun k x z z' hx hi hz=>by
  injection hz with hz
  rw[wD hx,List.flatMap_append,←hz,hi]
  simp) (fun z hi=>by
  dsimp only
  rw[ak (decide_eq_false (by omega))]) [] rfl]
 rw[lC (f:=fun(z:List Written) (m:br)=> .inl (z++m.notes)) (fin:=fun z=>z) (fun z m=>z++m.notes) v.bg [] (fun _ _ _=>rfl),af]
 have hf:∀ (l:List br) (z:List Written),l.foldl (fun z m=>z++m.notes) z=z++l.flatMap br.notes:=fun l=>by
  induction l with
  | nil=>intro z;simp
  | cons m l ih=>intro z;rw[List.foldl_cons,ih,List.flatMap_cons,List.append_assoc]
 rw[hf];rfl
theorem ag9 {a b:List br} (h1:a.length≤1048576) (h2:∀ m∈a,m.notes.length≤1048576):Gg (a,b)=some (decide (a=b)):=by
 unfold Gg
 dsimp only
 by_cases hl:a.length=b.length
 ·rw[ak (by simp[hl]),UA hl (fun k x y hx hy=>by
   have hk:=bU hx
   rw[ai (decide_eq_true (by omega)),aX (aW hx),aX (aW hy),Wc,af,aX (aW hx),aX (aW hy),aha (h2 x (List.mem_of_getElem? hx)),af,vu,af]
   have e:((!decide (x.aZ=y.aZ∧x.key=y.key∧x.length=y.length)) || !decide (x.notes=y.notes)) = !decide (x=y):=by
    obtain⟨a,b,c,d⟩:=x;obtain⟨a',b',c',d'⟩:=y
    by_cases h:a=a'<;>by_cases k1:b=b'<;>by_cases k2:c=c'<;>by_cases k3:d=d'<;>simp[h,k1,k2,k3]
   rw[e]
   by_cases he:x=y
   ·rw[ak (by simp[he]),aJ (by omega),if_pos he];rfl
   rw[ai (by simp[he]),if_neg he]) (by rw[ak (by simp)])]
  by_cases he:a=b
  ·rw[if_pos he,fQ];simp[he]
  rw[if_neg he,iK];simp[he]
 have:a≠b:=fun h=>hl (by rw[h])
 rw[ai (by simp;omega)];simp[this]
theorem Wa {a b:View} (h1:a.bg.length≤1048576) (h2:(c6 a).length≤1048576):BF (a,b)=some (decide (a=b)):=by
 unfold BF
 dsimp only
 rw[ag9 h1 fun m hm=>by have:=pZ hm;omega,af,j3,af]
 congr 1
 obtain⟨x,y⟩:=a;obtain⟨x',y'⟩:=b
 by_cases h:x=x'<;>by_cases k1:y=y'<;>simp[h,k1]
theorem ago {s:Score} {v:View} (hf:gY s∧jk v) (hv:ej s v) {ver:Int} (h0:1≤ver∧ver≤1000000) (h:(ct s ver v).2.2≠0):((ct s ver v).2.2=5∨(ct s ver v).2.2=20)∧((c6 v).any fun w=>decide (w.id=(ct s ver v).2.1))=true∧(ct s ver v).1=jg:=by
 rw[←and_assoc]
 refine⟨?_,VR h⟩
 obtain⟨p,hp,_⟩:=hv.2.2.1
 cases hq:(bY s v).find? fun q=>decide (pE s p q≠0) with
 | some q=>
  rw[GH h0 hv hp hq]
  have h1:=List.find?_some hq
  have h2:=List.mem_of_find?_eq_some hq
  simp only[decide_eq_true_eq] at h1
  refine⟨?_,?_⟩
  ·show pE s p q=5∨pE s p q=20
   unfold pE ql at h1 ⊢
   split
   ·exact .inl rfl
   split
   ·rename_i h3 h4;rw[if_neg h3,if_pos h4] at h1;exact absurd rfl h1
   exact .inr rfl
  show((c6 v).any fun w=>decide (w.id=q.2.id))=true
  obtain⟨x,hx,_,h4⟩:=Fe.1 h2
  exact List.any_eq_true.2 ⟨q.2,List.mem_flatMap.2 ⟨x.1,(List.of_mem_zip hx).1,h4⟩,by simp⟩
 | none=>
  exfalso
  have hE:∀ q∈bY s v,pE s p q=0:=fun q jZ=>by
   have:=List.find?_eq_none.1 hq q jZ
   simpa using this
  have hl:(eh s p v).length≤20000:=by
   unfold eh
   rw[List.length_append,List.length_map,Gz hv.2.1]
   have:=FF (s:=s) p
   have:=hf.1.2.2;have:=hf.2.2;omega
  exact h (by rw[(MU hl hv hp h0 hE).eq])
open Classical in
theorem aev (s:Ty.den (.st 6)) (h0:cM 9 (.st 6) s≤1048576) (o0:ec 9 (.st 6) s) (v:Ty.den (.st 9)) (h2:cM 9 (.st 9) v≤1048576) (o2:ec 9 (.st 9) v):VC (s,v)=some true:=by
 change Score at s;change View at v
 have Ay:=yJ h2
 refine(bo head_eq).trans ((bo (Cs Ay)).trans ?_)
 by_cases hu:(gY s∧jk v)∧ej s v
 ·obtain⟨hf,hv⟩:=hu
  have hb:s.bars.length≤1048576:=by have:=hf.1.1;omega
  have ha:(c6 v).length≤1000000:=by have:=hf.2.2;omega
  have hm:v.bg.length≤1000000:=by have:=hf.2.1;omega
  obtain⟨b1,b2,b3⟩:=GI (ver:=7) (v:=v) hf.1
  refine(ak (by simp[hf,hv])).trans ?_
  refine(bo (oP hb ha 7)).trans ?_
  by_cases he:(ct s 7 v).2.2=0
  ·refine(ak (by simp[he])).trans ?_
   obtain⟨p,hp⟩:=GK he
   rw[hp.eq]
   have jt:partOf (aY s 7 p v) v.part=some p:=hp.part
   refine(bo (get_eq hp.score jt)).trans ?_
   rw[hp.get]
   refine(bo (x:=true) ?_).trans rfl
   refine(mV _ _).trans ((ai rfl).trans ((ai rfl).trans ?_))
   refine(bo (Wa (by omega) (by omega))).trans ?_
   refine(ai (by simp)).trans ?_
   refine(bo (B8 (s:=aY s 7 p v) hb)).trans ?_
   exact(ai (decide_eq_true hp.score)).trans rfl
  refine(ai (by simp[he])).trans ?_
  obtain⟨e1,e2,e3⟩:=ago hf hv (by omega) he
  refine(bo (x:=true) ?_).trans rfl
  refine(mV _ _).trans ?_
  have tail:(aa (yd v) fun v5=>aa (rR (v5,(ct s 7 v).2.1)) fun v6=>ab v6 (aa (oY ((ct s 7 v).1,(⟨0,([]:List aD),([]:List Part),([]:List ag)⟩:Score))) fun v7=>some v7) (some false))=some true:=by
   refine(bo (all_eq hm ha)).trans ((bo (GN (by omega) _)).trans ((ai e2).trans ?_))
   rw[e3]
   exact(bo (yz (by decide) (by decide) (by decide))).trans rfl
  rcases e1 with e1 | e1
  ·exact(ai (by simp[e1])).trans tail
  exact(ak (by simp[e1])).trans ((ai (by simp[e1])).trans tail)
 exact ai (by rw[decide_eq_false hu];rfl)
end Go.Proofs.YtfhkmedbfiphbaaGreatDoor
namespace Go.Proofs.YtfhkmedbfiphbaaGreatDoor
open Go Go.aj Go.Sy
attribute [local instance] cD dh
theorem UY {n:Int} (h:0≤n∧n≤6) : -1≤7*jz n - 12*n∧7*jz n - 12*n≤5:=by
 have:n=0∨n=1∨n=2∨n=3∨n=4∨n=5∨n=6:=by omega
 rcases this with rfl | rfl | rfl | rfl | rfl | rfl | rfl<;>decide
theorem afF {t:Int} (h : -19≤t∧t≤19) : -1≤et t∧et t≤1:=by
 unfold et
 split
 ·omega
 split<;>omega
theorem aiX {p:Part} (hp:eM p) {key:Int} (hk:dS key) {x:aE} (hx:kx x):(e8 (qg x p.au) (j6 p key)).2=0:=by
 have u7:=oZ hp
 have ho : -2≤p.au∧p.au≤2:=hp.2.2.2.1
 obtain⟨h1,h2,h3⟩:=hx
 obtain⟨g1,g2,g3⟩:=h1
 have abp:dq (j6 p key):=(L5 hk u7).1
 have dR:bZ (qg x p.au):=⟨g1,⟨by show -4≤x.alter;omega,by show x.alter≤4;omega⟩,⟨by show -8≤x.au+p.au;omega,by show x.au+p.au≤20;omega⟩⟩
 unfold e8
 rw[if_pos ⟨dR,abp⟩,if_pos]
 have hfb:dL (cQ p.shift) = -(dL p.shift):=by unfold dL cQ;dsimp only;omega
 have hf : -12≤dL p.shift∧dL p.shift≤12:=u7.2.2
 have cr:=afF (t:=key+dL (cQ p.shift)) (by unfold dS at hk;omega)
 have fW:=Mf (key+dL (cQ p.shift))
 unfold dS at fW hk
 have sS:=u7.1;have xE:=u7.2.1
 have e1:(j6 p key).steps = -p.shift.steps+et (key+dL (cQ p.shift)):=rfl
 have e2:(j6 p key).bG = -p.shift.bG:=rfl
 have e3:pl (qg x p.au)=7*(x.au+p.au)+x.step:=rfl
 have e4:num (qg x p.au)=12*(x.au+p.au)+jz x.step+x.alter:=rfl
 have e5:dL (cQ p.shift)=7*(-p.shift.bG) - 12*(-p.shift.steps):=rfl
 rw[e1,e2,e3,e4]
 generalize hP:7*(x.au+p.au)+x.step+(-p.shift.steps+et (key+dL (cQ p.shift)))=P
 have hr:0≤P % 7∧P % 7≤6:=by omega
 have ajF:=UY hr
 have ajG:=UY g1
 refine⟨hr,?_,?_⟩
 ·show -4≤_ - (12*(P / 7)+jz (P % 7))∧_ - (12*(P / 7)+jz (P % 7))≤4
  omega
 show -8≤P / 7∧P / 7≤20
 omega
end Go.Proofs.YtfhkmedbfiphbaaGreatDoor
namespace Go.Proofs.YtfhkmedbfiphbaaGreatDoor
open Go Go.aj Go.Sy
attribute [local instance] cD dh
theorem NX {α β:Type} (f:α→β):∀ l:List α,(l.map f).zip l=l.map fun b=>(f b,b)
 | []=>rfl
 | x::l=>by rw[List.map_cons,List.zip_cons_cons,NX f l,List.map_cons]
section
variable {s:Score} {p:Part}
def oa (s:Score) (p:Part):List ag:=s.notes.filter fun n=>decide (n.part=bJ p)
def qu (p:Part) (b:aD) (n:ag):Written:=qv p b (mu p n)
theorem Vw (hs:cL s) {n:ag} (hn:n∈oa s p):∃ b∈s.bars,b.id=n.aZ∧fits b n:=by
 obtain⟨k,b,h1,h2,h3,_⟩:=n3 (hs.2.2.2.1.2.2.1 n (List.mem_filter.1 hn).1)
 exact⟨b,List.mem_of_getElem? h1,h2,h3⟩
theorem Mm (hs:cL s) {n:ag} (hn:n∈oa s p) {b:aD} (hb:b∈s.bars) (an:n.aZ=b.id):fits b n:=by
 obtain⟨b',h1,h2,h3⟩:=Vw hs hn
 have:b'=b:=sY hs.2.1.2.2 h1 hb (h2.trans an)
 rw[←this];exact h3
theorem AG (hp:eM p) {b:aD} (hk:dS b.key) {n:ag} (hx:kx n.aM):dx p b (qu p b n)=(qg n.aM p.au,0)∧bZ (qu p b n).aM:=by
 have h:=aiX hp hk hx
 have hb:=N6 h
 exact⟨hb,(X8 h).2.2⟩
theorem Mn (hp:eM p) {b:aD} (hk:dS b.key) {n:ag} (hx:kx n.aM) (an:n.aZ=b.id) (jt:n.part=bJ p):pN s p (b,qu p b n)=n:=by
 show tq s p b (qu p b n)=n
 unfold tq
 rw[(AG hp hk hx).1]
 dsimp only
 rw[Vo,←an,←jt]
 rfl
theorem NP (hp:eM p) {b:aD} (hk:dS b.key) {n:ag} (hf:fits b n):eN b.length (qu p b n):=by
 obtain⟨f1,f2,f3,f4,f5,f6,f7,f8,f9⟩:=hf
 exact⟨f5,f7,f8,(AG hp hk f9).2,f1,f2,f3,f4⟩
theorem af3 (hs:cL s) (hp:p∈s.parts) {b:aD} (hb:b∈s.bars) {n:ag} (hn:n∈oa s p) (an:n.aZ=b.id):pE s p (b,qu p b n)=0:=by
 have dR:=hs.2.2.1.2.1 p hp
 have hk:=(qG hs hb).2.2.2
 have hf:=Mm hs hn hb an
 have hx:=hf.2.2.2.2.2.2.2.2
 have xA:=(List.mem_filter.1 hn).1
 have jt:n.part=bJ p:=by simpa using (List.mem_filter.1 hn).2
 unfold pE ql
 have abM:¬ ((others s p).any fun m=>decide (m.id=(qu p b n).id))=true:=by
  intro h
  obtain⟨m,hm,he⟩:=List.any_eq_true.1 h
  have h1:=List.mem_filter.1 hm
  have:m=n:=sY hs.2.2.2.1.2.2.2 h1.1 xA (of_decide_eq_true he)
  subst this
  have h2:=h1.2
  simp[jt] at h2
 rw[if_neg abM]
 dsimp only
 rw[(AG dR hk hx).1,if_pos]
 refine⟨rfl,?_⟩
 rw[Vo]
 obtain⟨o,ho,hr⟩:=NT.1 hs.2.2.2.2.1 n xA
 obtain⟨o1,o2,o3,o4⟩:=rO hs hp
 rw[Ml hs.2.2.1.2.2.1,jt] at ho
 have o1:(s.parts.find? fun q=>decide (q.id=bJ p))=some (iw s p):=o1
 rw[o1] at ho
 dsimp only at ho
 rw[if_pos o2] at ho
 injection ho with ho
 exact⟨hx,by rw[ho];exact hr⟩
theorem VG (hs:cL s):bY s (gZ s p)=s.bars.flatMap fun b=>((oa s p).filter fun n=>decide (n.aZ=b.id)).map fun n=>(b,qu p b n):=by
 rw[sF hs p]
 unfold bY
 dsimp only
 rw[NX,List.flatMap_map]
 congr 1
 funext b
 unfold rH ke
 dsimp only
 rw[List.filter_map,List.map_map,List.map_map]
 rfl
theorem Ys (hs:cL s):(s.bars.flatMap fun b=>(oa s p).filter fun n=>decide (n.aZ=b.id)).Perm (oa s p):=by
 have fN:(oa s p).Nodup:=by
  have:((oa s p).map ag.id).Nodup:=hs.2.2.2.1.2.2.2.sublist (List.filter_sublist.map _)
  exact List.Pairwise.imp (fun h e=>h (congrArg ag.id e)) (List.pairwise_map.1 this)
 refine(List.perm_ext_iff_of_nodup ?_ fN).2 fun n=>?_
 ·show List.Pairwise _ _
  rw[List.pairwise_flatMap]
  refine⟨fun b _=>fN.sublist List.filter_sublist,?_⟩
  refine List.Pairwise.imp (fun {b b'} h n hn m hm e=>?_) (List.pairwise_map.1 hs.2.1.2.2)
  subst e
  have h1:=(List.mem_filter.1 hn).2
  have h2:=(List.mem_filter.1 hm).2
  simp only[decide_eq_true_eq] at h1 h2
  exact h (h1.symm.trans h2)
 rw[List.mem_flatMap]
 constructor
 ·rintro⟨b,_,h⟩;exact(List.mem_filter.1 h).1
 intro h
 obtain⟨b,h1,h2,_⟩:=Vw hs h
 exact⟨b,h1,List.mem_filter.2 ⟨h,by simp[h2]⟩⟩
theorem VS (hs:cL s) (hp:p∈s.parts):(eh s p (gZ s p)).Perm s.notes:=by
 have dR:=hs.2.2.1.2.1 p hp
 have e:(bY s (gZ s p)).map (pN s p)=s.bars.flatMap fun b=>(oa s p).filter fun n=>decide (n.aZ=b.id):=by
  rw[VG hs,List.map_flatMap]
  unfold List.flatMap
  congr 1
  refine List.map_congr_left fun b hb=>?_
  rw[List.map_map]
  refine(List.map_congr_left fun n hn=>?_).trans (List.map_id _)
  obtain⟨h1,h2⟩:=List.mem_filter.1 hn
  have an:n.aZ=b.id:=by simpa using h2
  exact Mn dR (qG hs hb).2.2.2 (Mm hs h1 hb an).2.2.2.2.2.2.2.2 an (by simpa using (List.mem_filter.1 h1).2)
 unfold eh
 rw[e]
 refine((Ys hs).append_left _).trans ?_
 refine List.perm_append_comm.trans ?_
 exact List.filter_append_perm (fun n=>decide (n.part=bJ p)) s.notes
theorem Js (hs:cL s) (hp:p∈s.parts):ej s (gZ s p):=by
 have dR:=hs.2.2.1.2.1 p hp
 have jt:partOf s p.id=some p:=qQ hs.2.2.1.2.2.1 hp
 have Ak:=VS hs hp
 have hl:(gZ s p).bg.length=s.bars.length:=by rw[sF hs p];simp
 have fW:∀ b∈s.bars,∀ n,n∈(oa s p).filter (fun n=>decide (n.aZ=b.id))→dS b.key∧fits b n∧n.aZ=b.id∧n.part=bJ p:=fun b hb n hn=>by
  obtain⟨h1,h2⟩:=List.mem_filter.1 hn
  have an:n.aZ=b.id:=by simpa using h2
  exact⟨(qG hs hb).2.2.2,Mm hs h1 hb an,an,by simpa using (List.mem_filter.1 h1).2⟩
 refine⟨hs,hl,⟨p,by rw[sF hs p];exact jt,?_⟩,?_,?_⟩
 ·rw[sF hs p]
  dsimp only
  rw[NX,List.all_map,List.all_eq_true]
  intro b hb
  show j8 p (rH p (ke s p) b,b)=true
  have Kl:(rH p (ke s p) b).notes=((oa s p).filter fun n=>decide (n.aZ=b.id)).map (qu p b):=by
   unfold rH ke
   dsimp only
   rw[List.filter_map,List.map_map]
   rfl
  unfold j8
  rw[Kl]
  simp only[Bool.and_eq_true,decide_eq_true_eq,List.all_eq_true]
  refine⟨⟨⟨rfl,rfl,rfl⟩,Iy.2 fun k a c ha hc=>?_⟩,fun w hw=>?_⟩
  ·have lJ:(((oa s p).filter fun n=>decide (n.aZ=b.id)).map (qu p b)).Pairwise fun a b=>¬ bM wK b a < 0:=by
    rw[List.pairwise_map]
    have Kx:=B9 (B9 (G3 hs) fun n=>decide (n.part=bJ p)) fun n=>decide (n.aZ=b.id)
    refine List.Pairwise.imp_of_mem (fun {n m} hn hm h=>?_) Kx
    obtain⟨g1,g2,g3,g4⟩:=fW b hb n hn
    obtain⟨k1,k2,k3,k4⟩:=fW b hb m hm
    have hx:=g2.2.2.2.2.2.2.2.2
    have hy:=k2.2.2.2.2.2.2.2.2
    have:=Qt (at_:=cg s.bars) (s:=s) (NP dR g1 k2) (NP dR g1 g2) (by rw[(AG dR g1 hy).1]) (by rw[(AG dR g1 hx).1])
    rw[Mn dR g1 hy k3 k4,Mn dR g1 hx g3 g4] at this
    rw[←this];exact h
   have:=VT lJ k a c ha hc
   rw[Bool.not_eq_true',decide_eq_false_iff_not]
   exact this
  obtain⟨n,hn,rfl⟩:=List.mem_map.1 hw
  obtain⟨g1,g2,g3,g4⟩:=fW b hb n hn
  exact NP dR g1 g2
 ·rw[←Gz hl,←List.length_map (f:=pN s p)]
  have h1:=Ak.length_eq
  unfold eh at h1
  rw[List.length_append] at h1
  have:=hs.2.2.2.1.2.1
  omega
 rw[←MO hl]
 have h1:((eh s p (gZ s p)).map ag.id).Nodup:=(Ak.map ag.id).nodup_iff.2 hs.2.2.2.1.2.2.2
 unfold eh at h1
 rw[List.map_append,List.nodup_append] at h1
 have h2:=h1.2.1
 rw[List.map_map] at h2 ⊢
 exact h2
theorem uL (hs:cL s) (hp:p∈s.parts) {ver:Int} (h0:1≤ver∧ver≤1000000):ct s ver (gZ s p)=(⟨ver,s.bars,s.parts,s.notes⟩,0,0)∧gv s ver p (gZ s p):=by
 have Ak:=VS hs hp
 have jt:partOf s (gZ s p).part=some p:=by rw[sF hs p];exact qQ hs.2.2.1.2.2.1 hp
 have cr:gv s ver p (gZ s p):=MU (by rw[Ak.length_eq];exact hs.2.2.2.1.2.1) (Js hs hp) jt h0 fun q hq=>by
  rw[VG hs,List.mem_flatMap] at hq
  obtain⟨b,hb,hq⟩:=hq
  obtain⟨n,hn,rfl⟩:=List.mem_map.1 hq
  obtain⟨h1,h2⟩:=List.mem_filter.1 hn
  exact af3 hs hp hb h1 (by simpa using h2)
 refine⟨?_,cr⟩
 rw[cr.eq]
 unfold aY
 rw[←wA (G3 hs) Ak.symm cr.ids]
end
end Go.Proofs.YtfhkmedbfiphbaaGreatDoor
namespace Go.Proofs.YtfhkmedbfiphbaaGreatDoor
open Go Go.aj Go.Sy
attribute [local instance] cD dh
theorem XK {k:Int} (h:ec 9 (.int .u8) k):0≤k∧k≤255:=by
 have h:(Lit.int .u8 k).wf=true:=h
 simpa [Lit.wf,IntKind.has,IntKind.min,IntKind.max,IntKind.signed,IntKind.bits] using h
theorem aji {k:Int} (h:0≤k∧k≤255):IntKind.wrap .i64 k=k:=by
 have:IntKind.has .i64 k=true:=by
  simp[IntKind.has,IntKind.min,IntKind.max,IntKind.signed,IntKind.bits];omega
 simp[IntKind.wrap,IntKind.signed,IntKind.bits]
 omega
theorem VI {s:Score} (hs:cL s) {k:Int} (hk:0≤k∧k≤255):∃ p∈s.parts,av s.parts (Int.tmod (IntKind.wrap .i64 k) (s.parts.length:Int))=some p:=by
 have hl:=hs.2.2.1.1.1
 rw[aji hk]
 have h0:=Int.tmod_nonneg (s.parts.length:Int) hk.1
 have h1:=Int.tmod_lt_of_pos k (show(0:Int) < (s.parts.length:Int) by omega)
 generalize Int.tmod k (s.parts.length:Int)=j at h0 h1
 have hj:j.toNat < s.parts.length:=by omega
 refine⟨s.parts[j.toNat],List.getElem_mem hj,?_⟩
 have:((j.toNat:Nat):Int)=j:=by omega
 have e:=aW (List.getElem?_eq_getElem hj)
 rw[this] at e;exact e
theorem R1 {l:List ag} {id:Int} (h:id∈l.map ag.id):dr l id=true:=(zT l id).2 h
theorem aht (l:List ag):ev l l=[]:=by
 unfold ev
 have h1:(dG (l.map ag.id)).filter (fun id=> !dr l id)=[]:=List.filter_eq_nil_iff.2 fun x hx=>by rw[R1 ((tT x _).1 hx)];simp
 have h2:(dG (l.map ag.id)).filter (gI l l)=[]:=List.filter_eq_nil_iff.2 fun x hx=>by
  unfold gI
  rw[R1 ((tT x _).1 hx)];simp
 rw[h1,h2];rfl
open Classical in
theorem aes (s:Ty.den (.st 6)) (h0:cM 9 (.st 6) s≤1048576) (o0:ec 9 (.st 6) s) (k:Ty.den (.int .u8)) (h2:cM 9 (.int .u8) k≤1048576) (o2:ec 9 (.int .u8) k):Vz (s,k)=some true:=by
 change Score at s;change Int at k
 have hk:=XK o2
 refine(bo head_eq).trans ?_
 by_cases hu:gY s∧cL s
 ·obtain⟨hf,hs⟩:=hu
  refine(bo (x:=false) ?_).trans ?_
  ·refine(bo (MZ s)).trans ((ak (by simp[hf])).trans ((bo (GM s)).trans ?_))
   simp[hs]
  obtain⟨p,hp,ep⟩:=VI hs hk
  have hb:s.bars.length≤1048576:=by have:=hf.1;omega
  have jt:partOf s p.id=some p:=qQ hs.2.2.1.2.2.1 hp
  have hv:=Js hs hp
  have ha:(c6 (gZ s p)).length≤1000000:=by have:=hv.2.2.2.1;omega
  refine(xL _ _).trans ((cq (by have:=hs.2.2.1.1.1;simp;intro h;rw[h] at this;simp at this)).trans ?_)
  refine(bo ep).trans ((bo (get_eq hs jt)).trans ((bo (oP hb ha s.version)).trans ((bo (EZ hb ha fun h=>BZ h)).trans ?_)))
  obtain⟨e1,_⟩:=uL hs hp (ver:=s.version) hs.1
  obtain⟨e2,_⟩:=uL hs hp (ver:=1) (by omega)
  rw[e1,e2,if_pos rfl]
  dsimp only
  rw[aht]
  refine(bo (x:=true) ?_).trans rfl
  refine(mV _ _).trans ((ai rfl).trans ((ai rfl).trans ((ai rfl).trans ((ai rfl).trans ?_))))
  refine(bo (yz (b:=⟨s.version,s.bars,s.parts,s.notes⟩) hb (by have:=hf.2.1;omega) (by have:=hf.2.2;omega))).trans ?_
  exact(ai (by simp)).trans rfl
 refine(bo (x:=true) ?_).trans (mV _ _)
 refine(bo (MZ s)).trans ?_
 by_cases hf:gY s
 ·refine(ak (by simp[hf])).trans ((bo (GM s)).trans ?_)
  have:¬ cL s:=fun h=>hu ⟨hf,h⟩
  simp[this]
 exact ai (by simp[hf])
end Go.Proofs.YtfhkmedbfiphbaaGreatDoor
namespace Go.Proofs.YtfhkmedbfiphbaaGreatDoor
open Go Go.aj Go.Sy
attribute [local instance] cD dh
theorem ajh {s t:Score} (hs:cL s) (ht:cL t) (h1:t.bars=s.bars) (h2:t.parts=s.parts) (ver:Int) (l:List ag):jJ t ver l=jJ s ver l:=by
 unfold jJ
 rw[h1,h2]
 simp only[hs,ht,true_and]
theorem aaE {s t:Score} (hs:cL s) (ht:cL t) (h1:t.bars=s.bars) (h2:t.parts=s.parts) (ver:Int):qP t ver=qP s ver:=by
 funext l
 unfold qP
 rw[ajh hs ht h1 h2]
theorem agr {s:Score} {v w:View} {p:Part} (h:gv s 7 p v) (hw:ej s w) (jt:v.part=w.part) (ver:Int):ct (aY s 7 p v) ver w=ct s ver w:=by
 have hp:partOf s w.part=some p:=jt▸h.part
 have jY:partOf (aY s 7 p v) w.part=some p:=hp
 have eE:ej (aY s 7 p v) w:=⟨h.score,hw.2⟩
 have e1:pE (aY s 7 p v) p=pE s p:=by
  funext q
  unfold pE ql
  rw[h.others]
  rfl
 have e2:pN (aY s 7 p v) p=pN s p:=rfl
 have e3:bY (aY s 7 p v) w=bY s w:=rfl
 unfold ct
 by_cases h0:1≤ver∧ver≤1000000
 ·rw[if_pos ⟨h0,eE⟩,if_pos ⟨h0,hw⟩,hp,jY]
  dsimp only
  rw[e1,e2,e3,h.others,aaE h.view.1 h.score rfl rfl]
 rw[if_neg fun h=>h0 h.1,if_neg fun h=>h0 h.1]
open Classical in
theorem aew (s:Ty.den (.st 6)) (h0:cM 9 (.st 6) s≤1048576) (o0:ec 9 (.st 6) s) (v:Ty.den (.st 9)) (h2:cM 9 (.st 9) v≤1048576) (o2:ec 9 (.st 9) v) (w:Ty.den (.st 9)) (h3:cM 9 (.st 9) w≤1048576) (o3:ec 9 (.st 9) w):VD (s,v,w)=some true:=by
 change Score at s;change View at v;change View at w
 have hsv:=yJ h2
 have hsw:=yJ h3
 refine(bo head_eq).trans ?_
 have fe:(aa (qh (s,v)) fun v4=>ab (!v4) (some true) (aa (qh (s,w)) fun v5=>ab (!v5) (some true) (some (!(ay v.part w.part)))))=some (!decide (((gY s∧jk v)∧ej s v)∧((gY s∧jk w)∧ej s w)∧v.part=w.part)):=by
  refine(bo (Cs hsv)).trans ?_
  by_cases h1:(gY s∧jk v)∧ej s v
  ·refine(ak (by simp[h1])).trans ((bo (Cs hsw)).trans ?_)
   by_cases h4:(gY s∧jk w)∧ej s w
   ·refine(ak (by simp[h4])).trans ?_
    simp[h1,h4,ay]
   refine(ai (by rw[decide_eq_false h4];rfl)).trans ?_
   congr 1
   rw[eq_comm,Bool.not_eq_true',decide_eq_false_iff_not]
   exact fun h=>h4 h.2.1
  refine(ai (by rw[decide_eq_false h1];rfl)).trans ?_
  congr 1
  rw[eq_comm,Bool.not_eq_true',decide_eq_false_iff_not]
  exact fun h=>h1 h.1
 refine(bo fe).trans ?_
 by_cases hu:((gY s∧jk v)∧ej s v)∧((gY s∧jk w)∧ej s w)∧v.part=w.part
 ·obtain⟨⟨hf,hv⟩,⟨hg,hw⟩,jt⟩:=hu
  have hb:s.bars.length≤1048576:=by have:=hf.1.1;omega
  have ha:(c6 v).length≤1000000:=by have:=hf.2.2;omega
  have hc:(c6 w).length≤1000000:=by have:=hg.2.2;omega
  refine(ak (by simp[hf,hv,hg,hw,jt])).trans ((bo (oP hb ha 7)).trans ?_)
  by_cases he:(ct s 7 v).2.2=0
  ·obtain⟨p,hp⟩:=GK he
   rw[hp.eq]
   refine(ak rfl).trans ((bo (oP hb hc 8)).trans ((bo (oP (s:=aY s 7 p v) hb hc 8)).trans ?_))
   rw[agr hp hw jt 8]
   obtain⟨b1,b2,b3⟩:=GI (ver:=8) (v:=w) hf.1
   refine(bo (x:=true) ?_).trans rfl
   refine(mV _ _).trans ((ai (by simp)).trans ((ai (by simp)).trans ?_))
   refine(bo (yz (by omega) (by omega) (by omega))).trans ?_
   simp
  exact ai (by simp[he])
 exact ai (by rw[decide_eq_false hu];rfl)
end Go.Proofs.YtfhkmedbfiphbaaGreatDoor
namespace Go.Proofs.YtfhkmedbfiphbaaGreatDoor
open Go Go.aj Go.Sy
attribute [local instance] cD dh
theorem aih {s:Score} {ver:Int} {v:View} {p:Part} (h:gv s ver p v):Ha s v=((bY s v).map (sN p),0):=by
 unfold Ha
 rw[if_pos h.view,h.part]
 dsimp only
 unfold dX
 have hf:((bY s v).find? fun q=>decide (sE p q≠0))=none:=List.find?_eq_none.2 fun q hq=>by
  have:=(Bd (h.ok q hq)).2.1
  simp[sE,this]
 rw[hf]
 rfl
theorem agc {s:Score} {ver:Int} {v:View} {p q:Part} (h:gv s ver p v) (hq:bJ q=bJ p):ke (aY s ver p v) q=((bY s v).map (pN s p)).map (mu q):=by
 unfold ke
 rw[hq,h.own]
theorem UW {s:Score} {p:Part} (hs:cL s) (hp:p∈s.parts):(gZ s p).bg.length≤4000∧(c6 (gZ s p)).length≤20000:=by
 have hv:=Js hs hp
 exact⟨by rw[hv.2.1];exact hs.2.1.1.2,hv.2.2.2.1⟩
theorem agb (s:Score) (p q:Part) (x:aD×Written):mu q (pN s p x)=⟨(sN p x).id,q.id,(sN p x).aZ,(sN p x).bm,(sN p x).bH,(sN p x).start,(sN p x).length,⟨(sN p x).aM.step,(sN p x).aM.alter,(sN p x).aM.au - p.au+q.au⟩⟩:=rfl
open Classical in
theorem aeu (s:Ty.den (.st 6)) (h0:cM 9 (.st 6) s≤1048576) (o0:ec 9 (.st 6) s) (v:Ty.den (.st 9)) (h2:cM 9 (.st 9) v≤1048576) (o2:ec 9 (.st 9) v) (k:Ty.den (.int .u8)) (h3:cM 9 (.int .u8) k≤1048576) (o3:ec 9 (.int .u8) k):VB (s,v,k)=some true:=by
 change Score at s;change View at v;change Int at k
 have Ay:=yJ h2
 have hk:=XK o3
 refine(bo head_eq).trans ((bo (Cs Ay)).trans ?_)
 by_cases hu:(gY s∧jk v)∧ej s v
 ·obtain⟨hf,hv⟩:=hu
  have hs:=hv.1
  have hb:s.bars.length≤1048576:=by have:=hf.1.1;omega
  have ha:(c6 v).length≤1000000:=by have:=hf.2.2;omega
  refine(ak (by simp[hf,hv])).trans ((bo (oP hb ha 7)).trans ?_)
  by_cases he:(ct s 7 v).2.2=0
  ·obtain⟨p,hp⟩:=GK he
   have ra:=(od hs hp.part).2.1
   obtain⟨q,hq,ep⟩:=VI hs hk
   have SL:partOf s q.id=some q:=qQ hs.2.2.1.2.2.1 hq
   have SM:partOf (aY s 7 p v) q.id=some q:=SL
   have jZ:q∈(aY s 7 p v).parts:=hq
   rw[hp.eq]
   refine(ak rfl).trans ((bo (yy (by have:=hf.1.2.1;omega) v.part)).trans ?_)
   obtain⟨i,hi,hix⟩:∃ i:Nat,s.parts[i]?=some p∧(ix s.parts fun q=>decide (q.id=v.part))=(i:Int):=by
    rcases mq s.parts fun q=>decide (q.id=v.part) with ⟨h1,h2⟩ | ⟨i,x,h1,h2,h3,h4⟩
    ·have:=hp.part
     unfold partOf at this
     rw[h1] at this;cases this
    have:=hp.part
    unfold partOf at this
    rw[h2] at this;injection this with this;subst this
    exact⟨i,h1,h3⟩
   rw[hix]
   have bO:=hs.2.2.1.1.1
   refine(bo (aW hi)).trans ((cq (by simp;intro h;rw[h] at bO;simp at bO)).trans ((bo ep).trans ((bo (get_eq hs SL)).trans ((bo (get_eq hp.score SM)).trans ?_))))
   refine(bo (x:=false) rfl).trans ((xL _ _).trans ((bo (Hb p)).trans ((bo (Hb q)).trans ?_)))
   by_cases Ej:bJ q=bJ p
   ·refine(ak (by simp[Ej])).trans ?_
    obtain⟨m1,m2⟩:=UW hp.score jZ
    refine(bo (aif hb ha)).trans ((bo (VL hp.score SM)).trans ((bo (oP (s:=aY s 7 p v) (v:=gZ (aY s 7 p v) q) hb (by omega) 7)).trans ?_))
    obtain⟨g1,g2⟩:=uL hp.score jZ (ver:=7) (by omega)
    rw[g1,aih hp,agc hp Ej]
    have hn:(aY s 7 p v).notes.length≤20000:=hp.score.2.2.2.1.2.1
    refine(bo (x:=false) ?_).trans ((xL _ _).trans ?_)
    ·refine(ak rfl).trans ((ak rfl).trans ((ak rfl).trans ((ak (by simp)).trans ?_)))
     refine(bo (yz (a:=aY s 7 p v) (b:=⟨7,(aY s 7 p v).bars,(aY s 7 p v).parts,(aY s 7 p v).notes⟩) hb (by show s.parts.length≤_;have:=hf.1.2.1;omega) (by omega))).trans ?_
     have:(aY s 7 p v)=⟨7,(aY s 7 p v).bars,(aY s 7 p v).parts,(aY s 7 p v).notes⟩:=rfl
     simp[←this]
    refine(bo (x:=true) ?_).trans rfl
    have oH:(bY s v).length≤1000000:=by rw[Gz hv.2.1];exact ha
    have dR:=(hs.2.2.1.2.1 p ra).2.2.2.1
    have hqo:=(hs.2.2.1.2.1 q hq).2.2.2.1
    have:=fg (σ:=Unit) (st:=fun _ k=>(true,k)) (l:=(bY s v).map (sN p)) (fun _ _=> .inl ()) (fun _=>true) (fun _ _=>True) (step:=fun fj:(Bool×Int)=>ab (aA fj.2 ((((bY s v).map (sN p))).length:Int)) (aa (aa (av ((bY s v).map (sN p)) fj.2) fun cY=>ar (az (cY.aM.au - p.au)) <| ar (az ((cY.aM.au - p.au)+q.au)) <| ab fj.1 (aa (av (((bY s v).map (pN s p)).map (mu q)) fj.2) fun v20=>some (iR v20 (⟨cY.id,q.id,cY.aZ,cY.bm,cY.bH,cY.start,cY.length,(⟨cY.aM.step,cY.aM.alter,((cY.aM.au - p.au)+q.au)⟩:aE)⟩:ag))) (some false)) fun(cY:Bool)=>ar (az (fj.2+1)) <| some (.inl (cY,(fj.2+1)))) (some (.inr fj.1)))
     (
      fun j x z hx _=>by
      have aN:=bU hx
      rw[List.getElem?_map] at hx
      obtain⟨y,hy,rfl⟩:=Option.map_eq_some_iff.1 hx
      have hx:((bY s v).map (sN p))[j]?=some (sN p y):=by rw[List.getElem?_map,hy];rfl
      have hz:(((bY s v).map (pN s p)).map (mu q))[j]?=some (mu q (pN s p y)):=by rw[List.getElem?_map,List.getElem?_map,hy];rfl
      have Aj:=KY p y.1 y.2
      have Aj : -100≤(sN p y).aM.au∧(sN p y).aM.au≤100:=Aj
      have nN:j < (bY s v).length:=by simpa using aN
      dsimp only
      rw[ai (decide_eq_true (by omega)),aX (aW hx),aJ (by omega),aJ (by omega),mV,aX (aW hz),qH,agb s p q y,decide_eq_true rfl,af,aJ (by omega)]
      rfl) (fun _ _ _ _ _ _ _=>trivial) (fun z _=>by
      dsimp only
      rw[ak (decide_eq_false (by omega))]) () trivial
    have e:∀ l:List ag,fu (ρ:=Bool) (fun(_:Unit) (_:ag)=> .inl ()) (fun _=>true) l ()=true:=fun l=>by
     induction l with
     | nil=>rfl
     | cons x l ih=>exact ih
    rw[e] at this
    exact this
   refine(ai (by simp;exact fun h=>Ej h.symm)).trans ?_
   refine(bo (x:=true) ?_).trans rfl
   obtain⟨m1,m2⟩:=UW hs hq
   refine(mV _ _).trans ((bo (Wa (a:=gZ s q) (b:=gZ (aY s 7 p v) q) (by omega) (by omega))).trans ?_)
   have:gZ (aY s 7 p v) q=gZ s q:=by
    rw[sF hp.score q,sF hs q]
    unfold ke
    rw[hp.oth (bJ q) Ej]
    rfl
   simp[this]
  exact ai (by simp[he])
 exact ai (by rw[decide_eq_false hu];rfl)
end Go.Proofs.YtfhkmedbfiphbaaGreatDoor
namespace Go.Proofs.YtfhkmedbfiphbaaGreatDoor
open Go Go.aj Go.Sy
attribute [local instance] cD dh
section
variable {a b:List ag}
def xi (a b:List ag):List Int:=(dG (a.map ag.id)).filter fun id=> !dr b id
def yw (a b:List ag):List Int:=(dG (b.map ag.id)).filter (gI a b)
theorem RF {l:List ag} {id:Int} (h:dr l id=true):(jn l id).id=id:=by
 rcases s7 (l:=l) (id:=id) with ⟨h1,_⟩ | ⟨k,_,h2,h3⟩
 ·rw[h] at h1;cases h1
 unfold jn
 unfold dr at h
 rw[zC] at h
 obtain⟨n,hn⟩:=Option.isSome_iff_exists.1 h
 rw[hn]
 have:=List.find?_some hn
 simpa using this
theorem LX {x:Int}:x∈xi a b↔dr a x=true∧dr b x=false:=by
 unfold xi
 rw[List.mem_filter,tT,←zT];simp
theorem Ff {x:Int}:x∈yw a b↔dr b x=true∧gI a b x=true:=by
 unfold yw
 rw[List.mem_filter,tT,←zT]
theorem Wg:(ev a b).map (fun r=>r.2.id)=xi a b++yw a b:=by
 have e:ev a b=(xi a b).map (fun id=>((2:Int),l5 id))++(yw a b).map fun id=>((1:Int),jn b id):=rfl
 rw[e,List.map_append,List.map_map,List.map_map]
 congr 1
 ·exact(List.map_congr_left fun x _=>rfl).trans (List.map_id _)
 exact(List.map_congr_left fun x hx=>RF (Ff.1 hx).1).trans (List.map_id _)
theorem ahs (ha:(a.map ag.id).Nodup) (hb:(b.map ag.id).Nodup):((ev a b).map fun r=>r.2.id).Nodup:=by
 rw[Wg,List.nodup_append]
 have hs:∀ {l:List Int},l.Nodup→(dG l).Nodup:=fun h=>(Cb h).imp fun h e=>by omega
 refine⟨(hs ha).sublist List.filter_sublist,(hs hb).sublist List.filter_sublist,fun x hx y hy e=>?_⟩
 subst e
 have h1:=(LX.1 hx).2
 have h2:=(Ff.1 hy).1
 rw[h1] at h2;cases h2
theorem ahr {r:Int×ag} (h:r∈ev a b):(∃ id,id∈xi a b∧r=(2,l5 id))∨∃ id,id∈yw a b∧r=(1,jn b id):=by
 have e:ev a b=(xi a b).map (fun id=>((2:Int),l5 id))++(yw a b).map fun id=>((1:Int),jn b id):=rfl
 rw[e] at h
 rcases List.mem_append.1 h with h | h
 ·obtain⟨id,h1,rfl⟩:=List.mem_map.1 h;exact .inl ⟨id,h1,rfl⟩
 obtain⟨id,h1,rfl⟩:=List.mem_map.1 h;exact .inr ⟨id,h1,rfl⟩
theorem QL {raw:List (Int×ag)} {k:Nat} {e:bj} (h:(gK raw)[k]?=some e):∃ r,raw[k]?=some r∧e=⟨r.1,(k:Int)+1,1,r.2⟩:=by
 unfold gK at h
 rw[List.getElem?_map,List.getElem?_zipIdx] at h
 cases hr:raw[k]? with
 | none=>rw[hr] at h;cases h
 | some r=>
  rw[hr] at h
  simp at h
  exact⟨r,rfl,h.symm⟩
end
def vK (l:List Int) (m:List (Int×Bool)):List (Int×Bool):=l.foldl (fun m x=>bz m x true) m
theorem LU (k:Int):∀ (l:List Int) (m:List (Int×Bool)),bB (vK l m) k false=(decide (k∈l)||bB m k false)
 | [],m=>by simp[vK]
 | x::l,m=>by
  show bB (vK l (bz m x true)) k false=_
  rw[LU k l,x6]
  by_cases h:k=x
  ·simp[h]
  simp[h]
theorem agu {s:Score} {v:View} (hf:gY s∧jk v) (hv:ej s v):(∃ p,∀ ver,1≤ver∧ver≤1000000→gv s ver p v)∨∃ e,e≠0∧∀ ver,1≤ver∧ver≤1000000→(ct s ver v).2.2=e:=by
 obtain⟨p,hp,_⟩:=hv.2.2.1
 cases hq:(bY s v).find? fun q=>decide (pE s p q≠0) with
 | some q=>
  right
  have h1:=List.find?_some hq
  simp only[decide_eq_true_eq] at h1
  exact⟨pE s p q,h1,fun ver h0=>by rw[GH h0 hv hp hq]⟩
 | none=>
  left
  have hl:(eh s p v).length≤20000:=by
   unfold eh
   rw[List.length_append,List.length_map,Gz hv.2.1]
   have:=FF (s:=s) p
   have:=hf.1.2.2;have:=hf.2.2;omega
  exact⟨p,fun ver h0=>MU hl hv hp h0 fun q jZ=>by
   have:=List.find?_eq_none.1 hq q jZ
   simpa using this⟩
theorem Zn {a b:List ag} (cW:a.length≤1000000) (mQ:b.length≤1000000) (hn:((ev a b).map fun r=>r.2.id).Nodup) (hl:(ev a b).length≤1000000) :
  aU (ρ:=(Bool×(List (Int×Bool)))⊕Bool) (fun v6:(Bool×(Int×(List (Int×Bool))))=>ab (aA v6.2.1 ((gK (ev a b)).length:Int)) (cw (aa (av (gK (ev a b)) v6.2.1) fun v7=>aa (jc (b,v7.note.id)) fun v8=>aa (ab (bB v6.2.2 v7.note.id false) (some true) (ar (az (v6.2.1+1)) <| ab (!(ay v7.clock (v6.2.1+1))) (some true) (some (!(ay v7.mc 1))))) fun(v9:Bool)=>ab v9 (some (.inr (.inr (.inr false)))) (ab (ay v7.kind 2) (aa (ab v6.1 (ab (aA v8 0) (aa (jc (a,v7.note.id)) fun v10=>ab (leI 0 v10) (some (iR v7.note (⟨v7.note.id,0,0,0,0,(⟨0,0⟩:Rat),(⟨0,0⟩:Rat),(⟨0,0,0⟩:aE)⟩:ag))) (some false)) (some false)) (some false)) fun(v10:Bool)=>some (.inl (v10,(bz v6.2.2 v7.note.id true)))) (ab v6.1 (ab (ay v7.kind 1) (ab (leI 0 v8) (aa (av b v8) fun v10=>some (.inl ((iR v10 v7.note),(bz v6.2.2 v7.note.id true)))) (some (.inl (false,(bz v6.2.2 v7.note.id true))))) (some (.inl (false,(bz v6.2.2 v7.note.id true))))) (some (.inl (false,(bz v6.2.2 v7.note.id true))))))) fun(v7:(Bool×(List (Int×Bool))))=>ar (az (v6.2.1+1)) <| some (.inl (v7.1,((v6.2.1+1),v7.2)))) (some (.inr (.inl (v6.1,v6.2.2))))) (true,(0,([]:List (Int×Bool))))=some (.inl (true,vK ((ev a b).map fun r=>r.2.id) [])):=by
 have:=fg (σ:=List (Int×Bool)) (st:=fun m k=>(true,(k,m))) (l:=gK (ev a b)) (ρ:=(Bool×(List (Int×Bool)))⊕Bool) (fun m e=> .inl (bz m e.note.id true)) (fun m=> .inl (true,m)) (fun k m=>m=vK (((ev a b).map fun r=>r.2.id).take k) [])
  (step:=(fun v6:(Bool×(Int×(List (Int×Bool))))=>ab (aA v6.2.1 ((gK (ev a b)).length:Int)) (cw (aa (av (gK (ev a b)) v6.2.1) fun v7=>aa (jc (b,v7.note.id)) fun v8=>aa (ab (bB v6.2.2 v7.note.id false) (some true) (ar (az (v6.2.1+1)) <| ab (!(ay v7.clock (v6.2.1+1))) (some true) (some (!(ay v7.mc 1))))) fun(v9:Bool)=>ab v9 (some (.inr (.inr (.inr false)))) (ab (ay v7.kind 2) (aa (ab v6.1 (ab (aA v8 0) (aa (jc (a,v7.note.id)) fun v10=>ab (leI 0 v10) (some (iR v7.note (⟨v7.note.id,0,0,0,0,(⟨0,0⟩:Rat),(⟨0,0⟩:Rat),(⟨0,0,0⟩:aE)⟩:ag))) (some false)) (some false)) (some false)) fun(v10:Bool)=>some (.inl (v10,(bz v6.2.2 v7.note.id true)))) (ab v6.1 (ab (ay v7.kind 1) (ab (leI 0 v8) (aa (av b v8) fun v10=>some (.inl ((iR v10 v7.note),(bz v6.2.2 v7.note.id true)))) (some (.inl (false,(bz v6.2.2 v7.note.id true))))) (some (.inl (false,(bz v6.2.2 v7.note.id true))))) (some (.inl (false,(bz v6.2.2 v7.note.id true))))))) fun(v7:(Bool×(List (Int×Bool))))=>ar (az (v6.2.1+1)) <| some (.inl (v7.1,((v6.2.1+1),v7.2)))) (some (.inr (.inl (v6.1,v6.2.2))))))
  (
   fun k e m hx hi=>by
   have aN:=bU hx
   obtain⟨r,hr,rfl⟩:=QL hx
   have hk:k < 1000000:=by rw[xj] at aN;omega
   have hm:bB m r.2.id false=false:=by
    rw[hi,LU]
    have:r.2.id∉((ev a b).map fun r=>r.2.id).take k:=fun h=>by
     obtain⟨j,hj⟩:=List.getElem?_of_mem h
     obtain⟨h1,h2⟩:=yQ hj
     have h3:((ev a b).map fun r=>r.2.id)[k]?=some r.2.id:=by rw[List.getElem?_map,hr];rfl
     unfold List.Nodup at hn
     rw[List.pairwise_iff_getElem] at hn
     have l2:=bU h2;have l3:=bU h3
     refine hn j k l2 l3 h1 ?_
     rw[List.getElem?_eq_getElem l2] at h2;rw[List.getElem?_eq_getElem l3] at h3
     injection h2 with h2;injection h3 with h3
     rw[h2,h3]
    simp[this,LZ]
   have ml:((k:Int)+1)=((k+1:Nat):Int):=by omega
   dsimp only
   rw[ai (decide_eq_true (by omega)),aX (aW hx),wm mQ,af]
   dsimp only
   rw[hm,xL,aJ (by omega),ak (by simp),af,ak (by simp)]
   rcases ahr (List.mem_of_getElem? hr) with ⟨id,h1,rfl⟩ | ⟨id,h1,rfl⟩
   ·obtain⟨g1,g2⟩:=LX.1 h1
    rcases s7 (l:=b) (id:=id) with ⟨_,q2⟩ | ⟨j,q1,_,_⟩
    ·rcases s7 (l:=a) (id:=id) with ⟨q3,_⟩ | ⟨i,q3,q4,_⟩
     ·rw[g1] at q3;cases q3
     have e1:(l5 id).id=id:=rfl
     dsimp only
     rw[e1,q2,ai (show ay (2:Int) 2=true from rfl),mV,ai (show aA (-1:Int) 0=true from rfl),wm cW,af,q4,ai (decide_eq_true (by omega)),af,fQ,aJ (by omega),qH]
     have e2:decide (l5 id=(⟨id,0,0,0,0,(⟨0,0⟩:Rat),(⟨0,0⟩:Rat),(⟨0,0,0⟩:aE)⟩:ag))=true:=decide_eq_true rfl
     rw[e2,ml]
    rw[g2] at q1;cases q1
   obtain⟨g1,g2⟩:=Ff.1 h1
   rcases s7 (l:=b) (id:=id) with ⟨q1,_⟩ | ⟨j,_,q2,q3⟩
   ·rw[g1] at q1;cases q1
   have e1:(jn b id).id=id:=RF g1
   dsimp only
   rw[e1,q2,ak (show ay (1:Int) 2=false from rfl),mV,ai (show ay (1:Int) 1=true from rfl),ai (decide_eq_true (by omega)),aX (aW q3),fQ,aJ (by omega),qH,decide_eq_true rfl,ml])
  (
   fun k e m m' hx hi hm=>by
   obtain⟨r,hr,rfl⟩:=QL hx
   injection hm with hm
   have h3:((ev a b).map fun r=>r.2.id)[k]?=some r.2.id:=by rw[List.getElem?_map,hr];rfl
   rw[wD h3]
   unfold vK
   rw[List.foldl_append,←hm,hi]
   rfl)
  (
   fun m hi=>by
   dsimp only
   rw[ak (decide_eq_false (by omega))]) [] rfl
 refine this.trans ?_
 rw[lC (f:=fun(m:List (Int×Bool)) (e:bj)=> .inl (bz m e.note.id true)) (fin:=fun m=>(.inl (true,m):(Bool×(List (Int×Bool)))⊕Bool)) (fun m e=>bz m e.note.id true) _ [] (fun _ _ _=>rfl)]
 congr 3
 unfold vK
 have e:(ev a b).map (fun r=>r.2.id)=(gK (ev a b)).map fun e=>e.note.id:=by
  apply List.ext_getElem?
  intro k
  rw[List.getElem?_map,List.getElem?_map]
  unfold gK
  rw[List.getElem?_map,List.getElem?_zipIdx]
  cases (ev a b)[k]?<;>rfl
 rw[e,List.foldl_map]
theorem Zm {a b:List ag} {id:Int} (h:dr a id=true∨dr b id=true):decide (id∈(ev a b).map fun r=>r.2.id)=(!dr a id||(!dr b id || !decide (jn a id=jn b id))):=by
 have h1:decide (id∈(ev a b).map fun r=>r.2.id)=((dr a id && !dr b id)||(dr b id&&gI a b id)):=by
  rw[Wg,Bool.eq_iff_iff]
  simp only[decide_eq_true_eq,List.mem_append,LX,Ff,Bool.or_eq_true,Bool.and_eq_true,Bool.not_eq_true']
 rw[h1]
 unfold gI
 cases h2:dr a id<;>cases h3:dr b id<;>simp_all
theorem Zo {a b:List ag} (cW:a.length≤1000000) (mQ:b.length≤1000000) {M:List (Int×Bool)} (hM:∀ k,bB M k false=decide (k∈(ev a b).map fun r=>r.2.id)) :
  aU (ρ:=Bool) (fun v7:(Bool×Int)=>ab (aA v7.2 ((List.append (List.append ([]:List ag) a) b).length:Int)) (aa (ar ((leI 0 v7.2)&&(aA v7.2 ((List.append (List.append ([]:List ag) a) b).length:Int))) <| aa (av (List.append (List.append ([]:List ag) a) b) v7.2) fun v8=>aa (jc (a,v8.id)) fun v9=>aa (jc (b,v8.id)) fun v10=>ab v7.1 (ab (aA v9 0) (some ((bB M v8.id false) == true)) (ab (aA v10 0) (some ((bB M v8.id false) == true)) (aa (av a v9) fun v11=>aa (av b v10) fun v12=>some ((bB M v8.id false) == (!(iR v11 v12)))))) (some false)) fun(v8:Bool)=>ar (az (v7.2+1)) <| some (.inl (v8,(v7.2+1)))) (some (.inr v7.1))) (true,0)=some true:=by
 have DS:List.append (List.append ([]:List ag) a) b=a++b:=rfl
 rw[DS]
 have:=fg (σ:=Unit) (st:=fun _ k=>(true,k)) (l:=a++b) (fun _ _=> .inl ()) (fun _=>true) (fun _ _=>True) (step:=(fun v7:(Bool×Int)=>ab (aA v7.2 ((a++b).length:Int)) (aa (ar ((leI 0 v7.2)&&(aA v7.2 ((a++b).length:Int))) <| aa (av (a++b) v7.2) fun v8=>aa (jc (a,v8.id)) fun v9=>aa (jc (b,v8.id)) fun v10=>ab v7.1 (ab (aA v9 0) (some ((bB M v8.id false) == true)) (ab (aA v10 0) (some ((bB M v8.id false) == true)) (aa (av a v9) fun v11=>aa (av b v10) fun v12=>some ((bB M v8.id false) == (!(iR v11 v12)))))) (some false)) fun(v8:Bool)=>ar (az (v7.2+1)) <| some (.inl (v8,(v7.2+1)))) (some (.inr v7.1))))
  (
   fun k x z hx _=>by
   have aN:=bU hx
   have hl:(a++b).length=a.length+b.length:=List.length_append
   have fM:=List.mem_of_getElem? hx
   have Ko:dr a x.id=true∨dr b x.id=true:=by
    rcases List.mem_append.1 fM with h | h
    ·exact .inl (List.any_eq_true.2 ⟨x,h,by simp⟩)
    exact .inr (List.any_eq_true.2 ⟨x,h,by simp⟩)
   have hc:=Zm Ko
   have body:(aa (jc (a,x.id)) fun v9=>aa (jc (b,x.id)) fun v10=>ab true (ab (aA v9 0) (some ((bB M x.id false) == true)) (ab (aA v10 0) (some ((bB M x.id false) == true)) (aa (av a v9) fun v11=>aa (av b v10) fun v12=>some ((bB M x.id false) == (!(iR v11 v12)))))) (some false))=some true:=by
    rw[wm cW,af,wm mQ,af,mV,hM,hc]
    rcases s7 (l:=a) (id:=x.id) with ⟨q1,q2⟩ | ⟨i,q1,q2,q3⟩
    ·rw[q2,ai (show aA (-1:Int) 0=true from rfl),q1];rfl
    rw[q2,ak (decide_eq_false (by omega)),q1]
    rcases s7 (l:=b) (id:=x.id) with ⟨r1,r2⟩ | ⟨j,r1,r2,r3⟩
    ·rw[r2,ai (show aA (-1:Int) 0=true from rfl),r1];rfl
    rw[r2,ak (decide_eq_false (by omega)),r1,aX (aW q3),aX (aW r3),qH]
    simp
   dsimp only
   rw[ai (decide_eq_true (by omega)),cq (by simp;omega),aX (aW hx)]
   rw[body,af,aJ (by omega)]
   rfl) (fun _ _ _ _ _ _ _=>trivial) (fun z _=>by
   dsimp only
   rw[ak (decide_eq_false (by omega))]) () trivial
 refine this.trans ?_
 congr 1
 generalize a++b=l
 clear this DS
 induction l with
 | nil=>rfl
 | cons x l ih=>exact ih
open Classical in
theorem aer (s:Ty.den (.st 6)) (h0:cM 9 (.st 6) s≤1048576) (o0:ec 9 (.st 6) s) (v:Ty.den (.st 9)) (h2:cM 9 (.st 9) v≤1048576) (o2:ec 9 (.st 9) v):Vy (s,v)=some true:=by
 change Score at s;change View at v
 have Ay:=yJ h2
 refine(bo head_eq).trans ((bo (Cs Ay)).trans ?_)
 by_cases hu:(gY s∧jk v)∧ej s v
 ·obtain⟨hf,hv⟩:=hu
  have hb:s.bars.length≤1048576:=by have:=hf.1.1;omega
  have ha:(c6 v).length≤1000000:=by have:=hf.2.2;omega
  refine(ak (by simp[hf,hv])).trans ((bo (oP hb ha 7)).trans ((bo (EZ hb ha fun h=>BZ h)).trans ?_))
  rcases agu hf hv with ⟨p,hp⟩ | ⟨e,he,bA⟩
  ·have h7:=hp 7 (by omega)
   have h1:=hp 1 (by omega)
   rw[h7.eq,h1.eq,if_pos rfl]
   refine(ak rfl).trans ?_
   have hn:(aY s 1 p v).notes.length≤20000:=h1.score.2.2.2.1.2.1
   have Kz:=hf.1.2.2
   have fN:=ahs (a:=s.notes) (b:=(aY s 1 p v).notes) hv.1.2.2.2.1.2.2.2 h1.score.2.2.2.1.2.2.2
   have Ap:=Wf s.notes (aY s 1 p v).notes
   refine(Tn (Zn (a:=s.notes) (b:=(aY s 1 p v).notes) (by omega) (by omega) fN (by omega))).trans ?_
   refine(bo (x:=true) ?_).trans rfl
   have l1:(List.append ([]:List ag) s.notes).length=s.notes.length:=rfl
   have l2:(List.append (List.append ([]:List ag) s.notes) (aY s 1 p v).notes).length=s.notes.length+(aY s 1 p v).notes.length:=List.length_append
   refine(cq (decide_eq_true (by rw[l1];omega))).trans ((cq (decide_eq_true ?_)).trans ?_)
   ·show(List.append (List.append ([]:List ag) s.notes) (aY s 1 p v).notes).length*96≤_∧(List.append (List.append ([]:List ag) s.notes) (aY s 1 p v).notes).length≤_
    rw[l2];omega
   exact Zo (a:=s.notes) (b:=(aY s 1 p v).notes) (by omega) (by omega) fun k=>by rw[LU];simp[LZ]
  have h7:=bA 7 (by omega)
  have h1:=bA 1 (by omega)
  refine(ai (by simp[h7,he])).trans ?_
  rw[if_neg (by rw[h1];exact he)]
  refine(bo (x:=true) ?_).trans rfl
  refine(mV _ _).trans ((ai (by simp[h1,h7])).trans rfl)
 exact ai (by rw[decide_eq_false hu];rfl)
end Go.Proofs.YtfhkmedbfiphbaaGreatDoor
