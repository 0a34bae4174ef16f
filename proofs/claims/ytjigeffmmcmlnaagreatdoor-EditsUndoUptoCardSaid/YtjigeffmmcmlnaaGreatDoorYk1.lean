import Derived.Test.YtjigeffmmcmlnaaGreatDoorYb2
import Derived.Test.YtjigeffmmcmlnaaGreatDoorX18
import Derived.Test.YtjigeffmmcmlnaaGreatDoorYe1
set_option linter.all false
set_option linter.unnecessarySimpa false
set_option linter.deprecated false
set_option linter.unusedVariables false
set_option linter.unusedSimpArgs false
set_option linter.unusedSectionVars false
namespace Go.Proofs.YtjigeffmmcmlnaaGreatDoor
open Go Go.an au
set_option maxRecDepth 4000
attribute [local instance] cJ
attribute [local congr] ab.kO
attribute [local simp] bu dz dU evalOp bd an.get fk strip bq an.after iI typed gr holds cR R.ok R.bad gI iU jk gW ku ji Op.operands Call.operands dY dA dQ dR iH il fm im gK fg nj nk nm np fK lH lL lJ fL jq lg lp lk ln ng ni jv mD bf D.cells T.eT D.one gH fV gb fo setAt eI fC jC fa gN bw cX iy fU iA gv jV arith et iM jf dG gC iN TD.agg env bR List.map fe iD ff gn gT mapOf iz iq dr mH mI mJ mK mL mM mN mO lK nh ll me mC my mB mr mG lq mi ml jw mE ko jh fh du fj iP gJ jB gone unbox iW fE gB gG lI lh nf jg jS List.contains_cons List.contains_nil lr iO iC iB gm ib gX lC kY mW l6 mw mu mz kr mF mh mj P2.list mA lB kW mU lF lb mZ l9 jQ kM lu kR mP lW jI kC lA kV mT l4 jM kH lE la mY l8 jP kL lD kZ mX l7 jO kJ jX kX mV l5 jN kI lG lf nc ma jW kT mR lY jK kF lv kS mQ lX jJ kD lz kU mS lZ jL kG kQ km lN lO lT lU lP lV lQ lR lS lM nD nH kv kz iQ nB nC nE nF nG nI nJ jD jE nL nM nN nO nP nQ nR nS nq nr nu nv nw nx ny nz nA
section
set_option maxRecDepth 10000
attribute [local simp] eJ qO qL rl qR qP qM rp qS qQ qN rq qT rT rP su rW rQ rN so rU rR rO sr rV tU tR ui tV Cx zn Ac BV BA C5 Fv
noncomputable def sp8:an.Spec:=eY Si
set_option maxHeartbeats 20000000 in
theorem ok8:aL Tryz.prog 8 sp8:=by
 have hV:=AJ (cs IH (cs aaP (cs M4 (cs IG (cs aaO (cs M3 cn))))))
 refine go2 hV Tryz.func8 rfl Tryz.ntmps8 fun a0 a1 r hg _ _ _ _ _ hQ=>?_
 unfold Si at hg
 refine rG hV [se 1 a1,pt 2 0] [.w 26 a0] ?_
 obtain⟨x2,h3,hg⟩:=ah hg
 refine rG hV [se 1 a1,pt 2 0,se 5 x2] [.w 26 a0] ?_ fun K k=>by simp[wD,h3];(repeat refine ai ?_);exact ky k (by first | rfl | (simp[wD,h3]<;>grind))
 refine sG fun _ k5=>?_
 obtain⟨adE,dE,hg⟩:=ah hg
 unfold ZW at dE
 refine sq [se 1 a1,pt 2 0,se 5 x2,se 25 adE] [.w 26 a0] (fun _ gF=>?_) ?_
 ·obtain⟨x6,h7,dE⟩:=ah dE
  rcases ay dE with ⟨gz,dE⟩ | ⟨gz,dE⟩
  ·have ox:=gz;try simp at ox
   exact rJ hV (some [22,23,24]) gF fun K k=>by simp[Du,uk,h7,gz,ox];(repeat refine ai ?_);cases dE;exact k _ (Sub.rm [0])
  have ox:=gz;try simp at ox
  obtain⟨x8,h9,dE⟩:=ah dE
  exact rJ hV (some []) gF fun K k=>by simp[Du,uk,h7,gz,ox,h9];(repeat refine ai ?_);cases dE;exact k _ (Sub.rm [0])
 refine cN hg ?_ ?_<;>(clear hg;intro sT hg)
 ·refine rG hV [se 4 x2] [.w 26 a0] ?_
  cases hg;exact rz hQ
 refine sk k5 ?_
 obtain⟨⟨bh,ru,bN⟩,qn,hg⟩:=ah hg;try dsimp only at hg
 have Ew:=qn;try simp at Ew
 refine rG hV [se 1 a1,pt 2 0,se 5 x2,pt 6 1,se 8 bN] [.w 26 a0,.w 26 bh] ?_ fun K k=>by simp[pB,qn,Ew];(repeat refine ai ?_);exact ky k (by first | rfl | (simp[pB,qn,Ew]<;>grind))
 obtain⟨⟨fu,fT⟩,w6,hg⟩:=ah hg;try dsimp only at hg
 refine rG hV [pt 2 0,se 5 x2,pt 6 1,se 8 bN,se 9 fu,se 10 fT] [.w 26 a0,.w 26 bh] ?_ fun K k=>by simp[Jn,w6];(repeat refine ai ?_);exact ky k (by first | rfl | (simp[Jn,w6]<;>grind))
 obtain⟨⟨br,bc,ei⟩,AR,hg⟩:=ah hg;try dsimp only at hg
 refine rG hV [pt 2 0,se 5 x2,se 8 bN,se 10 fT,pt 11 2,se 12 bc,se 13 ei] [.w 26 a0,.w 26 bh,.w 26 br] ?_ fun K k=>by simp[pB,AR];(repeat refine ai ?_);exact ky k (by first | rfl | (simp[pB,AR]<;>grind))
 refine cH (fun DF:Bool=>Sj a0 bN fT br ei DF=some r) (fun DF=>⟨[pt 2 0,se 5 DF,se 8 bN,se 10 fT,pt 11 1,se 13 ei],[.w 26 a0,.w 26 br]⟩) (fun _ sf=>?_) fun DF hg=>?_
 ·refine rG hV [pt 2 0,se 5 x2,se 8 bN,se 10 fT,pt 11 2,se 13 ei,se 49 bc,se 50 (bc.length:Int),se 51 (0:Int)] [.w 26 a0,.w 26 bh,.w 26 br] ?_
  obtain⟨o68,ast,asZ⟩:=ah hg;clear hg
  refine ab.block <| ab.aH (fun((Cb,tK):Bool×Int)=>⟨[pt 2 0,se 5 Cb,se 8 bN,se 10 fT,pt 11 1,se 13 ei,se 49 bc,se 50 (bc.length:Int),se 51 tK],[.w 26 a0,.w 26 br]⟩) (Fo bc) (x2,0) ast (Sub.rm [0,2]) fun z71 w73 _ hg aty tp=>?_
  obtain⟨Cb,tK⟩:=z71
  unfold Fo at hg;try dsimp only at hg
  refine rG hV [pt 2 0,se 5 Cb,se 8 bN,se 10 fT,pt 11 1,se 13 ei,se 49 bc,se 50 (bc.length:Int),se 51 tK,se 52 (decide (tK < (bc.length:Int)))] [.w 26 a0,.w 26 br] ?_
  refine sG fun _ Ik=>?_
  refine cN hg ?_ ?_<;>(clear hg;intro Lv hg)
  ·refine sk Ik ?_
   refine cH (fun GP:Bool=>Sk tK GP=some w73) (fun GP=>⟨[pt 2 0,se 5 GP,se 8 bN,se 10 fT,pt 11 1,se 13 ei,se 49 bc,se 50 (bc.length:Int),se 51 tK],[.w 26 a0,.w 26 br]⟩) (fun _ Zk=>?_) fun GP hg=>?_
   ·refine ab.block ?_
    obtain⟨B6,Xh,hg⟩:=ah hg
    obtain⟨aDV,aDW,Xi⟩:=aY Xh;have Xj:=Xi;try simp at Xj
    refine rG hV [pt 2 0,se 5 Cb,se 8 bN,se 10 fT,pt 11 1,se 13 ei,se 15 B6,se 49 bc,se 50 (bc.length:Int),se 51 tK] [.w 26 a0,.w 26 br] ?_ fun K k=>by simp[Xi,Xj];(repeat refine ai ?_);exact ky k (by first | rfl | (simp[Xi,Xj]<;>grind))
    obtain⟨aeC,H6,hg⟩:=ah hg
    unfold ZX at H6
    refine ab.MR (t:=⟨[pt 2 0,se 5 aeC,se 8 bN,se 10 fT,pt 11 1,se 13 ei,se 49 bc,se 50 (bc.length:Int),se 51 tK],[.w 26 a0,.w 26 br]⟩) (fun _ RW=>?_) ?_
    ·rcases ay H6 with ⟨Vu,H6⟩ | ⟨Vu,H6⟩
     ·refine ab.vp hV (some []) [2,5,8,10,11,13,49,50,51] fun K MB=>?_
      simp[Vu];repeat refine ai ?_
      cases H6;exact MB _ (RW _ (Sub.rm [0,1]))
     refine ab.vp hV (some [57,58]) [2,5,8,10,11,13,49,50,51] fun K RX=>?_
     simp[Vu];repeat refine ai ?_
     cases H6;exact RX _ (RW _ (Sub.rm [0,1]))
    exact Zk _ ⟨_,hg,Sub.rm [0,1]⟩
   unfold Sk at hg
   obtain⟨g88,hg⟩:=aK hg
   unfold ax at g88
   refine rH hV [pt 2 0,se 5 GP,se 8 bN,se 10 fT,pt 11 1,se 13 ei,se 49 bc,se 50 (bc.length:Int),se 51 ((tK+1):Int)] [.w 26 a0,.w 26 br] ?_
   exact tp _ _ (aF hg).symm (Sub.rm [0,1])
  refine ab.exit ?_
  cases aty _ (aF hg).symm;have hg:=asZ;try dsimp only at hg
  exact sf _ ⟨_,hg,Sub.rm [0,1]⟩
 unfold Sj at hg
 obtain⟨aeG,pQ,hg⟩:=ah hg
 unfold ZY at pQ
 refine sq [se 4 aeG] [] (fun _ Bq=>?_) ?_
 ·rcases ay pQ with ⟨vK,pQ⟩ | ⟨vK,pQ⟩
  ·rcases ay pQ with ⟨xW,pQ⟩ | ⟨xW,pQ⟩
   ·have vL:=eq_true (of_decide_eq_true xW)
    rcases ay pQ with ⟨wU,pQ⟩ | ⟨wU,pQ⟩
    ·have zf:=eq_true (of_decide_eq_true wU)
     rcases ay pQ with ⟨y9,pQ⟩ | ⟨y9,pQ⟩
     ·have G4:=eq_true (of_decide_eq_true y9)
      obtain⟨x92,Xn,pQ⟩:=ah pQ
      exact rJ hV (some []) Bq fun K k=>by simp[pC,vK,xW,vL,wU,zf,y9,G4,Xn];(repeat refine ai ?_);cases pQ;exact k _ (Sub.rm [])
     have G4:=y9;try simp at G4
     exact rJ hV (some [75,76,77]) Bq fun K k=>by simp[pC,vK,xW,vL,wU,zf,y9,G4];(repeat refine ai ?_);cases pQ;exact k _ (Sub.rm [])
    have zf:=wU;try simp at zf
    exact rJ hV (some [71,72,75,76,77]) Bq fun K k=>by simp[pC,vK,xW,vL,wU,zf];(repeat refine ai ?_);cases pQ;exact k _ (Sub.rm [])
   have vL:=xW;try simp at vL
   exact rJ hV (some [67,68,71,72,75,76,77]) Bq fun K k=>by simp[pC,vK,xW,vL];(repeat refine ai ?_);cases pQ;exact k _ (Sub.rm [])
  exact rJ hV (some [63,64,67,68,71,72,75,76,77]) Bq fun K k=>by simp[pC,vK];(repeat refine ai ?_);cases pQ;exact k _ (Sub.rm [])
 cases hg;exact rz hQ
end
end Go.Proofs.YtjigeffmmcmlnaaGreatDoor
namespace Go.Proofs.YtjigeffmmcmlnaaGreatDoor
open Go Go.an au
@[reducible] def axp:e8:=⟨False⟩
attribute [local instance] cJ axp
def xx (k:Nat) (l:List (Int×ae)):List aa:=(l.zipIdx k).map fun p=>⟨p.1.1,(p.2:Int)+1,1,p.1.2⟩
theorem aji (k:Nat) (p:Int×ae) (l:List (Int×ae)):xx k (p::l)=⟨p.1,(k:Int)+1,1,p.2⟩::xx (k+1) l:=rfl
theorem avO (k:Nat) (a b:List (Int×ae)):xx k (a++b)=xx k a++xx (k+a.length) b:=by
 unfold xx;rw[List.zipIdx_append,List.map_append]
theorem aEq (n:Nat):List.replicate n (0:Int)++[0]=List.replicate (n+1) 0:=by rw[←List.replicate_succ']
theorem ae5 {V:Int} {B:List aT} {P:List Part}:∀ (D:List Int) (k:Nat) (cur:Score) (es:List Int),dO cur→cur.version=V→cur.bars=B→cur.parts=P→cur.notes.length≤1000→k+D.length≤1000→D.Nodup→(∀ id∈D,CI cur.notes id)→(∀ id∈D,1≤id∧id≤1000000) →
  ∃ qK:Score,(xx k (D.map fun id=>(2,bare id))).foldl eZ (cur,es)=(qK,es++List.replicate D.length 0)∧dO qK∧qK.version=V∧qK.bars=B∧qK.parts=P∧qK.notes.length≤1000∧∀ n,n∈qK.notes↔n∈cur.notes∧n.id∉D
 | [],k,cur,es,h1,h2,h3,h4,h5,_,_,_,_=>⟨cur,by simp[xx],h1,h2,h3,h4,h5,fun n=>by simp⟩
 | id::D,k,cur,es,h1,h2,h3,h4,h5,h6,h7,h8,h9=>by
  rw[List.nodup_cons] at h7
  rw[List.length_cons] at h6
  have hr:=h9 id (by simp)
  have fB:eV ⟨2,(k:Int)+1,1,bare id⟩:=⟨⟨by dsimp only;omega,by dsimp only;omega⟩,⟨by dsimp only;omega,by dsimp only;omega⟩,hr,.inr ⟨rfl,rfl⟩⟩
  have hc:(bs cur ⟨2,(k:Int)+1,1,bare id⟩).2=0:=by
   have L1:¬ ¬ eV ⟨2,(k:Int)+1,1,bare id⟩:=fun h=>h fB
   rw[Hq h1 (by omega)]
   unfold Ef
   rw[if_neg L1,if_pos rfl,if_pos (h8 id (by simp))]
  obtain⟨_,g2,g3,g4,g5,_,_⟩:=AG h1 hc
  have gl:(bs cur ⟨2,(k:Int)+1,1,bare id⟩).1.notes.length≤1000:=by
   have L1:¬ ¬ eV ⟨2,(k:Int)+1,1,bare id⟩:=fun h=>h fB
   have:=Ss cur.notes id
   unfold bs
   rw[if_neg L1,if_pos rfl]
   split
   ·exact h5
   dsimp only;omega
  have hs:eZ (cur,es) ⟨2,(k:Int)+1,1,bare id⟩=((bs cur ⟨2,(k:Int)+1,1,bare id⟩).1,es++[0]):=by unfold eZ;rw[hc]
  obtain⟨qK,e1,e2,e3,e4,e5,e6,e7⟩:=ae5 D (k+1) (bs cur ⟨2,(k:Int)+1,1,bare id⟩).1 (es++[0]) (xY h1 _) (by rw[g2,h2]) (by rw[g3,h3]) (by rw[g4,h4]) gl (by omega) h7.2 (fun j hj=>by
   obtain⟨n,hn,he⟩:=h8 j (by simp[hj])
   refine⟨n,(g5 n).2 (.inl ⟨hn,?_⟩),he⟩
   rw[he]
   intro e
   have e:j=id:=e
   exact h7.1 (e▸hj)) (fun j hj=>h9 j (by simp[hj]))
  refine⟨qK,?_,e2,e3,e4,e5,e6,fun n=>?_⟩
  ·rw[List.map_cons,aji,List.foldl_cons,hs,e1,List.append_assoc,List.length_cons]
   congr 1
  rw[e7,g5]
  have aB:(bare id).id=id:=rfl
  simp only[aB,List.mem_cons,not_or]
  constructor
  ·rintro⟨q1 | q1,q2⟩
   ·exact⟨q1.1,q1.2,q2⟩
   exact absurd rfl q1.1
  rintro⟨q1,q2,q3⟩;exact⟨.inl ⟨q1,q2⟩,q3⟩
theorem ae6 {V:Int} {B:List aT} {P:List Part}:∀ (Q:List ae) (k:Nat) (cur:Score) (es:List Int),dO cur→cur.version=V→cur.bars=B→cur.parts=P→cur.notes.length+Q.length≤2000→k+Q.length≤2000→(Q.map ae.id).Nodup→(∀ n∈Q,gV B n∧fS P [n]=0) →
  ∃ qK:Score,(xx k (Q.map fun n=>(1,n))).foldl eZ (cur,es)=(qK,es++List.replicate Q.length 0)∧dO qK∧qK.version=V∧qK.bars=B∧qK.parts=P∧∀ n,n∈qK.notes↔(n∈cur.notes∧n.id∉Q.map ae.id)∨n∈Q
 | [],k,cur,es,h1,h2,h3,h4,h5,_,_,_=>⟨cur,by simp[xx],h1,h2,h3,h4,fun n=>by simp⟩
 | q::Q,k,cur,es,h1,h2,h3,h4,h5,h6,h7,h8=>by
  rw[List.map_cons,List.nodup_cons] at h7
  rw[List.length_cons] at h5 h6
  obtain⟨w1,w2⟩:=h8 q (by simp)
  obtain⟨_,_,_,_,hf,_⟩:=IF w1
  have fB:eV ⟨1,(k:Int)+1,1,q⟩:=⟨⟨by dsimp only;omega,by dsimp only;omega⟩,⟨by dsimp only;omega,by dsimp only;omega⟩,hf.2.2.2.2.1,.inl rfl⟩
  have hc:(bs cur ⟨1,(k:Int)+1,1,q⟩).2=0:=by
   have L1:¬ ¬ eV ⟨1,(k:Int)+1,1,q⟩:=fun h=>h fB
   have w1':¬ ¬ gV cur.bars q:=fun h=>h (by rw[h3];exact w1)
   rw[Hq h1 (by omega)]
   unfold Ef
   rw[if_neg L1,if_neg (by dsimp only;omega),if_neg w1',h4];exact w2
  obtain⟨_,g2,g3,g4,g5,_,_⟩:=AG h1 hc
  have gl:=P6 (s:=cur) ⟨1,(k:Int)+1,1,q⟩
  have hs:eZ (cur,es) ⟨1,(k:Int)+1,1,q⟩=((bs cur ⟨1,(k:Int)+1,1,q⟩).1,es++[0]):=by unfold eZ;rw[hc]
  obtain⟨qK,e1,e2,e3,e4,e5,e7⟩:=ae6 Q (k+1) (bs cur ⟨1,(k:Int)+1,1,q⟩).1 (es++[0]) (xY h1 _) (by rw[g2,h2]) (by rw[g3,h3]) (by rw[g4,h4]) (by omega) (by omega) h7.2 (fun n hn=>h8 n (by simp[hn]))
  refine⟨qK,?_,e2,e3,e4,e5,fun n=>?_⟩
  ·rw[List.map_cons,aji,List.foldl_cons,hs,e1,List.append_assoc,List.length_cons]
   congr 1
  rw[e7,g5]
  simp only[List.map_cons,List.mem_cons,not_or]
  constructor
  ·rintro(⟨q1 | q1,q2⟩ | q1)
   ·exact .inl ⟨q1.1,q1.2,q2⟩
   ·exact .inr (.inl q1.2)
   exact .inr (.inr q1)
  rintro(⟨q1,q2,q3⟩ | q1 | q1)
  ·exact .inl ⟨.inl ⟨q1,q2⟩,q3⟩
  ·subst q1;exact .inl ⟨.inr ⟨by omega,rfl⟩,h7.1⟩
  exact .inr q1
theorem af1:∀ (l:List aa) (p:Score×List Int),dO p.1→(l.foldl eZ p).1.bars=p.1.bars∧(l.foldl eZ p).1.parts=p.1.parts∧(l.foldl eZ p).1.notes.length≤p.1.notes.length+l.length
 | [],p,_=>⟨rfl,rfl,Nat.le_refl _⟩
 | x::l,p,h=>by
  obtain⟨h1,h2,h3⟩:=af1 l (eZ p x) (xY h x)
  obtain⟨_,k1,k2⟩:=KH p.1 h x
  have k3:=P6 (s:=p.1) x
  rw[List.foldl_cons,List.length_cons]
  refine⟨h1.trans k1,h2.trans k2,?_⟩
  have:(eZ p x).1=(bs p.1 x).1:=rfl
  rw[this] at h3
  omega
theorem ax2 (n m:List ae):jA n m=((jA n m).map (·.2)).map fun x=>(1,x):=by
 rw[List.map_map]
 conv=>lhs;rw[←List.map_id (jA n m)]
 refine List.map_congr_left fun p hp=>?_
 unfold jA at hp
 obtain⟨id,_,h2⟩:=List.mem_filterMap.1 hp
 have:=(FD h2).2.1
 exact Prod.ext this rfl
theorem auV {s:Score} {l:List aa} (zG:s.bars.length≤1048576) (r8:l.length≤1048576):Si s l=some true:=by
 unfold Si ZW
 rw[Is,aj]
 obtain⟨c,hc,LH⟩:=VU s l
 rw[hc,aj]
 cases c
 ·rw[Fa,aj,ar rfl]
 rw[yH,IX,aj,aj]
 by_cases hs:¬ dO s
 ·rw[ar (by rw[decide_eq_false hs];rfl)]
 have hs:=Classical.not_not.1 hs
 obtain⟨f1,f2,f3,f4⟩:=LH rfl
 rw[av (by rw[decide_eq_true hs];rfl)]
 have AX:∀ v:Int,1≤v∧v≤1000000→ek s v l=({ (l.foldl eZ (s,[])).1 with version:=v },(l.foldl eZ (s,[])).2,0):=fun v hv=>by
  have h':¬ ¬ (dO s∧(1≤v∧v≤1000000)):=fun h=>h ⟨hs,hv⟩
  unfold ek
  rw[if_neg (by omega),if_neg h']
 obtain⟨k1,k2,k3⟩:=af1 l (s,[]) hs
 have hf:=(K7 l (s,[]) hs).1
 generalize l.foldl eZ (s,[])=r at *
 obtain⟨T,es⟩:=r
 dsimp only at AX k1 k2 k3 hf
 have ht:dO { T with version:=5 }:=⟨⟨show(1:Int)≤5 by decide,show(5:Int)≤1000000 by decide⟩,hf.2.1,hf.2.2.1,hf.2.2.2.1,hf.2.2.2.2.1,hf.2.2.2.2.2⟩
 have htb:({ T with version:=5 }:Score).bars.length≤1048576:=by dsimp only;rw[k1];exact zG
 have hun:yT s l=(jx (qj s.notes T.notes++jA s.notes T.notes),0):=by
  unfold yT
  rw[AX 1 ⟨by omega,by omega⟩]
  rw[if_pos rfl]
 rw[xZ zG,aj,AX 5 ⟨by omega,by omega⟩]
 dsimp only
 rw[VE zG,aj,hun]
 dsimp only
 rw[xZ htb,aj]
 have sn:=hs.2.2.2.1.2.2.2
 have tn:=hf.2.2.2.1.2.2.2
 have hD:∀ id,id∈(aE (T.notes.map ae.id)).filter (fun id=> !jZ s.notes id)↔id∈T.notes.map ae.id∧id∉s.notes.map ae.id:=fun id=>by
  rw[List.mem_filter,BW]
  constructor
  ·rintro⟨h1,h2⟩;refine⟨h1,fun h=>?_⟩;rw[HL.2 h] at h2;cases h2
  rintro⟨h1,h2⟩
  refine⟨h1,?_⟩
  cases hh:jZ s.notes id with
  | false=>rfl
  | true=>exact absurd (HL.1 hh) h2
 have hQ:∀ n,n∈(jA s.notes T.notes).map (·.2)↔n∈s.notes∧pf T.notes n.id≠some n:=fun n=>by
  rw[List.mem_map]
  constructor
  ·rintro⟨p,hp,rfl⟩
   unfold jA at hp
   obtain⟨id,_,h2⟩:=List.mem_filterMap.1 hp
   obtain⟨e1,_,e3,e4⟩:=FD h2
   rw[e1];exact⟨(VX e3).1,e4⟩
  rintro⟨h1,h2⟩
  refine⟨(1,n),?_,rfl⟩
  unfold jA
  refine List.mem_filterMap.2 ⟨n.id,BW.2 (List.mem_map.2 ⟨n,h1,rfl⟩),?_⟩
  have:=Hx (id:=ae.id) sn h1
  unfold kq
  rw[show pf s.notes n.id=some n from this]
  dsimp only
  rw[if_neg h2]
 have hDn:((aE (T.notes.map ae.id)).filter fun id=> !jZ s.notes id).Nodup:=by
  have:(aE (T.notes.map ae.id)).Nodup:=((List.mergeSort_perm _ _).nodup_iff).2 tn
  exact this.sublist List.filter_sublist
 have hDl:((aE (T.notes.map ae.id)).filter fun id=> !jZ s.notes id).length≤100:=by
  have:=List.length_filter_le (fun id=> !jZ s.notes id) (aE (T.notes.map ae.id))
  rw[wC,List.length_map] at this
  omega
 have hQl:((jA s.notes T.notes).map (·.2)).length≤100:=by
  rw[List.length_map]
  unfold jA
  have:=List.length_filterMap_le (kq s.notes T.notes) (aE (s.notes.map ae.id))
  rw[wC,List.length_map] at this
  omega
 have hQn:(((jA s.notes T.notes).map (·.2)).map ae.id).Nodup:=by
  have h1:(jA s.notes T.notes).Pairwise fun p q=>p.2.id < q.2.id:=by
   unfold jA
   rw[List.pairwise_filterMap]
   refine(Ox _ sn).imp fun {i j} cj=>?_
   intro p hp q hq
   rw[(FD hp).1,(FD hq).1];exact cj
  unfold List.Nodup
  rw[List.pairwise_map,List.pairwise_map]
  exact h1.imp fun h=>by omega
 have ahn:=ax2 s.notes T.notes
 have CL:qj s.notes T.notes=((aE (T.notes.map ae.id)).filter fun id=> !jZ s.notes id).map fun id=>(2,bare id):=rfl
 generalize hDg:((aE (T.notes.map ae.id)).filter fun id=> !jZ s.notes id)=D at *
 generalize hQg:(jA s.notes T.notes).map (·.2)=Q at *
 obtain⟨c1,a1,a2,a3,a4,a5,a6,a7⟩:=ae5 (V:=5) (B:=s.bars) (P:=s.parts) D 0 { T with version:=5 } [] ht rfl k1 k2 (by dsimp only;omega) (by omega) hDn (fun id aB=>by
  obtain⟨n,hn,he⟩:=List.mem_map.1 ((hD id).1 aB).1
  exact⟨n,hn,he⟩) (fun id aB=>Mg hf.2.2.2.1 ((hD id).1 aB).1)
 obtain⟨c2,b1,b2,b3,b4,b5,b7⟩:=ae6 (V:=5) (B:=s.bars) (P:=s.parts) Q D.length c1 (List.replicate D.length 0) a2 a3 a4 a5 (by omega) (by omega) hQn (fun n hn=>by
  have hm:=((hQ n).1 hn).1
  exact⟨hs.2.2.2.1.2.2.1 n hm,OT hs.2.2.2.2.1 fun m LZ=>by simp at LZ;rw[LZ];exact hm⟩)
 have arv:(jx (qj s.notes T.notes++jA s.notes T.notes)).foldl eZ ({ T with version:=5 },[])=(c2,List.replicate (D.length+Q.length) 0):=by
  have e:jx (qj s.notes T.notes++jA s.notes T.notes)=xx 0 (D.map fun id=>(2,bare id))++xx D.length (Q.map fun n=>(1,n)):=by
   rw[CL,ahn]
   have:=avO 0 (D.map fun id=>((2:Int),bare id)) (Q.map fun n=>((1:Int),n))
   rw[List.length_map,Nat.zero_add] at this
   exact this
  rw[e,List.foldl_append,a1,List.nil_append,b1,List.replicate_append_replicate]
 have aD8:(jx (qj s.notes T.notes++jA s.notes T.notes)).length≤1000:=by
  rw[wo,List.length_append,CL,ahn,List.length_map,List.length_map];omega
 have aru:ek { T with version:=5 } s.version (jx (qj s.notes T.notes++jA s.notes T.notes))=({ c2 with version:=s.version },List.replicate (D.length+Q.length) 0,0):=by
  have h':¬ ¬ (dO { T with version:=5 }∧(1≤s.version∧s.version≤1000000)):=fun h=>h ⟨ht,hs.1⟩
  unfold ek
  rw[if_neg (by omega),if_neg h',arv]
 have hu:({ c2 with version:=s.version }:Score)=s:=by
  refine ak8 ⟨hs.1,b2.2.1,b2.2.2.1,b2.2.2.2.1,b2.2.2.2.2.1,b2.2.2.2.2.2⟩ hs rfl b4 b5 fun n=>?_
  dsimp only
  rw[b7,a7]
  dsimp only
  constructor
  ·rintro(⟨⟨q1,q2⟩,q3⟩ | q1)
   ·have iJ:n.id∈s.notes.map ae.id:=Classical.byContradiction fun ca=>q2 ((hD n.id).2 ⟨List.mem_map.2 ⟨n,q1,rfl⟩,ca⟩)
    obtain⟨m,hm,he⟩:=List.mem_map.1 iJ
    have XX:m∉Q:=fun XX=>q3 (List.mem_map.2 ⟨m,XX,he⟩)
    have XL:pf T.notes m.id=some m:=Classical.byContradiction fun ba=>XX ((hQ m).2 ⟨hm,ba⟩)
    have qp:pf T.notes n.id=some n:=Hx (id:=ae.id) tn q1
    rw[he] at XL
    rw[XL] at qp
    injection qp with qp
    rw[←qp];exact hm
   exact((hQ n).1 q1).1
  intro hn
  by_cases hq:n∈Q
  ·exact .inr hq
  have qp:pf T.notes n.id=some n:=Classical.byContradiction fun ba=>hq ((hQ n).2 ⟨hn,ba⟩)
  refine .inl ⟨⟨(VX qp).1,fun hd=>((hD n.id).1 hd).2 (List.mem_map.2 ⟨n,hn,rfl⟩)⟩,fun hd=>?_⟩
  obtain⟨q,hqm,he⟩:=List.mem_map.1 hd
  have:=H8 sn ((hQ q).1 hqm).1 hn he
  exact hq (this▸hqm)
 rw[aru,hu]
 dsimp only
 have asD:aH (Fo (List.replicate (D.length+Q.length) 0)) (true,0)=some true:=by
  rw[kn (σ:=Bool) (st:=fun z k=>(z,k)) (step:=Fo (List.replicate (D.length+Q.length) 0)) (l:=List.replicate (D.length+Q.length) (0:Int)) (fun z _=> .inl z) (fun z=>z) (fun _ z=>z=true) (fun k e z hx hz=>by
   subst hz
   have hk:=de hx
   rw[List.length_replicate] at hk
   have he:e=0:=(List.mem_replicate.1 (at_mem hx)).2
   subst he
   unfold Fo ZX Sk
   dsimp only
   rw[ar (decide_eq_true (by rw[List.length_replicate];omega)),bl (bm hx),ar rfl,aj,aZ (by omega)];rfl) (fun k e z z' _ hz h=>by injection h with h;rw[←h];exact hz) (fun z _=>by unfold Fo;dsimp only;rw[av (by simp)]) true rfl,qm (fun(z:Bool) _=>z) _ _ (fun _ _ _=>rfl)]
  congr 1
  generalize List.replicate (D.length+Q.length) (0:Int)=L
  induction L with
  | nil=>rfl
  | cons c L ih=>rw[List.foldl_cons,ih]
 rw[asD,aj]
 unfold Sj ZY
 rw[ar rfl,ar (by simp),ar (by simp),ar (by simp),TF zG (by omega) (by omega),aj,aj]
 simp
end Go.Proofs.YtjigeffmmcmlnaaGreatDoor
