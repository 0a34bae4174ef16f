import Derived.Test.YtjigeffmmcmlnaaGreatDoorX11
set_option linter.all false
set_option linter.unnecessarySimpa false
set_option linter.deprecated false
set_option linter.unusedVariables false
set_option linter.unusedSimpArgs false
set_option linter.unusedSectionVars false
namespace Go.Proofs.YtjigeffmmcmlnaaGreatDoor
open Go Go.an au
set_option maxRecDepth 4000
attribute [local instance] cJ
attribute [local congr] ab.kO
attribute [local simp] bu dz dU evalOp bd an.get fk strip bq an.after iI typed gr holds cR R.ok R.bad gI iU jk gW ku ji Op.operands Call.operands dY dA dQ dR iH il fm im gK fg nj nk nm np fK lH lL lJ fL jq lg lp lk ln ng ni jv mD bf D.cells T.eT D.one gH fV gb fo setAt eI fC jC fa gN bw cX iy fU iA gv jV arith et iM jf dG gC iN TD.agg env bR List.map fe iD ff gn gT mapOf iz iq dr mH mI mJ mK mL mM mN mO lK nh ll me mC my mB mr mG lq mi ml jw mE ko jh fh du fj iP gJ jB gone unbox iW fE gB gG lI lh nf jg jS List.contains_cons List.contains_nil lr iO iC iB gm ib gX lC kY mW l6 mw mu mz kr mF mh mj P2.list mA lB kW mU lF lb mZ l9 jQ kM lu kR mP lW jI kC lA kV mT l4 jM kH lE la mY l8 jP kL lD kZ mX l7 jO kJ jX kX mV l5 jN kI lG lf nc ma jW kT mR lY jK kF lv kS mQ lX jJ kD lz kU mS lZ jL kG kQ km lN lO lT lU lP lV lQ lR lS lM nD nH kv kz iQ nB nC nE nF nG nI nJ jD jE nL nM nN nO nP nQ nR nS nq nr nu nv nw nx ny nz nA
section
variable [e8]
set_option maxRecDepth 10000
attribute [local simp] eJ qO qL rl qR qP qM rp qS qQ qN rq qT
noncomputable def alw:an.Spec:=du fun(a0:Part) (a1:(Bx (List (Int×Part))))=>(MM a0 a1).map fun r=>enc r
theorem avU:aL Tryz.prog 100 alw:=by
 have hV:=aW cn
 refine go2 hV Tryz.func100 rfl Tryz.ntmps100 fun a0 a1 r hg _ _ _ _ _ hQ=>?_
 unfold MM at hg
 refine rG hV [se 1 a1,pt 2 0] [.w 71 a0] ?_
 refine rG hV [pt 2 0,pt 4 1,se 5 ((eu a1.v a0.of):Bool)] [.w 71 a0,.w 71 ((aV a1.v a0.of (⟨0,0,0,0,0,(⟨0,0⟩:Interval),(⟨0,0,0⟩:az),(⟨0,0,0⟩:az)⟩:Part)):Part)] ?_
 obtain⟨jH,eX,hg⟩:=ah hg
 unfold aag at eX
 refine sq [se 3 jH] [] (fun _ k5=>?_) ?_
 ·rcases ay eX with ⟨c6,eX⟩ | ⟨c6,eX⟩
  ·have rM:=c6;try simp at rM
   rcases ay eX with ⟨c7,eX⟩ | ⟨c7,eX⟩
   ·have vJ:=c7;try simp at vJ
    exact rJ hV (some [20,21,22]) k5 fun K k=>by simp[rM,vJ];cases eX;exact k _ (Sub.rm [])
   have vJ:=c7;try simp at vJ
   exact rJ hV (some []) k5 fun K k=>by simp[rM,vJ];cases eX;exact k _ (Sub.rm [])
  have rM:=rk c6
  exact rJ hV (some [17,18,19,20,21,22,23]) k5 fun K k=>by simp[rM];cases eX;exact k _ (Sub.rm [])
 cases hg;exact rz hQ
noncomputable def alJ:an.Spec:=du fun(a0:(List Part)) (a1:uA)=>(Mk a0 a1).map fun r=>enc r
theorem awf:aL Tryz.prog 129 alJ:=by
 have hV:=aW (cs avU cn)
 refine go2 hV Tryz.func129 rfl Tryz.ntmps129 fun a0 a1 r hg _ _ _ _ _ hQ=>?_
 unfold Mk at hg
 refine rG hV [se 0 a0,se 1 a1] [] ?_
 refine ch (YO=some r) [] [] (fun _ k3=>?_) fun hg=>?_
 ·refine rG hV [se 0 a0,se 1 a1,se 7 (a0.length:Int),se 8 (0:Int)] [] ?_
  obtain⟨uf,yv,s6⟩:=ah hg;clear hg
  refine ab.block <| ab.aH (fun(aO:Int)=>⟨[se 0 a0,se 1 a1,se 7 (a0.length:Int),se 8 aO],[]⟩) (Ml a0 a1) 0 yv (Sub.rm []) fun aO Ah _ hg s9 k5=>?_
  unfold Ml at hg;try dsimp only at hg
  refine rG hV [se 0 a0,se 1 a1,se 7 (a0.length:Int),se 8 aO,se 9 (decide (aO < (a0.length:Int)))] [] ?_
  refine sG fun _ vh=>?_
  refine cN hg ?_ ?_<;>(clear hg;intro qV hg)
  ·refine sk vh ?_
   refine ch (RD aO=some Ah) [se 0 a0,se 1 a1,se 7 (a0.length:Int),se 8 aO] [] (fun _ wg=>?_) fun hg=>?_
   ·refine ab.block ?_
    refine rG hV [se 0 a0,se 1 a1,se 5 aO,se 7 (a0.length:Int),se 8 aO] [] ?_
    obtain⟨gY,sX,hg⟩:=ah hg
    obtain⟨QJ,QK,uR⟩:=aY sX;have yh:=uR;try simp at yh
    obtain⟨nW,zz,hg⟩:=ah hg
    refine rG hV [se 0 a0,se 1 a1,se 5 aO,se 7 (a0.length:Int),se 8 aO,se 16 nW] [] ?_ fun K k=>by simp[alw,uR,zz];(repeat refine ai ?_);exact kx k
    refine cN hg ?_ ?_<;>(clear hg;intro AT hg)
    ·refine rG hV [se 4 aO] [] ?_
     cases s9 _ (aF hg).symm;have hg:=s6;try dsimp only at hg
     cases hg;exact rz hQ
    exact ab.skip (wg _ ⟨hg,Sub.rm []⟩)
   unfold RD at hg
   obtain⟨AM,hg⟩:=aK hg
   unfold ax at AM
   refine rH hV [se 0 a0,se 1 a1,se 7 (a0.length:Int),se 8 ((aO+1):Int)] [] ?_
   exact k5 _ _ (aF hg).symm (Sub.rm [])
  refine ab.exit ?_
  cases s9 _ (aF hg).symm;have hg:=s6;try dsimp only at hg
  exact k3 _ ⟨hg,Sub.rm []⟩
 unfold YO at hg
 refine rG hV [se 4 ((-1):Int)] [] ?_
 cases hg;exact rz hQ
noncomputable def acz:an.Spec:=du fun(a0:(List Part)) (a1:uA)=>(KK a0 a1).map fun r=>enc r
theorem avV:aL Tryz.prog 101 acz:=by
 have hV:=aW (cs awf cn)
 refine go2 hV Tryz.func101 rfl Tryz.ntmps101 fun a0 a1 r hg _ _ _ _ _ hQ=>?_
 unfold KK at hg
 refine rG hV [se 0 a0,se 1 a1] [] ?_
 obtain⟨x2,h3,hg⟩:=ah hg
 refine rG hV [se 4 (decide (0≤x2))] [] ?_ fun K k=>by simp[alJ,h3];exact kx k
 cases hg;exact rz hQ
noncomputable def Jr:an.Spec:=eA Oj
theorem awK:aL Tryz.prog 64 Jr:=by
 have hV:=aW (cs M7 (cs aw1 (cs avV cn)))
 refine dT hV Tryz.func64 rfl Tryz.ntmps64 fun a0 r hg _ _ _ _ _ hQ=>?_
 unfold Oj at hg
 refine rG hV [se 0 a0] [] ?_
 refine sG fun _ k2=>?_
 obtain⟨x3,h4,hg⟩:=ah hg
 have EF:=h4;try simp at EF
 refine rG hV [se 0 a0,se 10 (!x3)] [] ?_ fun K k=>by simp[xG,h4];exact kx k
 refine cN hg ?_ ?_<;>(clear hg;intro h6 hg)
 ·refine rG hV [se 2 false] [] ?_
  cases hg;exact rz hQ
 refine sk k2 ?_
 refine rG hV [se 0 a0,pt 3 1] [.mp ([]:(List (Int×Part))),.var 136 [.map 0]] ?_
 refine cH (fun qE:(List (Int×Part))=>Uf a0 qE=some r) (fun qE=>⟨[se 0 a0,pt 3 0],[.var 136 [.map 1],.mp (qE:(List (Int×Part)))]⟩) (fun _ oj=>?_) fun qE hg=>?_
 ·refine rG hV [se 0 a0,pt 3 1,se 12 a0,se 13 (a0.length:Int),se 14 (0:Int)] [.mp ([]:(List (Int×Part))),.var 136 [.map 0]] ?_
  obtain⟨o47,asl,ahK⟩:=ah hg;clear hg
  refine ab.block <| ab.aH (fun((Aq,sJ):(List (Int×Part))×Int)=>⟨[se 0 a0,pt 3 0,se 12 a0,se 13 (a0.length:Int),se 14 sJ],[.var 136 [.map 1],.mp (Aq:(List (Int×Part)))]⟩) (Ol a0) ([],0) asl (Sub.rm [1,0]) fun z50 w52 _ hg aid gF=>?_
  obtain⟨Aq,sJ⟩:=z50
  unfold Ol at hg;try dsimp only at hg
  refine rG hV [se 0 a0,pt 3 0,se 12 a0,se 13 (a0.length:Int),se 14 sJ,se 15 (decide (sJ < (a0.length:Int)))] [.var 136 [.map 1],.mp (Aq:(List (Int×Part)))] ?_
  refine sG fun _ Ze=>?_
  refine cN hg ?_ ?_<;>(clear hg;intro QL hg)
  ·refine sk Ze ?_
   refine cH (fun GG:(List (Int×Part))=>Ug sJ GG=some w52) (fun GG=>⟨[se 0 a0,pt 3 0,se 12 a0,se 13 (a0.length:Int),se 14 sJ],[.var 136 [.map 1],.mp (GG:(List (Int×Part)))]⟩) (fun _ C1=>?_) fun GG hg=>?_
   ·refine ab.block ?_
    obtain⟨sC,EG,hg⟩:=ah hg
    obtain⟨aDD,aDE,ag5⟩:=aY EG;have aq5:=ag5;try simp at aq5
    refine rG hV [se 0 a0,pt 3 0,pt 5 2,se 12 a0,se 13 (a0.length:Int),se 14 sJ] [.var 136 [.map 1],.mp (Aq:(List (Int×Part))),.w 71 sC] ?_ fun K k=>by simp[ag5];(repeat refine ai ?_);exact kx k
    refine sG fun _ Zh=>?_
    obtain⟨B4,EI,hg⟩:=ah hg
    refine rG hV [se 0 a0,pt 3 0,pt 5 2,se 12 a0,se 13 (a0.length:Int),se 14 sJ,se 20 (!B4)] [.var 136 [.map 1],.mp (Aq:(List (Int×Part))),.w 71 sC] ?_ fun K k=>by simp[ame,EI];exact kx k
    refine cN hg ?_ ?_<;>(clear hg;intro Lr hg)
    ·refine rG hV [se 2 false] [.var 136 [.map 1],.mp (Aq:(List (Int×Part))),.w 71 sC] ?_
     cases aid _ (aF hg).symm;have hg:=ahK;try dsimp only at hg
     cases hg;exact rz hQ
    refine sk Zh ?_
    refine rH hV [se 0 a0,pt 3 0,se 12 a0,se 13 (a0.length:Int),se 14 sJ] [.var 136 [.map 1],.mp ((cq Aq sC.id sC):(List (Int×Part))),.w 71 sC] ?_
    exact C1 _ ⟨_,hg,Sub.rm [0,1]⟩
   unfold Ug at hg
   obtain⟨g69,hg⟩:=aK hg
   unfold ax at g69
   refine rH hV [se 0 a0,pt 3 0,se 12 a0,se 13 (a0.length:Int),se 14 ((sJ+1):Int)] [.var 136 [.map 1],.mp (GG:(List (Int×Part)))] ?_
   exact gF _ _ (aF hg).symm (Sub.rm [0,1])
  refine ab.exit ?_
  cases aid _ (aF hg).symm;have hg:=ahK;try dsimp only at hg
  exact oj _ ⟨_,hg,Sub.rm [0,1]⟩
 unfold Uf at hg
 refine ab.sub (s':=⟨[se 0 a0,pt 3 0],[.w 136 qE,.fp (qE:(List (Int×Part)))]⟩) (Sub.amv (d:=enc (qE:(List (Int×Part)))) (l':=[.var 136 [.map 1],.fp (qE:(List (Int×Part)))]) 0 0 rfl rfl rfl rfl) ?_
 refine ab.sub (s':=⟨[se 3 ((⟨qE⟩:(Bx (List (Int×Part)))):(Bx (List (Int×Part)))),se 0 a0],[.fp (qE:(List (Int×Part)))]⟩) (Sub.fz 3 0 qE [1]) ?_
 refine rG hV [se 0 a0,se 3 ((⟨qE⟩:(Bx (List (Int×Part)))):(Bx (List (Int×Part)))),se 6 ((⟨(⟨qE⟩:(Bx (List (Int×Part))))⟩:uA):uA)] [.fp (qE:(List (Int×Part)))] ?_
 obtain⟨aez,yF,hg⟩:=ah hg
 unfold aco at yF
 refine sq [se 2 aez] [] (fun _ RV=>?_) ?_
 ·rcases ay yF with ⟨Vs,yF⟩ | ⟨Vs,yF⟩
  ·have PZ:=eq_true (of_decide_eq_true Vs)
   obtain⟨Dz,Lv,yF⟩:=ah yF
   exact rJ hV (some []) RV fun K k=>by simp[acz,PZ,Lv];cases yF;exact k _ (Sub.rm [])
  have PZ:=Vs;try simp at PZ
  exact rJ hV (some [33,34,35,36]) RV fun K k=>by simp[acz,PZ];cases yF;exact k _ (Sub.rm [])
 cases hg;exact rz hQ
noncomputable def alx:an.Spec:=du fun(a0:ae) (a1:(Bx (List (Int×Part))))=>(OH a0 a1).map fun r=>enc r
theorem avX:aL Tryz.prog 104 alx:=by
 have hV:=aW cn
 refine go2 hV Tryz.func104 rfl Tryz.ntmps104 fun a0 a1 r hg _ _ _ _ _ hQ=>?_
 unfold OH at hg
 refine rG hV [se 1 a1,pt 2 0] [.w 50 a0] ?_
 refine rG hV [se 5 ((eu a1.v a0.part):Bool)] [.w 50 a0,.w 71 ((aV a1.v a0.part (⟨0,0,0,0,0,(⟨0,0⟩:Interval),(⟨0,0,0⟩:az),(⟨0,0,0⟩:az)⟩:Part)):Part)] ?_
 refine rG hV [se 3 (!(eu a1.v a0.part))] [.w 50 a0,.w 71 ((aV a1.v a0.part (⟨0,0,0,0,0,(⟨0,0⟩:Interval),(⟨0,0,0⟩:az),(⟨0,0,0⟩:az)⟩:Part)):Part)] ?_
 cases hg;exact rz hQ
noncomputable def aly:an.Spec:=du fun(a0:ae) (a1:(Bx (List (Int×Part))))=>(K3 a0 a1).map fun r=>enc r
theorem avY:aL Tryz.prog 105 aly:=by
 have hV:=aW (cs ajE (cs M7 cn))
 refine go2 hV Tryz.func105 rfl Tryz.ntmps105 fun a0 a1 r hg _ _ _ _ _ hQ=>?_
 unfold K3 at hg
 refine rG hV [se 1 a1,pt 2 0] [.w 50 a0] ?_
 refine rG hV [pt 2 0,pt 4 1] [.w 50 a0,.w 71 ((aV a1.v a0.part (⟨0,0,0,0,0,(⟨0,0⟩:Interval),(⟨0,0,0⟩:az),(⟨0,0,0⟩:az)⟩:Part)):Part)] ?_
 obtain⟨x3,h4,hg⟩:=ah hg
 obtain⟨x5,h6,hg⟩:=ah hg
 obtain⟨x7,h8,hg⟩:=ah hg
 obtain⟨x9,pM,hg⟩:=ah hg
 refine ic hV mixed [se 3 (!x9)] [.w 50 a0,.w 71 ((aV a1.v a0.part (⟨0,0,0,0,0,(⟨0,0⟩:Interval),(⟨0,0,0⟩:az),(⟨0,0,0⟩:az)⟩:Part)):Part)] 8 [] ?_ fun K k=>by simp[Oz,xG,h4,h6,h8,pM];exact kx k
 cases hg;exact rz hQ
noncomputable def alC:an.Spec:=du fun(a0:(List ae)) (a1:sO)=>(RE a0 a1).map fun r=>enc r
theorem av4:aL Tryz.prog 109 alC:=by
 have hV:=aW (cs avX cn)
 refine go2 hV Tryz.func109 rfl Tryz.ntmps109 fun a0 a1 r hg _ _ _ _ _ hQ=>?_
 unfold RE at hg
 refine rG hV [se 0 a0,se 1 a1] [] ?_
 refine ch (YP=some r) [] [] (fun _ k3=>?_) fun hg=>?_
 ·refine rG hV [se 0 a0,se 1 a1,se 7 (a0.length:Int),se 8 (0:Int)] [] ?_
  obtain⟨uf,yv,s6⟩:=ah hg;clear hg
  refine ab.block <| ab.aH (fun(aO:Int)=>⟨[se 0 a0,se 1 a1,se 7 (a0.length:Int),se 8 aO],[]⟩) (Mm a0 a1) 0 yv (Sub.rm []) fun aO Ah _ hg s9 k5=>?_
  unfold Mm at hg;try dsimp only at hg
  refine rG hV [se 0 a0,se 1 a1,se 7 (a0.length:Int),se 8 aO,se 9 (decide (aO < (a0.length:Int)))] [] ?_
  refine sG fun _ vh=>?_
  refine cN hg ?_ ?_<;>(clear hg;intro qV hg)
  ·refine sk vh ?_
   refine ch (RF aO=some Ah) [se 0 a0,se 1 a1,se 7 (a0.length:Int),se 8 aO] [] (fun _ wg=>?_) fun hg=>?_
   ·refine ab.block ?_
    refine rG hV [se 0 a0,se 1 a1,se 5 aO,se 7 (a0.length:Int),se 8 aO] [] ?_
    obtain⟨gY,sX,hg⟩:=ah hg
    obtain⟨QJ,QK,uR⟩:=aY sX;have yh:=uR;try simp at yh
    obtain⟨nW,zz,hg⟩:=ah hg
    refine rG hV [se 0 a0,se 1 a1,se 5 aO,se 7 (a0.length:Int),se 8 aO,se 16 nW] [] ?_ fun K k=>by simp[alx,uR,zz];(repeat refine ai ?_);exact kx k
    refine cN hg ?_ ?_<;>(clear hg;intro AT hg)
    ·refine rG hV [se 4 aO] [] ?_
     cases s9 _ (aF hg).symm;have hg:=s6;try dsimp only at hg
     cases hg;exact rz hQ
    exact ab.skip (wg _ ⟨hg,Sub.rm []⟩)
   unfold RF at hg
   obtain⟨AM,hg⟩:=aK hg
   unfold ax at AM
   refine rH hV [se 0 a0,se 1 a1,se 7 (a0.length:Int),se 8 ((aO+1):Int)] [] ?_
   exact k5 _ _ (aF hg).symm (Sub.rm [])
  refine ab.exit ?_
  cases s9 _ (aF hg).symm;have hg:=s6;try dsimp only at hg
  exact k3 _ ⟨hg,Sub.rm []⟩
 unfold YP at hg
 refine rG hV [se 4 ((-1):Int)] [] ?_
 cases hg;exact rz hQ
noncomputable def acC:an.Spec:=du fun(a0:(List ae)) (a1:sO)=>(KL a0 a1).map fun r=>enc r
theorem av0:aL Tryz.prog 107 acC:=by
 have hV:=aW (cs av4 cn)
 refine go2 hV Tryz.func107 rfl Tryz.ntmps107 fun a0 a1 r hg _ _ _ _ _ hQ=>?_
 unfold KL at hg
 refine rG hV [se 0 a0,se 1 a1] [] ?_
 obtain⟨x2,h3,hg⟩:=ah hg
 refine rG hV [se 4 (decide (0≤x2))] [] ?_ fun K k=>by simp[alC,h3];exact kx k
 cases hg;exact rz hQ
noncomputable def alA:an.Spec:=du fun(a0:(List ae)) (a1:sP)=>(Rz a0 a1).map fun r=>enc r
theorem av2:aL Tryz.prog 109 alA:=by
 have hV:=aW (cs avY cn)
 refine go2 hV Tryz.func109 rfl Tryz.ntmps109 fun a0 a1 r hg _ _ _ _ _ hQ=>?_
 unfold Rz at hg
 refine rG hV [se 0 a0,se 1 a1] [] ?_
 refine ch (YM=some r) [] [] (fun _ k3=>?_) fun hg=>?_
 ·refine rG hV [se 0 a0,se 1 a1,se 7 (a0.length:Int),se 8 (0:Int)] [] ?_
  obtain⟨uf,yv,s6⟩:=ah hg;clear hg
  refine ab.block <| ab.aH (fun(aO:Int)=>⟨[se 0 a0,se 1 a1,se 7 (a0.length:Int),se 8 aO],[]⟩) (Mi a0 a1) 0 yv (Sub.rm []) fun aO Ah _ hg s9 k5=>?_
  unfold Mi at hg;try dsimp only at hg
  refine rG hV [se 0 a0,se 1 a1,se 7 (a0.length:Int),se 8 aO,se 9 (decide (aO < (a0.length:Int)))] [] ?_
  refine sG fun _ vh=>?_
  refine cN hg ?_ ?_<;>(clear hg;intro qV hg)
  ·refine sk vh ?_
   refine ch (RA aO=some Ah) [se 0 a0,se 1 a1,se 7 (a0.length:Int),se 8 aO] [] (fun _ wg=>?_) fun hg=>?_
   ·refine ab.block ?_
    refine rG hV [se 0 a0,se 1 a1,se 5 aO,se 7 (a0.length:Int),se 8 aO] [] ?_
    obtain⟨gY,sX,hg⟩:=ah hg
    obtain⟨QJ,QK,uR⟩:=aY sX;have yh:=uR;try simp at yh
    obtain⟨nW,zz,hg⟩:=ah hg
    refine rG hV [se 0 a0,se 1 a1,se 5 aO,se 7 (a0.length:Int),se 8 aO,se 16 nW] [] ?_ fun K k=>by simp[aly,uR,zz];(repeat refine ai ?_);exact kx k
    refine cN hg ?_ ?_<;>(clear hg;intro AT hg)
    ·refine rG hV [se 4 aO] [] ?_
     cases s9 _ (aF hg).symm;have hg:=s6;try dsimp only at hg
     cases hg;exact rz hQ
    exact ab.skip (wg _ ⟨hg,Sub.rm []⟩)
   unfold RA at hg
   obtain⟨AM,hg⟩:=aK hg
   unfold ax at AM
   refine rH hV [se 0 a0,se 1 a1,se 7 (a0.length:Int),se 8 ((aO+1):Int)] [] ?_
   exact k5 _ _ (aF hg).symm (Sub.rm [])
  refine ab.exit ?_
  cases s9 _ (aF hg).symm;have hg:=s6;try dsimp only at hg
  exact k3 _ ⟨hg,Sub.rm []⟩
 unfold YM at hg
 refine rG hV [se 4 ((-1):Int)] [] ?_
 cases hg;exact rz hQ
noncomputable def acB:an.Spec:=du fun(a0:(List ae)) (a1:sP)=>(KJ a0 a1).map fun r=>enc r
theorem avZ:aL Tryz.prog 107 acB:=by
 have hV:=aW (cs av2 cn)
 refine go2 hV Tryz.func107 rfl Tryz.ntmps107 fun a0 a1 r hg _ _ _ _ _ hQ=>?_
 unfold KJ at hg
 refine rG hV [se 0 a0,se 1 a1] [] ?_
 obtain⟨x2,h3,hg⟩:=ah hg
 refine rG hV [se 4 (decide (0≤x2))] [] ?_ fun K k=>by simp[alA,h3];exact kx k
 cases hg;exact rz hQ
noncomputable def F5:an.Spec:=eY F6
theorem aj2:aL Tryz.prog 66 F5:=by
 have hV:bO Tryz.prog (env [(107,(jg 1 104 acC acB))]):=aW ⟨(aL.sel av0 avZ),trivial⟩
 refine go2 hV Tryz.func66 rfl Tryz.ntmps66 fun a0 a1 r hg _ _ _ _ _ hQ=>?_
 unfold F6 at hg
 refine rG hV [se 0 a0,se 1 a1] [] ?_
 refine rG hV [se 0 a0,se 1 a1,pt 5 1] [.mp ([]:(List (Int×Part))),.var 136 [.map 0]] ?_
 refine cH (fun nY:(List (Int×Part))=>UG a1 nY=some r) (fun nY=>⟨[se 1 a1,pt 5 0],[.var 136 [.map 1],.mp (nY:(List (Int×Part)))]⟩) (fun _ k4=>?_) fun nY hg=>?_
 ·refine rG hV [se 1 a1,pt 5 1,se 11 a0,se 12 (a0.length:Int),se 13 (0:Int)] [.mp ([]:(List (Int×Part))),.var 136 [.map 0]] ?_
  obtain⟨o33,XP,Rk⟩:=ah hg;clear hg
  refine ab.block <| ab.aH (fun((Ar,fI):(List (Int×Part))×Int)=>⟨[se 1 a1,pt 5 0,se 11 a0,se 12 (a0.length:Int),se 13 fI],[.var 136 [.map 1],.mp (Ar:(List (Int×Part)))]⟩) (OL a0) ([],0) XP (Sub.rm [1,0]) fun z36 w38 _ hg oG k6=>?_
  obtain⟨Ar,fI⟩:=z36
  unfold OL at hg;try dsimp only at hg
  refine rG hV [se 1 a1,pt 5 0,se 11 a0,se 12 (a0.length:Int),se 13 fI,se 14 (decide (fI < (a0.length:Int)))] [.var 136 [.map 1],.mp (Ar:(List (Int×Part)))] ?_
  refine sG fun _ yM=>?_
  refine cN hg ?_ ?_<;>(clear hg;intro yf hg)
  ·refine sk yM ?_
   refine cH (fun GA:(List (Int×Part))=>OK fI GA=some w38) (fun GA=>⟨[se 1 a1,pt 5 0,se 11 a0,se 12 (a0.length:Int),se 13 fI],[.var 136 [.map 1],.mp (GA:(List (Int×Part)))]⟩) (fun _ vh=>?_) fun GA hg=>?_
   ·refine ab.block ?_
    obtain⟨ig,uP,hg⟩:=ah hg
    obtain⟨agZ,ag0,EE⟩:=aY uP;have yg:=EE;try simp at yg
    refine rG hV [se 1 a1,pt 5 0,pt 7 2,se 11 a0,se 12 (a0.length:Int),se 13 fI] [.var 136 [.map 1],.mp (Ar:(List (Int×Part))),.w 71 ig] ?_ fun K k=>by simp[EE];(repeat refine ai ?_);exact kx k
    refine rG hV [se 1 a1,pt 5 0,pt 7 2,se 11 a0,se 12 (a0.length:Int),se 13 fI,se 19 (decide (ig.of=0))] [.var 136 [.map 1],.mp (Ar:(List (Int×Part))),.w 71 ig] ?_
    refine cN hg ?_ ?_<;>(clear hg;intro zy hg)
    ·refine rH hV [se 1 a1,pt 5 0,se 11 a0,se 12 (a0.length:Int),se 13 fI] [.var 136 [.map 1],.mp ((cq Ar ig.id ig):(List (Int×Part))),.w 71 ig] ?_
     exact vh _ ⟨_,hg,Sub.rm [0,1]⟩
    exact ab.skip (vh _ ⟨_,hg,Sub.rm [0,1]⟩)
   unfold OK at hg
   obtain⟨g50,hg⟩:=aK hg
   unfold ax at g50
   refine rH hV [se 1 a1,pt 5 0,se 11 a0,se 12 (a0.length:Int),se 13 ((fI+1):Int)] [.var 136 [.map 1],.mp (GA:(List (Int×Part)))] ?_
   exact k6 _ _ (aF hg).symm (Sub.rm [0,1])
  refine ab.exit ?_
  cases oG _ (aF hg).symm;have hg:=Rk;try dsimp only at hg
  exact k4 _ ⟨_,hg,Sub.rm [0,1]⟩
 unfold UG at hg
 refine ab.sub (s':=⟨[se 1 a1,pt 5 0],[.w 136 nY,.fp (nY:(List (Int×Part)))]⟩) (Sub.amv (d:=enc (nY:(List (Int×Part)))) (l':=[.var 136 [.map 1],.fp (nY:(List (Int×Part)))]) 0 0 rfl rfl rfl rfl) ?_
 refine ab.sub (s':=⟨[se 5 ((⟨nY⟩:(Bx (List (Int×Part)))):(Bx (List (Int×Part)))),se 1 a1],[.fp (nY:(List (Int×Part)))]⟩) (Sub.fz 5 0 nY [1]) ?_
 refine rG hV [se 1 a1,se 5 ((⟨nY⟩:(Bx (List (Int×Part)))):(Bx (List (Int×Part)))),se 8 ((⟨(⟨nY⟩:(Bx (List (Int×Part))))⟩:sO):sO)] [.fp (nY:(List (Int×Part)))] ?_
 refine rG hV [se 1 a1,se 8 ((⟨(⟨nY⟩:(Bx (List (Int×Part))))⟩:sO):sO),se 9 ((⟨(⟨nY⟩:(Bx (List (Int×Part))))⟩:sP):sP)] [.fp (nY:(List (Int×Part)))] ?_
 refine ch (ac0=some r) [] [] (fun _ C1=>?_) fun hg=>?_
 ·refine ab.block ?_
  obtain⟨sC,EG,hg⟩:=ah hg
  refine rG hV [se 1 a1,se 9 ((⟨(⟨nY⟩:(Bx (List (Int×Part))))⟩:sP):sP),se 27 sC] [.fp (nY:(List (Int×Part)))] ?_ fun K k=>by simp[acC,EG];exact kx k
  refine cN hg ?_ ?_<;>(clear hg;intro Lp hg)
  ·refine rG hV [se 4 (22:Int)] [.fp (nY:(List (Int×Part)))] ?_
   cases hg;exact rz hQ
  obtain⟨B5,Lq,hg⟩:=ah hg
  refine rG hV [se 31 B5] [.fp (nY:(List (Int×Part)))] ?_ fun K k=>by simp[acB,Lq];exact kx k
  refine cN hg ?_ ?_<;>(clear hg;intro h66 hg)
  ·refine rG hV [se 4 (20:Int)] [.fp (nY:(List (Int×Part)))] ?_
   cases hg;exact rz hQ
  exact ab.skip (C1 _ ⟨hg,Sub.rm []⟩)
 unfold ac0 at hg
 refine rG hV [se 4 (0:Int)] [] ?_
 cases hg;exact rz hQ
end
end Go.Proofs.YtjigeffmmcmlnaaGreatDoor
