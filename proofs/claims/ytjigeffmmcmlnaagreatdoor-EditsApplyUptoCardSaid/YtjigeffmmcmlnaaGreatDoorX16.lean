import Derived.Test.YtjigeffmmcmlnaaGreatDoorX14
import Derived.Test.YtjigeffmmcmlnaaGreatDoorX9
set_option linter.all false
set_option linter.unnecessarySimpa false
set_option linter.deprecated false
set_option linter.unusedVariables false
set_option linter.unusedSimpArgs false
set_option linter.unusedSectionVars false
namespace Go.Proofs.YtjigeffmmcmlnaaGreatDoor
open Go Go.an au
set_option maxRecDepth 4000
attribute [local instance] cJ
attribute [local congr] ab.kO
attribute [local simp] bu dz dU evalOp bd an.get fk strip bq an.after iI typed gr holds cR R.ok R.bad gI iU jk gW ku ji Op.operands Call.operands dY dA dQ dR iH il fm im gK fg nj nk nm np fK lH lL lJ fL jq lg lp lk ln ng ni jv mD bf D.cells T.eT D.one gH fV gb fo setAt eI fC jC fa gN bw cX iy fU iA gv jV arith et iM jf dG gC iN TD.agg env bR List.map fe iD ff gn gT mapOf iz iq dr mH mI mJ mK mL mM mN mO lK nh ll me mC my mB mr mG lq mi ml jw mE ko jh fh du fj iP gJ jB gone unbox iW fE gB gG lI lh nf jg jS List.contains_cons List.contains_nil lr iO iC iB gm ib gX lC kY mW l6 mw mu mz kr mF mh mj P2.list mA lB kW mU lF lb mZ l9 jQ kM lu kR mP lW jI kC lA kV mT l4 jM kH lE la mY l8 jP kL lD kZ mX l7 jO kJ jX kX mV l5 jN kI lG lf nc ma jW kT mR lY jK kF lv kS mQ lX jJ kD lz kU mS lZ jL kG kQ km lN lO lT lU lP lV lQ lR lS lM nD nH kv kz iQ nB nC nE nF nG nI nJ jD jE nL nM nN nO nP nQ nR nS nq nr nu nv nw nx ny nz nA
section
set_option maxRecDepth 10000
attribute [local simp] eJ qO qL rl qR qP qM rp qS qQ qN rq qT rT rP su rW rQ rN so rU rR rO sr rV tU tR ui tV KX CB Ee FV Uq Up
noncomputable def al0:an.Spec:=iP fun(a0:(List aJ)) (a1:(List aa)) (a2:(List aa)) (a3:Int)=>(N5 a0 a1 a2 a3).map fun r=>enc r
set_option maxHeartbeats 4000000 in
theorem awG:aL Tryz.prog 52 al0:=by
 have hV:=zj (cs aaQ (cs SQ cn))
 refine aL.ajz (Enters.of Tryz.func52 (by decide)) fun a0 a1 a2 a3 rr hr=>?_
 obtain⟨r,hg,rfl⟩:=C4 hr;clear hr
 refine ee.Dc hV Tryz.func52 rfl Tryz.ntmps52 fun R hR w0 I0 Q hQ=>?_
 unfold N5 at hg
 refine rG hV [se 0 a0,se 1 a1,se 2 a2,se 3 a3] [] ?_
 obtain⟨x2,h3,hg⟩:=ah hg
 refine rG hV [se 0 a0,se 1 a1,se 2 a2,se 3 a3,se 9 x2] [] ?_ fun K k=>by simp[Ae,h3];exact kx k
 obtain⟨x5,h6,hg⟩:=ah hg
 refine rG hV [se 0 a0,se 1 a1,se 2 a2,se 3 a3,se 9 x2,se 10 x5] [] ?_ fun K k=>by simp[Ae,h6];exact kx k
 refine sG fun _ k8=>?_
 obtain⟨adS,dM,hg⟩:=ah hg
 unfold ab0 at dM
 refine sq [se 0 a0,se 1 a1,se 2 a2,se 3 a3,se 9 x2,se 10 x5,se 51 adS] [] (fun _ rj=>?_) ?_
 ·rcases ay dM with ⟨gd,dM⟩ | ⟨gd,dM⟩
  ·have pe:=gd;try simp at pe
   exact cU hV mixed (some [23,24,27,28,29,30,31,32,33,34,35,36,37,38,39,40,41,42,43,44,45,46,47,48,49,50]) 29 [] rj fun K k=>by simp[pe];cases dM;exact k _ (Sub.rm [])
  have pe:=gd;try simp at pe
  rcases ay dM with ⟨vI,dM⟩ | ⟨vI,dM⟩
  ·have uD:=vI;try simp at uD
   exact cU hV mixed (some [27,28,29,30,31,32,33,34,35,36,37,38,39,40,41,42,43,44,45,46,47,48,49,50]) 29 [] rj fun K k=>by simp[gd,uD];cases dM;exact k _ (Sub.rm [])
  have uD:=vI;try simp at uD
  obtain⟨x9,pM,dM⟩:=ah dM
  obtain⟨aBA,aBB,Ws⟩:=aY pM;have apv:=Ws;try simp at apv
  obtain⟨cb,pg,dM⟩:=ah dM
  obtain⟨aBV,aBW,WB⟩:=aY pg;have apK:=WB;try simp at apK
  rcases ay dM with ⟨tP,dM⟩ | ⟨tP,dM⟩
  ·have uE:=eq_true (of_decide_eq_true tP)
   exact cU hV mixed (some []) 29 [] rj fun K k=>by simp[gd,pe,vI,uD,Ws,WB,uE];(repeat refine ai ?_);cases dM;exact k _ (Sub.rm [])
  have uE:=tP;try simp at uE
  exact cU hV mixed (some [39,40,41,42,43,44,45,46,47,48,49]) 29 [] rj fun K k=>by simp[gd,pe,vI,uD,Ws,WB,uE];(repeat refine ai ?_);cases dM;exact k _ (Sub.rm [])
 refine cN hg ?_ ?_<;>(clear hg;intro Ex hg)
 ·refine rG hV [se 8 a0] [] ?_
  cases hg;exact rz hQ
 refine sk k8 ?_
 obtain⟨bK,Ey,hg⟩:=ah hg
 obtain⟨aCU,aCV,agL⟩:=aY Ey;have aqy:=agL;try simp at aqy
 obtain⟨br,sW,hg⟩:=ah hg
 obtain⟨aC1,aC2,agO⟩:=aY sW;have Ll:=agO;try simp at Ll
 refine ic hV mixed [se 0 a0,se 1 a1,se 2 a2,se 3 a3,se 9 x2,se 10 x5,pt 11 0] [.w 64 (⟨a3,bK,br⟩:aJ)] 11 [] ?_ fun K k=>by simp[agL,agO];(repeat refine ai ?_);exact kx k
 refine cH (fun o9:aJ=>I5 a0 a3 o9=some r) (fun o9=>⟨[se 0 a0,se 3 a3,pt 11 0],[.w 64 o9]⟩) (fun _ we=>?_) fun o9 hg=>?_
 ·obtain⟨B2,EA,hg⟩:=ah hg
  obtain⟨aC3,aC4,agP⟩:=aY EA;have aqB:=agP;try simp at aqB
  obtain⟨OX,QF,hg⟩:=ah hg
  obtain⟨aC5,aC6,agQ⟩:=aY QF;have aqC:=agQ;try simp at aqC
  obtain⟨o7,EB,hg⟩:=ah hg
  refine ic hV mixed [se 0 a0,se 1 a1,se 2 a2,se 3 a3,se 9 x2,se 10 x5,pt 11 0,se 71 o7] [.w 64 (⟨a3,bK,br⟩:aJ)] 8 [] ?_ fun K k=>by simp[sv,agP,agQ,EB];(repeat refine ai ?_);exact kx k
  refine cN hg ?_ ?_<;>(clear hg;intro WY hg)
  ·obtain⟨ry,yf,hg⟩:=ah hg
   obtain⟨W0,W1,vR⟩:=aY yf;have zx:=vR;try simp at zx
   obtain⟨sB,ED,hg⟩:=ah hg
   obtain⟨aqP,aqQ,HC⟩:=aY ED;have QG:=HC;try simp at QG
   refine ab.BN hV mixed none 9 [] [0,3,11] (by decide) fun K sg=>?_
   simp[vR,HC];repeat refine ai ?_
   refine kd [se 0 a0,se 3 a3,pt 11 0] [.w 64 (⟨a3,ry,sB⟩:aJ)] (by first | rfl | (simp[vR,zx,HC,QG]<;>grind)) (sg _ ?_)
   exact we _ ⟨_,hg,Sub.rm [0]⟩
  exact ab.skip (we _ ⟨_,hg,Sub.rm [0]⟩)
 unfold I5 at hg
 refine rG hV [se 0 a0,se 3 a3,pt 11 0,se 12 (a0.length:Int)] [.w 64 o9] ?_
 refine cH (fun pa:Int=>T4 a0 o9 pa=some r) (fun pa=>⟨[se 0 a0,pt 11 0,se 12 pa],[.w 64 o9]⟩) (fun _ Ij=>?_) fun pa hg=>?_
 ·obtain⟨o75,XR,Rl⟩:=ah hg;clear hg
  refine ab.block <| ab.aH (fun(wN:Int)=>⟨[se 0 a0,se 3 a3,pt 11 0,se 12 wN],[.w 64 o9]⟩) (N6 a0 a3) (a0.length:Int) XR (Sub.rm [0]) fun wN w80 _ hg Rv pw=>?_
  unfold N6 at hg;try dsimp only at hg
  refine sG fun _ Zm=>?_
  obtain⟨aeD,zK,hg⟩:=ah hg
  unfold T5 at zK
  refine sq [se 0 a0,se 3 a3,pt 11 0,se 12 wN,se 95 aeD] [.w 64 o9] (fun _ RX=>?_) ?_
  ·rcases ay zK with ⟨Vv,zK⟩ | ⟨Vv,zK⟩
   ·have aff:=Vv;try simp at aff
    obtain⟨g82,zK⟩:=aK zK
    unfold ax at g82
    obtain⟨xM,CG,zK⟩:=ah zK
    obtain⟨aDX,aDY,arj⟩:=aY CG;have ahf:=arj;try simp at ahf
    exact rJ hV (some []) RX fun K k=>by simp[aff,ahf];(repeat refine ai ?_);cases zK;exact k _ (Sub.rm [0])
   exact rJ hV (some [87,88,89,90,91,92,93,94]) RX fun K k=>by simp[Vv];cases zK;exact k _ (Sub.rm [0])
  refine cN hg ?_ ?_<;>(clear hg;intro Xl hg)
  ·refine sk Zm ?_
   refine ab.block ?_
   obtain⟨g92,hg⟩:=aK hg
   unfold ax at g92
   refine rH hV [se 0 a0,se 3 a3,pt 11 0,se 12 ((wN - 1):Int)] [.w 64 o9] ?_
   exact pw _ _ (aF hg).symm (Sub.rm [0])
  refine ab.exit ?_
  cases Rv _ (aF hg).symm;have hg:=Rl;try dsimp only at hg
  exact Ij _ ⟨_,hg,Sub.rm [0]⟩
 unfold T4 at hg
 refine rG hV [se 0 a0,pt 11 0,se 12 pa,(13,.ao 31)] [.w 64 o9] ?_
 obtain⟨g97,hg⟩:=aK hg
 obtain⟨g98,hg⟩:=aK hg
 refine rG hV [se 0 a0,pt 11 0,se 12 pa,(13,.row 1)] [.w 64 o9,.ro 64 31 ((a0.take pa.toNat):List aJ)] ?_
 obtain⟨aBf,hg⟩:=aK hg
 refine rG hV [se 0 a0,se 12 pa,(13,.row 2)] [.w 64 o9,.dead,.ro 64 31 (((a0.take pa.toNat)++[o9]):List aJ)] ?_
 obtain⟨aBh,hg⟩:=aK hg
 obtain⟨af6,hg⟩:=aK hg
 refine rG hV [(8,.row 3)] [.w 64 o9,.dead,.dead,.ro 64 31 ((((a0.take pa.toNat)++[o9])++(a0.drop pa.toNat)):List aJ)] ?_
 cases hg;exact rz hQ
noncomputable def acG:an.Spec:=du fun(a0:(List aa)) (a1:(List aa))=>(NW a0 a1).map fun r=> .bn [enc r.1,enc r.2.1,enc r.2.2]
set_option maxHeartbeats 4000000 in
theorem awr:aL Tryz.prog 17 acG:=by
 have hV:=zj (cs ajW (cs awF (cs aaQ (cs SQ (cs awG cn)))))
 refine go2 hV Tryz.func17 rfl Tryz.ntmps17 fun a0 a1 r hg _ _ _ _ _ hQ=>?_
 unfold NW at hg
 refine rG hV [se 0 a0,se 1 a1] [] ?_
 refine rG hV [se 0 a0,se 1 a1,(7,.ao 15)] [] ?_
 obtain⟨g3,hg⟩:=aK hg
 refine rG hV [se 0 a0,se 1 a1,(7,.row 0)] [.ro 52 15 a0] ?_
 obtain⟨g5,hg⟩:=aK hg
 refine rG hV [se 0 a0,se 1 a1,(7,.row 1)] [.dead,.ro 52 15 ((a0++a1):List aa)] ?_
 refine sG fun _ k7=>?_
 refine rG hV [se 0 a0,se 1 a1,(7,.row 1),se 26 (decide (1000 < ((a0++a1).length:Int)))] [.dead,.ro 52 15 ((a0++a1):List aa)] ?_
 refine cN hg ?_ ?_<;>(clear hg;intro h9 hg)
 ·refine rG hV [(4,.ao 15),(5,.ao 31),se 6 (2:Int)] [.dead,.ro 52 15 ((a0++a1):List aa)] ?_
  cases hg;exact rz hQ
 refine sk k7 ?_
 refine ch (TP a0 a1=some r) [se 0 a0,se 1 a1,(7,.row 0)] [.ro 52 15 ((a0++a1):List aa)] (fun _ gF=>?_) fun hg=>?_
 ·refine rG hV [se 0 a0,se 1 a1,(7,.row 1),se 8 (0:Int)] [.dead,.ro 52 15 ((a0++a1):List aa)] ?_
  obtain⟨o43,asi,ahJ⟩:=ah hg;clear hg
  refine ab.block <| ab.aH (fun(aO:Int)=>⟨[se 0 a0,se 1 a1,(7,.row 0),se 8 aO],[.ro 52 15 ((a0++a1):List aa)]⟩) (NY a0 a1) 0 asi (Sub.rm [1]) fun aO w48 _ hg yE fY=>?_
  unfold NY at hg;try dsimp only at hg
  refine sG fun _ k49=>?_
  refine rG hV [se 0 a0,se 1 a1,(7,.row 0),se 8 aO,se 30 (decide (aO < ((a0++a1).length:Int)))] [.ro 52 15 ((a0++a1):List aa)] ?_
  refine cN hg ?_ ?_<;>(clear hg;intro zz hg)
  ·refine sk k49 ?_
   refine ch (TS aO=some w48) [se 0 a0,se 1 a1,(7,.row 0),se 8 aO] [.ro 52 15 ((a0++a1):List aa)] (fun _ Bo=>?_) fun hg=>?_
   ·refine ab.block ?_
    obtain⟨An,QL,hg⟩:=ah hg
    obtain⟨aq3,aq4,QM⟩:=aY QL;have QN:=QM;try simp at QN
    obtain⟨wJ,zA,hg⟩:=ah hg
    refine rG hV [se 0 a0,se 1 a1,(7,.row 0),se 8 aO,se 38 (!wJ)] [.ro 52 15 ((a0++a1):List aa)] ?_ fun K k=>by simp[acO,QN,zA];(repeat refine ai ?_);exact ky k (by first | rfl | (simp<;>grind))
    refine cN hg ?_ ?_<;>(clear hg;intro EG hg)
    ·refine rG hV [(4,.ao 15),(5,.ao 31),se 6 (1:Int)] [.ro 52 15 ((a0++a1):List aa)] ?_
     cases yE _ (aF hg).symm;have hg:=ahJ;try dsimp only at hg
     cases hg;exact rz hQ
    exact ab.skip (Bo _ ⟨hg,Sub.rm [0]⟩)
   unfold TS at hg
   obtain⟨g62,hg⟩:=aK hg
   unfold ax at g62
   refine rH hV [se 0 a0,se 1 a1,(7,.row 0),se 8 ((aO+1):Int)] [.ro 52 15 ((a0++a1):List aa)] ?_
   exact fY _ _ (aF hg).symm (Sub.rm [0])
  refine ab.exit ?_
  cases yE _ (aF hg).symm;have hg:=ahJ;try dsimp only at hg
  exact gF _ ⟨hg,Sub.rm [0]⟩
 unfold TP at hg
 refine sG fun _ wh=>?_
 obtain⟨oN,EJ,hg⟩:=ah hg
 have Xd:=EJ;try simp at Xd
 refine rG hV [se 0 a0,se 1 a1,(7,.row 0),se 41 (!oN)] [.bz 52 15 ((a0++a1):List aa)] ?_ fun K k=>by simp[alZ,EJ];exact ky k (by first | rfl | (simp<;>grind))
 refine cN hg ?_ ?_<;>(clear hg;intro h71 hg)
 ·refine rG hV [(4,.ao 15),(5,.ao 31),se 6 (61:Int)] [.bz 52 15 ((a0++a1):List aa)] ?_
  cases hg;exact rz hQ
 refine sk wh ?_
 refine rG hV [se 0 a0,se 1 a1,(7,.row 0),(9,.ao 15)] [.bz 52 15 ((a0++a1):List aa)] ?_
 refine rG hV [se 0 a0,se 1 a1,(7,.row 0),(9,.ao 15),(10,.ao 31)] [.bz 52 15 ((a0++a1):List aa)] ?_
 refine ab.sm (fun s'=>∃ JQ:(List aa),∃ JP:(List aJ),TT JQ JP=some r∧Sub s' ⟨[(9,.row 0),se 10 JP],[.ro 52 15 JQ]⟩) (fun _ Zj=>?_) ?_
 ·refine rG hV [se 0 a0,se 1 a1,(7,.row 0),(9,.ao 15),(10,.ao 31),se 11 (0:Int)] [.bz 52 15 ((a0++a1):List aa)] ?_
  obtain⟨ajx,asc,asR⟩:=ah hg;clear hg
  refine ab.block <| ab.aH (fun((cV,eB,dP):(List aa)×(List aJ)×Int)=>⟨[se 0 a0,se 1 a1,(7,.row 0),(9,.row 1),se 10 eB,se 11 dP],[.bz 52 15 ((a0++a1):List aa),.ro 52 15 cV]⟩) (Dk a0 a1) ([],[],0) asc (Sub.trans (Sub.ac7 10) (Sub.trans (Sub.pb 9 52 15 rfl) (Sub.rm [0,1]))) fun aA7 adj _ hg atp Zk=>?_
  obtain⟨cV,eB,dP⟩:=aA7
  unfold Dk at hg;try dsimp only at hg
  refine sG fun _ aum=>?_
  refine rG hV [se 0 a0,se 1 a1,(7,.row 0),(9,.row 1),se 10 eB,se 11 dP,se 45 (decide (dP < ((a0++a1).length:Int)))] [.bz 52 15 ((a0++a1):List aa),.ro 52 15 cV] ?_
  refine cN hg ?_ ?_<;>(clear hg;intro aC7 hg)
  ·refine sk aum ?_
   refine ab.sm (fun s'=>∃ JK:(List aa),∃ JJ:(List aJ),IZ dP JK JJ=some adj∧Sub s' ⟨[se 0 a0,se 1 a1,(7,.row 0),(9,.row 1),se 10 JJ,se 11 dP],[.bz 52 15 ((a0++a1):List aa),.ro 52 15 JK]⟩) (fun _ aiy=>?_) ?_
   ·refine ab.block ?_
    obtain⟨ga,aqD,hg⟩:=ah hg
    obtain⟨aC8,aC9,aqE⟩:=aY aqD;have agR:=aqE;try simp at agR
    refine rG hV [se 0 a0,se 1 a1,(7,.row 0),(9,.row 1),se 10 eB,se 11 dP,se 12 ga.note.id] [.bz 52 15 ((a0++a1):List aa),.ro 52 15 cV] ?_ fun K k=>by simp[agR];(repeat refine ai ?_);exact ky k (by first | rfl | (simp<;>grind))
    refine rG hV [se 0 a0,se 1 a1,(7,.row 0),(9,.row 1),se 10 eB,se 11 dP,se 12 ga.note.id,se 13 false] [.bz 52 15 ((a0++a1):List aa),.ro 52 15 cV] ?_
    refine cH (fun Gu:Bool=>NX a0 a1 cV eB dP ga Gu=some adj) (fun Gu=>⟨[se 0 a0,se 1 a1,(7,.row 0),(9,.row 1),se 10 eB,se 11 dP,se 12 ga.note.id,se 13 Gu],[.bz 52 15 ((a0++a1):List aa),.ro 52 15 cV]⟩) (fun _ aun=>?_) fun Gu hg=>?_
    ·refine rG hV [se 0 a0,se 1 a1,(7,.row 0),(9,.row 1),se 10 eB,se 11 dP,se 12 ga.note.id,se 13 false,se 14 (0:Int)] [.bz 52 15 ((a0++a1):List aa),.ro 52 15 cV] ?_
     obtain⟨aEm,ase,asT⟩:=ah hg;clear hg
     refine ab.block <| ab.aH (fun((DI,sM):Bool×Int)=>⟨[se 0 a0,se 1 a1,(7,.row 0),(9,.row 1),se 10 eB,se 11 dP,se 12 ga.note.id,se 13 DI,se 14 sM],[.bz 52 15 ((a0++a1):List aa),.ro 52 15 cV]⟩) (FK a0 a1 dP ga) (false,0) ase (Sub.rm [0,1]) fun aA8 aAT _ hg atr auo=>?_
     obtain⟨DI,sM⟩:=aA8
     unfold FK at hg;try dsimp only at hg
     refine sG fun _ aup=>?_
     refine rG hV [se 0 a0,se 1 a1,(7,.row 0),(9,.row 1),se 10 eB,se 11 dP,se 12 ga.note.id,se 13 DI,se 14 sM,se 56 (decide (sM < dP))] [.bz 52 15 ((a0++a1):List aa),.ro 52 15 cV] ?_
     refine cN hg ?_ ?_<;>(clear hg;intro aDa hg)
     ·refine sk aup ?_
      refine cH (fun Gx:Bool=>TQ sM Gx=some aAT) (fun Gx=>⟨[se 0 a0,se 1 a1,(7,.row 0),(9,.row 1),se 10 eB,se 11 dP,se 12 ga.note.id,se 13 Gx,se 14 sM],[.bz 52 15 ((a0++a1):List aa),.ro 52 15 cV]⟩) (fun _ auq=>?_) fun Gx hg=>?_
      ·refine ab.block ?_
       obtain⟨aec,CU,hg⟩:=ah hg
       unfold abT at CU
       refine ab.MR (t:=⟨[se 0 a0,se 1 a1,(7,.row 0),(9,.row 1),se 10 eB,se 11 dP,se 12 ga.note.id,se 13 aec,se 14 sM],[.bz 52 15 ((a0++a1):List aa),.ro 52 15 cV]⟩) (fun _ aiA=>?_) ?_
       ·rcases ay CU with ⟨Vd,CU⟩ | ⟨Vd,CU⟩
        ·refine ab.vp hV (some [61,62,63,64,65,66,67,68]) [0,1,7,9,10,11,12,13,14] fun K aur=>?_
         simp[Vd];repeat refine ai ?_
         cases CU;exact aur _ (aiA _ (Sub.rm [0,1]))
        obtain⟨amU,aqG,CU⟩:=ah CU
        obtain⟨aDb,aDc,aqH⟩:=aY aqG;have agS:=aqH;try simp at agS
        refine ab.vp hV (some []) [0,1,7,9,10,11,12,13,14] fun K Y9=>?_
        simp[Vd,agS];repeat refine ai ?_
        cases CU;exact Y9 _ (aiA _ (Sub.rm [0,1]))
       exact auq _ ⟨_,hg,Sub.rm [0,1]⟩
      unfold TQ at hg
      obtain⟨apb,hg⟩:=aK hg
      unfold ax at apb
      refine rH hV [se 0 a0,se 1 a1,(7,.row 0),(9,.row 1),se 10 eB,se 11 dP,se 12 ga.note.id,se 13 Gx,se 14 ((sM+1):Int)] [.bz 52 15 ((a0++a1):List aa),.ro 52 15 cV] ?_
      exact auo _ _ (aF hg).symm (Sub.rm [0,1])
     refine ab.exit ?_
     cases atr _ (aF hg).symm;have hg:=asT;try dsimp only at hg
     exact aun _ ⟨_,hg,Sub.rm [0,1]⟩
    unfold NX at hg
    refine sG fun _ aut=>?_
    refine rG hV [se 0 a0,se 1 a1,(7,.row 0),(9,.row 1),se 10 eB,se 11 dP,se 12 ga.note.id,se 70 Gu] [.bz 52 15 ((a0++a1):List aa),.ro 52 15 cV] ?_
    refine cN hg ?_ ?_<;>(clear hg;intro aDg hg)
    ·exact ab.exit (aiy _ ⟨_,_,hg,Sub.rm [0,1]⟩)
    refine sk aut ?_
    obtain⟨amV,agU,hg⟩:=ah hg
    have aqJ:=agU;try simp at aqJ
    obtain⟨jF,aqK,hg⟩:=ah hg
    obtain⟨aDh,aDi,aqL⟩:=aY aqK;have agW:=aqL;try simp at agW
    refine rG hV [se 0 a0,se 1 a1,(7,.row 0),(9,.row 1),se 10 eB,se 11 dP,se 12 ga.note.id,pt 15 2] [.bz 52 15 ((a0++a1):List aa),.ro 52 15 cV,.w 52 jF] ?_ fun K k=>by simp[Ae,agU,agW];(repeat refine ai ?_);exact ky k (by first | rfl | (simp<;>grind))
    refine rG hV [se 0 a0,se 1 a1,(7,.row 0),(9,.row 1),se 10 eB,se 11 dP,se 12 ga.note.id,pt 15 2,se 16 (cV.length:Int)] [.bz 52 15 ((a0++a1):List aa),.ro 52 15 cV,.w 52 jF] ?_
    refine cH (fun ou:Int=>TR a0 a1 cV eB dP ga jF ou=some adj) (fun ou=>⟨[se 0 a0,se 1 a1,(7,.row 0),(9,.row 1),se 10 eB,se 11 dP,se 12 ga.note.id,pt 15 2,se 16 ou],[.bz 52 15 ((a0++a1):List aa),.ro 52 15 cV,.w 52 jF]⟩) (fun _ auv=>?_) fun ou hg=>?_
    ·obtain⟨aEn,asj,asU⟩:=ah hg;clear hg
     refine ab.block <| ab.aH (fun(wO:Int)=>⟨[se 0 a0,se 1 a1,(7,.row 0),(9,.row 1),se 10 eB,se 11 dP,se 12 ga.note.id,pt 15 2,se 16 wO],[.bz 52 15 ((a0++a1):List aa),.ro 52 15 cV,.w 52 jF]⟩) (NZ cV jF) (cV.length:Int) asj (Sub.rm [0,1,2]) fun wO aEy _ hg att auw=>?_
     unfold NZ at hg;try dsimp only at hg
     refine sG fun _ Zc=>?_
     obtain⟨aeh,xm,hg⟩:=ah hg
     unfold TU at xm
     refine sq [se 0 a0,se 1 a1,(7,.row 0),(9,.row 1),se 10 eB,se 11 dP,se 12 ga.note.id,pt 15 2,se 16 wO,se 89 aeh] [.bz 52 15 ((a0++a1):List aa),.ro 52 15 cV,.w 52 jF] (fun _ aiB=>?_) ?_
     ·rcases ay xm with ⟨Vg,xm⟩ | ⟨Vg,xm⟩
      ·have afc:=Vg;try simp at afc
       obtain⟨apd,xm⟩:=aK xm
       unfold ax at apd
       obtain⟨amZ,aqW,xm⟩:=ah xm
       obtain⟨aDs,aDt,aqX⟩:=aY aqW;have ag1:=aqX;try simp at ag1
       obtain⟨am0,aqY,xm⟩:=ah xm
       exact cU hV mixed (some []) 9 [] aiB fun K k=>by simp[sv,afc,ag1,aqY];(repeat refine ai ?_);cases xm;exact k _ (Sub.rm [0,1,2])
      exact cU hV mixed (some [82,83,84,85,86,87,88]) 9 [] aiB fun K k=>by simp[sv,Vg];cases xm;exact k _ (Sub.rm [0,1,2])
     refine cN hg ?_ ?_<;>(clear hg;intro aDw hg)
     ·refine sk Zc ?_
      refine ab.block ?_
      obtain⟨apf,hg⟩:=aK hg
      unfold ax at apf
      refine rH hV [se 0 a0,se 1 a1,(7,.row 0),(9,.row 1),se 10 eB,se 11 dP,se 12 ga.note.id,pt 15 2,se 16 ((wO - 1):Int)] [.bz 52 15 ((a0++a1):List aa),.ro 52 15 cV,.w 52 jF] ?_
      exact auw _ _ (aF hg).symm (Sub.rm [0,1,2])
     refine ab.exit ?_
     cases att _ (aF hg).symm;have hg:=asU;try dsimp only at hg
     exact auv _ ⟨_,hg,Sub.rm [0,1,2]⟩
    unfold TR at hg
    refine rG hV [se 0 a0,se 1 a1,(7,.row 0),(9,.row 1),se 10 eB,se 11 dP,se 12 ga.note.id,pt 15 2,se 16 ou,(17,.ao 15)] [.bz 52 15 ((a0++a1):List aa),.ro 52 15 cV,.w 52 jF] ?_
    obtain⟨aBn,hg⟩:=aK hg
    obtain⟨aBo,hg⟩:=aK hg
    refine rG hV [se 0 a0,se 1 a1,(7,.row 0),(9,.row 1),se 10 eB,se 11 dP,se 12 ga.note.id,pt 15 2,se 16 ou,(17,.row 3)] [.bz 52 15 ((a0++a1):List aa),.bz 52 15 cV,.w 52 jF,.ro 52 15 ((cV.take ou.toNat):List aa)] ?_
    obtain⟨aBp,hg⟩:=aK hg
    refine rG hV [se 0 a0,se 1 a1,(7,.row 0),(9,.row 1),se 10 eB,se 11 dP,se 12 ga.note.id,se 16 ou,(17,.row 4)] [.bz 52 15 ((a0++a1):List aa),.bz 52 15 cV,.w 52 jF,.dead,.ro 52 15 (((cV.take ou.toNat)++[jF]):List aa)] ?_
    obtain⟨aBq,hg⟩:=aK hg
    obtain⟨aBr,hg⟩:=aK hg
    refine rG hV [se 0 a0,se 1 a1,(7,.row 0),(9,.row 5),se 10 eB,se 11 dP,se 12 ga.note.id] [.bz 52 15 ((a0++a1):List aa),.bz 52 15 cV,.w 52 jF,.dead,.dead,.ro 52 15 ((((cV.take ou.toNat)++[jF])++(cV.drop ou.toNat)):List aa)] ?_
    obtain⟨adz,aq0,hg⟩:=ah hg
    refine rH hV [se 0 a0,se 1 a1,(7,.row 0),(9,.row 5),se 10 adz,se 11 dP] [.bz 52 15 ((a0++a1):List aa),.bz 52 15 cV,.w 52 jF,.dead,.dead,.ro 52 15 ((((cV.take ou.toNat)++[jF])++(cV.drop ou.toNat)):List aa)] ?_ fun K k=>by simp[al0,aq0];exact ky k (by first | rfl | (simp<;>grind))
    exact aiy _ ⟨_,_,hg,Sub.rm [0,5]⟩
   rintro s' ⟨JK,JJ,hg,hs⟩
   unfold IZ at hg
   refine ab.sub hs ?_
   obtain⟨apg,hg⟩:=aK hg
   unfold ax at apg
   refine rH hV [se 0 a0,se 1 a1,(7,.row 0),(9,.row 1),se 10 JJ,se 11 ((dP+1):Int)] [.bz 52 15 ((a0++a1):List aa),.ro 52 15 JK] ?_
   exact Zk _ _ (aF hg).symm (Sub.rm [0,1])
  refine ab.exit ?_
  cases atp _ (aF hg).symm;have hg:=asR;try dsimp only at hg
  exact Zj _ ⟨_,_,hg,Sub.rm [1]⟩
 rintro s' ⟨JQ,JP,hg,hs⟩
 unfold TT at hg
 refine ab.sub hs ?_
 refine rG hV [(4,.row 0),se 5 JP,se 6 (0:Int)] [.ro 52 15 JQ] ?_
 cases hg;exact rz hQ
noncomputable def acK:an.Spec:=eY It
theorem ajQ:aL Tryz.prog 29 acK:=by
 have hV:=zj cn
 refine go2 hV Tryz.func29 rfl Tryz.ntmps29 fun a0 a1 r hg _ _ _ _ _ hQ=>?_
 unfold It at hg
 refine rG hV [se 0 a0,se 1 a1,pt 4 0] [.w 46 (⟨0,0⟩:Rat)] ?_
 refine rG hV [pt 4 0] [.w 46 (⟨a0,a1⟩:Rat)] ?_
 cases hg;exact rz hQ
noncomputable def BZ:an.Spec:=eY Bt
theorem awz:aL Tryz.prog 30 BZ:=by
 have hV:=zj (cs ajQ cn)
 refine go2 hV Tryz.func30 rfl Tryz.ntmps30 fun a0 a1 r hg _ _ _ _ _ hQ=>?_
 unfold Bt at hg
 refine rG hV [se 0 a0,se 1 a1,pt 4 0] [.w 50 ((⟨0,0,0,0,0,(⟨0,0⟩:Rat),(⟨0,0⟩:Rat),(⟨0,0,0⟩:az)⟩:ae):ae)] ?_
 obtain⟨x2,h3,hg⟩:=ah hg
 obtain⟨x4,h5,hg⟩:=ah hg
 refine rG hV [pt 4 0] [.w 50 ((⟨a0,1,1,0,0,x2,x4,(⟨0,0,a1⟩:az)⟩:ae):ae)] ?_ fun K k=>by simp[acK,h3,h5];exact kx k
 cases hg;exact rz hQ
noncomputable def Du:an.Spec:=eY Fp
theorem aaP:aL Tryz.prog 22 Du:=by
 have hV:=zj (cs ajC cn)
 refine go2 hV Tryz.func22 rfl Tryz.ntmps22 fun a0 a1 r hg _ _ _ _ _ hQ=>?_
 unfold Fp at hg
 refine rG hV [se 1 a1,pt 2 0] [.w 26 a0] ?_
 obtain⟨aek,CV,hg⟩:=ah hg
 unfold ZZ at CV
 refine sq [se 4 aek] [] (fun _ k6=>?_) ?_
 ·obtain⟨x2,h3,CV⟩:=ah CV
  rcases ay CV with ⟨c7,CV⟩ | ⟨c7,CV⟩
  ·exact rJ hV (some []) k6 fun K k=>by simp[Jg,h3,c7];cases CV;exact k _ (Sub.rm [])
  exact rJ hV (some [8,9,10]) k6 fun K k=>by simp[Jg,h3,c7];cases CV;exact k _ (Sub.rm [])
 cases hg;exact rz hQ
end
end Go.Proofs.YtjigeffmmcmlnaaGreatDoor
