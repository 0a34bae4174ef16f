import Derived.Test.YtjigeffmmcmlnaaGreatDoorX18
set_option linter.all false
set_option linter.unnecessarySimpa false
set_option linter.deprecated false
set_option linter.unusedVariables false
set_option linter.unusedSimpArgs false
set_option linter.unusedSectionVars false
namespace Go.Proofs.YtjigeffmmcmlnaaGreatDoor
open Go Go.an au
set_option maxRecDepth 4000
attribute [local instance] cJ
attribute [local congr] ab.kO
attribute [local simp] bu dz dU evalOp bd an.get fk strip bq an.after iI typed gr holds cR R.ok R.bad gI iU jk gW ku ji Op.operands Call.operands dY dA dQ dR iH il fm im gK fg nj nk nm np fK lH lL lJ fL jq lg lp lk ln ng ni jv mD bf D.cells T.eT D.one gH fV gb fo setAt eI fC jC fa gN bw cX iy fU iA gv jV arith et iM jf dG gC iN TD.agg env bR List.map fe iD ff gn gT mapOf iz iq dr mH mI mJ mK mL mM mN mO lK nh ll me mC my mB mr mG lq mi ml jw mE ko jh fh du fj iP gJ jB gone unbox iW fE gB gG lI lh nf jg jS List.contains_cons List.contains_nil lr iO iC iB gm ib gX lC kY mW l6 mw mu mz kr mF mh mj P2.list mA lB kW mU lF lb mZ l9 jQ kM lu kR mP lW jI kC lA kV mT l4 jM kH lE la mY l8 jP kL lD kZ mX l7 jO kJ jX kX mV l5 jN kI lG lf nc ma jW kT mR lY jK kF lv kS mQ lX jJ kD lz kU mS lZ jL kG kQ km lN lO lT lU lP lV lQ lR lS lM nD nH kv kz iQ nB nC nE nF nG nI nJ jD jE nL nM nN nO nP nQ nR nS nq nr nu nv nw nx ny nz nA
section
set_option maxRecDepth 10000
attribute [local simp] eJ qO qL rl qR qP qM rp qS qQ qN rq qT rT rP su rW rQ rN so rU rR rO sr rV tU tR ui tV Cx zn Ac BV BA C5 Fv
noncomputable def sp7:an.Spec:=eY R6
set_option maxHeartbeats 20000000 in
theorem ok7:aL Tryz.prog 7 sp7:=by
 have hV:=AJ (cs IH (cs aaL (cs aaQ (cs SQ cn))))
 refine go2 hV Tryz.func7 rfl Tryz.ntmps7 fun a0 a1 r hg _ _ _ _ _ hQ=>?_
 unfold R6 at hg
 refine rG hV [se 0 a0,se 1 a1] [] ?_
 obtain⟨x2,h3,hg⟩:=ah hg
 refine rG hV [se 0 a0,se 1 a1,se 5 x2] [] ?_ fun K k=>by simp[wD,h3];(repeat refine ai ?_);exact ky k (by first | rfl | (simp[wD,h3]<;>grind))
 refine sG fun _ k5=>?_
 obtain⟨aeu,bF,hg⟩:=ah hg
 unfold ZF at bF
 refine sq [se 0 a0,se 1 a1,se 5 x2,se 32 aeu] [] (fun _ k8=>?_) ?_
 ·rcases ay bF with ⟨c9,bF⟩ | ⟨c9,bF⟩
  ·have gA:=c9;try simp at gA
   exact rJ hV (some [29,30,31]) k8 fun K k=>by simp[c9,gA];(repeat refine ai ?_);cases bF;exact k _ (Sub.rm [])
  have gA:=c9;try simp at gA
  exact rJ hV (some []) k8 fun K k=>by simp[c9,gA];(repeat refine ai ?_);cases bF;exact k _ (Sub.rm [])
 refine cN hg ?_ ?_<;>(
             clear hg;intro pg hg)
 ·refine rG hV [se 4 x2] [] ?_
  cases hg;exact rz hQ
 refine sk k5 ?_
 obtain⟨⟨aU,aX,cL⟩,sU,hg⟩:=ah hg;try dsimp only at hg
 refine rG hV [se 0 a0,se 1 a1,se 5 x2,se 6 aU,se 7 aX,se 8 cL] [] ?_ fun K k=>by simp[pD,sU];(repeat refine ai ?_);exact ky k (by first | rfl | (simp[pD,sU]<;>grind))
 refine sG fun _ vg=>?_
 refine rG hV [se 0 a0,se 1 a1,se 5 x2,se 6 aU,se 7 aX,se 42 (!decide (cL=0))] [] ?_
 refine cN hg ?_ ?_<;>(clear hg;intro qn hg)
 ·obtain⟨adZ,xk,hg⟩:=ah hg
  unfold aiK at xk
  refine sq [se 4 adZ] [] (fun _ wc=>?_) ?_
  ·rcases ay xk with ⟨PJ,xk⟩ | ⟨PJ,xk⟩
   ·rcases ay xk with ⟨AB,xk⟩ | ⟨AB,xk⟩
    ·have wS:=eq_true (of_decide_eq_true AB);simp only[Int.natCast_eq_zero,List.length_eq_zero_iff] at wS
     exact rJ hV (some []) wc fun K k=>by simp[PJ,AB,wS];(repeat refine ai ?_);cases xk;exact k _ (Sub.rm [])
    have wS:=AB;try simp at wS
    exact rJ hV (some [50,51,52]) wc fun K k=>by simp[PJ,AB,wS];(repeat refine ai ?_);cases xk;exact k _ (Sub.rm [])
   exact rJ hV (some [45,46,47,50,51,52]) wc fun K k=>by simp[PJ];(repeat refine ai ?_);cases xk;exact k _ (Sub.rm [])
  cases hg;exact rz hQ
 refine sk vg ?_
 obtain⟨g30,hg⟩:=aK hg
 obtain⟨g31,hg⟩:=aK hg
 refine rG hV [se 0 a0,se 1 a1,se 5 x2,se 6 aU,se 7 aX,(9,.row 2)] [.dead,.dead,.ro 52 15 ((([]++a0)++a1):List aa)] ?_
 refine rG hV [se 0 a0,se 1 a1,se 5 x2,se 6 aU,se 7 aX,(9,.row 2),(10,.map 3)] [.dead,.dead,.ro 52 15 ((([]++a0)++a1):List aa),.mp ([]:(List (Int×Bool)))] ?_
 refine cH (fun bV:(List (Int×Bool))=>Sa a0 a1 x2 aU aX bV=some r) (fun bV=>⟨[se 0 a0,se 1 a1,se 5 x2,se 6 aU,se 7 aX,(9,.row 0),(10,.map 1)],[.ro 52 15 ((([]++a0)++a1):List aa),.mp (bV:(List (Int×Bool)))]⟩) (fun _ tp=>?_) fun bV hg=>?_
 ·refine rG hV [se 0 a0,se 1 a1,se 5 x2,se 6 aU,se 7 aX,(9,.row 2),(10,.map 3),(60,.row 2),se 61 (((([]++a0)++a1).length:Int):Int),se 62 (0:Int)] [.dead,.dead,.ro 52 15 ((([]++a0)++a1):List aa),.mp ([]:(List (Int×Bool)))] ?_
  obtain⟨o60,asr,asX⟩:=ah hg;clear hg
  refine ab.block <| ab.aH (fun((DJ,tL):(List (Int×Bool))×Int)=>⟨[se 0 a0,se 1 a1,se 5 x2,se 6 aU,se 7 aX,(9,.row 0),(10,.map 1),(60,.row 0),se 61 (((([]++a0)++a1).length:Int):Int),se 62 tL],[.ro 52 15 ((([]++a0)++a1):List aa),.mp (DJ:(List (Int×Bool)))]⟩) (Fm a0 a1) ([],0) asr (Sub.rm [2,3]) fun z63 w65 _ hg atw Fh=>?_
  obtain⟨DJ,tL⟩:=z63
  unfold Fm at hg;try dsimp only at hg
  refine rG hV [se 0 a0,se 1 a1,se 5 x2,se 6 aU,se 7 aX,(9,.row 0),(10,.map 1),(60,.row 0),se 61 (((([]++a0)++a1).length:Int):Int),se 62 tL,se 63 (decide (tL < ((([]++a0)++a1).length:Int)))] [.ro 52 15 ((([]++a0)++a1):List aa),.mp (DJ:(List (Int×Bool)))] ?_
  refine sG fun _ wh=>?_
  refine cN hg ?_ ?_<;>(clear hg;intro Ls hg)
  ·refine sk wh ?_
   refine cH (fun GM:(List (Int×Bool))=>Sc tL GM=some w65) (fun GM=>⟨[se 0 a0,se 1 a1,se 5 x2,se 6 aU,se 7 aX,(9,.row 0),(10,.map 1),(60,.row 0),se 61 (((([]++a0)++a1).length:Int):Int),se 62 tL],[.ro 52 15 ((([]++a0)++a1):List aa),.mp (GM:(List (Int×Bool)))]⟩) (fun _ k70=>?_) fun GM hg=>?_
   ·refine ab.block ?_
    obtain⟨pY,AU,hg⟩:=ah hg
    obtain⟨ahc,ahd,AV⟩:=aY AU;have EK:=AV;try simp at EK
    refine rG hV [se 0 a0,se 1 a1,se 5 x2,se 6 aU,se 7 aX,(9,.row 0),(10,.map 1),pt 12 2,(60,.row 0),se 61 (((([]++a0)++a1).length:Int):Int),se 62 tL] [.ro 52 15 ((([]++a0)++a1):List aa),.mp (DJ:(List (Int×Bool))),.w 52 pY] ?_ fun K k=>by simp[AV,EK];(repeat refine ai ?_);exact ky k (by first | rfl | (simp[AV,EK]<;>grind))
    refine rH hV [se 0 a0,se 1 a1,se 5 x2,se 6 aU,se 7 aX,(9,.row 0),(10,.map 1),(60,.row 0),se 61 (((([]++a0)++a1).length:Int):Int),se 62 tL] [.ro 52 15 ((([]++a0)++a1):List aa),.mp ((cq DJ pY.note.id true):(List (Int×Bool))),.w 52 pY] ?_
    exact k70 _ ⟨_,hg,Sub.rm [0,1]⟩
   unfold Sc at hg
   obtain⟨g75,hg⟩:=aK hg
   unfold ax at g75
   refine rH hV [se 0 a0,se 1 a1,se 5 x2,se 6 aU,se 7 aX,(9,.row 0),(10,.map 1),(60,.row 0),se 61 (((([]++a0)++a1).length:Int):Int),se 62 ((tL+1):Int)] [.ro 52 15 ((([]++a0)++a1):List aa),.mp (GM:(List (Int×Bool)))] ?_
   exact Fh _ _ (aF hg).symm (Sub.rm [0,1])
  refine ab.exit ?_
  cases atw _ (aF hg).symm;have hg:=asX;try dsimp only at hg
  exact tp _ ⟨_,hg,Sub.rm [0,1]⟩
 unfold Sa at hg
 refine ch (Sd a0 a1 x2 aU aX bV=some r) [se 0 a0,se 1 a1,se 5 x2,se 6 aU,se 7 aX,(10,.map 0)] [.mp (bV:(List (Int×Bool)))] (fun _ Zl=>?_) fun hg=>?_
 ·refine rG hV [se 0 a0,se 1 a1,se 5 x2,se 6 aU,se 7 aX,(9,.row 0),(10,.map 1),se 71 aU,se 72 (aU.length:Int),se 73 (0:Int)] [.ro 52 15 ((([]++a0)++a1):List aa),.mp (bV:(List (Int×Bool)))] ?_
  obtain⟨ajo,arX,ahA⟩:=ah hg;clear hg
  refine ab.block <| ab.aH (fun(ov:Int)=>⟨[se 0 a0,se 1 a1,se 5 x2,se 6 aU,se 7 aX,se 9 ((([]++a0)++a1):(List aa)),(10,.map 0),se 71 aU,se 72 (aU.length:Int),se 73 ov],[.mp (bV:(List (Int×Bool)))]⟩) (MH a0 a1 aU bV) 0 arX (Sub.trans (Sub.ac7 9) (Sub.rm [1])) fun ov aAJ _ hg ah4 Fj=>?_
  unfold MH at hg;try dsimp only at hg
  refine rG hV [se 0 a0,se 1 a1,se 5 x2,se 6 aU,se 7 aX,se 9 ((([]++a0)++a1):(List aa)),(10,.map 0),se 71 aU,se 72 (aU.length:Int),se 73 ov,se 74 (decide (ov < (aU.length:Int)))] [.mp (bV:(List (Int×Bool)))] ?_
  refine sG fun _ Y1=>?_
  refine cN hg ?_ ?_<;>(clear hg;intro agu hg)
  ·refine sk Y1 ?_
   refine ch (R7 ov=some aAJ) [se 0 a0,se 1 a1,se 5 x2,se 6 aU,se 7 aX,se 9 ((([]++a0)++a1):(List aa)),(10,.map 0),se 71 aU,se 72 (aU.length:Int),se 73 ov] [.mp (bV:(List (Int×Bool)))] (fun _ atV=>?_) fun hg=>?_
   ·refine ab.block ?_
    obtain⟨Aj,agw,hg⟩:=ah hg
    obtain⟨aCf,aCg,WC⟩:=aY agw;have WD:=WC;try simp at WD
    refine rG hV [se 0 a0,se 1 a1,se 5 x2,se 6 aU,se 7 aX,se 9 ((([]++a0)++a1):(List aa)),(10,.map 0),se 13 ov,pt 14 1,se 71 aU,se 72 (aU.length:Int),se 73 ov] [.mp (bV:(List (Int×Bool))),.w 52 Aj] ?_ fun K k=>by simp[WC,WD];(repeat refine ai ?_);exact ky k (by first | rfl | (simp[WC,WD]<;>grind))
    obtain⟨yV,Lg,hg⟩:=ah hg
    have WE:=Lg;try simp at WE
    refine rG hV [se 0 a0,se 1 a1,se 5 x2,se 6 aU,se 7 aX,se 9 ((([]++a0)++a1):(List aa)),(10,.map 0),se 13 ov,pt 14 1,se 15 yV,se 71 aU,se 72 (aU.length:Int),se 73 ov] [.mp (bV:(List (Int×Bool))),.w 52 Aj] ?_ fun K k=>by simp[Ae,Lg,WE];(repeat refine ai ?_);exact ky k (by first | rfl | (simp[Ae,Lg,WE]<;>grind))
    obtain⟨adU,kf,hg⟩:=ah hg
    unfold ZG at kf
    refine sq [se 0 a0,se 1 a1,se 5 x2,se 6 aU,se 7 aX,se 9 ((([]++a0)++a1):(List aa)),(10,.map 0),se 71 aU,se 72 (aU.length:Int),se 73 ov,se 114 adU] [.mp (bV:(List (Int×Bool)))] (fun _ Ms=>?_) ?_
    ·rcases ay kf with ⟨Ch,kf⟩ | ⟨Ch,kf⟩
     ·have Ci:=Ch;try simp at Ci
      exact cU hV mixed (some [86,87,88,89,90,91,94,95,96,97,98,99,100,101,102,103,104,105,108,109,110,111,112,113]) 29 [] Ms fun K k=>by simp[sv,Ch,Ci];(repeat refine ai ?_);cases kf;exact k _ (Sub.rm [0])
     have Ci:=Ch;try simp at Ci
     obtain⟨amK,ap2,kf⟩:=ah kf
     obtain⟨aCj,aCk,Lh⟩:=aY ap2;have Li:=Lh;try simp at Li
     rcases ay kf with ⟨DX,kf⟩ | ⟨DX,kf⟩
     ·have Ha:=DX;try simp at Ha
      exact cU hV mixed (some [94,95,96,97,98,99,100,101,102,103,104,105,108,109,110,111,112,113]) 29 [] Ms fun K k=>by simp[sv,Ch,Ci,Lh,Li,DX,Ha];(repeat refine ai ?_);cases kf;exact k _ (Sub.rm [0])
     have Ha:=rk DX
     rcases ay kf with ⟨Hb,kf⟩ | ⟨Hb,kf⟩
     ·have Hc:=Hb;try simp at Hc
      obtain⟨Wh,kf⟩:=aK kf
      unfold ax at Wh
      obtain⟨amL,agy,kf⟩:=ah kf
      obtain⟨aCl,aCm,WG⟩:=aY agy;have WH:=WG;try simp at WH
      obtain⟨amM,agz,kf⟩:=ah kf
      rcases ay kf with ⟨J7,kf⟩ | ⟨J7,kf⟩
      ·have J8:=J7;try simp at J8
       exact cU hV mixed (some [108,109,110,111,112,113]) 29 [] Ms fun K k=>by simp[sv,Ch,Ci,Lh,Li,DX,Ha,Hb,Hc,WG,WH,agz,J7,J8];(repeat refine ai ?_);cases kf;exact k _ (Sub.rm [0])
      have J8:=J7;try simp at J8
      exact cU hV mixed (some []) 29 [] Ms fun K k=>by simp[sv,Ch,Ci,Lh,Li,DX,Ha,Hb,Hc,WG,WH,agz,J7,J8];(repeat refine ai ?_);cases kf;exact k _ (Sub.rm [0])
     have Hc:=Hb;try simp at Hc
     exact cU hV mixed (some [97,98,99,100,101,102,103,104]) 29 [] Ms fun K k=>by simp[sv,Ch,Ci,Lh,Li,DX,Ha,Hb,Hc];(repeat refine ai ?_);cases kf;exact k _ (Sub.rm [0])
    refine cN hg ?_ ?_<;>(clear hg;intro ap8 hg)
    ·refine rG hV [se 4 false] [.mp (bV:(List (Int×Bool)))] ?_
     cases ah4 _ (aF hg).symm;have hg:=ahA;try dsimp only at hg
     cases hg;exact rz hQ
    exact ab.skip (atV _ ⟨hg,Sub.rm [0]⟩)
   unfold R7 at hg
   obtain⟨ao0,hg⟩:=aK hg
   unfold ax at ao0
   refine rH hV [se 0 a0,se 1 a1,se 5 x2,se 6 aU,se 7 aX,se 9 ((([]++a0)++a1):(List aa)),(10,.map 0),se 71 aU,se 72 (aU.length:Int),se 73 ((ov+1):Int)] [.mp (bV:(List (Int×Bool)))] ?_
   exact Fj _ _ (aF hg).symm (Sub.rm [0])
  refine ab.exit ?_
  cases ah4 _ (aF hg).symm;have hg:=ahA;try dsimp only at hg
  exact Zl _ ⟨hg,Sub.rm [0]⟩
 unfold Sd at hg
 refine rG hV [se 0 a0,se 1 a1,se 5 x2,se 6 aU,se 7 aX,(10,.map 0),se 16 (0:Int)] [.mp (bV:(List (Int×Bool)))] ?_
 refine cH (fun pH:Int=>R8 a0 a1 x2 aU aX bV pH=some r) (fun pH=>⟨[se 0 a0,se 1 a1,se 5 x2,se 6 aU,se 7 aX,(10,.map 0),se 16 pH],[.fp (bV:(List (Int×Bool)))]⟩) (fun _ aua=>?_) fun pH hg=>?_
 ·refine rG hV [se 0 a0,se 1 a1,se 5 x2,se 6 aU,se 7 aX,(10,.map 0),se 16 (0:Int),pt 117 1] [.fp (bV:(List (Int×Bool))),.iter ((bV:(List (Int×Bool))).map kE) ((bV:(List (Int×Bool))).map vE) []] ?_ fun K k=>by simp[BM,AI,MC,OQ];(repeat refine ai ?_);exact ky k (by first | rfl | (simp[BM,AI,MC,OQ]<;>grind))
  refine ab.block ?_
  obtain⟨ajw,ar8,hg⟩:=ah hg
  refine ab.Bv bV (fun Cu (vC:Int)=>⟨[se 0 a0,se 1 a1,se 5 x2,se 6 aU,se 7 aX,(10,.map 0),se 16 vC,pt 117 1],[.fp (bV:(List (Int×Bool))),.iter ((bV:(List (Int×Bool))).map kE) ((bV:(List (Int×Bool))).map vE) Cu]⟩) (Fl a0 a1) 0 ar8 ?_ fun Cu vC aBa arD arJ=>?_
  ·exact Sub.rm [0,1]
  show ab _ _ _ _ _ ⟨[se 0 a0,se 1 a1,se 5 x2,se 6 aU,se 7 aX,(10,.map 0),se 16 vC,pt 117 1],[.fp (bV:(List (Int×Bool))),.iter ((bV:(List (Int×Bool))).map kE) ((bV:(List (Int×Bool))).map vE) Cu]⟩ _
  refine ab.aiT hV rfl rfl rfl rfl rfl rfl (by decide) (by decide) rfl rfl rfl rfl (fun i200 aEg aEw arQ atc asF=>?_) fun art=>?_
  ·obtain⟨⟨RO,aAz⟩,yo,rfl,rfl⟩:=aiH arQ atc
   obtain⟨aEx,Rf,aEd,ahm⟩:=arJ i200 _ yo asF
   unfold Fl at Rf
   try dsimp only at Rf
   have aEc:=hg
   clear hg
   have hg:=Rf
   clear Rf
   show ab _ _ _ _ _ ⟨[se 0 a0,se 1 a1,se 5 x2,se 6 aU,se 7 aX,(10,.map 0),se 16 vC,pt 117 1],[.fp (bV:(List (Int×Bool))),.iter ((bV:(List (Int×Bool))).map kE) ((bV:(List (Int×Bool))).map vE) (Cu++[i200])]⟩ _
   refine ab.block ?_
   refine rG hV [se 0 a0,se 1 a1,se 5 x2,se 6 aU,se 7 aX,(10,.map 0),se 16 vC,se 17 RO,pt 117 1] [.fp (bV:(List (Int×Bool))),.iter ((bV:(List (Int×Bool))).map kE) ((bV:(List (Int×Bool))).map vE) (Cu++[i200])] ?_ fun K k=>by simp[yo,BM,AI,MC,OQ];(repeat refine ai ?_);exact ky k (by first | rfl | (simp[yo,BM,AI,MC,OQ]<;>grind))
   obtain⟨JD,agM,hg⟩:=ah hg
   obtain⟨JE,agN,hg⟩:=ah hg
   refine rG hV [se 0 a0,se 1 a1,se 5 x2,se 6 aU,se 7 aX,(10,.map 0),se 16 vC,se 18 JD,se 19 JE,pt 117 1] [.fp (bV:(List (Int×Bool))),.iter ((bV:(List (Int×Bool))).map kE) ((bV:(List (Int×Bool))).map vE) (Cu++[i200])] ?_ fun K k=>by simp[yo,Ae,agM,agN];(repeat refine ai ?_);exact ky k (by first | rfl | (simp[yo,Ae,agM,agN]<;>grind))
   obtain⟨ad5,rh,hg⟩:=ah hg
   unfold ZH at rh
   refine sq [se 0 a0,se 1 a1,se 5 x2,se 6 aU,se 7 aX,(10,.map 0),se 16 vC,pt 117 1,se 159 ad5] [.fp (bV:(List (Int×Bool))),.iter ((bV:(List (Int×Bool))).map kE) ((bV:(List (Int×Bool))).map vE) (Cu++[i200])] (fun _ RP=>?_) ?_
   ·rcases ay rh with ⟨D3,rh⟩ | ⟨D3,rh⟩
    ·have D4:=D3;try simp at D4
     rcases ay rh with ⟨Hg,rh⟩ | ⟨Hg,rh⟩
     ·have Hh:=Hg;try simp at Hh
      obtain⟨adx,aqz,rh⟩:=ah rh
      obtain⟨aCW,aCX,WS⟩:=aY aqz;have WT:=WS;try simp at WT
      obtain⟨ady,aqA,rh⟩:=ah rh
      obtain⟨aCY,aCZ,WU⟩:=aY aqA;have WV:=WU;try simp at WV
      rcases ay rh with ⟨Kf,rh⟩ | ⟨Kf,rh⟩
      ·have PK:=Kf;try simp at PK
       exact cU hV mixed (some [147,148,149,150,151,152,153,154,155,156,157]) 29 [] RP fun K k=>by simp[yo,D3,D4,Hg,Hh,WS,WT,WU,WV,Kf,PK];(repeat refine ai ?_);cases rh;exact k _ (Sub.rm [0,1])
      have PK:=rk Kf
      exact cU hV mixed (some []) 29 [] RP fun K k=>by simp[yo,D3,D4,Hg,Hh,WS,WT,WU,WV,Kf,PK];(repeat refine ai ?_);cases rh;exact k _ (Sub.rm [0,1])
     have Hh:=Hg;try simp at Hh
     exact cU hV mixed (some [135,136,137,138,139,140,141,142,143,144,145,146,147,148,149,150,151,152,153,154,155,156,157,158]) 29 [] RP fun K k=>by simp[yo,D3,D4,Hg,Hh];(repeat refine ai ?_);cases rh;exact k _ (Sub.rm [0,1])
    have D4:=D3;try simp at D4
    exact cU hV mixed (some [131,132,135,136,137,138,139,140,141,142,143,144,145,146,147,148,149,150,151,152,153,154,155,156,157,158]) 29 [] RP fun K k=>by simp[yo,D3,D4];(repeat refine ai ?_);cases rh;exact k _ (Sub.rm [0,1])
   refine cN hg ?_ ?_<;>(clear hg;intro aC0 hg)
   ·obtain⟨apa,hg⟩:=aK hg
    unfold ax at apa
    refine rH hV [se 0 a0,se 1 a1,se 5 x2,se 6 aU,se 7 aX,(10,.map 0),se 16 ((vC+1):Int),pt 117 1] [.fp (bV:(List (Int×Bool))),.iter ((bV:(List (Int×Bool))).map kE) ((bV:(List (Int×Bool))).map vE) (Cu++[i200])] ?_ fun K k=>by simp[yo];(repeat refine ai ?_);exact ky k (by first | rfl | (simp[yo]<;>grind))
    exact ahm _ _ (aF hg).symm (Sub.rm [0,1])
   refine ab.skip ?_
   exact ahm _ _ (aF hg).symm (Sub.rm [0,1])
  have aoh:=arD (by simpa using art)
  subst aoh
  try dsimp only at hg
  exact aua _ ⟨_,hg,Sub.rm [0]⟩
 unfold R8 at hg
 refine cH (fun DE:Bool=>R9 aU aX bV pH DE=some r) (fun DE=>⟨[se 5 DE,se 6 aU,se 7 aX,(10,.map 0),se 16 pH],[.fp (bV:(List (Int×Bool)))]⟩) (fun _ auk=>?_) fun DE hg=>?_
 ·refine rG hV [se 0 a0,se 1 a1,se 5 x2,se 6 aU,se 7 aX,(10,.map 0),se 16 pH,se 162 aX,se 163 (aX.length:Int),se 164 (0:Int)] [.fp (bV:(List (Int×Bool)))] ?_
  obtain⟨ajy,ash,ahH⟩:=ah hg;clear hg
  refine ab.block <| ab.aH (fun((y4,nZ):Bool×Int)=>⟨[se 0 a0,se 1 a1,se 5 y4,se 6 aU,se 7 aX,(10,.map 0),se 16 pH,se 162 aX,se 163 (aX.length:Int),se 164 nZ],[.fp (bV:(List (Int×Bool)))]⟩) (Iq a0 a1 aX) (x2,0) ash (Sub.rm [0]) fun aA9 aAU _ hg aib aul=>?_
  obtain⟨y4,nZ⟩:=aA9
  unfold Iq at hg;try dsimp only at hg
  refine rG hV [se 0 a0,se 1 a1,se 5 y4,se 6 aU,se 7 aX,(10,.map 0),se 16 pH,se 162 aX,se 163 (aX.length:Int),se 164 nZ,se 165 (decide (nZ < (aX.length:Int)))] [.fp (bV:(List (Int×Bool)))] ?_
  refine sG fun _ Y9=>?_
  refine cN hg ?_ ?_<;>(clear hg;intro aDd hg)
  ·refine sk Y9 ?_
   refine cH (fun Gz:Bool=>Sb nZ Gz=some aAU) (fun Gz=>⟨[se 0 a0,se 1 a1,se 5 Gz,se 6 aU,se 7 aX,(10,.map 0),se 16 pH,se 162 aX,se 163 (aX.length:Int),se 164 nZ],[.fp (bV:(List (Int×Bool)))]⟩) (fun _ aus=>?_) fun Gz hg=>?_
   ·refine ab.block ?_
    obtain⟨o8,aqI,hg⟩:=ah hg
    obtain⟨aDe,aDf,W2⟩:=aY aqI;have W3:=W2;try simp at W3
    refine rG hV [se 0 a0,se 1 a1,se 5 y4,se 6 aU,se 7 aX,(10,.map 0),se 16 pH,se 20 nZ,pt 21 1,se 162 aX,se 163 (aX.length:Int),se 164 nZ] [.fp (bV:(List (Int×Bool))),.w 64 o8] ?_ fun K k=>by simp[W2,W3];(repeat refine ai ?_);exact ky k (by first | rfl | (simp[W2,W3]<;>grind))
    obtain⟨B3,agT,hg⟩:=ah hg
    obtain⟨Al,agV,hg⟩:=ah hg
    refine ic hV mixed [se 0 a0,se 1 a1,se 5 y4,se 6 aU,se 7 aX,(10,.map 0),se 16 pH,se 20 nZ,pt 21 1,se 22 B3,se 23 Al,se 162 aX,se 163 (aX.length:Int),se 164 nZ] [.fp (bV:(List (Int×Bool))),.w 64 o8] 7 [] ?_ fun K k=>by simp[Ae,agT,agV];(repeat refine ai ?_);exact ky k (by first | rfl | (simp[Ae,agT,agV]<;>grind))
    refine sG fun _ auu=>?_
    obtain⟨aed,kg,hg⟩:=ah hg
    unfold ZI at kg
    refine sq [se 0 a0,se 1 a1,se 5 y4,se 6 aU,se 7 aX,(10,.map 0),se 16 pH,pt 21 1,se 22 B3,se 23 Al,se 162 aX,se 163 (aX.length:Int),se 164 nZ,se 205 aed] [.fp (bV:(List (Int×Bool))),.w 64 o8] (fun _ My=>?_) ?_
    ·rcases ay kg with ⟨Cl,kg⟩ | ⟨Cl,kg⟩
     ·have Cm:=Cl;try simp at Cm
      exact cU hV mixed (some [180,181,184,185,186,187,188,189,190,191,192,193,194,195,196,199,200,201,202,203,204]) 26 [] My fun K k=>by simp[sv,Cl,Cm];(repeat refine ai ?_);cases kg;exact k _ (Sub.rm [0,1])
     have Cm:=Cl;try simp at Cm
     rcases ay kg with ⟨D6,kg⟩ | ⟨D6,kg⟩
     ·have D7:=D6;try simp at D7
      exact cU hV mixed (some [184,185,186,187,188,189,190,191,192,193,194,195,196,199,200,201,202,203,204]) 26 [] My fun K k=>by simp[sv,Cl,Cm,D6,D7];(repeat refine ai ?_);cases kg;exact k _ (Sub.rm [0,1])
     have D7:=D6;try simp at D7
     rcases ay kg with ⟨Hk,kg⟩ | ⟨Hk,kg⟩
     ·have Hl:=Hk;try simp at Hl
      obtain⟨apc,kg⟩:=aK kg
      unfold ax at apc
      obtain⟨amW,aqM,kg⟩:=ah kg
      obtain⟨aDj,aDk,W4⟩:=aY aqM;have W5:=W4;try simp at W5
      rcases ay kg with ⟨Kk,kg⟩ | ⟨Kk,kg⟩
      ·have Kl:=Kk;try simp at Kl
       exact cU hV mixed (some [199,200,201,202,203,204]) 26 [] My fun K k=>by simp[sv,Cl,Cm,D6,D7,Hk,Hl,W4,W5,Kk,Kl];(repeat refine ai ?_);cases kg;exact k _ (Sub.rm [0,1])
      have Kl:=Kk;try simp at Kl
      obtain⟨amX,aqN,kg⟩:=ah kg
      exact cU hV mixed (some []) 26 [] My fun K k=>by simp[sv,Cl,Cm,D6,D7,Hk,Hl,W4,W5,Kk,Kl,aqN];(repeat refine ai ?_);cases kg;exact k _ (Sub.rm [0,1])
     have Hl:=Hk;try simp at Hl
     obtain⟨amY,aqO,kg⟩:=ah kg
     exact cU hV mixed (some [187,188,189,190,191,192,193,194,195]) 26 [] My fun K k=>by simp[sv,Cl,Cm,D6,D7,Hk,Hl,aqO];(repeat refine ai ?_);cases kg;exact k _ (Sub.rm [0,1])
    refine cN hg ?_ ?_<;>(clear hg;intro aDl hg)
    ·refine rG hV [se 4 false] [.fp (bV:(List (Int×Bool))),.w 64 o8] ?_
     cases aib _ (aF hg).symm;have hg:=ahH;try dsimp only at hg
     cases hg;exact rz hQ
    refine sk auu ?_
    obtain⟨aef,je,hg⟩:=ah hg
    unfold ZJ at je
    refine ab.MR (t:=⟨[se 0 a0,se 1 a1,se 5 aef,se 6 aU,se 7 aX,(10,.map 0),se 16 pH,se 162 aX,se 163 (aX.length:Int),se 164 nZ],[.fp (bV:(List (Int×Bool)))]⟩) (fun _ Ii=>?_) ?_
    ·rcases ay je with ⟨D8,je⟩ | ⟨D8,je⟩
     ·obtain⟨Dy,aqR,je⟩:=ah je
      obtain⟨aDm,aDn,HD⟩:=aY aqR;have HE:=HD;try simp at HE
      rcases ay je with ⟨Cn,je⟩ | ⟨Cn,je⟩
      ·have D9:=eq_true (of_decide_eq_true Cn)
       obtain⟨JF,aqS,je⟩:=ah je
       obtain⟨aDo,aDp,QH⟩:=aY aqS;have QI:=QH;try simp at QI
       rcases ay je with ⟨Hm,je⟩ | ⟨Hm,je⟩
       ·have Km:=eq_true (of_decide_eq_true Hm)
        refine ab.BN hV mixed (some [225,226,227,228,229,230,231,232,233,234,235,236,237,238,239,240]) 33 [] [0,1,5,6,7,10,16,162,163,164] (by decide) fun K auy=>?_
        simp[D8,HD,HE,Cn,D9,QH,QI,Hm,Km];repeat refine ai ?_
        cases je;exact auy _ (Ii _ (Sub.rm [0]))
       have Km:=Hm;try simp at Km
       rcases ay je with ⟨Ko,je⟩ | ⟨Ko,je⟩
       ·have PM:=eq_true (of_decide_eq_true Ko)
        refine ab.BN hV mixed (some []) 33 [] [0,1,5,6,7,10,16,162,163,164] (by decide) fun K auz=>?_
        simp[D8,HD,HE,Cn,D9,QH,QI,Hm,Km,Ko,PM];repeat refine ai ?_
        cases je;exact auz _ (Ii _ (Sub.rm [0]))
       have PM:=Ko;try simp at PM
       refine ab.BN hV mixed (some [233,234,235,236,237,238,239]) 33 [] [0,1,5,6,7,10,16,162,163,164] (by decide) fun K auA=>?_
       simp[D8,HD,HE,Cn,D9,QH,QI,Hm,Km,Ko,PM];repeat refine ai ?_
       cases je;exact auA _ (Ii _ (Sub.rm [0]))
      have D9:=Cn;try simp at D9
      obtain⟨US,aqT,je⟩:=ah je
      obtain⟨aDq,aDr,W6⟩:=aY aqT;have W7:=W6;try simp at W7
      rcases ay je with ⟨Kp,je⟩ | ⟨Kp,je⟩
      ·have PN:=eq_true (of_decide_eq_true Kp)
       refine ab.BN hV mixed (some [216,217,218,219,220,221,222]) 33 [] [0,1,5,6,7,10,16,162,163,164] (by decide) fun K auB=>?_
       simp[D8,HD,HE,Cn,D9,W6,W7,Kp,PN];repeat refine ai ?_
       cases je;exact auB _ (Ii _ (Sub.rm [0]))
      have PN:=Kp;try simp at PN
      refine ab.BN hV mixed (some [216,217,218,219,220,221,222,233,234,235,236,237,238,239]) 33 [] [0,1,5,6,7,10,16,162,163,164] (by decide) fun K Zc=>?_
      simp[D8,HD,HE,Cn,D9,W6,W7,Kp,PN];repeat refine ai ?_
      cases je;exact Zc _ (Ii _ (Sub.rm [0]))
     refine ab.BN hV mixed (some [208,209,210,211,212,213,214,215,216,217,218,219,220,221,222,223,224,225,226,227,228,229,230,231,232,233,234,235,236,237,238,239,240,241]) 33 [] [0,1,5,6,7,10,16,162,163,164] (by decide) fun K auC=>?_
     simp[D8];repeat refine ai ?_
     cases je;exact auC _ (Ii _ (Sub.rm [0]))
    exact aus _ ⟨_,hg,Sub.rm [0]⟩
   unfold Sb at hg
   obtain⟨ape,hg⟩:=aK hg
   unfold ax at ape
   refine rH hV [se 0 a0,se 1 a1,se 5 Gz,se 6 aU,se 7 aX,(10,.map 0),se 16 pH,se 162 aX,se 163 (aX.length:Int),se 164 ((nZ+1):Int)] [.fp (bV:(List (Int×Bool)))] ?_
   exact aul _ _ (aF hg).symm (Sub.rm [0])
  refine ab.exit ?_
  cases aib _ (aF hg).symm;have hg:=ahH;try dsimp only at hg
  exact auk _ ⟨_,hg,Sub.rm [0]⟩
 unfold R9 at hg
 obtain⟨aei,zI,hg⟩:=ah hg
 unfold ZK at zI
 refine sq [se 4 aei] [] (fun _ Zd=>?_) ?_
 ·rcases ay zI with ⟨PO,zI⟩ | ⟨PO,zI⟩
  ·rcases ay zI with ⟨Kq,zI⟩ | ⟨Kq,zI⟩
   ·have PQ:=eq_true (of_decide_eq_true Kq)
    exact rJ hV (some []) Zd fun K k=>by simp[PO,Kq,PQ];(repeat refine ai ?_);cases zI;exact k _ (Sub.rm [])
   have PQ:=Kq;try simp at PQ
   exact rJ hV (some [253,254,255,256]) Zd fun K k=>by simp[PO,Kq,PQ];(repeat refine ai ?_);cases zI;exact k _ (Sub.rm [])
  exact rJ hV (some [246,247,248,249,250,253,254,255,256]) Zd fun K k=>by simp[PO];(repeat refine ai ?_);cases zI;exact k _ (Sub.rm [])
 cases hg;exact rz hQ
end
end Go.Proofs.YtjigeffmmcmlnaaGreatDoor
