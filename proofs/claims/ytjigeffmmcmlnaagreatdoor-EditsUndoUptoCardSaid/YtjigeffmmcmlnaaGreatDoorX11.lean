import Derived.Test.YtjigeffmmcmlnaaGreatDoorX10
set_option linter.all false
set_option linter.unnecessarySimpa false
set_option linter.deprecated false
set_option linter.unusedVariables false
set_option linter.unusedSimpArgs false
set_option linter.unusedSectionVars false
namespace Go.Proofs.YtjigeffmmcmlnaaGreatDoor
open Go Go.an au
set_option maxRecDepth 4000
attribute [local instance] cJ
attribute [local congr] ab.kO
attribute [local simp] bu dz dU evalOp bd an.get fk strip bq an.after iI typed gr holds cR R.ok R.bad gI iU jk gW ku ji Op.operands Call.operands dY dA dQ dR iH il fm im gK fg nj nk nm np fK lH lL lJ fL jq lg lp lk ln ng ni jv mD bf D.cells T.eT D.one gH fV gb fo setAt eI fC jC fa gN bw cX iy fU iA gv jV arith et iM jf dG gC iN TD.agg env bR List.map fe iD ff gn gT mapOf iz iq dr mH mI mJ mK mL mM mN mO lK nh ll me mC my mB mr mG lq mi ml jw mE ko jh fh du fj iP gJ jB gone unbox iW fE gB gG lI lh nf jg jS List.contains_cons List.contains_nil lr iO iC iB gm ib gX lC kY mW l6 mw mu mz kr mF mh mj P2.list mA lB kW mU lF lb mZ l9 jQ kM lu kR mP lW jI kC lA kV mT l4 jM kH lE la mY l8 jP kL lD kZ mX l7 jO kJ jX kX mV l5 jN kI lG lf nc ma jW kT mR lY jK kF lv kS mQ lX jJ kD lz kU mS lZ jL kG kQ km lN lO lT lU lP lV lQ lR lS lM nD nH kv kz iQ nB nC nE nF nG nI nJ jD jE nL nM nN nO nP nQ nR nS nq nr nu nv nw nx ny nz nA
section
variable [e8]
set_option maxRecDepth 10000
attribute [local simp] eJ
noncomputable def BX:an.Spec:=eA Dl
theorem aaI:aL Tryz.prog 125 BX:=by
 have hV:=aW (cs awo cn)
 refine dT hV Tryz.func125 rfl Tryz.ntmps125 fun a0 r hg _ _ _ _ _ hQ=>?_
 unfold Dl at hg
 refine rG hV [pt 1 0] [.w 46 a0] ?_
 refine sG fun _ k2=>?_
 obtain⟨aeb,eX,hg⟩:=ah hg
 unfold ab7 at eX
 refine sq [pt 1 0,se 20 aeb] [.w 46 a0] (fun _ k5=>?_) ?_
 ·rcases ay eX with ⟨c6,eX⟩ | ⟨c6,eX⟩
  ·have rM:=c6;try simp at rM
   exact rJ hV (some [7,8,9,12,13,14,17,18,19]) k5 fun K k=>by simp[rM];cases eX;exact k _ (Sub.rm [0])
  rcases ay eX with ⟨c8,eX⟩ | ⟨c8,eX⟩
  ·have Cp:=c8;try simp at Cp
   exact rJ hV (some [12,13,14,17,18,19]) k5 fun K k=>by simp[c6,Cp];cases eX;exact k _ (Sub.rm [0])
  rcases ay eX with ⟨DS,eX⟩ | ⟨DS,eX⟩
  ·have Cf:=DS;try simp at Cf
   exact rJ hV (some [17,18,19]) k5 fun K k=>by simp[c6,c8,Cf];cases eX;exact k _ (Sub.rm [0])
  exact rJ hV (some []) k5 fun K k=>by simp[c6,c8,DS];cases eX;exact k _ (Sub.rm [0])
 refine cN hg ?_ ?_<;>(clear hg;intro QA hg)
 ·refine rG hV [se 2 false] [.w 46 a0] ?_
  cases hg;exact rz hQ
 refine sk k2 ?_
 obtain⟨aX,sT,hg⟩:=ah hg
 refine ic hV mixed [se 2 (decide (aX=(⟨a0.n,a0.d⟩:Fraction)))] [.w 46 a0] 11 [] ?_ fun K k=>by simp[alO,sT];exact kx k
 cases hg;exact rz hQ
noncomputable def alI:an.Spec:=du fun(a0:Rat) (a1:Rat)=>(Oe a0 a1).map fun r=> .bn [enc r.1,enc r.2]
theorem awd:aL Tryz.prog 126 alI:=by
 have hV:=aW (cs aaI cn)
 refine go2 hV Tryz.func126 rfl Tryz.ntmps126 fun a0 a1 r hg _ _ _ _ _ hQ=>?_
 unfold Oe at hg
 refine rG hV [pt 2 0,pt 3 1] [.w 46 a0,.w 46 a1] ?_
 refine sG fun _ k2=>?_
 obtain⟨aeA,zJ,hg⟩:=ah hg
 unfold ab5 at zJ
 refine sq [pt 2 0,pt 3 1,se 15 aeA] [.w 46 a0,.w 46 a1] (fun _ k9=>?_) ?_
 ·obtain⟨x3,h4,zJ⟩:=ah zJ
  rcases ay zJ with ⟨DS,zJ⟩ | ⟨DS,zJ⟩
  ·have Cf:=DS;try simp at Cf
   exact rJ hV (some [12,13,14]) k9 fun K k=>by simp[BX,h4,Cf];cases zJ;exact k _ (Sub.rm [0,1])
  have Cf:=DS;try simp at Cf
  obtain⟨x5,h6,zJ⟩:=ah zJ
  exact rJ hV (some []) k9 fun K k=>by simp[BX,h4,Cf,h6];cases zJ;exact k _ (Sub.rm [0,1])
 refine cN hg ?_ ?_<;>(clear hg;intro QA hg)
 ·refine rG hV [se 4 (0:Int),se 5 (1:Int)] [.w 46 a0,.w 46 a1] ?_
  cases hg;exact rz hQ
 refine sk k2 ?_
 refine ch (T7=some r) [] [] (fun _ Bm=>?_) fun hg=>?_
 ·obtain⟨g17,hg⟩:=aK hg
  unfold ax at g17
  obtain⟨g18,hg⟩:=aK hg
  unfold ax at g18
  refine ic hV mixed [se 6 (a0.n*a1.d),se 7 (a1.n*a0.d)] [.w 46 a0,.w 46 a1] 11 [] ?_
  refine ab.block ?_
  refine rG hV [se 6 (a0.n*a1.d),se 7 (a1.n*a0.d),se 26 (decide ((a0.n*a1.d) < (a1.n*a0.d)))] [.w 46 a0,.w 46 a1] ?_
  refine cN hg ?_ ?_<;>(clear hg;intro qn hg)
  ·refine rG hV [se 4 ((-1):Int),se 5 (0:Int)] [.w 46 a0,.w 46 a1] ?_
   cases hg;exact rz hQ
  refine rG hV [se 30 (decide ((a1.n*a0.d) < (a0.n*a1.d)))] [.w 46 a0,.w 46 a1] ?_
  refine cN hg ?_ ?_<;>(clear hg;intro sV hg)
  ·refine rG hV [se 4 (1:Int),se 5 (0:Int)] [.w 46 a0,.w 46 a1] ?_
   cases hg;exact rz hQ
  exact ab.skip (Bm _ ⟨hg,Sub.rm []⟩)
 unfold T7 at hg
 refine rG hV [se 4 (0:Int),se 5 (0:Int)] [] ?_
 cases hg;exact rz hQ
noncomputable def UC:an.Spec:=eA MS
theorem awZ:aL Tryz.prog 97 UC:=by
 have hV:=aW (cs aaI cn)
 refine dT hV Tryz.func97 rfl Tryz.ntmps97 fun a0 r hg _ _ _ _ _ hQ=>?_
 unfold MS at hg
 refine rG hV [pt 1 0] [.w 46 a0] ?_
 obtain⟨aeq,oH,hg⟩:=ah hg
 unfold aap at oH
 refine sq [se 2 aeq] [] (fun _ k7=>?_) ?_
 ·obtain⟨x2,h3,oH⟩:=ah oH
  rcases ay oH with ⟨c8,oH⟩ | ⟨c8,oH⟩
  ·rcases ay oH with ⟨c9,oH⟩ | ⟨c9,oH⟩
   ·have gA:=c9;try simp at gA
    obtain⟨g4,oH⟩:=aK oH
    exact rJ hV (some []) k7 fun K k=>by simp[BX,h3,c8,gA];(repeat refine ai ?_);cases oH;exact k _ (Sub.rm [])
   exact rJ hV (some [11,12,13,14]) k7 fun K k=>by simp[BX,h3,c8,c9];cases oH;exact k _ (Sub.rm [])
  exact rJ hV (some [6,7,8,11,12,13,14]) k7 fun K k=>by simp[BX,h3,c8];cases oH;exact k _ (Sub.rm [])
 cases hg;exact rz hQ
noncomputable def UD:an.Spec:=eY MT
theorem aw0:aL Tryz.prog 98 UD:=by
 have hV:=aW (cs awd cn)
 refine go2 hV Tryz.func98 rfl Tryz.ntmps98 fun a0 a1 r hg _ _ _ _ _ hQ=>?_
 unfold MT at hg
 refine rG hV [pt 2 0,pt 3 1] [.w 46 a0,.w 46 a1] ?_
 obtain⟨⟨x2,x3⟩,h4,hg⟩:=ah hg;try dsimp only at hg
 refine rG hV [se 5 x2] [.w 46 a0,.w 46 a1] ?_ fun K k=>by simp[alI,h4];exact kx k
 refine rG hV [se 4 (decide (x2 < 0))] [.w 46 a0,.w 46 a1] ?_
 cases hg;exact rz hQ
noncomputable def Dv:an.Spec:=eA Ix
theorem aj1:aL Tryz.prog 63 Dv:=by
 have hV:=aW (cs awZ (cs aw0 cn))
 refine dT hV Tryz.func63 rfl Tryz.ntmps63 fun a0 r hg _ _ _ _ _ hQ=>?_
 unfold Ix at hg
 refine rG hV [se 0 a0] [] ?_
 refine rG hV [se 0 a0,(3,.map 0)] [.mp ([]:(List (Int×Bool)))] ?_
 refine ch (Sw a0=some r) [se 0 a0] [] (fun _ k4=>?_) fun hg=>?_
 ·refine rG hV [se 0 a0,(3,.map 0),se 7 a0,se 8 (a0.length:Int),se 9 (0:Int)] [.mp ([]:(List (Int×Bool)))] ?_
  obtain⟨o89,asy,Yd⟩:=ah hg;clear hg
  refine ab.block <| ab.aH (fun((bj,bE):(List (Int×Bool))×Int)=>⟨[se 0 a0,(3,.map 0),se 7 a0,se 8 (a0.length:Int),se 9 bE],[.mp (bj:(List (Int×Bool)))]⟩) (MN a0) ([],0) asy (Sub.rm [0]) fun z92 w94 _ hg YD k6=>?_
  obtain⟨bj,bE⟩:=z92
  unfold MN at hg;try dsimp only at hg
  refine rG hV [se 0 a0,(3,.map 0),se 7 a0,se 8 (a0.length:Int),se 9 bE,se 10 (decide (bE < (a0.length:Int)))] [.mp (bj:(List (Int×Bool)))] ?_
  refine sG fun _ Bq=>?_
  refine cN hg ?_ ?_<;>(clear hg;intro h97 hg)
  ·refine sk Bq ?_
   refine cH (fun GW:(List (Int×Bool))=>Sx bE GW=some w94) (fun GW=>⟨[se 0 a0,(3,.map 0),se 7 a0,se 8 (a0.length:Int),se 9 bE],[.mp (GW:(List (Int×Bool)))]⟩) (fun _ k99=>?_) fun GW hg=>?_
   ·refine ab.block ?_
    obtain⟨pG,apm,hg⟩:=ah hg
    obtain⟨aBt,aBu,agd⟩:=aY apm;have apn:=agd;try simp at apn
    refine rG hV [se 0 a0,(3,.map 0),pt 5 1,se 7 a0,se 8 (a0.length:Int),se 9 bE] [.mp (bj:(List (Int×Bool))),.w 67 pG] ?_ fun K k=>by simp[agd];(repeat refine ai ?_);exact kx k
    refine sG fun _ atM=>?_
    obtain⟨adA,re,hg⟩:=ah hg
    unfold Sy at re
    refine sq [se 0 a0,(3,.map 0),pt 5 1,se 7 a0,se 8 (a0.length:Int),se 9 bE,se 36 adA] [.mp (bj:(List (Int×Bool))),.w 67 pG] (fun _ Fc=>?_) ?_
    ·rcases ay re with ⟨G5,re⟩ | ⟨G5,re⟩
     ·have ae9:=G5;try simp at ae9
      exact rJ hV (some [17,18,19,22,23,24,25,28,29,30,33,34,35]) Fc fun K k=>by simp[ae9];cases re;exact k _ (Sub.rm [0,1])
     rcases ay re with ⟨JZ,re⟩ | ⟨JZ,re⟩
     ·have afa:=JZ;try simp at afa
      exact rJ hV (some [22,23,24,25,28,29,30,33,34,35]) Fc fun K k=>by simp[G5,afa];cases re;exact k _ (Sub.rm [0,1])
     rcases ay re with ⟨Cg,re⟩ | ⟨Cg,re⟩
     ·exact rJ hV (some [28,29,30,33,34,35]) Fc fun K k=>by simp[G5,JZ,Cg];cases re;exact k _ (Sub.rm [0,1])
     rcases ay re with ⟨DT,re⟩ | ⟨DT,re⟩
     ·have DU:=DT;try simp at DU
      exact rJ hV (some [33,34,35]) Fc fun K k=>by simp[G5,JZ,Cg,DU];cases re;exact k _ (Sub.rm [0,1])
     exact rJ hV (some []) Fc fun K k=>by simp[G5,JZ,Cg,DT];cases re;exact k _ (Sub.rm [0,1])
    refine cN hg ?_ ?_<;>(clear hg;intro agj hg)
    ·refine rG hV [se 2 false] [.mp (bj:(List (Int×Bool))),.w 67 pG] ?_
     cases YD _ (aF hg).symm;have hg:=Yd;try dsimp only at hg
     cases hg;exact rz hQ
    refine sk atM ?_
    refine sG fun _ YX=>?_
    obtain⟨adN,mq,hg⟩:=ah hg
    unfold Sz at mq
    refine sq [se 0 a0,(3,.map 0),pt 5 1,se 7 a0,se 8 (a0.length:Int),se 9 bE,se 52 adN] [.mp (bj:(List (Int×Bool))),.w 67 pG] (fun _ Ic=>?_) ?_
    ·obtain⟨xI,yd,mq⟩:=ah mq
     rcases ay mq with ⟨DW,mq⟩ | ⟨DW,mq⟩
     ·have wR:=DW;try simp at wR
      exact rJ hV (some [42,43,44,45,48,49,50,51]) Ic fun K k=>by simp[UC,UD,yd,wR];cases mq;exact k _ (Sub.rm [0,1])
     have wR:=DW;try simp at wR
     rcases ay mq with ⟨AA,mq⟩ | ⟨AA,mq⟩
     ·have za:=eq_true (of_decide_eq_true AA)
      exact rJ hV (some [48,49,50,51]) Ic fun K k=>by simp[UC,UD,yd,wR,za];cases mq;exact k _ (Sub.rm [0,1])
     have za:=AA;try simp at za
     obtain⟨Ai,Ev,mq⟩:=ah mq
     exact rJ hV (some []) Ic fun K k=>by simp[UC,UD,yd,wR,za,Ev];cases mq;exact k _ (Sub.rm [0,1])
    refine cN hg ?_ ?_<;>(clear hg;intro apL hg)
    ·refine rG hV [se 2 false] [.mp (bj:(List (Int×Bool))),.w 67 pG] ?_
     cases YD _ (aF hg).symm;have hg:=Yd;try dsimp only at hg
     cases hg;exact rz hQ
    refine sk YX ?_
    refine rH hV [se 0 a0,(3,.map 0),se 7 a0,se 8 (a0.length:Int),se 9 bE] [.mp ((cq bj pG.id true):(List (Int×Bool))),.w 67 pG] ?_
    exact k99 _ ⟨_,hg,Sub.rm [0]⟩
   unfold Sx at hg
   obtain⟨Wg,hg⟩:=aK hg
   unfold ax at Wg
   refine rH hV [se 0 a0,(3,.map 0),se 7 a0,se 8 (a0.length:Int),se 9 ((bE+1):Int)] [.mp (GW:(List (Int×Bool)))] ?_
   exact k6 _ _ (aF hg).symm (Sub.rm [0])
  refine ab.exit ?_
  cases YD _ (aF hg).symm;have hg:=Yd;try dsimp only at hg
  exact k4 _ ⟨hg,Sub.rm []⟩
 unfold Sw at hg
 obtain⟨adT,H2,hg⟩:=ah hg
 unfold aah at H2
 refine sq [se 2 adT] [] (fun _ RN=>?_) ?_
 ·rcases ay H2 with ⟨U6,H2⟩ | ⟨U6,H2⟩
  ·have afb:=U6;try simp at afb
   exact rJ hV (some []) RN fun K k=>by simp[afb];cases H2;exact k _ (Sub.rm [])
  exact rJ hV (some [61,62,63]) RN fun K k=>by simp[U6];cases H2;exact k _ (Sub.rm [])
 cases hg;exact rz hQ
noncomputable def Jk:an.Spec:=eA M0
theorem awh:aL Tryz.prog 133 Jk:=by
 have hV:=aW (cs aaJ (cs aaK cn))
 refine dT hV Tryz.func133 rfl Tryz.ntmps133 fun a0 r hg _ _ _ _ _ hQ=>?_
 unfold M0 at hg
 refine rG hV [pt 1 0] [.w 48 a0] ?_
 obtain⟨GS,ey,hg⟩:=ah hg
 unfold aay at ey
 refine sq [se 2 GS] [] (fun _ oj=>?_) ?_
 ·obtain⟨x2,h3,ey⟩:=ah ey
  rcases ay ey with ⟨iV,ey⟩ | ⟨iV,ey⟩
  ·obtain⟨x4,h5,ey⟩:=ah ey
   rcases ay ey with ⟨oa,ey⟩ | ⟨oa,ey⟩
   ·obtain⟨x6,h7,ey⟩:=ah ey
    exact rJ hV (some []) oj fun K k=>by simp[Dt,Ad,h3,iV,h5,oa,h7];cases ey;exact k _ (Sub.rm [])
   exact rJ hV (some [11,12,13]) oj fun K k=>by simp[Dt,Ad,h3,iV,h5,oa];cases ey;exact k _ (Sub.rm [])
  exact rJ hV (some [6,7,8,11,12,13]) oj fun K k=>by simp[Dt,Ad,h3,iV];cases ey;exact k _ (Sub.rm [])
 cases hg;exact rz hQ
noncomputable def Ji:an.Spec:=fh fun(a0:Rat)=>(Bz a0).map fun r=> .bn [enc r.1,enc r.2]
theorem ajI:aL Tryz.prog 130 Ji:=by
 have hV:=aW (cs aaI cn)
 refine dT hV Tryz.func130 rfl Tryz.ntmps130 fun a0 r hg _ _ _ _ _ hQ=>?_
 unfold Bz at hg
 refine rG hV [pt 1 0] [.w 46 a0] ?_
 refine sG fun _ k2=>?_
 obtain⟨GN,bF,hg⟩:=ah hg
 unfold aaB at bF
 refine sq [pt 1 0,se 17 GN] [.w 46 a0] (fun _ k8=>?_) ?_
 ·obtain⟨x3,h4,bF⟩:=ah bF
  rcases ay bF with ⟨c9,bF⟩ | ⟨c9,bF⟩
  ·have gA:=c9;try simp at gA
   exact rJ hV (some [8,9,10,13,14,15,16]) k8 fun K k=>by simp[BX,h4,gA];cases bF;exact k _ (Sub.rm [0])
  have gA:=c9;try simp at gA
  rcases ay bF with ⟨iV,bF⟩ | ⟨iV,bF⟩
  ·have ow:=iV;try simp at ow
   exact rJ hV (some [13,14,15,16]) k8 fun K k=>by simp[BX,h4,gA,ow];cases bF;exact k _ (Sub.rm [0])
  have ow:=iV;try simp at ow
  obtain⟨g5,bF⟩:=aK bF
  exact rJ hV (some []) k8 fun K k=>by simp[BX,h4,gA,iV];(repeat refine ai ?_);cases bF;exact k _ (Sub.rm [0])
 refine cN hg ?_ ?_<;>(clear hg;intro AP hg)
 ·refine rG hV [se 2 (0:Int),se 3 false] [.w 46 a0] ?_
  cases hg;exact rz hQ
 refine sk k2 ?_
 obtain⟨g16,hg⟩:=aK hg
 obtain⟨g17,hg⟩:=aK hg
 unfold ax at g17
 obtain⟨g18,hg⟩:=aK hg
 unfold ax at g18
 refine ic hV mixed [se 2 ((a0.n*(Int.tdiv 1680 a0.d)):Int),se 3 true] [.w 46 a0] 5 [] ?_
 cases hg;exact rz hQ
noncomputable def Ur:an.Spec:=eY MY
theorem avW:aL Tryz.prog 103 Ur:=by
 have hV:=aW (cs ajI (cs awg (cs aaK (cs awh cn))))
 refine go2 hV Tryz.func103 rfl Tryz.ntmps103 fun a0 a1 r hg _ _ _ _ _ hQ=>?_
 unfold MY at hg
 refine rG hV [pt 2 0,pt 3 1] [.w 67 a0,.w 50 a1] ?_
 obtain⟨⟨x2,x3⟩,h4,hg⟩:=ah hg;try dsimp only at hg
 refine rG hV [pt 2 0,pt 3 1,se 5 x2,se 6 x3] [.w 67 a0,.w 50 a1] ?_ fun K k=>by simp[Ji,h4];exact kx k
 obtain⟨⟨x6,x7⟩,h8,hg⟩:=ah hg;try dsimp only at hg
 refine rG hV [pt 2 0,pt 3 1,se 5 x2,se 6 x3,se 7 x6,se 8 x7] [.w 67 a0,.w 50 a1] ?_ fun K k=>by simp[Ji,h8];exact kx k
 obtain⟨⟨dw,cb⟩,pg,hg⟩:=ah hg;try dsimp only at hg
 refine rG hV [pt 3 1,se 5 x2,se 6 x3,se 7 x6,se 8 x7,se 9 dw] [.w 67 a0,.w 50 a1] ?_ fun K k=>by simp[Ji,pg];exact kx k
 obtain⟨ad3,dX,hg⟩:=ah hg
 unfold MZ at dX
 refine sq [se 4 ad3] [] (fun _ yK=>?_) ?_
 ·rcases ay dX with ⟨uF,dX⟩ | ⟨uF,dX⟩
  ·rcases ay dX with ⟨rL,dX⟩ | ⟨rL,dX⟩
   ·rcases ay dX with ⟨D5,dX⟩ | ⟨D5,dX⟩
    ·have qh:=D5;try simp at qh
     obtain⟨g14,dX⟩:=aK dX
     unfold ax at g14
     rcases ay dX with ⟨xS,dX⟩ | ⟨xS,dX⟩
     ·have uG:=xS;try simp at uG
      obtain⟨aX,sT,dX⟩:=ah dX
      rcases ay dX with ⟨uH,dX⟩ | ⟨uH,dX⟩
      ·obtain⟨o6,zt,dX⟩:=ah dX
       rcases ay dX with ⟨xT,dX⟩ | ⟨xT,dX⟩
       ·obtain⟨ru,AQ,dX⟩:=ah dX
        have aqe:=AQ;try simp at aqe
        rcases ay dX with ⟨jo,dX⟩ | ⟨jo,dX⟩
        ·obtain⟨bJ,zu,dX⟩:=ah dX
         have aqk:=zu;try simp at aqk
         rcases ay dX with ⟨Va,dX⟩ | ⟨Va,dX⟩
         ·obtain⟨fu,sV,dX⟩:=ah dX
          exact rJ hV (some []) yK fun K k=>by simp[Jj,Ad,Jk,uF,rL,qh,uG,sT,uH,zt,xT,AQ,jo,zu,Va,sV];(repeat refine ai ?_);cases dX;exact k _ (Sub.rm [])
         exact rJ hV (some [65,66,67]) yK fun K k=>by simp[Jj,Ad,Jk,uF,rL,qh,uG,sT,uH,zt,xT,AQ,jo,zu,Va];(repeat refine ai ?_);cases dX;exact k _ (Sub.rm [])
        exact rJ hV (some [60,61,62,65,66,67]) yK fun K k=>by simp[Jj,Ad,Jk,uF,rL,qh,uG,sT,uH,zt,xT,AQ,jo];(repeat refine ai ?_);cases dX;exact k _ (Sub.rm [])
       exact rJ hV (some [55,56,57,60,61,62,65,66,67]) yK fun K k=>by simp[Jj,Ad,Jk,uF,rL,qh,uG,sT,uH,zt,xT];(repeat refine ai ?_);cases dX;exact k _ (Sub.rm [])
      exact rJ hV (some [50,51,52,55,56,57,60,61,62,65,66,67]) yK fun K k=>by simp[Jj,Ad,Jk,uF,rL,qh,uG,sT,uH];(repeat refine ai ?_);cases dX;exact k _ (Sub.rm [])
     have uG:=xS;try simp at uG
     exact rJ hV (some [45,46,47,50,51,52,55,56,57,60,61,62,65,66,67]) yK fun K k=>by simp[uF,rL,qh,xS];(repeat refine ai ?_);cases dX;exact k _ (Sub.rm [])
    exact rJ hV (some [38,39,40,41,42,45,46,47,50,51,52,55,56,57,60,61,62,65,66,67]) yK fun K k=>by simp[uF,rL,D5];cases dX;exact k _ (Sub.rm [])
   exact rJ hV (some [34,35,38,39,40,41,42,45,46,47,50,51,52,55,56,57,60,61,62,65,66,67]) yK fun K k=>by simp[uF,rL];cases dX;exact k _ (Sub.rm [])
  exact rJ hV (some [31,34,35,38,39,40,41,42,45,46,47,50,51,52,55,56,57,60,61,62,65,66,67]) yK fun K k=>by simp[uF];cases dX;exact k _ (Sub.rm [])
 cases hg;exact rz hQ
noncomputable def Af:an.Spec:=eY Fw
theorem aaY:aL Tryz.prog 65 Af:=by
 have hV:=aW (cs aj1 (cs ajD (cs avW cn)))
 refine go2 hV Tryz.func65 rfl Tryz.ntmps65 fun a0 a1 r hg _ _ _ _ _ hQ=>?_
 unfold Fw at hg
 refine rG hV [se 0 a0,se 1 a1] [] ?_
 refine sG fun _ k2=>?_
 obtain⟨aep,oH,hg⟩:=ah hg
 unfold aas at oH
 refine sq [se 0 a0,se 1 a1,se 18 aep] [] (fun _ k7=>?_) ?_
 ·obtain⟨x3,h4,oH⟩:=ah oH
  rcases ay oH with ⟨c8,oH⟩ | ⟨c8,oH⟩
  ·have Cp:=c8;try simp at Cp
   exact rJ hV (some [15,16,17]) k7 fun K k=>by simp[Dv,h4,Cp];cases oH;exact k _ (Sub.rm [])
  have Cp:=c8;try simp at Cp
  exact rJ hV (some []) k7 fun K k=>by simp[Dv,h4,Cp];cases oH;exact k _ (Sub.rm [])
 refine cN hg ?_ ?_<;>(clear hg;intro wZ hg)
 ·refine rG hV [se 4 false] [] ?_
  cases hg;exact rz hQ
 refine sk k2 ?_
 obtain⟨gw,AP,hg⟩:=ah hg
 refine rG hV [se 0 a0,se 1 a1,se 5 gw] [] ?_ fun K k=>by simp[acA,AP];exact kx k
 refine rG hV [se 0 a0,se 1 a1,se 5 gw,(6,.map 0)] [.mp ([]:(List (Int×Bool)))] ?_
 refine ch (SG=some r) [] [] (fun _ Mt=>?_) fun hg=>?_
 ·refine rG hV [se 0 a0,se 5 gw,(6,.map 0),se 22 a1,se 23 (a1.length:Int),se 24 (0:Int)] [.mp ([]:(List (Int×Bool)))] ?_
  obtain⟨o75,XR,Rl⟩:=ah hg;clear hg
  refine ab.block <| ab.aH (fun((cx,rE):(List (Int×Bool))×Int)=>⟨[se 0 a0,se 5 gw,(6,.map 0),se 22 a1,se 23 (a1.length:Int),se 24 rE],[.mp (cx:(List (Int×Bool)))]⟩) (MX a0 a1 gw) ([],0) XR (Sub.rm [0]) fun z78 w80 _ hg Rv Mu=>?_
  obtain⟨cx,rE⟩:=z78
  unfold MX at hg;try dsimp only at hg
  refine rG hV [se 0 a0,se 5 gw,(6,.map 0),se 22 a1,se 23 (a1.length:Int),se 24 rE,se 25 (decide (rE < (a1.length:Int)))] [.mp (cx:(List (Int×Bool)))] ?_
  refine sG fun _ Fj=>?_
  refine cN hg ?_ ?_<;>(clear hg;intro h83 hg)
  ·refine sk Fj ?_
   refine cH (fun GR:(List (Int×Bool))=>SH rE GR=some w80) (fun GR=>⟨[se 0 a0,se 5 gw,(6,.map 0),se 22 a1,se 23 (a1.length:Int),se 24 rE],[.mp (GR:(List (Int×Bool)))]⟩) (fun _ k85=>?_) fun GR hg=>?_
   ·refine ab.block ?_
    obtain⟨nX,Xk,hg⟩:=ah hg
    obtain⟨ark,arl,QP⟩:=aY Xk;have QQ:=QP;try simp at QQ
    refine rG hV [se 0 a0,se 5 gw,(6,.map 0),pt 8 1,se 22 a1,se 23 (a1.length:Int),se 24 rE] [.mp (cx:(List (Int×Bool))),.w 50 nX] ?_ fun K k=>by simp[QP];(repeat refine ai ?_);exact kx k
    refine rG hV [se 0 a0,se 5 gw,(6,.map 0),pt 8 1,se 9 ((aV gw nX.dC 0):Int),se 10 ((eu gw nX.dC):Bool),se 22 a1,se 23 (a1.length:Int),se 24 rE] [.mp (cx:(List (Int×Bool))),.w 50 nX] ?_
    refine sG fun _ Zn=>?_
    obtain⟨aeH,u7,hg⟩:=ah hg
    unfold aat at u7
    refine sq [se 0 a0,se 5 gw,(6,.map 0),pt 8 1,se 22 a1,se 23 (a1.length:Int),se 24 rE,se 51 aeH] [.mp (cx:(List (Int×Bool))),.w 50 nX] (fun _ zT=>?_) ?_
    ·rcases ay u7 with ⟨xW,u7⟩ | ⟨xW,u7⟩
     ·have vL:=xW;try simp at vL
      exact cU hV mixed (some [38,39,40,41,44,45,46,47,48,49,50]) 14 [] zT fun K k=>by simp[Ur,vL];cases u7;exact k _ (Sub.rm [0,1])
     have vL:=xW;try simp at vL
     rcases ay u7 with ⟨y9,u7⟩ | ⟨y9,u7⟩
     ·exact cU hV mixed (some [44,45,46,47,48,49,50]) 14 [] zT fun K k=>by simp[Ur,vL,y9];cases u7;exact k _ (Sub.rm [0,1])
     have G4:=y9;try simp at G4
     obtain⟨OZ,Xm,u7⟩:=ah u7
     obtain⟨aD1,aD2,ahh⟩:=aY Xm;have aro:=ahh;try simp at aro
     obtain⟨x93,h94,u7⟩:=ah u7
     exact cU hV mixed (some []) 14 [] zT fun K k=>by simp[Ur,vL,y9,ahh,h94];(repeat refine ai ?_);cases u7;exact k _ (Sub.rm [0,1])
    refine cN hg ?_ ?_<;>(clear hg;intro aBx hg)
    ·refine rG hV [se 4 false] [.mp (cx:(List (Int×Bool))),.w 50 nX] ?_
     cases Rv _ (aF hg).symm;have hg:=Rl;try dsimp only at hg
     cases hg;exact rz hQ
    refine sk Zn ?_
    refine rH hV [se 0 a0,se 5 gw,(6,.map 0),se 22 a1,se 23 (a1.length:Int),se 24 rE] [.mp ((cq cx nX.id true):(List (Int×Bool))),.w 50 nX] ?_
    exact k85 _ ⟨_,hg,Sub.rm [0]⟩
   unfold SH at hg
   obtain⟨aoT,hg⟩:=aK hg
   unfold ax at aoT
   refine rH hV [se 0 a0,se 5 gw,(6,.map 0),se 22 a1,se 23 (a1.length:Int),se 24 ((rE+1):Int)] [.mp (GR:(List (Int×Bool)))] ?_
   exact Mu _ _ (aF hg).symm (Sub.rm [0])
  refine ab.exit ?_
  cases Rv _ (aF hg).symm;have hg:=Rl;try dsimp only at hg
  exact Mt _ ⟨hg,Sub.rm []⟩
 unfold SG at hg
 refine rG hV [se 4 true] [] ?_
 cases hg;exact rz hQ
noncomputable def Oz:an.Spec:=eA BU
theorem ajE:aL Tryz.prog 106 Oz:=by
 have hV:=aW (cs ajJ cn)
 refine dT hV Tryz.func106 rfl Tryz.ntmps106 fun a0 r hg _ _ _ _ _ hQ=>?_
 unfold BU at hg
 refine rG hV [pt 1 0] [.w 48 a0] ?_
 obtain⟨⟨x2,x3⟩,h4,hg⟩:=ah hg;try dsimp only at hg
 refine rG hV [se 3 x2] [.w 48 a0] ?_ fun K k=>by simp[Uv,h4];exact kx k
 refine rG hV [se 2 x2] [.w 48 a0] ?_
 cases hg;exact rz hQ
noncomputable def OB:an.Spec:=eA Jt
theorem awe:aL Tryz.prog 127 OB:=by
 have hV:=aW (cs awp (cs M7 cn))
 refine dT hV Tryz.func127 rfl Tryz.ntmps127 fun a0 r hg _ _ _ _ _ hQ=>?_
 unfold Jt at hg
 refine rG hV [pt 1 0] [.w 69 a0] ?_
 obtain⟨⟨x2,x3⟩,h4,hg⟩:=ah hg;try dsimp only at hg
 refine rG hV [pt 1 0,se 3 x2,se 4 x3] [.w 69 a0] ?_ fun K k=>by simp[alP,h4];exact kx k
 obtain⟨Gg,bC,hg⟩:=ah hg
 unfold acW at bC
 refine sq [se 2 Gg] [] (fun _ fY=>?_) ?_
 ·rcases ay bC with ⟨fw,bC⟩ | ⟨fw,bC⟩
  ·have hM:=eq_true (of_decide_eq_true fw)
   obtain⟨x6,h7,bC⟩:=ah bC
   rcases ay bC with ⟨gd,bC⟩ | ⟨gd,bC⟩
   ·obtain⟨x8,h9,bC⟩:=ah bC
    rcases ay bC with ⟨qI,bC⟩ | ⟨qI,bC⟩
    ·obtain⟨dw,wZ,bC⟩:=ah bC
     exact rJ hV (some []) fY fun K k=>by simp[xG,hM,h7,gd,h9,qI,wZ];cases bC;exact k _ (Sub.rm [])
    exact rJ hV (some [23,24]) fY fun K k=>by simp[xG,hM,h7,gd,h9,qI];cases bC;exact k _ (Sub.rm [])
   exact rJ hV (some [18,19,20,23,24]) fY fun K k=>by simp[xG,hM,h7,gd];cases bC;exact k _ (Sub.rm [])
  have hM:=fw;try simp at hM
  exact rJ hV (some [13,14,15,18,19,20,23,24]) fY fun K k=>by simp[hM];cases bC;exact k _ (Sub.rm [])
 cases hg;exact rz hQ
noncomputable def ame:an.Spec:=eA Oq
theorem aw1:aL Tryz.prog 99 ame:=by
 have hV:=aW (cs aaX (cs M7 (cs awe (cs aaJ (cs ajE cn)))))
 refine dT hV Tryz.func99 rfl Tryz.ntmps99 fun a0 r hg _ _ _ _ _ hQ=>?_
 unfold Oq at hg
 refine rG hV [pt 1 0] [.w 71 a0] ?_
 obtain⟨O1,bC,hg⟩:=ah hg
 unfold Ui at bC
 refine sq [pt 1 0,se 3 O1] [.w 71 a0] (fun _ fY=>?_) ?_
 ·obtain⟨x2,h3,bC⟩:=ah bC
  rcases ay bC with ⟨fw,bC⟩ | ⟨fw,bC⟩
  ·obtain⟨x4,h5,bC⟩:=ah bC
   rcases ay bC with ⟨gd,bC⟩ | ⟨gd,bC⟩
   ·obtain⟨x6,h7,bC⟩:=ah bC
    rcases ay bC with ⟨qI,bC⟩ | ⟨qI,bC⟩
    ·obtain⟨x8,h9,bC⟩:=ah bC
     rcases ay bC with ⟨vI,bC⟩ | ⟨vI,bC⟩
     ·obtain⟨dw,wZ,bC⟩:=ah bC
      exact rJ hV (some []) fY fun K k=>by simp[vv,xG,h3,fw,h5,gd,h7,qI,h9,vI,wZ];cases bC;exact k _ (Sub.rm [0])
     exact rJ hV (some [23,24,25]) fY fun K k=>by simp[vv,xG,h3,fw,h5,gd,h7,qI,h9,vI];cases bC;exact k _ (Sub.rm [0])
    exact rJ hV (some [18,19,20,23,24,25]) fY fun K k=>by simp[vv,xG,h3,fw,h5,gd,h7,qI];cases bC;exact k _ (Sub.rm [0])
   exact rJ hV (some [13,14,15,18,19,20,23,24,25]) fY fun K k=>by simp[vv,xG,h3,fw,h5,gd];cases bC;exact k _ (Sub.rm [0])
  exact rJ hV (some [8,9,10,13,14,15,18,19,20,23,24,25]) fY fun K k=>by simp[vv,xG,h3,fw];cases bC;exact k _ (Sub.rm [0])
 refine sG fun _ wc=>?_
 obtain⟨ad7,oY,hg⟩:=ah hg
 unfold Uj at oY
 refine sq [pt 1 0,se 51 ad7] [.w 71 a0] (fun _ we=>?_) ?_
 ·rcases ay oY with ⟨uH,oY⟩ | ⟨uH,oY⟩
  ·have qi:=uH;try simp at qi
   exact rJ hV (some [30,31,32,33,34,37,38,39,40,41,42,43,44,47,48,49,50]) we fun K k=>by simp[qi];cases oY;exact k _ (Sub.rm [0])
  have qi:=uH;try simp at qi
  rcases ay oY with ⟨jo,oY⟩ | ⟨jo,oY⟩
  ·have iG:=eq_true (of_decide_eq_true jo)
   exact rJ hV (some [37,38,39,40,41,42,43,44,47,48,49,50]) we fun K k=>by simp[OB,qi,iG];cases oY;exact k _ (Sub.rm [0])
  have iG:=jo;try simp at iG
  rcases ay oY with ⟨oc,oY⟩ | ⟨oc,oY⟩
  ·have hX:=eq_true (of_decide_eq_true oc)
   rcases ay oY with ⟨Vb,oY⟩ | ⟨Vb,oY⟩
   ·have PL:=Vb;try simp at PL
    exact rJ hV (some [47,48,49,50]) we fun K k=>by simp[OB,qi,iG,hX,PL];cases oY;exact k _ (Sub.rm [0])
   have PL:=rk Vb
   obtain⟨bK,Ey,oY⟩:=ah oY
   exact rJ hV (some []) we fun K k=>by simp[OB,qi,iG,hX,PL,Ey];cases oY;exact k _ (Sub.rm [0])
  have hX:=oc;try simp at hX
  obtain⟨br,sW,oY⟩:=ah oY
  exact rJ hV (some [41,42,43]) we fun K k=>by simp[OB,qi,iG,hX,sW];cases oY;exact k _ (Sub.rm [0])
 refine cN hg ?_ ?_<;>(clear hg;intro yf hg)
 ·refine rG hV [se 2 false] [.w 71 a0] ?_
  cases hg;exact rz hQ
 refine sk wc ?_
 obtain⟨ael,pr,hg⟩:=ah hg
 unfold Uk at pr
 refine sq [se 2 ael] [] (fun _ Bo=>?_) ?_
 ·obtain⟨Am,qV,pr⟩:=ah pr
  rcases ay pr with ⟨PR,pr⟩ | ⟨PR,pr⟩
  ·obtain⟨Dx,uQ,pr⟩:=ah pr
   rcases ay pr with ⟨Vl,pr⟩ | ⟨Vl,pr⟩
   ·obtain⟨iR,zy,pr⟩:=ah pr
    obtain⟨ej,oS,pr⟩:=ah pr
    exact cU hV mixed (some []) 14 [] Bo fun K k=>by simp[Dt,Oz,qV,PR,uQ,Vl,zy,oS];cases pr;exact k _ (Sub.rm [])
   exact cU hV mixed (some [61,62,63,64,65,66,67]) 14 [] Bo fun K k=>by simp[Dt,Oz,qV,PR,uQ,Vl];cases pr;exact k _ (Sub.rm [])
  exact cU hV mixed (some [56,57,58,61,62,63,64,65,66,67]) 14 [] Bo fun K k=>by simp[Dt,Oz,qV,PR];cases pr;exact k _ (Sub.rm [])
 cases hg;exact rz hQ
end
end Go.Proofs.YtjigeffmmcmlnaaGreatDoor
