import Derived.Test.YtjigeffmmcmlnaaGreatDoorX10
import Derived.Test.YtjigeffmmcmlnaaGreatDoorYb1
import Derived.Test.YtjigeffmmcmlnaaGreatDoorX9
set_option linter.all false
set_option linter.unnecessarySimpa false
set_option linter.deprecated false
set_option linter.unusedVariables false
set_option linter.unusedSimpArgs false
set_option linter.unusedSectionVars false
namespace Go.Proofs.YtjigeffmmcmlnaaGreatDoor
open Go Go.an au
set_option maxRecDepth 4000
attribute [local instance] cJ
attribute [local congr] ab.kO
attribute [local simp] bu dz dU evalOp bd an.get fk strip bq an.after iI typed gr holds cR R.ok R.bad gI iU jk gW ku ji Op.operands Call.operands dY dA dQ dR iH il fm im gK fg nj nk nm np fK lH lL lJ fL jq lg lp lk ln ng ni jv mD bf D.cells T.eT D.one gH fV gb fo setAt eI fC jC fa gN bw cX iy fU iA gv jV arith et iM jf dG gC iN TD.agg env bR List.map fe iD ff gn gT mapOf iz iq dr mH mI mJ mK mL mM mN mO lK nh ll me mC my mB mr mG lq mi ml jw mE ko jh fh du fj iP gJ jB gone unbox iW fE gB gG lI lh nf jg jS List.contains_cons List.contains_nil lr iO iC iB gm ib gX lC kY mW l6 mw mu mz kr mF mh mj P2.list mA lB kW mU lF lb mZ l9 jQ kM lu kR mP lW jI kC lA kV mT l4 jM kH lE la mY l8 jP kL lD kZ mX l7 jO kJ jX kX mV l5 jN kI lG lf nc ma jW kT mR lY jK kF lv kS mQ lX jJ kD lz kU mS lZ jL kG kQ km lN lO lT lU lP lV lQ lR lS lM nD nH kv kz iQ nB nC nE nF nG nI nJ jD jE nL nM nN nO nP nQ nR nS nq nr nu nv nw nx ny nz nA
section
variable [e8]
set_option maxRecDepth 10000
attribute [local simp] eJ
noncomputable def amc:an.Spec:=eY Nr
theorem awV:aL Tryz.prog 92 amc:=by
 have hV:=aW (cs ajG (cs awb (cs awc (cs aaZ cn))))
 refine go2 hV Tryz.func92 rfl Tryz.ntmps92 fun a0 a1 r hg _ _ _ _ _ hQ=>?_
 unfold Nr at hg
 refine rG hV [se 0 a0,pt 3 0] [.w 50 a1] ?_
 obtain⟨x2,h3,hg⟩:=ah hg
 refine rG hV [se 0 a0,pt 3 0,se 5 x2] [.w 50 a1] ?_ fun K k=>by simp[acD,h3];exact kx k
 obtain⟨x5,h6,hg⟩:=ah hg
 refine rG hV [se 0 a0,pt 3 0,se 5 x2,se 6 x5] [.w 50 a1] ?_ fun K k=>by simp[alH,h6];exact kx k
 refine sG fun _ k8=>?_
 obtain⟨adV,iv,hg⟩:=ah hg
 unfold abv at iv
 refine sq [se 0 a0,pt 3 0,se 5 x2,se 45 adV] [.w 50 a1] (fun _ vg=>?_) ?_
 ·rcases ay iv with ⟨tP,iv⟩ | ⟨tP,iv⟩
  ·have uE:=tP;try simp at uE
   exact rJ hV (some [19,20,23,24,25,26,29,30,31,32,35,36,37,38,41,42,43,44]) vg fun K k=>by simp[uE];cases iv;exact k _ (Sub.rm [0])
  rcases ay iv with ⟨tQ,iv⟩ | ⟨tQ,iv⟩
  ·have jR:=tQ;try simp at jR
   exact rJ hV (some [23,24,25,26,29,30,31,32,35,36,37,38,41,42,43,44]) vg fun K k=>by simp[tP,jR];cases iv;exact k _ (Sub.rm [0])
  have jR:=tQ;try simp at jR
  obtain⟨x9,pM,iv⟩:=ah iv
  rcases ay iv with ⟨xR,iv⟩ | ⟨xR,iv⟩
  ·have rK:=xR;try simp at rK
   exact rJ hV (some [29,30,31,32,35,36,37,38,41,42,43,44]) vg fun K k=>by simp[OA,tP,jR,pM,rK];cases iv;exact k _ (Sub.rm [0])
  have rK:=xR;try simp at rK
  obtain⟨cb,pg,iv⟩:=ah iv
  rcases ay iv with ⟨AB,iv⟩ | ⟨AB,iv⟩
  ·have wS:=AB;try simp at wS
   exact rJ hV (some [35,36,37,38,41,42,43,44]) vg fun K k=>by simp[OA,tP,jR,pM,rK,pg,wS];cases iv;exact k _ (Sub.rm [0])
  have wS:=AB;try simp at wS
  obtain⟨gw,AP,iv⟩:=ah iv
  rcases ay iv with ⟨uF,iv⟩ | ⟨uF,iv⟩
  ·have Kg:=uF;try simp at Kg
   exact rJ hV (some [41,42,43,44]) vg fun K k=>by simp[OA,tP,jR,pM,rK,pg,wS,AP,Kg];cases iv;exact k _ (Sub.rm [0])
  have Kg:=uF;try simp at Kg
  obtain⟨aX,sT,iv⟩:=ah iv
  exact rJ hV (some []) vg fun K k=>by simp[OA,tP,jR,pM,rK,pg,wS,AP,Kg,sT];cases iv;exact k _ (Sub.rm [0])
 refine cN hg ?_ ?_<;>(clear hg;intro Ez hg)
 ·refine rG hV [se 4 false] [.w 50 a1] ?_
  cases hg;exact rz hQ
 refine sk k8 ?_
 obtain⟨Dw,h34,hg⟩:=ah hg
 refine rG hV [se 0 a0,pt 3 0,se 5 x2,se 7 Dw] [.w 50 a1] ?_ fun K k=>by simp[Js,h34];exact kx k
 obtain⟨o7,EB,hg⟩:=ah hg
 refine rG hV [se 0 a0,se 5 x2,se 7 Dw,se 8 o7] [.w 50 a1] ?_ fun K k=>by simp[Js,EB];exact kx k
 obtain⟨aee,td,hg⟩:=ah hg
 unfold abw at td
 refine sq [se 4 aee] [] (fun _ wg=>?_) ?_
 ·rcases ay td with ⟨Vf,td⟩ | ⟨Vf,td⟩
  ·have Vh:=Vf;try simp at Vh
   rcases ay td with ⟨Vi,td⟩ | ⟨Vi,td⟩
   ·have afd:=Vi;try simp at afd
    obtain⟨g39,td⟩:=aK td
    unfold ax at g39
    obtain⟨ry,yf,td⟩:=ah td
    obtain⟨W0,W1,vR⟩:=aY yf;have zx:=vR;try simp at zx
    obtain⟨sB,ED,td⟩:=ah td
    exact rJ hV (some []) wg fun K k=>by simp[Js,Vh,afd,vR,ED];(repeat refine ai ?_);cases td;exact k _ (Sub.rm [])
   exact rJ hV (some [59,60,61,62,63,64,65,66,67,68]) wg fun K k=>by simp[Vh,Vi];cases td;exact k _ (Sub.rm [])
  exact rJ hV (some [55,56,59,60,61,62,63,64,65,66,67,68]) wg fun K k=>by simp[Vf];cases td;exact k _ (Sub.rm [])
 cases hg;exact rz hQ
noncomputable def acQ:an.Spec:=eY IQ
theorem ajY:aL Tryz.prog 59 acQ:=by
 have hV:=aW (cs ajX (cs awV cn))
 refine go2 hV Tryz.func59 rfl Tryz.ntmps59 fun a0 a1 r hg _ _ _ _ _ hQ=>?_
 unfold IQ at hg
 refine rG hV [se 0 a0,se 1 a1] [] ?_
 obtain⟨x2,h3,hg⟩:=ah hg
 refine rG hV [se 0 a0,se 1 a1,se 5 x2] [] ?_ fun K k=>by simp[acP,h3];exact kx k
 refine sG fun _ k5=>?_
 obtain⟨GN,bF,hg⟩:=ah hg
 unfold abx at bF
 refine sq [se 0 a0,se 1 a1,se 17 GN] [] (fun _ k8=>?_) ?_
 ·rcases ay bF with ⟨c9,bF⟩ | ⟨c9,bF⟩
  ·have gA:=c9;try simp at gA
   exact rJ hV (some [14,15,16]) k8 fun K k=>by simp[gA];cases bF;exact k _ (Sub.rm [])
  have gA:=c9;try simp at gA
  exact rJ hV (some []) k8 fun K k=>by simp[gA];cases bF;exact k _ (Sub.rm [])
 refine cN hg ?_ ?_<;>(clear hg;intro pg hg)
 ·refine rG hV [se 4 false] [] ?_
  cases hg;exact rz hQ
 refine sk k5 ?_
 refine ch (Tr=some r) [] [] (fun _ rj=>?_) fun hg=>?_
 ·refine rG hV [se 0 a0,se 1 a1,se 6 (0:Int)] [] ?_
  obtain⟨ajp,arY,X9⟩:=ah hg;clear hg
  refine ab.block <| ab.aH (fun(cx:Int)=>⟨[se 0 a0,se 1 a1,se 6 cx],[]⟩) (Nw a0 a1) 0 arY (Sub.rm []) fun cx aAK _ hg Yz Y3=>?_
  unfold Nw at hg;try dsimp only at hg
  refine sG fun _ Y1=>?_
  refine rG hV [se 0 a0,se 1 a1,se 6 cx,se 21 (decide (cx < (a1.length:Int)))] [] ?_
  refine cN hg ?_ ?_<;>(clear hg;intro aCe hg)
  ·refine sk Y1 ?_
   refine ch (Tq cx=some aAK) [se 0 a0,se 1 a1,se 6 cx] [] (fun _ atW=>?_) fun hg=>?_
   ·refine ab.block ?_
    obtain⟨amJ,apZ,hg⟩:=ah hg
    obtain⟨aCh,aCi,agx⟩:=aY apZ;have ap0:=agx;try simp at ap0
    obtain⟨yV,Lg,hg⟩:=ah hg
    refine rG hV [se 0 a0,se 1 a1,se 6 cx,se 7 yV] [] ?_ fun K k=>by simp[amc,agx,Lg];(repeat refine ai ?_);exact kx k
    refine sG fun _ Y2=>?_
    refine rG hV [se 0 a0,se 1 a1,se 6 cx,se 31 (!yV)] [] ?_
    refine cN hg ?_ ?_<;>(clear hg;intro ap3 hg)
    ·refine rG hV [se 4 false] [] ?_
     cases Yz _ (aF hg).symm;have hg:=X9;try dsimp only at hg
     cases hg;exact rz hQ
    refine sk Y2 ?_
    refine rG hV [se 0 a0,se 1 a1,se 6 cx,se 8 (0:Int)] [] ?_
    obtain⟨ajt,ar4,ahD⟩:=ah hg;clear hg
    refine ab.block <| ab.aH (fun(uv:Int)=>⟨[se 0 a0,se 1 a1,se 6 cx,se 8 uv],[]⟩) (Nx a1 cx) 0 ar4 (Sub.rm []) fun uv aAP _ hg ah7 Y4=>?_
    unfold Nx at hg;try dsimp only at hg
    refine sG fun _ aub=>?_
    refine rG hV [se 0 a0,se 1 a1,se 6 cx,se 8 uv,se 34 (decide (uv < cx))] [] ?_
    refine cN hg ?_ ?_<;>(clear hg;intro aCv hg)
    ·refine sk aub ?_
     refine ch (Ts uv=some aAP) [se 0 a0,se 1 a1,se 6 cx,se 8 uv] [] (fun _ auc=>?_) fun hg=>?_
     ·refine ab.block ?_
      obtain⟨adr,aqf,hg⟩:=ah hg
      obtain⟨aCx,aCy,agE⟩:=aY aqf;have aqg:=agE;try simp at aqg
      obtain⟨ads,aqh,hg⟩:=ah hg
      obtain⟨aCz,aCA,agF⟩:=aY aqh;have aqi:=agF;try simp at aqi
      refine ic hV mixed [se 0 a0,se 1 a1,se 6 cx,se 8 uv,se 47 (decide (adr.id=ads.id))] [] 10 [] ?_ fun K k=>by simp[agE,agF];(repeat refine ai ?_);exact kx k
      refine cN hg ?_ ?_<;>(clear hg;intro aCB hg)
      ·refine rG hV [se 4 false] [] ?_
       cases ah7 _ (aF hg).symm;have hg:=ahD;try dsimp only at hg
       cases Yz _ (aF hg).symm;have hg:=X9;try dsimp only at hg
       cases hg;exact rz hQ
      exact ab.skip (auc _ ⟨hg,Sub.rm []⟩)
     unfold Ts at hg
     obtain⟨ao2,hg⟩:=aK hg
     unfold ax at ao2
     refine rH hV [se 0 a0,se 1 a1,se 6 cx,se 8 ((uv+1):Int)] [] ?_
     exact Y4 _ _ (aF hg).symm (Sub.rm [])
    refine ab.exit ?_
    cases ah7 _ (aF hg).symm;have hg:=ahD;try dsimp only at hg
    exact atW _ ⟨hg,Sub.rm []⟩
   unfold Tq at hg
   obtain⟨ao3,hg⟩:=aK hg
   unfold ax at ao3
   refine rH hV [se 0 a0,se 1 a1,se 6 ((cx+1):Int)] [] ?_
   exact Y3 _ _ (aF hg).symm (Sub.rm [])
  refine ab.exit ?_
  cases Yz _ (aF hg).symm;have hg:=X9;try dsimp only at hg
  exact rj _ ⟨hg,Sub.rm []⟩
 unfold Tr at hg
 refine rG hV [se 4 true] [] ?_
 cases hg;exact rz hQ
noncomputable def acV:an.Spec:=eY IS
theorem awY:aL Tryz.prog 95 acV:=by
 have hV:=aW (cs ajG (cs aaZ (cs aaH cn)))
 refine go2 hV Tryz.func95 rfl Tryz.ntmps95 fun a0 a1 r hg _ _ _ _ _ hQ=>?_
 unfold IS at hg
 refine rG hV [se 0 a0,pt 3 0] [.w 50 a1] ?_
 obtain⟨x2,h3,hg⟩:=ah hg
 obtain⟨x4,h5,hg⟩:=ah hg
 obtain⟨x6,h7,hg⟩:=ah hg
 refine ic hV mixed [se 4 ([x2,a1.part,x4,a1.fR,x6,a1.id]:(List Int))] [.w 50 a1] 16 [] ?_ fun K k=>by simp[acD,Js,FW,h3,h5,h7];exact kx k
 cases hg;exact rz hQ
noncomputable def UA:an.Spec:=vr IP
theorem aj0:aL Tryz.prog 61 UA:=by
 have hV:=aW (cs awY cn)
 refine pL hV Tryz.func61 rfl Tryz.ntmps61 fun a0 a1 a2 r hg _ _ _ _ _ hQ=>?_
 unfold IP at hg
 refine rG hV [se 0 a0,pt 4 0,pt 5 1] [.w 50 a1,.w 50 a2] ?_
 obtain⟨x2,h3,hg⟩:=ah hg
 refine rG hV [se 0 a0,pt 5 1,se 7 x2] [.w 50 a1,.w 50 a2] ?_ fun K k=>by simp[acV,h3];exact kx k
 obtain⟨x5,h6,hg⟩:=ah hg
 refine rG hV [se 7 x2,se 8 x5] [.w 50 a1,.w 50 a2] ?_ fun K k=>by simp[acV,h6];exact kx k
 refine ch (abu=some r) [] [] (fun _ k9=>?_) fun hg=>?_
 ·refine rG hV [se 7 x2,se 8 x5,se 9 (0:Int)] [.w 50 a1,.w 50 a2] ?_
  obtain⟨o48,asm,ahL⟩:=ah hg;clear hg
  refine ab.block <| ab.aH (fun(bE:Int)=>⟨[se 7 x2,se 8 x5,se 9 bE],[]⟩) (BJ x2 x5) 0 asm (Sub.rm []) fun bE w53 _ hg pr gS=>?_
  unfold BJ at hg;try dsimp only at hg
  refine sG fun _ Ze=>?_
  refine rG hV [se 7 x2,se 8 x5,se 9 bE,se 19 (decide (bE < (x2.length:Int)))] [] ?_
  refine cN hg ?_ ?_<;>(clear hg;intro h56 hg)
  ·refine sk Ze ?_
   refine ch (Tk bE=some w53) [se 7 x2,se 8 x5,se 9 bE] [] (fun _ Zf=>?_) fun hg=>?_
   ·refine ab.block ?_
    obtain⟨x59,h60,hg⟩:=ah hg
    obtain⟨aDF,aDG,ag6⟩:=aY h60;have aq6:=ag6;try simp at aq6
    obtain⟨OY,h62,hg⟩:=ah hg
    obtain⟨aDH,aDI,ag7⟩:=aY h62;have aq9:=ag7;try simp at aq9
    refine ic hV mixed [se 7 x2,se 8 x5,se 9 bE,se 30 (!decide (x59=OY))] [] 8 [] ?_ fun K k=>by simp[ag6,ag7];(repeat refine ai ?_);exact kx k
    refine cN hg ?_ ?_<;>(clear hg;intro Lq hg)
    ·obtain⟨x65,h66,hg⟩:=ah hg
     obtain⟨aDN,aDO,ag9⟩:=aY h66;have ard:=ag9;try simp at ard
     obtain⟨xL,Ls,hg⟩:=ah hg
     obtain⟨arf,arh,Lt⟩:=aY Ls;have Xc:=Lt;try simp at Xc
     refine ic hV mixed [se 6 (decide (x65 < xL))] [] 8 [] ?_ fun K k=>by simp[ag9,Lt];(repeat refine ai ?_);exact kx k
     cases pr _ (aF hg).symm;have hg:=ahL;try dsimp only at hg
     cases hg;exact rz hQ
    exact ab.skip (Zf _ ⟨hg,Sub.rm []⟩)
   unfold Tk at hg
   obtain⟨g71,hg⟩:=aK hg
   unfold ax at g71
   refine rH hV [se 7 x2,se 8 x5,se 9 ((bE+1):Int)] [] ?_
   exact gS _ _ (aF hg).symm (Sub.rm [])
  refine ab.exit ?_
  cases pr _ (aF hg).symm;have hg:=ahL;try dsimp only at hg
  exact k9 _ ⟨hg,Sub.rm []⟩
 unfold abu at hg
 refine rG hV [se 6 false] [] ?_
 cases hg;exact rz hQ
noncomputable def alL:an.Spec:=vr Ny
theorem awk:aL Tryz.prog 138 alL:=by
 have hV:=aW (cs aj0 cn)
 refine pL hV Tryz.func138 rfl Tryz.ntmps138 fun a0 a1 a2 r hg _ _ _ _ _ hQ=>?_
 unfold Ny at hg
 refine rG hV [se 0 a0,se 1 a1,pt 5 0] [.w 50 a2] ?_
 refine rG hV [se 0 a0,se 1 a1,pt 5 0,se 7 (a1.length:Int)] [.w 50 a2] ?_
 refine cH (fun ik:Int=>Tt a1 a2 ik=some r) (fun ik=>⟨[se 1 a1,pt 5 0,se 7 ik],[.w 50 a2]⟩) (fun _ k4=>?_) fun ik hg=>?_
 ·obtain⟨uf,yv,s6⟩:=ah hg;clear hg
  refine ab.block <| ab.aH (fun(n3:Int)=>⟨[se 0 a0,se 1 a1,pt 5 0,se 7 n3],[.w 50 a2]⟩) (Nz a0 a1 a2) (a1.length:Int) yv (Sub.rm [0]) fun n3 Ah _ hg s9 k5=>?_
  unfold Nz at hg;try dsimp only at hg
  refine sG fun _ Za=>?_
  obtain⟨aej,xn,hg⟩:=ah hg
  unfold Tu at xn
  refine sq [se 0 a0,se 1 a1,pt 5 0,se 7 n3,se 22 aej] [.w 50 a2] (fun _ RR=>?_) ?_
  ·rcases ay xn with ⟨Vk,xn⟩ | ⟨Vk,xn⟩
   ·have afe:=Vk;try simp at afe
    obtain⟨g43,xn⟩:=aK xn
    unfold ax at g43
    obtain⟨ig,uP,xn⟩:=ah xn
    obtain⟨agZ,ag0,EE⟩:=aY uP;have yg:=EE;try simp at yg
    obtain⟨nV,W8,xn⟩:=ah xn
    exact cU hV mixed (some []) 10 [] RR fun K k=>by simp[UA,afe,yg,W8];(repeat refine ai ?_);cases xn;exact k _ (Sub.rm [0])
   exact cU hV mixed (some [14,15,16,17,18,19,20,21]) 10 [] RR fun K k=>by simp[UA,Vk];cases xn;exact k _ (Sub.rm [0])
  refine cN hg ?_ ?_<;>(clear hg;intro vS hg)
  ·refine sk Za ?_
   refine ab.block ?_
   obtain⟨g55,hg⟩:=aK hg
   unfold ax at g55
   refine rH hV [se 0 a0,se 1 a1,pt 5 0,se 7 ((n3 - 1):Int)] [.w 50 a2] ?_
   exact k5 _ _ (aF hg).symm (Sub.rm [0])
  refine ab.exit ?_
  cases s9 _ (aF hg).symm;have hg:=s6;try dsimp only at hg
  exact k4 _ ⟨_,hg,Sub.rm [0]⟩
 unfold Tt at hg
 refine rG hV [se 1 a1,pt 5 0,se 7 ik,(8,.ao 12)] [.w 50 a2] ?_
 obtain⟨g60,hg⟩:=aK hg
 obtain⟨g61,hg⟩:=aK hg
 refine rG hV [se 1 a1,pt 5 0,se 7 ik,(8,.row 1)] [.w 50 a2,.ro 50 12 ((a1.take ik.toNat):List ae)] ?_
 obtain⟨g63,hg⟩:=aK hg
 refine rG hV [se 1 a1,se 7 ik,(8,.row 2)] [.w 50 a2,.dead,.ro 50 12 (((a1.take ik.toNat)++[a2]):List ae)] ?_
 obtain⟨g65,hg⟩:=aK hg
 obtain⟨g66,hg⟩:=aK hg
 refine rG hV [(6,.row 3)] [.w 50 a2,.dead,.dead,.ro 50 12 ((((a1.take ik.toNat)++[a2])++(a1.drop ik.toNat)):List ae)] ?_
 cases hg;exact rz hQ
noncomputable def alE:an.Spec:=eY Nu
theorem av7:aL Tryz.prog 111 alE:=by
 have hV:=aW (cs awk cn)
 refine go2 hV Tryz.func111 rfl Tryz.ntmps111 fun a0 a1 r hg _ _ _ _ _ hQ=>?_
 unfold Nu at hg
 refine rG hV [se 0 a0,se 1 a1] [] ?_
 refine rG hV [se 0 a0,se 1 a1,(5,.ao 12)] [] ?_
 refine cH (fun sH:(List ae)=>To sH=some r) (fun sH=>⟨[se 5 sH],[]⟩) (fun _ k4=>?_) fun sH hg=>?_
 ·refine rG hV [se 0 a0,se 1 a1,(5,.ao 12),se 6 (0:Int)] [] ?_
  obtain⟨o31,asa,asQ⟩:=ah hg;clear hg
  refine ab.block <| ab.aH (fun((aD,ct):(List ae)×Int)=>⟨[se 0 a0,se 1 a1,se 5 aD,se 6 ct],[]⟩) (Nv a0 a1) ([],0) asa (Sub.trans (Sub.ac7 5) (Sub.rm [])) fun z34 w36 _ hg ato k6=>?_
  obtain⟨aD,ct⟩:=z34
  unfold Nv at hg;try dsimp only at hg
  refine sG fun _ Fh=>?_
  refine rG hV [se 0 a0,se 1 a1,se 5 aD,se 6 ct,se 10 (decide (ct < (a1.length:Int)))] [] ?_
  refine cN hg ?_ ?_<;>(clear hg;intro WY hg)
  ·refine sk Fh ?_
   refine cH (fun Gy:(List ae)=>Tp ct Gy=some w36) (fun Gy=>⟨[se 0 a0,se 1 a1,se 5 Gy,se 6 ct],[]⟩) (fun _ k41=>?_) fun Gy hg=>?_
   ·refine ab.block ?_
    obtain⟨sB,ED,hg⟩:=ah hg
    obtain⟨aqP,aqQ,HC⟩:=aY ED;have QG:=HC;try simp at QG
    obtain⟨ig,uP,hg⟩:=ah hg
    refine rH hV [se 0 a0,se 1 a1,se 5 ig,se 6 ct] [] ?_ fun K k=>by simp[alL,HC,uP];(repeat refine ai ?_);exact kx k
    exact k41 _ ⟨_,hg,Sub.rm []⟩
   unfold Tp at hg
   obtain⟨Eu,hg⟩:=aK hg
   unfold ax at Eu
   refine rH hV [se 0 a0,se 1 a1,se 5 Gy,se 6 ((ct+1):Int)] [] ?_
   exact k6 _ _ (aF hg).symm (Sub.rm [])
  refine ab.exit ?_
  cases ato _ (aF hg).symm;have hg:=asQ;try dsimp only at hg
  exact k4 _ ⟨_,hg,Sub.rm []⟩
 unfold To at hg
 refine rG hV [se 4 sH] [] ?_
 cases hg;exact rz hQ
noncomputable def alG:an.Spec:=eA NJ
theorem awa:aL Tryz.prog 119 alG:=by
 have hV:=aW (cs awm (cs M6 cn))
 refine dT hV Tryz.func119 rfl Tryz.ntmps119 fun a0 r hg _ _ _ _ _ hQ=>?_
 unfold NJ at hg
 refine rG hV [pt 1 0] [.w 69 a0] ?_
 obtain⟨⟨x2,x3⟩,h4,hg⟩:=ah hg;try dsimp only at hg
 refine rG hV [pt 1 0,se 3 x2,se 4 x3] [.w 69 a0] ?_ fun K k=>by simp[alM,h4];exact kx k
 obtain⟨Gg,bC,hg⟩:=ah hg
 unfold abG at bC
 refine sq [se 2 Gg] [] (fun _ fY=>?_) ?_
 ·rcases ay bC with ⟨fw,bC⟩ | ⟨fw,bC⟩
  ·have hM:=eq_true (of_decide_eq_true fw)
   obtain⟨x6,h7,bC⟩:=ah bC
   rcases ay bC with ⟨gd,bC⟩ | ⟨gd,bC⟩
   ·obtain⟨x8,h9,bC⟩:=ah bC
    rcases ay bC with ⟨qI,bC⟩ | ⟨qI,bC⟩
    ·obtain⟨dw,wZ,bC⟩:=ah bC
     exact rJ hV (some []) fY fun K k=>by simp[vu,hM,h7,gd,h9,qI,wZ];cases bC;exact k _ (Sub.rm [])
    exact rJ hV (some [23,24]) fY fun K k=>by simp[vu,hM,h7,gd,h9,qI];cases bC;exact k _ (Sub.rm [])
   exact rJ hV (some [18,19,20,23,24]) fY fun K k=>by simp[vu,hM,h7,gd];cases bC;exact k _ (Sub.rm [])
  have hM:=fw;try simp at hM
  exact rJ hV (some [13,14,15,18,19,20,23,24]) fY fun K k=>by simp[hM];cases bC;exact k _ (Sub.rm [])
 cases hg;exact rz hQ
noncomputable def amb:an.Spec:=eA NC
theorem awU:aL Tryz.prog 90 amb:=by
 have hV:=aW (cs M6 (cs awa (cs ajF (cs aaH cn))))
 refine dT hV Tryz.func90 rfl Tryz.ntmps90 fun a0 r hg _ _ _ _ _ hQ=>?_
 unfold NC at hg
 refine rG hV [pt 1 0] [.w 71 a0] ?_
 obtain⟨x2,h3,hg⟩:=ah hg
 refine rG hV [pt 1 0,se 3 x2] [.w 71 a0] ?_ fun K k=>by simp[vu,h3];exact kx k
 obtain⟨x5,h6,hg⟩:=ah hg
 refine rG hV [pt 1 0,se 3 x2,se 4 x5] [.w 71 a0] ?_ fun K k=>by simp[vu,h6];exact kx k
 obtain⟨x8,h9,hg⟩:=ah hg
 refine rG hV [pt 1 0,se 3 x2,se 4 x5,se 5 x8] [.w 71 a0] ?_ fun K k=>by simp[vu,h9];exact kx k
 obtain⟨cb,pg,hg⟩:=ah hg
 refine rG hV [pt 1 0,se 3 x2,se 4 x5,se 5 x8,se 6 cb] [.w 71 a0] ?_ fun K k=>by simp[vu,pg];exact kx k
 obtain⟨aU,h15,hg⟩:=ah hg
 refine rG hV [pt 1 0,se 3 x2,se 4 x5,se 5 x8,se 6 cb,se 7 aU] [.w 71 a0] ?_ fun K k=>by simp[vu,h15];exact kx k
 obtain⟨o6,zt,hg⟩:=ah hg
 refine rG hV [pt 1 0,se 3 x2,se 4 x5,se 5 x8,se 6 cb,se 7 aU,se 8 o6] [.w 71 a0] ?_ fun K k=>by simp[alG,zt];exact kx k
 obtain⟨bN,qn,hg⟩:=ah hg
 refine rG hV [pt 1 0,se 3 x2,se 4 x5,se 5 x8,se 6 cb,se 7 aU,se 8 o6,se 9 bN] [.w 71 a0] ?_ fun K k=>by simp[Ut,qn];exact kx k
 obtain⟨fu,sV,hg⟩:=ah hg
 refine rG hV [pt 1 0,se 3 x2,se 4 x5,se 5 x8,se 6 cb,se 7 aU,se 8 o6,se 9 bN,se 10 fu] [.w 71 a0] ?_ fun K k=>by simp[Ut,sV];exact kx k
 refine sG fun _ Fg=>?_
 obtain⟨ad6,iw,hg⟩:=ah hg
 unfold abz at iw
 refine sq [pt 1 0,se 64 ad6] [.w 71 a0] (fun _ zQ=>?_) ?_
 ·rcases ay iw with ⟨D5,iw⟩ | ⟨D5,iw⟩
  ·have qh:=D5;try simp at qh
   exact rJ hV (some [38,39,42,43,46,47,50,51,54,55,58,59,62,63]) zQ fun K k=>by simp[qh];cases iw;exact k _ (Sub.rm [0])
  have qh:=D5;try simp at qh
  rcases ay iw with ⟨uH,iw⟩ | ⟨uH,iw⟩
  ·have qi:=uH;try simp at qi
   exact rJ hV (some [42,43,46,47,50,51,54,55,58,59,62,63]) zQ fun K k=>by simp[qh,qi];cases iw;exact k _ (Sub.rm [0])
  have qi:=uH;try simp at qi
  rcases ay iw with ⟨jo,iw⟩ | ⟨jo,iw⟩
  ·have iG:=jo;try simp at iG
   exact rJ hV (some [46,47,50,51,54,55,58,59,62,63]) zQ fun K k=>by simp[qh,qi,iG];cases iw;exact k _ (Sub.rm [0])
  have iG:=jo;try simp at iG
  rcases ay iw with ⟨oc,iw⟩ | ⟨oc,iw⟩
  ·have hX:=oc;try simp at hX
   exact rJ hV (some [50,51,54,55,58,59,62,63]) zQ fun K k=>by simp[qh,qi,iG,hX];cases iw;exact k _ (Sub.rm [0])
  have hX:=oc;try simp at hX
  rcases ay iw with ⟨AD,iw⟩ | ⟨AD,iw⟩
  ·have wT:=AD;try simp at wT
   exact rJ hV (some [54,55,58,59,62,63]) zQ fun K k=>by simp[qh,qi,iG,hX,wT];cases iw;exact k _ (Sub.rm [0])
  have wT:=AD;try simp at wT
  rcases ay iw with ⟨Ck,iw⟩ | ⟨Ck,iw⟩
  ·have Hj:=Ck;try simp at Hj
   exact rJ hV (some [58,59,62,63]) zQ fun K k=>by simp[qh,qi,iG,hX,wT,Hj];cases iw;exact k _ (Sub.rm [0])
  have Hj:=Ck;try simp at Hj
  rcases ay iw with ⟨Ve,iw⟩ | ⟨Ve,iw⟩
  ·have Kj:=Ve;try simp at Kj
   exact rJ hV (some [62,63]) zQ fun K k=>by simp[qh,qi,iG,hX,wT,Hj,Kj];cases iw;exact k _ (Sub.rm [0])
  have Kj:=Ve;try simp at Kj
  exact rJ hV (some []) zQ fun K k=>by simp[qh,qi,iG,hX,wT,Hj,Kj];cases iw;exact k _ (Sub.rm [0])
 refine cN hg ?_ ?_<;>(clear hg;intro uP hg)
 ·refine rG hV [se 2 false] [.w 71 a0] ?_
  cases hg;exact rz hQ
 refine sk Fg ?_
 obtain⟨aen,kh,hg⟩:=ah hg
 unfold abA at kh
 refine sq [se 2 aen] [] (fun _ C1=>?_) ?_
 ·rcases ay kh with ⟨AE,kh⟩ | ⟨AE,kh⟩
  ·have xU:=AE;try simp at xU
   rcases ay kh with ⟨Vm,kh⟩ | ⟨Vm,kh⟩
   ·have Ks:=Vm;try simp at Ks
    obtain⟨iR,zy,kh⟩:=ah kh
    obtain⟨ej,oS,kh⟩:=ah kh
    exact cU hV mixed (some [75,76,77]) 21 [] C1 fun K k=>by simp[FW,xU,Ks,zy,oS];cases kh;exact k _ (Sub.rm [])
   have Ks:=rk Vm
   rcases ay kh with ⟨zb,kh⟩ | ⟨zb,kh⟩
   ·have xV:=eq_true (of_decide_eq_true zb)
    obtain⟨fH,rX,kh⟩:=ah kh
    obtain⟨wI,vS,kh⟩:=ah kh
    exact cU hV mixed (some []) 21 [] C1 fun K k=>by simp[FW,xU,Ks,xV,rX,vS];cases kh;exact k _ (Sub.rm [])
   have xV:=zb;try simp at xV
   exact cU hV mixed (some [81,82,83,84,85,86,87]) 21 [] C1 fun K k=>by simp[FW,xU,Ks,xV];cases kh;exact k _ (Sub.rm [])
  have xU:=rk AE
  exact cU hV mixed (some [71,72,73,74,75,76,77,78,81,82,83,84,85,86,87]) 21 [] C1 fun K k=>by simp[FW,xU];cases kh;exact k _ (Sub.rm [])
 cases hg;exact rz hQ
noncomputable def al2:an.Spec:=eA NF
theorem awJ:aL Tryz.prog 57 al2:=by
 have hV:=aW (cs awU (cs aj5 cn))
 refine dT hV Tryz.func57 rfl Tryz.ntmps57 fun a0 r hg _ _ _ _ _ hQ=>?_
 unfold NF at hg
 refine rG hV [se 0 a0] [] ?_
 refine sG fun _ k2=>?_
 obtain⟨Gw,eX,hg⟩:=ah hg
 unfold abC at eX
 refine sq [se 0 a0,se 13 Gw] [] (fun _ k5=>?_) ?_
 ·rcases ay eX with ⟨c6,eX⟩ | ⟨c6,eX⟩
  ·have rM:=c6;try simp at rM
   exact rJ hV (some [10,11,12]) k5 fun K k=>by simp[rM];cases eX;exact k _ (Sub.rm [])
  exact rJ hV (some []) k5 fun K k=>by simp[c6];cases eX;exact k _ (Sub.rm [])
 refine cN hg ?_ ?_<;>(clear hg;intro h9 hg)
 ·refine rG hV [se 2 false] [] ?_
  cases hg;exact rz hQ
 refine sk k2 ?_
 refine ch (Ty=some r) [] [] (fun _ gF=>?_) fun hg=>?_
 ·refine rG hV [se 0 a0,se 3 (0:Int)] [] ?_
  obtain⟨ajm,arT,Rj⟩:=ah hg;clear hg
  refine ab.block <| ab.aH (fun(cI:Int)=>⟨[se 0 a0,se 3 cI],[]⟩) (NG a0) 0 arT (Sub.rm []) fun cI aAF _ hg Ru fY=>?_
  unfold NG at hg;try dsimp only at hg
  refine sG fun _ Ff=>?_
  refine rG hV [se 0 a0,se 3 cI,se 17 (decide (cI < (a0.length:Int)))] [] ?_
  refine cN hg ?_ ?_<;>(clear hg;intro aBC hg)
  ·refine sk Ff ?_
   refine ch (IU cI=some aAF) [se 0 a0,se 3 cI] [] (fun _ Ib=>?_) fun hg=>?_
   ·refine ab.block ?_
    obtain⟨amF,apB,hg⟩:=ah hg
    obtain⟨aBF,aBG,agi⟩:=aY apB;have apC:=agi;try simp at apC
    obtain⟨OV,apE,hg⟩:=ah hg
    refine rG hV [se 0 a0,se 3 cI,se 4 OV] [] ?_ fun K k=>by simp[amb,agi,apE];(repeat refine ai ?_);exact kx k
    refine sG fun _ YX=>?_
    obtain⟨adM,mq,hg⟩:=ah hg
    unfold abD at mq
    refine sq [se 0 a0,se 3 cI,se 37 adM] [] (fun _ Ic=>?_) ?_
    ·rcases ay mq with ⟨DW,mq⟩ | ⟨DW,mq⟩
     ·have wR:=DW;try simp at wR
      exact rJ hV (some [28,29,30,31,32,33,34,35,36]) Ic fun K k=>by simp[wR];cases mq;exact k _ (Sub.rm [])
     have wR:=DW;try simp at wR
     obtain⟨xI,yd,mq⟩:=ah mq
     obtain⟨aBN,aBO,agm⟩:=aY yd;have Ld:=agm;try simp at Ld
     obtain⟨Ai,Ev,mq⟩:=ah mq
     exact rJ hV (some []) Ic fun K k=>by simp[UB,wR,agm,Ev];(repeat refine ai ?_);cases mq;exact k _ (Sub.rm [])
    refine cN hg ?_ ?_<;>(clear hg;intro aBX hg)
    ·refine rG hV [se 2 false] [] ?_
     cases Ru _ (aF hg).symm;have hg:=Rj;try dsimp only at hg
     cases hg;exact rz hQ
    refine sk YX ?_
    refine sG fun _ YZ=>?_
    obtain⟨adm,apM,hg⟩:=ah hg
    obtain⟨aBZ,aB0,agq⟩:=aY apM;have apN:=agq;try simp at apN
    refine rG hV [se 0 a0,se 3 cI,se 43 (decide (adm.of=0))] [] ?_ fun K k=>by simp[agq];(repeat refine ai ?_);exact kx k
    refine cN hg ?_ ?_<;>(clear hg;intro aB3 hg)
    ·exact ab.exit (Ib _ ⟨hg,Sub.rm []⟩)
    refine sk YZ ?_
    obtain⟨amI,apQ,hg⟩:=ah hg
    obtain⟨aB4,aB5,agr⟩:=aY apQ;have apR:=agr;try simp at apR
    obtain⟨JB,apS,hg⟩:=ah hg
    refine rG hV [se 0 a0,se 3 cI,se 5 JB] [] ?_ fun K k=>by simp[UB,agr,apS];(repeat refine ai ?_);exact kx k
    refine sG fun _ RN=>?_
    refine rG hV [se 0 a0,se 3 cI,se 5 JB,se 52 (decide (JB < 0))] [] ?_
    refine cN hg ?_ ?_<;>(clear hg;intro apT hg)
    ·refine rG hV [se 2 false] [] ?_
     cases Ru _ (aF hg).symm;have hg:=Rj;try dsimp only at hg
     cases hg;exact rz hQ
    refine sk RN ?_
    obtain⟨adp,apW,hg⟩:=ah hg
    obtain⟨aB8,aB9,agt⟩:=aY apW;have apX:=agt;try simp at apX
    refine rG hV [se 0 a0,se 3 cI,se 58 (!decide (adp.of=0))] [] ?_ fun K k=>by simp[agt];(repeat refine ai ?_);exact kx k
    refine cN hg ?_ ?_<;>(clear hg;intro aCa hg)
    ·refine rG hV [se 2 false] [] ?_
     cases Ru _ (aF hg).symm;have hg:=Rj;try dsimp only at hg
     cases hg;exact rz hQ
    exact ab.skip (Ib _ ⟨hg,Sub.rm []⟩)
   unfold IU at hg
   obtain⟨aoX,hg⟩:=aK hg
   unfold ax at aoX
   refine rH hV [se 0 a0,se 3 ((cI+1):Int)] [] ?_
   exact fY _ _ (aF hg).symm (Sub.rm [])
  refine ab.exit ?_
  cases Ru _ (aF hg).symm;have hg:=Rj;try dsimp only at hg
  exact gF _ ⟨hg,Sub.rm []⟩
 unfold Ty at hg
 refine rG hV [se 2 true] [] ?_
 cases hg;exact rz hQ
noncomputable def acU:an.Spec:=eY FG
theorem awW:aL Tryz.prog 93 acU:=by
 have hV:=aW (cs aj5 cn)
 refine go2 hV Tryz.func93 rfl Tryz.ntmps93 fun a0 a1 r hg _ _ _ _ _ hQ=>?_
 unfold FG at hg
 refine rG hV [se 0 a0,pt 3 0] [.w 50 a1] ?_
 obtain⟨x2,h3,hg⟩:=ah hg
 refine rG hV [se 0 a0,se 5 x2] [.w 50 a1] ?_ fun K k=>by simp[UB,h3];exact kx k
 refine sG fun _ k5=>?_
 refine rG hV [se 0 a0,se 5 x2,se 11 (decide (x2 < 0))] [.w 50 a1] ?_
 refine cN hg ?_ ?_<;>(clear hg;intro h7 hg)
 ·refine rG hV [se 4 ((-1):Int)] [.w 50 a1] ?_
  cases hg;exact rz hQ
 refine sk k5 ?_
 refine sG fun _ k9=>?_
 obtain⟨dw,wZ,hg⟩:=ah hg
 obtain⟨aBL,aBM,agl⟩:=aY wZ;have apF:=agl;try simp at apF
 refine rG hV [se 5 x2,se 17 (!decide (dw.of=0))] [.w 50 a1] ?_ fun K k=>by simp[agl];(repeat refine ai ?_);exact kx k
 refine cN hg ?_ ?_<;>(clear hg;intro QA hg)
 ·refine rG hV [se 4 ((-1):Int)] [.w 50 a1] ?_
  cases hg;exact rz hQ
 refine sk k9 ?_
 refine rG hV [se 4 x2] [.w 50 a1] ?_
 cases hg;exact rz hQ
noncomputable def amd:an.Spec:=eY Tz
theorem awX:aL Tryz.prog 94 amd:=by
 have hV:=aW (cs aaH (cs M6 cn))
 refine go2 hV Tryz.func94 rfl Tryz.ntmps94 fun a0 a1 r hg _ _ _ _ _ hQ=>?_
 unfold Tz at hg
 refine rG hV [pt 2 0,pt 3 1] [.w 71 a0,.w 48 a1] ?_
 obtain⟨x2,h3,hg⟩:=ah hg
 obtain⟨x4,h5,hg⟩:=ah hg
 obtain⟨x6,h7,hg⟩:=ah hg
 obtain⟨x8,h9,hg⟩:=ah hg
 refine ic hV mixed [se 4 x8] [.w 71 a0,.w 48 a1] 7 [] ?_ fun K k=>by simp[FW,vu,h3,h5,h7,h9];exact kx k
 cases hg;exact rz hQ
noncomputable def acR:an.Spec:=eY FI
theorem ajZ:aL Tryz.prog 60 acR:=by
 have hV:=aW (cs awW (cs awX cn))
 refine go2 hV Tryz.func60 rfl Tryz.ntmps60 fun a0 a1 r hg _ _ _ _ _ hQ=>?_
 unfold FI at hg
 refine rG hV [se 0 a0,se 1 a1] [] ?_
 refine ch (TJ a0 a1=some r) [se 0 a0,se 1 a1] [] (fun _ k3=>?_) fun hg=>?_
 ·refine rG hV [se 0 a0,se 1 a1,se 5 (0:Int)] [] ?_
  obtain⟨o34,asb,ahG⟩:=ah hg;clear hg
  refine ab.block <| ab.aH (fun(aD:Int)=>⟨[se 0 a0,se 1 a1,se 5 aD],[]⟩) (NN a0 a1) 0 asb (Sub.rm []) fun aD w39 _ hg aia k5=>?_
  unfold NN at hg;try dsimp only at hg
  refine sG fun _ yM=>?_
  refine rG hV [se 0 a0,se 1 a1,se 5 aD,se 11 (decide (aD < (a1.length:Int)))] [] ?_
  refine cN hg ?_ ?_<;>(clear hg;intro AS hg)
  ·refine sk yM ?_
   refine ch (TL aD=some w39) [se 0 a0,se 1 a1,se 5 aD] [] (fun _ sg=>?_) fun hg=>?_
   ·refine ab.block ?_
    obtain⟨Dx,uQ,hg⟩:=ah hg
    obtain⟨aqU,aqV,HF⟩:=aY uQ;have Ln:=HF;try simp at Ln
    obtain⟨iR,zy,hg⟩:=ah hg
    refine rG hV [se 0 a0,se 1 a1,se 5 aD,se 20 (decide (iR < 0))] [] ?_ fun K k=>by simp[acU,HF,zy];(repeat refine ai ?_);exact kx k
    refine cN hg ?_ ?_<;>(clear hg;intro oS hg)
    ·refine rG hV [se 4 (22:Int)] [] ?_
     cases aia _ (aF hg).symm;have hg:=ahG;try dsimp only at hg
     cases hg;exact rz hQ
    exact ab.skip (sg _ ⟨hg,Sub.rm []⟩)
   unfold TL at hg
   obtain⟨K9,hg⟩:=aK hg
   unfold ax at K9
   refine rH hV [se 0 a0,se 1 a1,se 5 ((aD+1):Int)] [] ?_
   exact k5 _ _ (aF hg).symm (Sub.rm [])
  refine ab.exit ?_
  cases aia _ (aF hg).symm;have hg:=ahG;try dsimp only at hg
  exact k3 _ ⟨hg,Sub.rm []⟩
 unfold TJ at hg
 refine ch (abK=some r) [] [] (fun _ tq=>?_) fun hg=>?_
 ·refine rG hV [se 0 a0,se 1 a1,se 6 (0:Int)] [] ?_
  obtain⟨ajl,arS,ahy⟩:=ah hg;clear hg
  refine ab.block <| ab.aH (fun(kB:Int)=>⟨[se 0 a0,se 1 a1,se 6 kB],[]⟩) (NM a0 a1) 0 arS (Sub.rm []) fun kB aAE _ hg ah2 Zh=>?_
  unfold NM at hg;try dsimp only at hg
  refine sG fun _ Fc=>?_
  refine rG hV [se 0 a0,se 1 a1,se 6 kB,se 24 (decide (kB < (a1.length:Int)))] [] ?_
  refine cN hg ?_ ?_<;>(clear hg;intro aps hg)
  ·refine sk Fc ?_
   refine ch (TK kB=some aAE) [se 0 a0,se 1 a1,se 6 kB] [] (fun _ atO=>?_) fun hg=>?_
   ·refine ab.block ?_
    obtain⟨JA,Wv,hg⟩:=ah hg
    obtain⟨apy,apz,Lc⟩:=aY Wv;have Ww:=Lc;try simp at Ww
    obtain⟨OU,Qz,hg⟩:=ah hg
    obtain⟨amG,agj,hg⟩:=ah hg
    obtain⟨aBH,aBI,agk⟩:=aY agj;have apD:=agk;try simp at apD
    obtain⟨wH,Wx,hg⟩:=ah hg
    refine ic hV mixed [se 0 a0,se 1 a1,se 6 kB,se 7 wH] [] 14 [] ?_ fun K k=>by simp[acU,amd,Lc,Qz,agk,Wx];(repeat refine ai ?_);exact kx k
    refine rG hV [se 0 a0,se 1 a1,se 6 kB,se 43 (!wH)] [] ?_
    refine cN hg ?_ ?_<;>(clear hg;intro yd hg)
    ·refine rG hV [se 4 (20:Int)] [] ?_
     cases ah2 _ (aF hg).symm;have hg:=ahy;try dsimp only at hg
     cases hg;exact rz hQ
    exact ab.skip (atO _ ⟨hg,Sub.rm []⟩)
   unfold TK at hg
   obtain⟨af7,hg⟩:=aK hg
   unfold ax at af7
   refine rH hV [se 0 a0,se 1 a1,se 6 ((kB+1):Int)] [] ?_
   exact Zh _ _ (aF hg).symm (Sub.rm [])
  refine ab.exit ?_
  cases ah2 _ (aF hg).symm;have hg:=ahy;try dsimp only at hg
  exact tq _ ⟨hg,Sub.rm []⟩
 unfold abK at hg
 refine rG hV [se 4 (0:Int)] [] ?_
 cases hg;exact rz hQ
noncomputable def uk:an.Spec:=eA z8
theorem M4:aL Tryz.prog 23 uk:=by
 have hV:=aW (cs ajX (cs awJ (cs M6 (cs ajY (cs ajZ (cs aj0 cn))))))
 refine dT hV Tryz.func23 rfl Tryz.ntmps23 fun a0 r hg _ _ _ _ _ hQ=>?_
 unfold z8 at hg
 refine rG hV [pt 1 0] [.w 26 a0] ?_
 obtain⟨x2,h3,hg⟩:=ah hg
 refine rG hV [pt 1 0,se 3 x2] [.w 26 a0] ?_ fun K k=>by simp[acP,h3];exact kx k
 obtain⟨x5,h6,hg⟩:=ah hg
 refine rG hV [pt 1 0,se 3 x2,se 4 x5] [.w 26 a0] ?_ fun K k=>by simp[al2,h6];exact kx k
 refine sG fun _ k8=>?_
 obtain⟨adJ,dF,hg⟩:=ah hg
 unfold abI at dF
 refine sq [pt 1 0,se 25 adJ] [.w 26 a0] (fun _ o0=>?_) ?_
 ·obtain⟨x9,pM,dF⟩:=ah dF
  rcases ay dF with ⟨hG,dF⟩ | ⟨hG,dF⟩
  ·have eo:=hG;try simp at eo
   exact rJ hV (some [19,20,23,24]) o0 fun K k=>by simp[vu,pM,eo];cases dF;exact k _ (Sub.rm [0])
  have eo:=hG;try simp at eo
  rcases ay dF with ⟨gd,dF⟩ | ⟨gd,dF⟩
  ·have pe:=gd;try simp at pe
   exact rJ hV (some [23,24]) o0 fun K k=>by simp[vu,pM,eo,pe];cases dF;exact k _ (Sub.rm [0])
  have pe:=gd;try simp at pe
  exact rJ hV (some []) o0 fun K k=>by simp[vu,pM,eo,pe];cases dF;exact k _ (Sub.rm [0])
 refine cN hg ?_ ?_<;>(clear hg;intro Lj hg)
 ·refine rG hV [se 2 false] [.w 26 a0] ?_
  cases hg;exact rz hQ
 refine sk k8 ?_
 obtain⟨bJ,zu,hg⟩:=ah hg
 refine rG hV [pt 1 0,se 5 bJ] [.w 26 a0] ?_ fun K k=>by simp[acQ,zu];exact kx k
 refine sG fun _ wc=>?_
 refine rG hV [pt 1 0,se 32 (!bJ)] [.w 26 a0] ?_
 refine cN hg ?_ ?_<;>(clear hg;intro Ey hg)
 ·refine rG hV [se 2 false] [.w 26 a0] ?_
  cases hg;exact rz hQ
 refine sk wc ?_
 refine sG fun _ CZ=>?_
 obtain⟨ei,AR,hg⟩:=ah hg
 refine rG hV [pt 1 0,se 38 (!decide (ei=0))] [.w 26 a0] ?_ fun K k=>by simp[acR,AR];exact kx k
 refine cN hg ?_ ?_<;>(clear hg;intro HB hg)
 ·refine rG hV [se 2 false] [.w 26 a0] ?_
  cases hg;exact rz hQ
 refine sk CZ ?_
 refine ch (abH=some r) [] [] (fun _ tp=>?_) fun hg=>?_
 ·refine rG hV [pt 1 0,se 6 (1:Int)] [.w 26 a0] ?_
  obtain⟨o74,asu,ahN⟩:=ah hg;clear hg
  refine ab.block <| ab.aH (fun(cx:Int)=>⟨[pt 1 0,se 6 cx],[.w 26 a0]⟩) (NK a0) 1 asu (Sub.rm [0]) fun cx w79 _ hg yF Fh=>?_
  unfold NK at hg;try dsimp only at hg
  refine sG fun _ Zl=>?_
  refine rG hV [pt 1 0,se 6 cx,se 43 (decide (cx < (a0.notes.length:Int)))] [.w 26 a0] ?_
  refine cN hg ?_ ?_<;>(clear hg;intro Lw hg)
  ·refine sk Zl ?_
   refine ch (TH cx=some w79) [pt 1 0,se 6 cx] [.w 26 a0] (fun _ RW=>?_) fun hg=>?_
   ·refine ab.block ?_
    obtain⟨g85,hg⟩:=aK hg
    unfold ax at g85
    obtain⟨nX,Xk,hg⟩:=ah hg
    obtain⟨ark,arl,QP⟩:=aY Xk;have QQ:=QP;try simp at QQ
    obtain⟨tG,HI,hg⟩:=ah hg
    obtain⟨aDZ,aD0,ahg⟩:=aY HI;have arn:=ahg;try simp at arn
    obtain⟨UU,Xl,hg⟩:=ah hg
    refine ic hV mixed [pt 1 0,se 6 cx,se 7 UU] [.w 26 a0] 13 [] ?_ fun K k=>by simp[UA,QQ,ahg,Xl];(repeat refine ai ?_);exact kx k
    refine rG hV [pt 1 0,se 6 cx,se 61 (!UU)] [.w 26 a0] ?_
    refine cN hg ?_ ?_<;>(clear hg;intro h94 hg)
    ·refine rG hV [se 2 false] [.w 26 a0] ?_
     cases yF _ (aF hg).symm;have hg:=ahN;try dsimp only at hg
     cases hg;exact rz hQ
    exact ab.skip (RW _ ⟨hg,Sub.rm [0]⟩)
   unfold TH at hg
   obtain⟨g97,hg⟩:=aK hg
   unfold ax at g97
   refine rH hV [pt 1 0,se 6 ((cx+1):Int)] [.w 26 a0] ?_
   exact Fh _ _ (aF hg).symm (Sub.rm [0])
  refine ab.exit ?_
  cases yF _ (aF hg).symm;have hg:=ahN;try dsimp only at hg
  exact tp _ ⟨hg,Sub.rm []⟩
 unfold abH at hg
 refine rG hV [se 2 true] [] ?_
 cases hg;exact rz hQ
noncomputable def OE:an.Spec:=fj fun(a0:Score) (a1:Int) (a2:(List ae))=>(NL a0 a1 a2).map fun r=> .bn [enc r.1,enc r.2]
theorem awQ:aL Tryz.prog 76 OE:=by
 have hV:=aW (cs M4 (cs M6 (cs ajY (cs ajZ (cs av7 cn)))))
 refine pL hV Tryz.func76 rfl Tryz.ntmps76 fun a0 a1 a2 r hg _ _ _ _ _ hQ=>?_
 unfold NL at hg
 refine rG hV [se 1 a1,se 2 a2,pt 3 0,pt 6 1] [.w 26 a0,.var 26 [.d (enc (0:Int)),.ao 4,.ao 13,.ao 12]] ?_
 obtain⟨x2,h3,hg⟩:=ah hg
 refine rG hV [se 1 a1,se 2 a2,pt 3 0,pt 6 1,se 8 x2] [.w 26 a0,.var 26 [.d (enc (0:Int)),.ao 4,.ao 13,.ao 12]] ?_ fun K k=>by simp[uk,h3];exact kx k
 refine sG fun _ k5=>?_
 obtain⟨aeE,ey,hg⟩:=ah hg
 unfold abJ at ey
 refine sq [se 1 a1,se 2 a2,pt 3 0,pt 6 1,se 19 aeE] [.w 26 a0,.var 26 [.d (enc (0:Int)),.ao 4,.ao 13,.ao 12]] (fun _ oj=>?_) ?_
 ·rcases ay ey with ⟨iV,ey⟩ | ⟨iV,ey⟩
  ·have ow:=iV;try simp at ow
   exact rJ hV (some [16,17,18]) oj fun K k=>by simp[ow];cases ey;exact k _ (Sub.rm [0,1])
  have ow:=iV;try simp at ow
  obtain⟨x6,h7,ey⟩:=ah ey
  exact rJ hV (some []) oj fun K k=>by simp[vu,ow,h7];cases ey;exact k _ (Sub.rm [0,1])
 refine cN hg ?_ ?_<;>(clear hg;intro AP hg)
 ·refine rG hV [pt 6 1,se 7 (1:Int)] [.w 26 a0,.var 26 [.d (enc (0:Int)),.ao 4,.ao 13,.ao 12]] ?_
  cases hg;exact rz hQ
 refine sk k5 ?_
 obtain⟨cL,sU,hg⟩:=ah hg
 refine rG hV [se 1 a1,se 2 a2,pt 3 0,pt 6 1,se 9 cL] [.w 26 a0,.var 26 [.d (enc (0:Int)),.ao 4,.ao 13,.ao 12]] ?_ fun K k=>by simp[acQ,sU];exact kx k
 refine sG fun _ vg=>?_
 refine rG hV [se 1 a1,se 2 a2,pt 3 0,pt 6 1,se 26 (!cL)] [.w 26 a0,.var 26 [.d (enc (0:Int)),.ao 4,.ao 13,.ao 12]] ?_
 refine cN hg ?_ ?_<;>(clear hg;intro qn hg)
 ·refine rG hV [pt 6 1,se 7 (1:Int)] [.w 26 a0,.var 26 [.d (enc (0:Int)),.ao 4,.ao 13,.ao 12]] ?_
  cases hg;exact rz hQ
 refine sk vg ?_
 obtain⟨fu,sV,hg⟩:=ah hg
 refine rG hV [se 1 a1,se 2 a2,pt 3 0,pt 6 1,se 10 fu] [.w 26 a0,.var 26 [.d (enc (0:Int)),.ao 4,.ao 13,.ao 12]] ?_ fun K k=>by simp[acR,sV];exact kx k
 refine sG fun _ Fg=>?_
 refine rG hV [se 1 a1,se 2 a2,pt 3 0,pt 6 1,se 10 fu,se 33 (!decide (fu=0))] [.w 26 a0,.var 26 [.d (enc (0:Int)),.ao 4,.ao 13,.ao 12]] ?_
 refine cN hg ?_ ?_<;>(clear hg;intro sW hg)
 ·refine rG hV [pt 6 1,se 7 fu] [.w 26 a0,.var 26 [.d (enc (0:Int)),.ao 4,.ao 13,.ao 12]] ?_
  cases hg;exact rz hQ
 refine sk Fg ?_
 refine rG hV [se 2 a2,pt 3 0,pt 6 1] [.w 26 (({ a0 with version:=a1 }):Score),.var 26 [.d (enc (0:Int)),.ao 4,.ao 13,.ao 12]] ?_
 obtain⟨tE,HB,hg⟩:=ah hg
 refine rG hV [pt 3 0,pt 6 1] [.w 26 (({ ({ a0 with version:=a1 }) with notes:=tE }):Score),.var 26 [.d (enc (0:Int)),.ao 4,.ao 13,.ao 12]] ?_ fun K k=>by simp[alE,HB];exact kx k
 refine rG hV [pt 6 1,se 7 (0:Int)] [.w 26 (({ ({ a0 with version:=a1 }) with notes:=tE }):Score),.w 26 (({ ({ a0 with version:=a1 }) with notes:=tE }):Score)] ?_
 cases hg;exact rz hQ
end
end Go.Proofs.YtjigeffmmcmlnaaGreatDoor
