import Derived.Test.YtjigeffmmcmlnaaGreatDoorX11
set_option linter.all false
set_option linter.unnecessarySimpa false
set_option linter.deprecated false
set_option linter.unusedVariables false
set_option linter.unusedSimpArgs false
set_option linter.unusedSectionVars false
namespace Go.Proofs.YtjigeffmmcmlnaaGreatDoor
open Go Go.an au
set_option maxRecDepth 4000
attribute [local instance] cJ
attribute [local congr] ab.kO
attribute [local simp] bu dz dU evalOp bd an.get fk strip bq an.after iI typed gr holds cR R.ok R.bad gI iU jk gW ku ji Op.operands Call.operands dY dA dQ dR iH il fm im gK fg nj nk nm np fK lH lL lJ fL jq lg lp lk ln ng ni jv mD bf D.cells T.eT D.one gH fV gb fo setAt eI fC jC fa gN bw cX iy fU iA gv jV arith et iM jf dG gC iN TD.agg env bR List.map fe iD ff gn gT mapOf iz iq dr mH mI mJ mK mL mM mN mO lK nh ll me mC my mB mr mG lq mi ml jw mE ko jh fh du fj iP gJ jB gone unbox iW fE gB gG lI lh nf jg jS List.contains_cons List.contains_nil lr iO iC iB gm ib gX lC kY mW l6 mw mu mz kr mF mh mj P2.list mA lB kW mU lF lb mZ l9 jQ kM lu kR mP lW jI kC lA kV mT l4 jM kH lE la mY l8 jP kL lD kZ mX l7 jO kJ jX kX mV l5 jN kI lG lf nc ma jW kT mR lY jK kF lv kS mQ lX jJ kD lz kU mS lZ jL kG kQ km lN lO lT lU lP lV lQ lR lS lM nD nH kv kz iQ nB nC nE nF nG nI nJ jD jE nL nM nN nO nP nQ nR nS nq nr nu nv nw nx ny nz nA
section
variable [e8]
set_option maxRecDepth 10000
attribute [local simp] eJ qO qL rl qR qP qM rp qS qQ qN rq qT rT rP su rW rQ rN so rU rR rO sr rV
noncomputable def alD:an.Spec:=fj fun(a0:ae) (a1:(Bx qF)) (a2:(Bx Int))=>(RL a0 a1 a2).map fun r=>enc r
theorem av6:aL Tryz.prog 110 alD:=by
 have hV:=aW (cs awN cn)
 refine pL hV Tryz.func110 rfl Tryz.ntmps110 fun a0 a1 a2 r hg _ _ _ _ _ hQ=>?_
 unfold RL at hg
 refine rG hV [se 1 a1,se 2 a2,pt 3 0] [.w 50 a0] ?_
 obtain⟨x2,h3,hg⟩:=ah hg
 refine ic hV mixed [se 4 (decide (x2=a2.v))] [.w 50 a0] 4 [] ?_ fun K k=>by simp[al5,h3];exact kx k
 cases hg;exact rz hQ
noncomputable def alB:an.Spec:=du fun(a0:(List ae)) (a1:y5)=>(RB a0 a1).map fun r=>enc r
theorem av3:aL Tryz.prog 109 alB:=by
 have hV:=aW (cs av6 cn)
 refine go2 hV Tryz.func109 rfl Tryz.ntmps109 fun a0 a1 r hg _ _ _ _ _ hQ=>?_
 unfold RB at hg
 refine rG hV [se 0 a0,se 1 a1] [] ?_
 refine ch (YN=some r) [] [] (fun _ k3=>?_) fun hg=>?_
 ·refine rG hV [se 0 a0,se 1 a1,se 7 (a0.length:Int),se 8 (0:Int)] [] ?_
  obtain⟨uf,yv,s6⟩:=ah hg;clear hg
  refine ab.block <| ab.aH (fun(aO:Int)=>⟨[se 0 a0,se 1 a1,se 7 (a0.length:Int),se 8 aO],[]⟩) (Mj a0 a1) 0 yv (Sub.rm []) fun aO Ah _ hg s9 k5=>?_
  unfold Mj at hg;try dsimp only at hg
  refine rG hV [se 0 a0,se 1 a1,se 7 (a0.length:Int),se 8 aO,se 9 (decide (aO < (a0.length:Int)))] [] ?_
  refine sG fun _ vh=>?_
  refine cN hg ?_ ?_<;>(clear hg;intro qV hg)
  ·refine sk vh ?_
   refine ch (RC aO=some Ah) [se 0 a0,se 1 a1,se 7 (a0.length:Int),se 8 aO] [] (fun _ wg=>?_) fun hg=>?_
   ·refine ab.block ?_
    refine rG hV [se 0 a0,se 1 a1,se 5 aO,se 7 (a0.length:Int),se 8 aO] [] ?_
    obtain⟨gY,sX,hg⟩:=ah hg
    obtain⟨QJ,QK,uR⟩:=aY sX;have yh:=uR;try simp at yh
    obtain⟨nW,zz,hg⟩:=ah hg
    refine rG hV [se 0 a0,se 1 a1,se 5 aO,se 7 (a0.length:Int),se 8 aO,se 16 nW] [] ?_ fun K k=>by simp[alD,uR,zz];(repeat refine ai ?_);exact kx k
    refine cN hg ?_ ?_<;>(clear hg;intro AT hg)
    ·refine rG hV [se 4 aO] [] ?_
     cases s9 _ (aF hg).symm;have hg:=s6;try dsimp only at hg
     cases hg;exact rz hQ
    exact ab.skip (wg _ ⟨hg,Sub.rm []⟩)
   unfold RC at hg
   obtain⟨AM,hg⟩:=aK hg
   unfold ax at AM
   refine rH hV [se 0 a0,se 1 a1,se 7 (a0.length:Int),se 8 ((aO+1):Int)] [] ?_
   exact k5 _ _ (aF hg).symm (Sub.rm [])
  refine ab.exit ?_
  cases s9 _ (aF hg).symm;have hg:=s6;try dsimp only at hg
  exact k3 _ ⟨hg,Sub.rm []⟩
 unfold YN at hg
 refine rG hV [se 4 ((-1):Int)] [] ?_
 cases hg;exact rz hQ
noncomputable def al4:an.Spec:=fj fun(a0:(List ae)) (a1:qF) (a2:Int)=>(K5 a0 a1 a2).map fun r=>enc r
theorem awM:aL Tryz.prog 69 al4:=by
 have hV:=aW (cs av3 cn)
 refine pL hV Tryz.func69 rfl Tryz.ntmps69 fun a0 a1 a2 r hg _ _ _ _ _ hQ=>?_
 unfold K5 at hg
 refine rG hV [se 0 a0,pt 4 0,pt 5 1] [.w 111 a1,.w 3 a2] ?_
 refine ab.sub (s':=⟨[se 4 ((⟨a1⟩:(Bx qF)):(Bx qF)),se 0 a0,pt 5 0],[.w 3 a2]⟩) (Sub.fz 4 0 a1 [1]) ?_
 refine ab.sub (s':=⟨[se 5 ((⟨a2⟩:(Bx Int)):(Bx Int)),se 0 a0,se 4 ((⟨a1⟩:(Bx qF)):(Bx qF))],[]⟩) (Sub.fz 5 0 a2 []) ?_
 obtain⟨x2,h3,hg⟩:=ah hg
 refine rG hV [se 6 x2] [] ?_ fun K k=>by simp[alB,h3];exact kx k
 cases hg;exact rz hQ
noncomputable def alY:an.Spec:=eA SK
theorem awD:aL Tryz.prog 41 alY:=by
 have hV:=aW (cs ajV cn)
 refine dT hV Tryz.func41 rfl Tryz.ntmps41 fun a0 r hg _ _ _ _ _ hQ=>?_
 unfold SK at hg
 refine rG hV [pt 1 0] [.w 52 a0] ?_
 obtain⟨x2,h3,hg⟩:=ah hg
 refine rG hV [se 2 (!x2)] [.w 52 a0] ?_ fun K k=>by simp[acM,h3];exact kx k
 cases hg;exact rz hQ
noncomputable def al9:an.Spec:=du fun(a0:(List aa)) (a1:uB)=>(Rx a0 a1).map fun r=>enc r
theorem awR:aL Tryz.prog 78 al9:=by
 have hV:=aW (cs awD cn)
 refine go2 hV Tryz.func78 rfl Tryz.ntmps78 fun a0 a1 r hg _ _ _ _ _ hQ=>?_
 unfold Rx at hg
 refine rG hV [se 0 a0,se 1 a1] [] ?_
 refine ch (YL=some r) [] [] (fun _ k3=>?_) fun hg=>?_
 ·refine rG hV [se 0 a0,se 1 a1,se 7 (a0.length:Int),se 8 (0:Int)] [] ?_
  obtain⟨uf,yv,s6⟩:=ah hg;clear hg
  refine ab.block <| ab.aH (fun(aO:Int)=>⟨[se 0 a0,se 1 a1,se 7 (a0.length:Int),se 8 aO],[]⟩) (Mh a0) 0 yv (Sub.rm []) fun aO Ah _ hg s9 k5=>?_
  unfold Mh at hg;try dsimp only at hg
  refine rG hV [se 0 a0,se 1 a1,se 7 (a0.length:Int),se 8 aO,se 9 (decide (aO < (a0.length:Int)))] [] ?_
  refine sG fun _ vh=>?_
  refine cN hg ?_ ?_<;>(clear hg;intro qV hg)
  ·refine sk vh ?_
   refine ch (Ry aO=some Ah) [se 0 a0,se 1 a1,se 7 (a0.length:Int),se 8 aO] [] (fun _ wg=>?_) fun hg=>?_
   ·refine ab.block ?_
    refine rG hV [se 0 a0,se 1 a1,se 5 aO,se 7 (a0.length:Int),se 8 aO] [] ?_
    obtain⟨gY,sX,hg⟩:=ah hg
    obtain⟨QJ,QK,uR⟩:=aY sX;have yh:=uR;try simp at yh
    obtain⟨nW,zz,hg⟩:=ah hg
    refine rG hV [se 0 a0,se 1 a1,se 5 aO,se 7 (a0.length:Int),se 8 aO,se 16 nW] [] ?_ fun K k=>by simp[alY,uR,zz];(repeat refine ai ?_);exact kx k
    refine cN hg ?_ ?_<;>(clear hg;intro AT hg)
    ·refine rG hV [se 4 aO] [] ?_
     cases s9 _ (aF hg).symm;have hg:=s6;try dsimp only at hg
     cases hg;exact rz hQ
    exact ab.skip (wg _ ⟨hg,Sub.rm []⟩)
   unfold Ry at hg
   obtain⟨AM,hg⟩:=aK hg
   unfold ax at AM
   refine rH hV [se 0 a0,se 1 a1,se 7 (a0.length:Int),se 8 ((aO+1):Int)] [] ?_
   exact k5 _ _ (aF hg).symm (Sub.rm [])
  refine ab.exit ?_
  cases s9 _ (aF hg).symm;have hg:=s6;try dsimp only at hg
  exact k3 _ ⟨hg,Sub.rm []⟩
 unfold YL at hg
 refine rG hV [se 4 ((-1):Int)] [] ?_
 cases hg;exact rz hQ
noncomputable def Ux:an.Spec:=du fun(a0:(List aa)) (a1:uB)=>(Eg a0 a1).map fun r=>enc r
theorem aaS:aL Tryz.prog 40 Ux:=by
 have hV:=aW (cs awR cn)
 refine go2 hV Tryz.func40 rfl Tryz.ntmps40 fun a0 a1 r hg _ _ _ _ _ hQ=>?_
 unfold Eg at hg
 refine rG hV [se 0 a0,se 1 a1] [] ?_
 obtain⟨x2,h3,hg⟩:=ah hg
 refine rG hV [se 4 (decide (0≤x2))] [] ?_ fun K k=>by simp[al9,h3];exact kx k
 cases hg;exact rz hQ
noncomputable def al3:an.Spec:=eY Ov
theorem awL:aL Tryz.prog 68 al3:=by
 have hV:=aW cn
 refine go2 hV Tryz.func68 rfl Tryz.ntmps68 fun a0 a1 r hg _ _ _ _ _ hQ=>?_
 unfold Ov at hg
 refine rG hV [se 0 a0,se 1 a1] [] ?_
 refine sG fun _ k2=>?_
 refine rG hV [se 0 a0,se 1 a1,se 10 (!decide ((a0.length:Int)=(a1.length:Int)))] [] ?_
 refine cN hg ?_ ?_<;>(clear hg;intro h4 hg)
 ·refine rG hV [se 4 false] [] ?_
  cases hg;exact rz hQ
 refine sk k2 ?_
 refine ch (Um=some r) [] [] (fun _ k7=>?_) fun hg=>?_
 ·refine rG hV [se 0 a0,se 1 a1,se 12 (a0.length:Int),se 13 (0:Int)] [] ?_
  obtain⟨o40,asf,ahI⟩:=ah hg;clear hg
  refine ab.block <| ab.aH (fun(fI:Int)=>⟨[se 0 a0,se 1 a1,se 12 (a0.length:Int),se 13 fI],[]⟩) (Ow a0 a1) 0 asf (Sub.rm []) fun fI w45 _ hg aic k9=>?_
  unfold Ow at hg;try dsimp only at hg
  refine rG hV [se 0 a0,se 1 a1,se 12 (a0.length:Int),se 13 fI,se 14 (decide (fI < (a0.length:Int)))] [] ?_
  refine sG fun _ Ij=>?_
  refine cN hg ?_ ?_<;>(clear hg;intro zy hg)
  ·refine sk Ij ?_
   refine ch (Un fI=some w45) [se 0 a0,se 1 a1,se 12 (a0.length:Int),se 13 fI] [] (fun _ RR=>?_) fun hg=>?_
   ·refine ab.block ?_
    refine rG hV [se 0 a0,se 1 a1,se 5 fI,se 12 (a0.length:Int),se 13 fI] [] ?_
    obtain⟨rA,AT,hg⟩:=ah hg
    obtain⟨aDz,aDA,ag3⟩:=aY AT;have aq1:=ag3;try simp at aq1
    obtain⟨An,QL,hg⟩:=ah hg
    obtain⟨aq3,aq4,QM⟩:=aY QL;have QN:=QM;try simp at QN
    refine ic hV mixed [se 0 a0,se 1 a1,se 12 (a0.length:Int),se 13 fI,se 24 (!decide (rA=An))] [] 8 [] ?_ fun K k=>by simp[ag3,QM];(repeat refine ai ?_);exact kx k
    refine cN hg ?_ ?_<;>(clear hg;intro zA hg)
    ·refine rG hV [se 4 false] [] ?_
     cases aic _ (aF hg).symm;have hg:=ahI;try dsimp only at hg
     cases hg;exact rz hQ
    exact ab.skip (RR _ ⟨hg,Sub.rm []⟩)
   unfold Un at hg
   obtain⟨g60,hg⟩:=aK hg
   unfold ax at g60
   refine rH hV [se 0 a0,se 1 a1,se 12 (a0.length:Int),se 13 ((fI+1):Int)] [] ?_
   exact k9 _ _ (aF hg).symm (Sub.rm [])
  refine ab.exit ?_
  cases aic _ (aF hg).symm;have hg:=ahI;try dsimp only at hg
  exact k7 _ ⟨hg,Sub.rm []⟩
 unfold Um at hg
 refine rG hV [se 4 true] [] ?_
 cases hg;exact rz hQ
end
section
variable [e8]
set_option maxRecDepth 10000
attribute [local simp] eJ qO qL rl qR qP qM rp qS qQ qN rq qT rT rP su rW rQ rN so rU rR rO sr rV tU tR ui tV
noncomputable def acE:an.Spec:=fj fun(a:ae) (b:ae) (at_:(Bx (List (Int×Int))))=>(SF a b at_).map fun r=>enc r
theorem awi:aL Tryz.prog 136 acE:=by
 have hV:=aW (cs ajI (cs ajJ (cs awj cn)))
 refine pL hV Tryz.func136 rfl Tryz.ntmps136 fun a b at_ r hg _ _ _ _ _ hQ=>?_
 unfold SF at hg
 refine rG hV [se 2 at_,pt 3 0,pt 4 1] [.w 50 a,.w 50 b] ?_
 obtain⟨⟨x2,x3⟩,h4,hg⟩:=ah hg;try dsimp only at hg
 refine rG hV [se 2 at_,pt 3 0,pt 4 1,se 6 x2] [.w 50 a,.w 50 b] ?_ fun K k=>by simp[Ji,h4];exact kx k
 obtain⟨⟨x6,x7⟩,h8,hg⟩:=ah hg;try dsimp only at hg
 refine rG hV [se 2 at_,pt 3 0,pt 4 1,se 6 x2,se 8 x6] [.w 50 a,.w 50 b] ?_ fun K k=>by simp[Ji,h8];exact kx k
 obtain⟨⟨dw,cb⟩,pg,hg⟩:=ah hg;try dsimp only at hg
 refine rG hV [se 2 at_,pt 3 0,pt 4 1,se 6 x2,se 8 x6,se 10 dw] [.w 50 a,.w 50 b] ?_ fun K k=>by simp[Uv,pg];exact kx k
 obtain⟨⟨aU,aX⟩,sT,hg⟩:=ah hg;try dsimp only at hg
 refine rG hV [se 2 at_,pt 3 0,pt 4 1,se 6 x2,se 8 x6,se 10 dw,se 12 aU] [.w 50 a,.w 50 b] ?_ fun K k=>by simp[Uv,sT];exact kx k
 obtain⟨g18,hg⟩:=aK hg
 unfold ax at g18
 obtain⟨g19,hg⟩:=aK hg
 unfold ax at g19
 obtain⟨g20,hg⟩:=aK hg
 unfold ax at g20
 obtain⟨g21,hg⟩:=aK hg
 unfold ax at g21
 obtain⟨g22,hg⟩:=aK hg
 unfold ax at g22
 obtain⟨g23,hg⟩:=aK hg
 unfold ax at g23
 obtain⟨fT,w6,hg⟩:=ah hg
 have aqx:=w6;try simp at aqx
 refine rG hV [se 5 fT] [.w 50 a,.w 50 b] ?_ fun K k=>by simp[alK,w6];(repeat refine ai ?_);exact kx k
 cases hg;exact rz hQ
end
end Go.Proofs.YtjigeffmmcmlnaaGreatDoor
