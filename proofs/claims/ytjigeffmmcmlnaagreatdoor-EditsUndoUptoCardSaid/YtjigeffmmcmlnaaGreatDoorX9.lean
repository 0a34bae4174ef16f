import Derived.Test.YtjigeffmmcmlnaaGreatDoorX7
set_option linter.all false
set_option linter.unnecessarySimpa false
set_option linter.deprecated false
set_option linter.unusedVariables false
set_option linter.unusedSimpArgs false
set_option linter.unusedSectionVars false
namespace Go.Proofs.YtjigeffmmcmlnaaGreatDoor
open Go Go.an au
set_option maxRecDepth 4000
attribute [local instance] cJ
attribute [local congr] ab.kO
attribute [local simp] bu dz dU evalOp bd an.get fk strip bq an.after iI typed gr holds cR R.ok R.bad gI iU jk gW ku ji Op.operands Call.operands dY dA dQ dR iH il fm im gK fg nj nk nm np fK lH lL lJ fL jq lg lp lk ln ng ni jv mD bf D.cells T.eT D.one gH fV gb fo setAt eI fC jC fa gN bw cX iy fU iA gv jV arith et iM jf dG gC iN TD.agg env bR List.map fe iD ff gn gT mapOf iz iq dr mH mI mJ mK mL mM mN mO lK nh ll me mC my mB mr mG lq mi ml jw mE ko jh fh du fj iP gJ jB gone unbox iW fE gB gG lI lh nf jg jS List.contains_cons List.contains_nil lr iO iC iB gm ib gX lC kY mW l6 mw mu mz kr mF mh mj P2.list mA lB kW mU lF lb mZ l9 jQ kM lu kR mP lW jI kC lA kV mT l4 jM kH lE la mY l8 jP kL lD kZ mX l7 jO kJ jX kX mV l5 jN kI lG lf nc ma jW kT mR lY jK kF lv kS mQ lX jJ kD lz kU mS lZ jL kG kQ km lN lO lT lU lP lV lQ lR lS lM nD nH kv kz iQ nB nC nE nF nG nI nJ jD jE nL nM nN nO nP nQ nR nS nq nr nu nv nw nx ny nz nA
section
variable [e8]
set_option maxRecDepth 10000
attribute [local simp] eJ
noncomputable def OA:an.Spec:=vr FF
theorem awc:aL Tryz.prog 124 OA:=by
 have hV:=aW cn
 refine pL hV Tryz.func124 rfl Tryz.ntmps124 fun a0 a1 a2 r hg _ _ _ _ _ hQ=>?_
 unfold FF at hg
 refine rG hV [se 0 a0,se 1 a1,se 2 a2] [] ?_
 obtain⟨ij,bo,hg⟩:=ah hg
 unfold aku at bo
 refine sq [se 6 ij] [] (fun _ k4=>?_) ?_
 ·rcases ay bo with ⟨c5,bo⟩ | ⟨c5,bo⟩
  ·have eE:=c5;try simp at eE
   exact rJ hV (some []) k4 fun K k=>by simp[eE];cases bo;exact k _ (Sub.rm [])
  exact rJ hV (some [11,12,13]) k4 fun K k=>by simp[c5];cases bo;exact k _ (Sub.rm [])
 cases hg;exact rz hQ
noncomputable def acD:an.Spec:=eY IN
theorem ajG:aL Tryz.prog 122 acD:=by
 have hV:=aW cn
 refine go2 hV Tryz.func122 rfl Tryz.ntmps122 fun a0 a1 r hg _ _ _ _ _ hQ=>?_
 unfold IN at hg
 refine rG hV [se 0 a0,se 1 a1] [] ?_
 refine ch (abt=some r) [] [] (fun _ k3=>?_) fun hg=>?_
 ·refine rG hV [se 0 a0,se 1 a1,se 5 (0:Int)] [] ?_
  obtain⟨Db,LW,CN⟩:=ah hg;clear hg
  refine ab.block <| ab.aH (fun(aD:Int)=>⟨[se 0 a0,se 1 a1,se 5 aD],[]⟩) (Nq a0 a1) 0 LW (Sub.rm []) fun aD OS _ hg sd k5=>?_
  unfold Nq at hg;try dsimp only at hg
  refine sG fun _ yL=>?_
  refine rG hV [se 0 a0,se 1 a1,se 5 aD,se 9 (decide (aD < (a0.length:Int)))] [] ?_
  refine cN hg ?_ ?_<;>(clear hg;intro h38 hg)
  ·refine sk yL ?_
   refine ch (Tj aD=some OS) [se 0 a0,se 1 a1,se 5 aD] [] (fun _ yM=>?_) fun hg=>?_
   ·refine ab.block ?_
    obtain⟨iE,AS,hg⟩:=ah hg
    obtain⟨agX,agY,CC⟩:=aY AS;have EC:=CC;try simp at EC
    refine rG hV [se 0 a0,se 1 a1,se 5 aD,se 18 (decide (iE.id=a1))] [] ?_ fun K k=>by simp[CC];(repeat refine ai ?_);exact kx k
    refine cN hg ?_ ?_<;>(clear hg;intro qV hg)
    ·refine rG hV [se 4 aD] [] ?_
     cases sd _ (aF hg).symm;have hg:=CN;try dsimp only at hg
     cases hg;exact rz hQ
    exact ab.skip (yM _ ⟨hg,Sub.rm []⟩)
   unfold Tj at hg
   obtain⟨Eu,hg⟩:=aK hg
   unfold ax at Eu
   refine rH hV [se 0 a0,se 1 a1,se 5 ((aD+1):Int)] [] ?_
   exact k5 _ _ (aF hg).symm (Sub.rm [])
  refine ab.exit ?_
  cases sd _ (aF hg).symm;have hg:=CN;try dsimp only at hg
  exact k3 _ ⟨hg,Sub.rm []⟩
 unfold abt at hg
 refine rG hV [se 4 ((-1):Int)] [] ?_
 cases hg;exact rz hQ
noncomputable def vu:an.Spec:=vr vo
theorem M6:aL Tryz.prog 58 vu:=by
 have hV:=aW cn
 refine pL hV Tryz.func58 rfl Tryz.ntmps58 fun a0 a1 a2 r hg _ _ _ _ _ hQ=>?_
 unfold vo at hg
 refine rG hV [se 0 a0,se 1 a1,se 2 a2] [] ?_
 obtain⟨ij,bo,hg⟩:=ah hg
 unfold akz at bo
 refine sq [se 6 ij] [] (fun _ k4=>?_) ?_
 ·rcases ay bo with ⟨c5,bo⟩ | ⟨c5,bo⟩
  ·have eE:=c5;try simp at eE
   exact rJ hV (some []) k4 fun K k=>by simp[eE];cases bo;exact k _ (Sub.rm [])
  exact rJ hV (some [11,12,13]) k4 fun K k=>by simp[c5];cases bo;exact k _ (Sub.rm [])
 cases hg;exact rz hQ
noncomputable def UB:an.Spec:=eY FH
theorem aj5:aL Tryz.prog 91 UB:=by
 have hV:=aW cn
 refine go2 hV Tryz.func91 rfl Tryz.ntmps91 fun a0 a1 r hg _ _ _ _ _ hQ=>?_
 unfold FH at hg
 refine rG hV [se 0 a0,se 1 a1] [] ?_
 refine ch (abB=some r) [] [] (fun _ k3=>?_) fun hg=>?_
 ·refine rG hV [se 0 a0,se 1 a1,se 5 (0:Int)] [] ?_
  obtain⟨Db,LW,CN⟩:=ah hg;clear hg
  refine ab.block <| ab.aH (fun(aD:Int)=>⟨[se 0 a0,se 1 a1,se 5 aD],[]⟩) (ND a0 a1) 0 LW (Sub.rm []) fun aD OS _ hg sd k5=>?_
  unfold ND at hg;try dsimp only at hg
  refine sG fun _ yL=>?_
  refine rG hV [se 0 a0,se 1 a1,se 5 aD,se 9 (decide (aD < (a0.length:Int)))] [] ?_
  refine cN hg ?_ ?_<;>(clear hg;intro h38 hg)
  ·refine sk yL ?_
   refine ch (Tx aD=some OS) [se 0 a0,se 1 a1,se 5 aD] [] (fun _ yM=>?_) fun hg=>?_
   ·refine ab.block ?_
    obtain⟨iE,AS,hg⟩:=ah hg
    obtain⟨agX,agY,CC⟩:=aY AS;have EC:=CC;try simp at EC
    refine rG hV [se 0 a0,se 1 a1,se 5 aD,se 18 (decide (iE.id=a1))] [] ?_ fun K k=>by simp[CC];(repeat refine ai ?_);exact kx k
    refine cN hg ?_ ?_<;>(clear hg;intro qV hg)
    ·refine rG hV [se 4 aD] [] ?_
     cases sd _ (aF hg).symm;have hg:=CN;try dsimp only at hg
     cases hg;exact rz hQ
    exact ab.skip (yM _ ⟨hg,Sub.rm []⟩)
   unfold Tx at hg
   obtain⟨Eu,hg⟩:=aK hg
   unfold ax at Eu
   refine rH hV [se 0 a0,se 1 a1,se 5 ((aD+1):Int)] [] ?_
   exact k5 _ _ (aF hg).symm (Sub.rm [])
  refine ab.exit ?_
  cases sd _ (aF hg).symm;have hg:=CN;try dsimp only at hg
  exact k3 _ ⟨hg,Sub.rm []⟩
 unfold abB at hg
 refine rG hV [se 4 ((-1):Int)] [] ?_
 cases hg;exact rz hQ
noncomputable def xF:an.Spec:=eY wv
theorem ajN:aL Tryz.prog 24 xF:=by
 have hV:=aW cn
 refine go2 hV Tryz.func24 rfl Tryz.ntmps24 fun a0 a1 r hg _ _ _ _ _ hQ=>?_
 unfold wv at hg
 refine rG hV [se 0 a0,se 1 a1] [] ?_
 refine ch (aby=some r) [] [] (fun _ k3=>?_) fun hg=>?_
 ·refine rG hV [se 0 a0,se 1 a1,se 5 (0:Int)] [] ?_
  obtain⟨Db,LW,CN⟩:=ah hg;clear hg
  refine ab.block <| ab.aH (fun(aD:Int)=>⟨[se 0 a0,se 1 a1,se 5 aD],[]⟩) (NB a0 a1) 0 LW (Sub.rm []) fun aD OS _ hg sd k5=>?_
  unfold NB at hg;try dsimp only at hg
  refine sG fun _ yL=>?_
  refine rG hV [se 0 a0,se 1 a1,se 5 aD,se 9 (decide (aD < (a0.length:Int)))] [] ?_
  refine cN hg ?_ ?_<;>(clear hg;intro h38 hg)
  ·refine sk yL ?_
   refine ch (Tw aD=some OS) [se 0 a0,se 1 a1,se 5 aD] [] (fun _ yM=>?_) fun hg=>?_
   ·refine ab.block ?_
    obtain⟨iE,AS,hg⟩:=ah hg
    obtain⟨agX,agY,CC⟩:=aY AS;have EC:=CC;try simp at EC
    refine rG hV [se 0 a0,se 1 a1,se 5 aD,se 18 (decide (iE.id=a1))] [] ?_ fun K k=>by simp[CC];(repeat refine ai ?_);exact kx k
    refine cN hg ?_ ?_<;>(clear hg;intro qV hg)
    ·refine rG hV [se 4 aD] [] ?_
     cases sd _ (aF hg).symm;have hg:=CN;try dsimp only at hg
     cases hg;exact rz hQ
    exact ab.skip (yM _ ⟨hg,Sub.rm []⟩)
   unfold Tw at hg
   obtain⟨Eu,hg⟩:=aK hg
   unfold ax at Eu
   refine rH hV [se 0 a0,se 1 a1,se 5 ((aD+1):Int)] [] ?_
   exact k5 _ _ (aF hg).symm (Sub.rm [])
  refine ab.exit ?_
  cases sd _ (aF hg).symm;have hg:=CN;try dsimp only at hg
  exact k3 _ ⟨hg,Sub.rm []⟩
 unfold aby at hg
 refine rG hV [se 4 ((-1):Int)] [] ?_
 cases hg;exact rz hQ
noncomputable def FX:an.Spec:=eY IV
theorem ajO:aL Tryz.prog 25 FX:=by
 have hV:=aW cn
 refine go2 hV Tryz.func25 rfl Tryz.ntmps25 fun a0 a1 r hg _ _ _ _ _ hQ=>?_
 unfold IV at hg
 refine rG hV [se 0 a0,se 1 a1] [] ?_
 refine sG fun _ k2=>?_
 refine rG hV [se 0 a0,se 1 a1,se 10 (!decide ((a0.length:Int)=(a1.length:Int)))] [] ?_
 refine cN hg ?_ ?_<;>(clear hg;intro h4 hg)
 ·refine rG hV [se 4 false] [] ?_
  cases hg;exact rz hQ
 refine sk k2 ?_
 refine ch (TA=some r) [] [] (fun _ k7=>?_) fun hg=>?_
 ·refine rG hV [se 0 a0,se 1 a1,se 5 (0:Int)] [] ?_
  obtain⟨qB,ua,pk⟩:=ah hg;clear hg
  refine ab.block <| ab.aH (fun(aD:Int)=>⟨[se 0 a0,se 1 a1,se 5 aD],[]⟩) (NH a0 a1) 0 ua (Sub.rm []) fun aD uq _ hg pq k9=>?_
  unfold NH at hg;try dsimp only at hg
  refine sG fun _ sg=>?_
  refine rG hV [se 0 a0,se 1 a1,se 5 aD,se 14 (decide (aD < (a0.length:Int)))] [] ?_
  refine cN hg ?_ ?_<;>(clear hg;intro uQ hg)
  ·refine sk sg ?_
   refine ch (TB aD=some uq) [se 0 a0,se 1 a1,se 5 aD] [] (fun _ pw=>?_) fun hg=>?_
   ·refine ab.block ?_
    obtain⟨ej,oS,hg⟩:=ah hg
    obtain⟨CD,CE,jY⟩:=aY oS;have qW:=jY;try simp at qW
    obtain⟨fH,rX,hg⟩:=ah hg
    obtain⟨HG,HH,pN⟩:=aY rX;have uS:=pN;try simp at uS
    refine ic hV mixed [se 0 a0,se 1 a1,se 5 aD,se 25 (!decide (ej=fH))] [] 8 [] ?_ fun K k=>by simp[jY,pN];(repeat refine ai ?_);exact kx k
    refine cN hg ?_ ?_<;>(clear hg;intro vS hg)
    ·refine rG hV [se 4 false] [] ?_
     cases pq _ (aF hg).symm;have hg:=pk;try dsimp only at hg
     cases hg;exact rz hQ
    exact ab.skip (pw _ ⟨hg,Sub.rm []⟩)
   unfold TB at hg
   obtain⟨uM,hg⟩:=aK hg
   unfold ax at uM
   refine rH hV [se 0 a0,se 1 a1,se 5 ((aD+1):Int)] [] ?_
   exact k9 _ _ (aF hg).symm (Sub.rm [])
  refine ab.exit ?_
  cases pq _ (aF hg).symm;have hg:=pk;try dsimp only at hg
  exact k7 _ ⟨hg,Sub.rm []⟩
 unfold TA at hg
 refine rG hV [se 4 true] [] ?_
 cases hg;exact rz hQ
noncomputable def FY:an.Spec:=eY IW
theorem ajP:aL Tryz.prog 26 FY:=by
 have hV:=aW cn
 refine go2 hV Tryz.func26 rfl Tryz.ntmps26 fun a0 a1 r hg _ _ _ _ _ hQ=>?_
 unfold IW at hg
 refine rG hV [se 0 a0,se 1 a1] [] ?_
 refine sG fun _ k2=>?_
 refine rG hV [se 0 a0,se 1 a1,se 10 (!decide ((a0.length:Int)=(a1.length:Int)))] [] ?_
 refine cN hg ?_ ?_<;>(clear hg;intro h4 hg)
 ·refine rG hV [se 4 false] [] ?_
  cases hg;exact rz hQ
 refine sk k2 ?_
 refine ch (TC=some r) [] [] (fun _ k7=>?_) fun hg=>?_
 ·refine rG hV [se 0 a0,se 1 a1,se 5 (0:Int)] [] ?_
  obtain⟨qB,ua,pk⟩:=ah hg;clear hg
  refine ab.block <| ab.aH (fun(aD:Int)=>⟨[se 0 a0,se 1 a1,se 5 aD],[]⟩) (NI a0 a1) 0 ua (Sub.rm []) fun aD uq _ hg pq k9=>?_
  unfold NI at hg;try dsimp only at hg
  refine sG fun _ sg=>?_
  refine rG hV [se 0 a0,se 1 a1,se 5 aD,se 14 (decide (aD < (a0.length:Int)))] [] ?_
  refine cN hg ?_ ?_<;>(clear hg;intro uQ hg)
  ·refine sk sg ?_
   refine ch (TE aD=some uq) [se 0 a0,se 1 a1,se 5 aD] [] (fun _ pw=>?_) fun hg=>?_
   ·refine ab.block ?_
    obtain⟨ej,oS,hg⟩:=ah hg
    obtain⟨CD,CE,jY⟩:=aY oS;have qW:=jY;try simp at qW
    obtain⟨fH,rX,hg⟩:=ah hg
    obtain⟨HG,HH,pN⟩:=aY rX;have uS:=pN;try simp at uS
    refine ic hV mixed [se 0 a0,se 1 a1,se 5 aD,se 25 (!decide (ej=fH))] [] 8 [] ?_ fun K k=>by simp[jY,pN];(repeat refine ai ?_);exact kx k
    refine cN hg ?_ ?_<;>(clear hg;intro vS hg)
    ·refine rG hV [se 4 false] [] ?_
     cases pq _ (aF hg).symm;have hg:=pk;try dsimp only at hg
     cases hg;exact rz hQ
    exact ab.skip (pw _ ⟨hg,Sub.rm []⟩)
   unfold TE at hg
   obtain⟨uM,hg⟩:=aK hg
   unfold ax at uM
   refine rH hV [se 0 a0,se 1 a1,se 5 ((aD+1):Int)] [] ?_
   exact k9 _ _ (aF hg).symm (Sub.rm [])
  refine ab.exit ?_
  cases pq _ (aF hg).symm;have hg:=pk;try dsimp only at hg
  exact k7 _ ⟨hg,Sub.rm []⟩
 unfold TC at hg
 refine rG hV [se 4 true] [] ?_
 cases hg;exact rz hQ
noncomputable def alX:an.Spec:=eY Ns
theorem awC:aL Tryz.prog 38 alX:=by
 have hV:=aW cn
 refine go2 hV Tryz.func38 rfl Tryz.ntmps38 fun a0 a1 r hg _ _ _ _ _ hQ=>?_
 unfold Ns at hg
 refine rG hV [se 0 a0,se 1 a1] [] ?_
 refine sG fun _ k2=>?_
 refine rG hV [se 0 a0,se 1 a1,se 10 (!decide ((a0.length:Int)=(a1.length:Int)))] [] ?_
 refine cN hg ?_ ?_<;>(clear hg;intro h4 hg)
 ·refine rG hV [se 4 false] [] ?_
  cases hg;exact rz hQ
 refine sk k2 ?_
 refine ch (Tl=some r) [] [] (fun _ k7=>?_) fun hg=>?_
 ·refine rG hV [se 0 a0,se 1 a1,se 5 (0:Int)] [] ?_
  obtain⟨qB,ua,pk⟩:=ah hg;clear hg
  refine ab.block <| ab.aH (fun(aD:Int)=>⟨[se 0 a0,se 1 a1,se 5 aD],[]⟩) (Nt a0 a1) 0 ua (Sub.rm []) fun aD uq _ hg pq k9=>?_
  unfold Nt at hg;try dsimp only at hg
  refine sG fun _ sg=>?_
  refine rG hV [se 0 a0,se 1 a1,se 5 aD,se 14 (decide (aD < (a0.length:Int)))] [] ?_
  refine cN hg ?_ ?_<;>(clear hg;intro uQ hg)
  ·refine sk sg ?_
   refine ch (Tn aD=some uq) [se 0 a0,se 1 a1,se 5 aD] [] (fun _ pw=>?_) fun hg=>?_
   ·refine ab.block ?_
    obtain⟨ej,oS,hg⟩:=ah hg
    obtain⟨CD,CE,jY⟩:=aY oS;have qW:=jY;try simp at qW
    obtain⟨fH,rX,hg⟩:=ah hg
    obtain⟨HG,HH,pN⟩:=aY rX;have uS:=pN;try simp at uS
    refine ic hV mixed [se 0 a0,se 1 a1,se 5 aD,se 25 (!decide (ej=fH))] [] 8 [] ?_ fun K k=>by simp[jY,pN];(repeat refine ai ?_);exact kx k
    refine cN hg ?_ ?_<;>(clear hg;intro vS hg)
    ·refine rG hV [se 4 false] [] ?_
     cases pq _ (aF hg).symm;have hg:=pk;try dsimp only at hg
     cases hg;exact rz hQ
    exact ab.skip (pw _ ⟨hg,Sub.rm []⟩)
   unfold Tn at hg
   obtain⟨uM,hg⟩:=aK hg
   unfold ax at uM
   refine rH hV [se 0 a0,se 1 a1,se 5 ((aD+1):Int)] [] ?_
   exact k9 _ _ (aF hg).symm (Sub.rm [])
  refine ab.exit ?_
  cases pq _ (aF hg).symm;have hg:=pk;try dsimp only at hg
  exact k7 _ ⟨hg,Sub.rm []⟩
 unfold Tl at hg
 refine rG hV [se 4 true] [] ?_
 cases hg;exact rz hQ
noncomputable def pC:an.Spec:=eY z7
theorem M3:aL Tryz.prog 14 pC:=by
 have hV:=aW (cs ajO (cs ajP (cs awC cn)))
 refine go2 hV Tryz.func14 rfl Tryz.ntmps14 fun a0 a1 r hg _ _ _ _ _ hQ=>?_
 unfold z7 at hg
 refine rG hV [pt 2 0,pt 3 1] [.w 26 a0,.w 26 a1] ?_
 obtain⟨x2,h3,hg⟩:=ah hg
 refine rG hV [pt 2 0,pt 3 1,se 5 x2] [.w 26 a0,.w 26 a1] ?_ fun K k=>by simp[FX,h3];exact kx k
 obtain⟨x5,h6,hg⟩:=ah hg
 refine rG hV [pt 2 0,pt 3 1,se 5 x2,se 6 x5] [.w 26 a0,.w 26 a1] ?_ fun K k=>by simp[FY,h6];exact kx k
 obtain⟨x8,h9,hg⟩:=ah hg
 refine rG hV [pt 2 0,pt 3 1,se 5 x2,se 6 x5,se 7 x8] [.w 26 a0,.w 26 a1] ?_ fun K k=>by simp[alX,h9];exact kx k
 obtain⟨adL,dF,hg⟩:=ah hg
 unfold TG at dF
 refine sq [se 4 adL] [] (fun _ o0=>?_) ?_
 ·rcases ay dF with ⟨hG,dF⟩ | ⟨hG,dF⟩
  ·have eo:=eq_true (of_decide_eq_true hG)
   rcases ay dF with ⟨fw,dF⟩ | ⟨fw,dF⟩
   ·rcases ay dF with ⟨gd,dF⟩ | ⟨gd,dF⟩
    ·exact rJ hV (some []) o0 fun K k=>by simp[eo,fw,gd];cases dF;exact k _ (Sub.rm [])
    exact rJ hV (some [35]) o0 fun K k=>by simp[eo,fw,gd];cases dF;exact k _ (Sub.rm [])
   exact rJ hV (some [32,35]) o0 fun K k=>by simp[eo,fw];cases dF;exact k _ (Sub.rm [])
  have eo:=hG;try simp at eo
  exact rJ hV (some [29,32,35]) o0 fun K k=>by simp[eo];cases dF;exact k _ (Sub.rm [])
 cases hg;exact rz hQ
noncomputable def Jg:an.Spec:=eA IT
theorem ajC:aL Tryz.prog 10 Jg:=by
 have hV:=aW cn
 refine dT hV Tryz.func10 rfl Tryz.ntmps10 fun a0 r hg _ _ _ _ _ hQ=>?_
 unfold IT at hg
 refine rG hV [pt 1 0] [.w 26 a0] ?_
 obtain⟨Gr,bo,hg⟩:=ah hg
 unfold Tv at bo
 refine sq [se 2 Gr] [] (fun _ k4=>?_) ?_
 ·rcases ay bo with ⟨c5,bo⟩ | ⟨c5,bo⟩
  ·have eE:=c5;try simp at eE
   rcases ay bo with ⟨c6,bo⟩ | ⟨c6,bo⟩
   ·have rM:=c6;try simp at rM
    exact rJ hV (some []) k4 fun K k=>by simp[eE,rM];cases bo;exact k _ (Sub.rm [])
   exact rJ hV (some [14,15,16,17]) k4 fun K k=>by simp[eE,c6];cases bo;exact k _ (Sub.rm [])
  exact rJ hV (some [8,9,10,11,14,15,16,17]) k4 fun K k=>by simp[c5];cases bo;exact k _ (Sub.rm [])
 cases hg;exact rz hQ
noncomputable def Jq:an.Spec:=vr FP
theorem ajU:aL Tryz.prog 36 Jq:=by
 have hV:=aW cn
 refine pL hV Tryz.func36 rfl Tryz.ntmps36 fun a0 a1 a2 r hg _ _ _ _ _ hQ=>?_
 unfold FP at hg
 refine rG hV [se 0 a0,se 1 a1,se 2 a2] [] ?_
 obtain⟨ij,bo,hg⟩:=ah hg
 unfold akF at bo
 refine sq [se 6 ij] [] (fun _ k4=>?_) ?_
 ·rcases ay bo with ⟨c5,bo⟩ | ⟨c5,bo⟩
  ·have eE:=c5;try simp at eE
   exact rJ hV (some []) k4 fun K k=>by simp[eE];cases bo;exact k _ (Sub.rm [])
  exact rJ hV (some [11,12,13]) k4 fun K k=>by simp[c5];cases bo;exact k _ (Sub.rm [])
 cases hg;exact rz hQ
noncomputable def sv:an.Spec:=eY Aa
theorem SQ:aL Tryz.prog 28 sv:=by
 have hV:=aW cn
 refine go2 hV Tryz.func28 rfl Tryz.ntmps28 fun a0 a1 r hg _ _ _ _ _ hQ=>?_
 unfold Aa at hg
 refine rG hV [pt 2 0,pt 3 1] [.w 52 a0,.w 52 a1] ?_
 obtain⟨yY,bo,hg⟩:=ah hg
 unfold abS at bo
 refine sq [se 4 yY] [] (fun _ k4=>?_) ?_
 ·rcases ay bo with ⟨c5,bo⟩ | ⟨c5,bo⟩
  ·have eE:=c5;try simp at eE
   exact rJ hV (some [11,12,13,14,15,16,17,18,19,20,21,22]) k4 fun K k=>by simp[eE];cases bo;exact k _ (Sub.rm [])
  rcases ay bo with ⟨c7,bo⟩ | ⟨c7,bo⟩
  ·have vJ:=eq_true (of_decide_eq_true c7)
   exact rJ hV (some []) k4 fun K k=>by simp[c5,vJ];cases bo;exact k _ (Sub.rm [])
  have vJ:=c7;try simp at vJ
  exact rJ hV (some [17,18,19,20,21]) k4 fun K k=>by simp[c5,vJ];cases bo;exact k _ (Sub.rm [])
 cases hg;exact rz hQ
noncomputable def acT:an.Spec:=eY N3
theorem awT:aL Tryz.prog 87 acT:=by
 have hV:=aW cn
 refine go2 hV Tryz.func87 rfl Tryz.ntmps87 fun a0 a1 r hg _ _ _ _ _ hQ=>?_
 unfold N3 at hg
 refine rG hV [pt 2 0,pt 3 1] [.w 52 a0,.w 52 a1] ?_
 obtain⟨yY,bo,hg⟩:=ah hg
 unfold abW at bo
 refine sq [se 4 yY] [] (fun _ k4=>?_) ?_
 ·rcases ay bo with ⟨c5,bo⟩ | ⟨c5,bo⟩
  ·have eE:=eq_true (of_decide_eq_true c5)
   exact rJ hV (some []) k4 fun K k=>by simp[eE];cases bo;exact k _ (Sub.rm [])
  have eE:=c5;try simp at eE
  exact rJ hV (some [11,12,13,14,15]) k4 fun K k=>by simp[eE];cases bo;exact k _ (Sub.rm [])
 cases hg;exact rz hQ
noncomputable def Ae:an.Spec:=eY tz
theorem aaQ:aL Tryz.prog 27 Ae:=by
 have hV:=aW (cs SQ cn)
 refine go2 hV Tryz.func27 rfl Tryz.ntmps27 fun a0 a1 r hg _ _ _ _ _ hQ=>?_
 unfold tz at hg
 refine rG hV [se 0 a0,se 1 a1] [] ?_
 refine rG hV [se 0 a0,se 1 a1,se 5 ((-1):Int)] [] ?_
 refine cH (fun sH:Int=>abQ sH=some r) (fun sH=>⟨[se 5 sH],[]⟩) (fun _ k4=>?_) fun sH hg=>?_
 ·refine rG hV [se 0 a0,se 1 a1,se 5 ((-1):Int),se 6 (0:Int)] [] ?_
  obtain⟨o53,aso,asV⟩:=ah hg;clear hg
  refine ab.block <| ab.aH (fun((aD,ct):Int×Int)=>⟨[se 0 a0,se 1 a1,se 5 aD,se 6 ct],[]⟩) (FJ a0 a1) ((-1),0) aso (Sub.rm []) fun z56 w58 _ hg atu k6=>?_
  obtain⟨aD,ct⟩:=z56
  unfold FJ at hg;try dsimp only at hg
  refine sG fun _ tq=>?_
  refine rG hV [se 0 a0,se 1 a1,se 5 aD,se 6 ct,se 10 (decide (ct < (a0.length:Int)))] [] ?_
  refine cN hg ?_ ?_<;>(clear hg;intro Lp hg)
  ·refine sk tq ?_
   refine cH (fun GL:Int=>NU ct GL=some w58) (fun GL=>⟨[se 0 a0,se 1 a1,se 5 GL,se 6 ct],[]⟩) (fun _ RS=>?_) fun GL hg=>?_
   ·refine ab.block ?_
    obtain⟨aew,tf,hg⟩:=ah hg
    unfold abR at tf
    refine sq [se 0 a0,se 1 a1,se 5 aD,se 6 ct,se 35 aew] [] (fun _ MA=>?_) ?_
    ·obtain⟨JH,Lr,tf⟩:=ah tf
     obtain⟨aDL,aDM,QO⟩:=aY Lr;have arc:=QO;try simp at arc
     rcases ay tf with ⟨Ec,tf⟩ | ⟨Ec,tf⟩
     ·have ze:=eq_true (of_decide_eq_true Ec)
      rcases ay tf with ⟨PX,tf⟩ | ⟨PX,tf⟩
      ·have Ky:=PX;try simp at Ky
       exact cU hV mixed (some [25,26,27,28,29,30,31,32,33]) 20 [] MA fun K k=>by simp[sv,QO,ze,Ky];(repeat refine ai ?_);cases tf;exact k _ (Sub.rm [])
      have Ky:=PX;try simp at Ky
      obtain⟨x66,h67,tf⟩:=ah tf
      obtain⟨aDP,aDQ,aha⟩:=aY h67;have are:=aha;try simp at are
      obtain⟨oN,EJ,tf⟩:=ah tf
      exact cU hV mixed (some []) 20 [] MA fun K k=>by simp[sv,QO,ze,PX,Ky,aha,EJ];(repeat refine ai ?_);cases tf;exact k _ (Sub.rm [])
     have ze:=Ec;try simp at ze
     exact cU hV mixed (some [22,23,24,25,26,27,28,29,30,31,32,33,34]) 20 [] MA fun K k=>by simp[sv,QO,ze];(repeat refine ai ?_);cases tf;exact k _ (Sub.rm [])
    refine cN hg ?_ ?_<;>(clear hg;intro h78 hg)
    ·refine rH hV [se 0 a0,se 1 a1,se 5 ct,se 6 ct] [] ?_
     exact RS _ ⟨_,hg,Sub.rm []⟩
    exact ab.skip (RS _ ⟨_,hg,Sub.rm []⟩)
   unfold NU at hg
   obtain⟨g80,hg⟩:=aK hg
   unfold ax at g80
   refine rH hV [se 0 a0,se 1 a1,se 5 GL,se 6 ((ct+1):Int)] [] ?_
   exact k6 _ _ (aF hg).symm (Sub.rm [])
  refine ab.exit ?_
  cases atu _ (aF hg).symm;have hg:=asV;try dsimp only at hg
  exact k4 _ ⟨_,hg,Sub.rm []⟩
 unfold abQ at hg
 refine rG hV [se 4 sH] [] ?_
 cases hg;exact rz hQ
noncomputable def oL:an.Spec:=eY Ab
theorem aaM:aL Tryz.prog 18 oL:=by
 have hV:=aW cn
 refine go2 hV Tryz.func18 rfl Tryz.ntmps18 fun a0 a1 r hg _ _ _ _ _ hQ=>?_
 unfold Ab at hg
 refine rG hV [se 0 a0,se 1 a1] [] ?_
 refine sG fun _ k2=>?_
 refine rG hV [se 0 a0,se 1 a1,se 10 (!decide ((a0.length:Int)=(a1.length:Int)))] [] ?_
 refine cN hg ?_ ?_<;>(clear hg;intro h4 hg)
 ·refine rG hV [se 4 false] [] ?_
  cases hg;exact rz hQ
 refine sk k2 ?_
 refine ch (TZ=some r) [] [] (fun _ k7=>?_) fun hg=>?_
 ·refine rG hV [se 0 a0,se 1 a1,se 5 (0:Int)] [] ?_
  obtain⟨qB,ua,pk⟩:=ah hg;clear hg
  refine ab.block <| ab.aH (fun(aD:Int)=>⟨[se 0 a0,se 1 a1,se 5 aD],[]⟩) (N2 a0 a1) 0 ua (Sub.rm []) fun aD uq _ hg pq k9=>?_
  unfold N2 at hg;try dsimp only at hg
  refine sG fun _ sg=>?_
  refine rG hV [se 0 a0,se 1 a1,se 5 aD,se 14 (decide (aD < (a0.length:Int)))] [] ?_
  refine cN hg ?_ ?_<;>(clear hg;intro uQ hg)
  ·refine sk sg ?_
   refine ch (T0 aD=some uq) [se 0 a0,se 1 a1,se 5 aD] [] (fun _ pw=>?_) fun hg=>?_
   ·refine ab.block ?_
    obtain⟨ej,oS,hg⟩:=ah hg
    obtain⟨CD,CE,jY⟩:=aY oS;have qW:=jY;try simp at qW
    obtain⟨fH,rX,hg⟩:=ah hg
    obtain⟨HG,HH,pN⟩:=aY rX;have uS:=pN;try simp at uS
    refine ic hV mixed [se 0 a0,se 1 a1,se 5 aD,se 25 (!decide (ej=fH))] [] 8 [] ?_ fun K k=>by simp[jY,pN];(repeat refine ai ?_);exact kx k
    refine cN hg ?_ ?_<;>(clear hg;intro vS hg)
    ·refine rG hV [se 4 false] [] ?_
     cases pq _ (aF hg).symm;have hg:=pk;try dsimp only at hg
     cases hg;exact rz hQ
    exact ab.skip (pw _ ⟨hg,Sub.rm []⟩)
   unfold T0 at hg
   obtain⟨uM,hg⟩:=aK hg
   unfold ax at uM
   refine rH hV [se 0 a0,se 1 a1,se 5 ((aD+1):Int)] [] ?_
   exact k9 _ _ (aF hg).symm (Sub.rm [])
  refine ab.exit ?_
  cases pq _ (aF hg).symm;have hg:=pk;try dsimp only at hg
  exact k7 _ ⟨hg,Sub.rm []⟩
 unfold TZ at hg
 refine rG hV [se 4 true] [] ?_
 cases hg;exact rz hQ
noncomputable def xE:an.Spec:=eY FL
theorem aaN:aL Tryz.prog 19 xE:=by
 have hV:=aW cn
 refine go2 hV Tryz.func19 rfl Tryz.ntmps19 fun a0 a1 r hg _ _ _ _ _ hQ=>?_
 unfold FL at hg
 refine rG hV [se 0 a0,se 1 a1] [] ?_
 refine sG fun _ k2=>?_
 refine rG hV [se 0 a0,se 1 a1,se 10 (!decide ((a0.length:Int)=(a1.length:Int)))] [] ?_
 refine cN hg ?_ ?_<;>(clear hg;intro h4 hg)
 ·refine rG hV [se 4 false] [] ?_
  cases hg;exact rz hQ
 refine sk k2 ?_
 refine ch (TV=some r) [] [] (fun _ k7=>?_) fun hg=>?_
 ·refine rG hV [se 0 a0,se 1 a1,se 5 (0:Int)] [] ?_
  obtain⟨qB,ua,pk⟩:=ah hg;clear hg
  refine ab.block <| ab.aH (fun(aD:Int)=>⟨[se 0 a0,se 1 a1,se 5 aD],[]⟩) (N0 a0 a1) 0 ua (Sub.rm []) fun aD uq _ hg pq k9=>?_
  unfold N0 at hg;try dsimp only at hg
  refine sG fun _ sg=>?_
  refine rG hV [se 0 a0,se 1 a1,se 5 aD,se 14 (decide (aD < (a0.length:Int)))] [] ?_
  refine cN hg ?_ ?_<;>(clear hg;intro uQ hg)
  ·refine sk sg ?_
   refine ch (TW aD=some uq) [se 0 a0,se 1 a1,se 5 aD] [] (fun _ pw=>?_) fun hg=>?_
   ·refine ab.block ?_
    obtain⟨ej,oS,hg⟩:=ah hg
    obtain⟨CD,CE,jY⟩:=aY oS;have qW:=jY;try simp at qW
    obtain⟨fH,rX,hg⟩:=ah hg
    obtain⟨HG,HH,pN⟩:=aY rX;have uS:=pN;try simp at uS
    refine ic hV mixed [se 0 a0,se 1 a1,se 5 aD,se 25 (!decide (ej=fH))] [] 8 [] ?_ fun K k=>by simp[jY,pN];(repeat refine ai ?_);exact kx k
    refine cN hg ?_ ?_<;>(clear hg;intro vS hg)
    ·refine rG hV [se 4 false] [] ?_
     cases pq _ (aF hg).symm;have hg:=pk;try dsimp only at hg
     cases hg;exact rz hQ
    exact ab.skip (pw _ ⟨hg,Sub.rm []⟩)
   unfold TW at hg
   obtain⟨uM,hg⟩:=aK hg
   unfold ax at uM
   refine rH hV [se 0 a0,se 1 a1,se 5 ((aD+1):Int)] [] ?_
   exact k9 _ _ (aF hg).symm (Sub.rm [])
  refine ab.exit ?_
  cases pq _ (aF hg).symm;have hg:=pk;try dsimp only at hg
  exact k7 _ ⟨hg,Sub.rm []⟩
 unfold TV at hg
 refine rG hV [se 4 true] [] ?_
 cases hg;exact rz hQ
noncomputable def BY:an.Spec:=eY FM
theorem ajK:aL Tryz.prog 15 BY:=by
 have hV:=aW cn
 refine go2 hV Tryz.func15 rfl Tryz.ntmps15 fun a0 a1 r hg _ _ _ _ _ hQ=>?_
 unfold FM at hg
 refine rG hV [se 0 a0,se 1 a1] [] ?_
 refine sG fun _ k2=>?_
 refine rG hV [se 0 a0,se 1 a1,se 10 (!decide ((a0.length:Int)=(a1.length:Int)))] [] ?_
 refine cN hg ?_ ?_<;>(clear hg;intro h4 hg)
 ·refine rG hV [se 4 false] [] ?_
  cases hg;exact rz hQ
 refine sk k2 ?_
 refine ch (TX=some r) [] [] (fun _ k7=>?_) fun hg=>?_
 ·refine rG hV [se 0 a0,se 1 a1,se 5 (0:Int)] [] ?_
  obtain⟨qB,ua,pk⟩:=ah hg;clear hg
  refine ab.block <| ab.aH (fun(aD:Int)=>⟨[se 0 a0,se 1 a1,se 5 aD],[]⟩) (N1 a0 a1) 0 ua (Sub.rm []) fun aD uq _ hg pq k9=>?_
  unfold N1 at hg;try dsimp only at hg
  refine sG fun _ sg=>?_
  refine rG hV [se 0 a0,se 1 a1,se 5 aD,se 14 (decide (aD < (a0.length:Int)))] [] ?_
  refine cN hg ?_ ?_<;>(clear hg;intro uQ hg)
  ·refine sk sg ?_
   refine ch (TY aD=some uq) [se 0 a0,se 1 a1,se 5 aD] [] (fun _ pw=>?_) fun hg=>?_
   ·refine ab.block ?_
    obtain⟨ej,oS,hg⟩:=ah hg
    obtain⟨CD,CE,jY⟩:=aY oS;have qW:=jY;try simp at qW
    obtain⟨fH,rX,hg⟩:=ah hg
    obtain⟨HG,HH,pN⟩:=aY rX;have uS:=pN;try simp at uS
    refine ic hV mixed [se 0 a0,se 1 a1,se 5 aD,se 25 (!decide (ej=fH))] [] 8 [] ?_ fun K k=>by simp[jY,pN];(repeat refine ai ?_);exact kx k
    refine cN hg ?_ ?_<;>(clear hg;intro vS hg)
    ·refine rG hV [se 4 false] [] ?_
     cases pq _ (aF hg).symm;have hg:=pk;try dsimp only at hg
     cases hg;exact rz hQ
    exact ab.skip (pw _ ⟨hg,Sub.rm []⟩)
   unfold TY at hg
   obtain⟨uM,hg⟩:=aK hg
   unfold ax at uM
   refine rH hV [se 0 a0,se 1 a1,se 5 ((aD+1):Int)] [] ?_
   exact k9 _ _ (aF hg).symm (Sub.rm [])
  refine ab.exit ?_
  cases pq _ (aF hg).symm;have hg:=pk;try dsimp only at hg
  exact k7 _ ⟨hg,Sub.rm []⟩
 unfold TX at hg
 refine rG hV [se 4 true] [] ?_
 cases hg;exact rz hQ
noncomputable def Us:an.Spec:=eA NT
theorem av5:aL Tryz.prog 11 Us:=by
 have hV:=aW cn
 refine dT hV Tryz.func11 rfl Tryz.ntmps11 fun a0 r hg _ _ _ _ _ hQ=>?_
 unfold NT at hg
 refine rG hV [se 0 a0] [] ?_
 obtain⟨Gr,bo,hg⟩:=ah hg
 unfold abP at bo
 refine sq [se 2 Gr] [] (fun _ k4=>?_) ?_
 ·rcases ay bo with ⟨c5,bo⟩ | ⟨c5,bo⟩
  ·have eE:=c5;try simp at eE
   exact rJ hV (some [7,8,9,10,11,12,13,14]) k4 fun K k=>by simp[eE];cases bo;exact k _ (Sub.rm [])
  rcases ay bo with ⟨c7,bo⟩ | ⟨c7,bo⟩
  ·have vJ:=c7;try simp at vJ
   exact rJ hV (some []) k4 fun K k=>by simp[c5,vJ];cases bo;exact k _ (Sub.rm [])
  exact rJ hV (some [11,12,13]) k4 fun K k=>by simp[c5,c7];cases bo;exact k _ (Sub.rm [])
 cases hg;exact rz hQ
noncomputable def al1:an.Spec:=vr N7
theorem awI:aL Tryz.prog 55 al1:=by
 have hV:=aW cn
 refine pL hV Tryz.func55 rfl Tryz.ntmps55 fun a0 a1 a2 r hg _ _ _ _ _ hQ=>?_
 unfold N7 at hg
 refine rG hV [se 0 a0,se 1 a1,se 2 a2] [] ?_
 refine rG hV [se 0 a0,se 1 a1,se 2 a2,se 7 ((-1):Int)] [] ?_
 refine cH (fun ik:Int=>T6 a1 a2 ik=some r) (fun ik=>⟨[se 1 a1,se 2 a2,se 7 ik],[]⟩) (fun _ k4=>?_) fun ik hg=>?_
 ·refine rG hV [se 0 a0,se 1 a1,se 2 a2,se 7 ((-1):Int),se 8 (0:Int)] [] ?_
  obtain⟨o49,XQ,Yb⟩:=ah hg;clear hg
  refine ab.block <| ab.aH (fun((n3,aO):Int×Int)=>⟨[se 0 a0,se 1 a1,se 2 a2,se 7 n3,se 8 aO],[]⟩) (I7 a0 a2) ((-1),0) XQ (Sub.rm []) fun z52 w54 _ hg YC k6=>?_
  obtain⟨n3,aO⟩:=z52
  unfold I7 at hg;try dsimp only at hg
  refine sG fun _ C0=>?_
  refine rG hV [se 0 a0,se 1 a1,se 2 a2,se 7 n3,se 8 aO,se 13 (decide (aO < (a0.length:Int)))] [] ?_
  refine cN hg ?_ ?_<;>(clear hg;intro zA hg)
  ·refine sk C0 ?_
   refine cH (fun GI:Int=>N9 aO GI=some w54) (fun GI=>⟨[se 0 a0,se 1 a1,se 2 a2,se 7 GI,se 8 aO],[]⟩) (fun _ tq=>?_) fun GI hg=>?_
   ·refine ab.block ?_
    obtain⟨aer,xo,hg⟩:=ah hg
    unfold ab3 at xo
    refine sq [se 0 a0,se 1 a1,se 2 a2,se 7 n3,se 8 aO,se 35 aer] [] (fun _ Fi=>?_) ?_
    ·obtain⟨oM,Lp,xo⟩:=ah xo
     obtain⟨aq7,aq8,EH⟩:=aY Lp;have Xb:=EH;try simp at Xb
     rcases ay xo with ⟨Co,xo⟩ | ⟨Co,xo⟩
     ·have Kw:=Co;try simp at Kw
      rcases ay xo with ⟨PV,xo⟩ | ⟨PV,xo⟩
      ·have PW:=PV;try simp at PW
       exact rJ hV (some [27,28,29,30,31,32,33]) Fi fun K k=>by simp[EH,Kw,PW];(repeat refine ai ?_);cases xo;exact k _ (Sub.rm [])
      have PW:=PV;try simp at PW
      exact rJ hV (some []) Fi fun K k=>by simp[EH,Kw,PV];(repeat refine ai ?_);cases xo;exact k _ (Sub.rm [])
     have Kw:=Co;try simp at Kw
     exact rJ hV (some [24,25,26,27,28,29,30,31,32,33,34]) Fi fun K k=>by simp[EH,Co];(repeat refine ai ?_);cases xo;exact k _ (Sub.rm [])
    refine cN hg ?_ ?_<;>(clear hg;intro Xe hg)
    ·obtain⟨pY,AU,hg⟩:=ah hg
     obtain⟨ahc,ahd,AV⟩:=aY AU;have EK:=AV;try simp at EK
     refine rH hV [se 0 a0,se 1 a1,se 2 a2,se 7 pY.id,se 8 aO] [] ?_ fun K k=>by simp[AV];(repeat refine ai ?_);exact kx k
     exact tq _ ⟨_,hg,Sub.rm []⟩
    exact ab.skip (tq _ ⟨_,hg,Sub.rm []⟩)
   unfold N9 at hg
   obtain⟨Qv,hg⟩:=aK hg
   unfold ax at Qv
   refine rH hV [se 0 a0,se 1 a1,se 2 a2,se 7 GI,se 8 ((aO+1):Int)] [] ?_
   exact k6 _ _ (aF hg).symm (Sub.rm [])
  refine ab.exit ?_
  cases YC _ (aF hg).symm;have hg:=Yb;try dsimp only at hg
  exact k4 _ ⟨_,hg,Sub.rm []⟩
 unfold T6 at hg
 refine cH (fun GQ:Int=>ab1 GQ=some r) (fun GQ=>⟨[se 7 GQ],[]⟩) (fun _ RV=>?_) fun GQ hg=>?_
 ·refine rG hV [se 1 a1,se 2 a2,se 7 ik,se 9 (0:Int)] [] ?_
  obtain⟨aEi,arV,asK⟩:=ah hg;clear hg
  refine ab.block <| ab.aH (fun((y0,pZ):Int×Int)=>⟨[se 1 a1,se 2 a2,se 7 y0,se 9 pZ],[]⟩) (I6 a1 a2) (ik,0) arV (Sub.rm []) fun z127 aAH _ hg atj Zm=>?_
  obtain⟨y0,pZ⟩:=z127
  unfold I6 at hg;try dsimp only at hg
  refine sG fun _ atP=>?_
  refine rG hV [se 1 a1,se 2 a2,se 7 y0,se 9 pZ,se 44 (decide (pZ < (a1.length:Int)))] [] ?_
  refine cN hg ?_ ?_<;>(clear hg;intro apL hg)
  ·refine sk atP ?_
   refine cH (fun Gi:Int=>N8 pZ Gi=some aAH) (fun Gi=>⟨[se 1 a1,se 2 a2,se 7 Gi,se 9 pZ],[]⟩) (fun _ aip=>?_) fun Gi hg=>?_
   ·refine ab.block ?_
    obtain⟨adQ,xi,hg⟩:=ah hg
    unfold ab2 at xi
    refine sq [se 1 a1,se 2 a2,se 7 y0,se 9 pZ,se 66 adQ] [] (fun _ Y0=>?_) ?_
    ·obtain⟨adn,apO,xi⟩:=ah xi
     obtain⟨aB1,aB2,QB⟩:=aY apO;have apP:=QB;try simp at apP
     rcases ay xi with ⟨Px,xi⟩ | ⟨Px,xi⟩
     ·have J5:=Px;try simp at J5
      rcases ay xi with ⟨Py,xi⟩ | ⟨Py,xi⟩
      ·have Pz:=Py;try simp at Pz
       exact rJ hV (some [58,59,60,61,62,63,64]) Y0 fun K k=>by simp[QB,J5,Pz];(repeat refine ai ?_);cases xi;exact k _ (Sub.rm [])
      have Pz:=Py;try simp at Pz
      exact rJ hV (some []) Y0 fun K k=>by simp[QB,J5,Py];(repeat refine ai ?_);cases xi;exact k _ (Sub.rm [])
     have J5:=Px;try simp at J5
     exact rJ hV (some [55,56,57,58,59,60,61,62,63,64,65]) Y0 fun K k=>by simp[QB,Px];(repeat refine ai ?_);cases xi;exact k _ (Sub.rm [])
    refine cN hg ?_ ?_<;>(clear hg;intro apT hg)
    ·obtain⟨ado,apU,hg⟩:=ah hg
     obtain⟨aB6,aB7,ags⟩:=aY apU;have apV:=ags;try simp at apV
     refine rH hV [se 1 a1,se 2 a2,se 7 ado.id,se 9 pZ] [] ?_ fun K k=>by simp[ags];(repeat refine ai ?_);exact kx k
     exact aip _ ⟨_,hg,Sub.rm []⟩
    exact ab.skip (aip _ ⟨_,hg,Sub.rm []⟩)
   unfold N8 at hg
   obtain⟨aoW,hg⟩:=aK hg
   unfold ax at aoW
   refine rH hV [se 1 a1,se 2 a2,se 7 Gi,se 9 ((pZ+1):Int)] [] ?_
   exact Zm _ _ (aF hg).symm (Sub.rm [])
  refine ab.exit ?_
  cases atj _ (aF hg).symm;have hg:=asK;try dsimp only at hg
  exact RV _ ⟨_,hg,Sub.rm []⟩
 unfold ab1 at hg
 refine rG hV [se 6 GQ] [] ?_
 cases hg;exact rz hQ
noncomputable def alZ:an.Spec:=eA NP
theorem awF:aL Tryz.prog 51 alZ:=by
 have hV:=aW (cs awT cn)
 refine dT hV Tryz.func51 rfl Tryz.ntmps51 fun a0 r hg _ _ _ _ _ hQ=>?_
 unfold NP at hg
 refine rG hV [se 0 a0] [] ?_
 refine ch (abL=some r) [] [] (fun _ k3=>?_) fun hg=>?_
 ·refine rG hV [se 0 a0,se 3 (0:Int)] [] ?_
  obtain⟨ajq,ar0,ahB⟩:=ah hg;clear hg
  refine ab.block <| ab.aH (fun(bj:Int)=>⟨[se 0 a0,se 3 bj],[]⟩) (NQ a0) 0 ar0 (Sub.rm []) fun bj aAM _ hg ah5 k5=>?_
  unfold NQ at hg;try dsimp only at hg
  refine sG fun _ at0=>?_
  refine rG hV [se 0 a0,se 3 bj,se 8 (decide (bj < (a0.length:Int)))] [] ?_
  refine cN hg ?_ ?_<;>(clear hg;intro agy hg)
  ·refine sk at0 ?_
   refine ch (TM bj=some aAM) [se 0 a0,se 3 bj] [] (fun _ Y4=>?_) fun hg=>?_
   ·refine ab.block ?_
    refine rG hV [se 0 a0,se 3 bj,se 4 (0:Int)] [] ?_
    obtain⟨aju,ar5,ahE⟩:=ah hg;clear hg
    refine ab.block <| ab.aH (fun(sI:Int)=>⟨[se 0 a0,se 3 bj,se 4 sI],[]⟩) (NR a0 bj) 0 ar5 (Sub.rm []) fun sI aAQ _ hg ah8 at3=>?_
    unfold NR at hg;try dsimp only at hg
    refine sG fun _ Mv=>?_
    refine rG hV [se 0 a0,se 3 bj,se 4 sI,se 13 (decide (sI < bj))] [] ?_
    refine cN hg ?_ ?_<;>(clear hg;intro aCD hg)
    ·refine sk Mv ?_
     refine ch (TN sI=some aAQ) [se 0 a0,se 3 bj,se 4 sI] [] (fun _ auf=>?_) fun hg=>?_
     ·refine ab.block ?_
      obtain⟨ad0,xl,hg⟩:=ah hg
      unfold abM at xl
      refine sq [se 0 a0,se 3 bj,se 4 sI,se 35 ad0] [] (fun _ ait=>?_) ?_
      ·obtain⟨adt,aql,xl⟩:=ah xl
       obtain⟨aCE,aCF,WL⟩:=aY aql;have aqm:=WL;try simp at aqm
       obtain⟨adu,aqo,xl⟩:=ah xl
       obtain⟨aCI,aCJ,WM⟩:=aY aqo;have aqp:=WM;try simp at aqp
       obtain⟨amS,WQ,xl⟩:=ah xl
       rcases ay xl with ⟨U7,xl⟩ | ⟨U7,xl⟩
       ·exact cU hV mixed (some []) 18 [] ait fun K k=>by simp[acT,WL,WM,WQ,U7];(repeat refine ai ?_);cases xl;exact k _ (Sub.rm [])
       exact cU hV mixed (some [26,27,28,29,30,31,32,33,34]) 18 [] ait fun K k=>by simp[acT,WL,WM,WQ,U7];(repeat refine ai ?_);cases xl;exact k _ (Sub.rm [])
      refine cN hg ?_ ?_<;>(clear hg;intro aCM hg)
      ·refine rG hV [se 2 false] [] ?_
       cases ah8 _ (aF hg).symm;have hg:=ahE;try dsimp only at hg
       cases ah5 _ (aF hg).symm;have hg:=ahB;try dsimp only at hg
       cases hg;exact rz hQ
      exact ab.skip (auf _ ⟨hg,Sub.rm []⟩)
     unfold TN at hg
     obtain⟨ao5,hg⟩:=aK hg
     unfold ax at ao5
     refine rH hV [se 0 a0,se 3 bj,se 4 ((sI+1):Int)] [] ?_
     exact at3 _ _ (aF hg).symm (Sub.rm [])
    refine ab.exit ?_
    cases ah8 _ (aF hg).symm;have hg:=ahE;try dsimp only at hg
    exact Y4 _ ⟨hg,Sub.rm []⟩
   unfold TM at hg
   obtain⟨ao6,hg⟩:=aK hg
   unfold ax at ao6
   refine rH hV [se 0 a0,se 3 ((bj+1):Int)] [] ?_
   exact k5 _ _ (aF hg).symm (Sub.rm [])
  refine ab.exit ?_
  cases ah5 _ (aF hg).symm;have hg:=ahB;try dsimp only at hg
  exact k3 _ ⟨hg,Sub.rm []⟩
 unfold abL at hg
 refine rG hV [se 2 true] [] ?_
 cases hg;exact rz hQ
noncomputable def acO:an.Spec:=eA I4
theorem ajW:aL Tryz.prog 50 acO:=by
 have hV:=aW (cs ajU cn)
 refine dT hV Tryz.func50 rfl Tryz.ntmps50 fun a0 r hg _ _ _ _ _ hQ=>?_
 unfold I4 at hg
 refine rG hV [pt 1 0] [.w 52 a0] ?_
 refine sG fun _ k2=>?_
 obtain⟨GX,cr,hg⟩:=ah hg
 unfold abY at cr
 refine sq [pt 1 0,se 19 GX] [.w 52 a0] (fun _ gS=>?_) ?_
 ·obtain⟨x3,h4,cr⟩:=ah cr
  rcases ay cr with ⟨oa,cr⟩ | ⟨oa,cr⟩
  ·have pJ:=oa;try simp at pJ
   exact rJ hV (some [8,9,10,11,14,15,16,17,18]) gS fun K k=>by simp[Jq,h4,pJ];cases cr;exact k _ (Sub.rm [0])
  have pJ:=oa;try simp at pJ
  obtain⟨x5,h6,cr⟩:=ah cr
  rcases ay cr with ⟨hG,cr⟩ | ⟨hG,cr⟩
  ·have eo:=hG;try simp at eo
   exact rJ hV (some [14,15,16,17,18]) gS fun K k=>by simp[Jq,h4,pJ,h6,eo];cases cr;exact k _ (Sub.rm [0])
  have eo:=hG;try simp at eo
  obtain⟨x7,h8,cr⟩:=ah cr
  exact rJ hV (some []) gS fun K k=>by simp[Jq,h4,pJ,h6,eo,h8];cases cr;exact k _ (Sub.rm [0])
 refine cN hg ?_ ?_<;>(clear hg;intro sU hg)
 ·refine rG hV [se 2 false] [.w 52 a0] ?_
  cases hg;exact rz hQ
 refine sk k2 ?_
 obtain⟨Gm,po,hg⟩:=ah hg
 unfold abZ at po
 refine sq [se 2 Gm] [] (fun _ yJ=>?_) ?_
 ·rcases ay po with ⟨tQ,po⟩ | ⟨tQ,po⟩
  ·have jR:=eq_true (of_decide_eq_true tQ)
   exact rJ hV (some [24,25,26,27,28,29,30,31,32,33,34,35]) yJ fun K k=>by simp[jR];cases po;exact k _ (Sub.rm [])
  have jR:=tQ;try simp at jR
  rcases ay po with ⟨xR,po⟩ | ⟨xR,po⟩
  ·have rK:=eq_true (of_decide_eq_true xR)
   exact rJ hV (some []) yJ fun K k=>by simp[jR,rK];cases po;exact k _ (Sub.rm [])
  have rK:=xR;try simp at rK
  exact rJ hV (some [28,29,30,31,32,33,34]) yJ fun K k=>by simp[jR,rK];cases po;exact k _ (Sub.rm [])
 cases hg;exact rz hQ
noncomputable def al8:an.Spec:=eY azl
end
end Go.Proofs.YtjigeffmmcmlnaaGreatDoor
