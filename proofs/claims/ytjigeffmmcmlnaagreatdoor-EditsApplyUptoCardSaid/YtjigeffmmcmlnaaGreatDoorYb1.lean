import Derived.Test.YtjigeffmmcmlnaaGreatDoorX7
set_option linter.all false
set_option linter.unnecessarySimpa false
set_option linter.deprecated false
set_option linter.unusedVariables false
set_option linter.unusedSimpArgs false
set_option linter.unusedSectionVars false
namespace Go.Proofs.YtjigeffmmcmlnaaGreatDoor
open Go Go.an au
set_option maxRecDepth 4000
attribute [local instance] cJ
attribute [local congr] ab.kO
attribute [local simp] bu dz dU evalOp bd an.get fk strip bq an.after iI typed gr holds cR R.ok R.bad gI iU jk gW ku ji Op.operands Call.operands dY dA dQ dR iH il fm im gK fg nj nk nm np fK lH lL lJ fL jq lg lp lk ln ng ni jv mD bf D.cells T.eT D.one gH fV gb fo setAt eI fC jC fa gN bw cX iy fU iA gv jV arith et iM jf dG gC iN TD.agg env bR List.map fe iD ff gn gT mapOf iz iq dr mH mI mJ mK mL mM mN mO lK nh ll me mC my mB mr mG lq mi ml jw mE ko jh fh du fj iP gJ jB gone unbox iW fE gB gG lI lh nf jg jS List.contains_cons List.contains_nil lr iO iC iB gm ib gX lC kY mW l6 mw mu mz kr mF mh mj P2.list mA lB kW mU lF lb mZ l9 jQ kM lu kR mP lW jI kC lA kV mT l4 jM kH lE la mY l8 jP kL lD kZ mX l7 jO kJ jX kX mV l5 jN kI lG lf nc ma jW kT mR lY jK kF lv kS mQ lX jJ kD lz kU mS lZ jL kG kQ km lN lO lT lU lP lV lQ lR lS lM nD nH kv kz iQ nB nC nE nF nG nI nJ jD jE nL nM nN nO nP nQ nR nS nq nr nu nv nw nx ny nz nA
section
variable [e8]
set_option maxRecDepth 10000
attribute [local simp] eJ
noncomputable def Jl:an.Spec:=vr BG
theorem ajL:aL Tryz.prog 160 Jl:=by
 have hV:=aW cn
 refine pL hV Tryz.func160 rfl Tryz.ntmps160 fun a0 a1 a2 r hg _ _ _ _ _ hQ=>?_
 unfold BG at hg
 refine rG hV [se 0 a0,se 1 a1,se 2 a2] [] ?_
 obtain⟨ij,bo,hg⟩:=ah hg
 unfold abo at bo
 refine sq [se 6 ij] [] (fun _ k4=>?_) ?_
 ·rcases ay bo with ⟨c5,bo⟩ | ⟨c5,bo⟩
  ·have eE:=c5;try simp at eE
   exact rJ hV (some []) k4 fun K k=>by simp[eE];cases bo;exact k _ (Sub.rm [])
  exact rJ hV (some [11,12,13]) k4 fun K k=>by simp[c5];cases bo;exact k _ (Sub.rm [])
 cases hg;exact rz hQ
noncomputable def alN:an.Spec:=eA Tb
theorem awn:aL Tryz.prog 161 alN:=by
 have hV:=aW cn
 refine dT hV Tryz.func161 rfl Tryz.ntmps161 fun a0 r hg _ _ _ _ _ hQ=>?_
 unfold Tb at hg
 refine rG hV [se 0 a0] [] ?_
 obtain⟨g2,hg⟩:=aK hg
 unfold ax at g2
 refine rG hV [se 0 a0,se 3 (2*a0)] [] ?_
 refine cH (fun GF:Int=>Tc GF=some r) (fun GF=>⟨[se 3 GF],[]⟩) (fun _ k5=>?_) fun GF hg=>?_
 ·refine rG hV [se 3 (2*a0),se 7 (decide (2 < a0))] [] ?_
  refine cN hg ?_ ?_<;>(clear hg;intro h7 hg)
  ·obtain⟨g8,hg⟩:=aK hg
   unfold ax at g8
   refine rH hV [se 3 (((2*a0) - 1):Int)] [] ?_
   exact k5 _ ⟨_,hg,Sub.rm []⟩
  exact ab.skip (k5 _ ⟨_,hg,Sub.rm []⟩)
 unfold Tc at hg
 refine rG hV [se 2 GF] [] ?_
 cases hg;exact rz hQ
noncomputable def FW:an.Spec:=eA xA
theorem aaH:aL Tryz.prog 121 FW:=by
 have hV:=aW (cs awn cn)
 refine dT hV Tryz.func121 rfl Tryz.ntmps121 fun a0 r hg _ _ _ _ _ hQ=>?_
 unfold xA at hg
 refine rG hV [pt 1 0] [.w 48 a0] ?_
 obtain⟨g2,hg⟩:=aK hg
 unfold ax at g2
 obtain⟨x3,h4,hg⟩:=ah hg
 obtain⟨g5,hg⟩:=aK hg
 unfold ax at g5
 obtain⟨g6,hg⟩:=aK hg
 unfold ax at g6
 refine ic hV mixed [se 2 ((((12*a0.bU)+x3)+a0.alter):Int)] [.w 48 a0] 9 [] ?_ fun K k=>by simp[alN,h4];(repeat refine ai ?_);exact kx k
 cases hg;exact rz hQ
noncomputable def Ut:an.Spec:=eA FE
theorem ajF:aL Tryz.prog 120 Ut:=by
 have hV:=aW (cs ajL cn)
 refine dT hV Tryz.func120 rfl Tryz.ntmps120 fun a0 r hg _ _ _ _ _ hQ=>?_
 unfold FE at hg
 refine rG hV [pt 1 0] [.w 48 a0] ?_
 obtain⟨x2,h3,hg⟩:=ah hg
 refine rG hV [pt 1 0,se 3 x2] [.w 48 a0] ?_ fun K k=>by simp[Jl,h3];exact kx k
 obtain⟨x5,h6,hg⟩:=ah hg
 refine rG hV [pt 1 0,se 3 x2,se 4 x5] [.w 48 a0] ?_ fun K k=>by simp[Jl,h6];exact kx k
 obtain⟨adC,dE,hg⟩:=ah hg
 unfold abn at dE
 refine sq [se 2 adC] [] (fun _ gF=>?_) ?_
 ·rcases ay dE with ⟨gz,dE⟩ | ⟨gz,dE⟩
  ·rcases ay dE with ⟨hG,dE⟩ | ⟨hG,dE⟩
   ·obtain⟨x8,h9,dE⟩:=ah dE
    exact rJ hV (some []) gF fun K k=>by simp[Jl,gz,hG,h9];cases dE;exact k _ (Sub.rm [])
   exact rJ hV (some [16,17,18]) gF fun K k=>by simp[gz,hG];cases dE;exact k _ (Sub.rm [])
  exact rJ hV (some [13,16,17,18]) gF fun K k=>by simp[gz];cases dE;exact k _ (Sub.rm [])
 cases hg;exact rz hQ
noncomputable def alH:an.Spec:=eA Ni
theorem awb:aL Tryz.prog 123 alH:=by
 have hV:=aW (cs ajF (cs ajL cn))
 refine dT hV Tryz.func123 rfl Tryz.ntmps123 fun a0 r hg _ _ _ _ _ hQ=>?_
 unfold Ni at hg
 refine rG hV [pt 1 0] [.w 48 a0] ?_
 obtain⟨x2,h3,hg⟩:=ah hg
 refine rG hV [pt 1 0,se 3 x2] [.w 48 a0] ?_ fun K k=>by simp[Ut,h3];exact kx k
 obtain⟨aeI,cr,hg⟩:=ah hg
 unfold abm at cr
 refine sq [se 2 aeI] [] (fun _ gS=>?_) ?_
 ·rcases ay cr with ⟨oa,cr⟩ | ⟨oa,cr⟩
  ·obtain⟨x5,h6,cr⟩:=ah cr
   rcases ay cr with ⟨gz,cr⟩ | ⟨gz,cr⟩
   ·obtain⟨x7,h8,cr⟩:=ah cr
    exact rJ hV (some []) gS fun K k=>by simp[Jl,oa,h6,gz,h8];cases cr;exact k _ (Sub.rm [])
   exact rJ hV (some [13,14,15]) gS fun K k=>by simp[Jl,oa,h6,gz];cases cr;exact k _ (Sub.rm [])
  exact rJ hV (some [8,9,10,13,14,15]) gS fun K k=>by simp[oa];cases cr;exact k _ (Sub.rm [])
 cases hg;exact rz hQ
noncomputable def acI:an.Spec:=vr Nk
theorem awv:aL Tryz.prog 189 acI:=by
 have hV:=aW cn
 refine pL hV Tryz.func189 rfl Tryz.ntmps189 fun a0 a1 a2 r hg _ _ _ _ _ hQ=>?_
 unfold Nk at hg
 refine rG hV [se 0 a0,se 1 a1,se 2 a2] [] ?_
 obtain⟨ij,bo,hg⟩:=ah hg
 unfold ako at bo
 refine sq [se 6 ij] [] (fun _ k4=>?_) ?_
 ·rcases ay bo with ⟨c5,bo⟩ | ⟨c5,bo⟩
  ·have eE:=c5;try simp at eE
   exact rJ hV (some []) k4 fun K k=>by simp[eE];cases bo;exact k _ (Sub.rm [])
  exact rJ hV (some [11,12,13]) k4 fun K k=>by simp[c5];cases bo;exact k _ (Sub.rm [])
 cases hg;exact rz hQ
noncomputable def alR:an.Spec:=eA Td
theorem aws:aL Tryz.prog 175 alR:=by
 have hV:=aW (cs awv cn)
 refine dT hV Tryz.func175 rfl Tryz.ntmps175 fun a0 r hg _ _ _ _ _ hQ=>?_
 unfold Td at hg
 refine rG hV [pt 1 0] [.w 69 a0] ?_
 obtain⟨GO,bF,hg⟩:=ah hg
 unfold abp at bF
 refine sq [se 2 GO] [] (fun _ k8=>?_) ?_
 ·obtain⟨x2,h3,bF⟩:=ah bF
  rcases ay bF with ⟨c9,bF⟩ | ⟨c9,bF⟩
  ·obtain⟨x4,h5,bF⟩:=ah bF
   exact rJ hV (some []) k8 fun K k=>by simp[acI,h3,c9,h5];cases bF;exact k _ (Sub.rm [])
  exact rJ hV (some [7,8,9]) k8 fun K k=>by simp[acI,h3,c9];cases bF;exact k _ (Sub.rm [])
 cases hg;exact rz hQ
noncomputable def alM:an.Spec:=fh fun(a0:Interval)=>(Nj a0).map fun r=> .bn [enc r.1,enc r.2]
theorem awm:aL Tryz.prog 159 alM:=by
 have hV:=aW (cs aws cn)
 refine dT hV Tryz.func159 rfl Tryz.ntmps159 fun a0 r hg _ _ _ _ _ hQ=>?_
 unfold Nj at hg
 refine rG hV [pt 1 0] [.w 69 a0] ?_
 refine sG fun _ k2=>?_
 obtain⟨x3,h4,hg⟩:=ah hg
 refine rG hV [pt 1 0,se 6 (!x3)] [.w 69 a0] ?_ fun K k=>by simp[alR,h4];exact kx k
 refine cN hg ?_ ?_<;>(clear hg;intro h6 hg)
 ·refine rG hV [se 2 (0:Int),se 3 (1:Int)] [.w 69 a0] ?_
  cases hg;exact rz hQ
 refine sk k2 ?_
 obtain⟨g8,hg⟩:=aK hg
 unfold ax at g8
 obtain⟨g9,hg⟩:=aK hg
 unfold ax at g9
 obtain⟨g10,hg⟩:=aK hg
 unfold ax at g10
 refine rG hV [se 2 (((7*a0.gu) - (12*a0.steps)):Int),se 3 (0:Int)] [.w 69 a0] ?_
 cases hg;exact rz hQ
noncomputable def Jh:an.Spec:=eY Np
theorem av9:aL Tryz.prog 118 Jh:=by
 have hV:=aW cn
 refine go2 hV Tryz.func118 rfl Tryz.ntmps118 fun a0 a1 r hg _ _ _ _ _ hQ=>?_
 unfold Np at hg
 refine rG hV [se 0 a0,se 1 a1] [] ?_
 refine cH (fun Gq:Int=>Ti Gq=some r) (fun Gq=>⟨[se 0 Gq],[]⟩) (fun _ k3=>?_) fun Gq hg=>?_
 ·obtain⟨o19,ar3,asN⟩:=ah hg;clear hg
  refine ab.block <| ab.aH (fun((Ca,uy):Int×Int)=>⟨[se 0 Ca,se 1 uy],[]⟩) Di (a0,a1) ar3 (Sub.rm []) fun z22 w24 _ hg xk k4=>?_
  obtain⟨Ca,uy⟩:=z22
  unfold Di at hg;try dsimp only at hg
  refine sG fun _ Y6=>?_
  refine rG hV [se 0 Ca,se 1 uy,se 7 (!decide (uy=0))] [] ?_
  refine cN hg ?_ ?_<;>(clear hg;intro QE hg)
  ·refine sk Y6 ?_
   refine ab.block ?_
   obtain⟨g28,hg⟩:=aK hg
   refine rG hV [se 1 uy,se 5 ((Int.tmod Ca uy):Int)] [] ?_
   refine rG hV [se 0 uy,se 5 ((Int.tmod Ca uy):Int)] [] ?_
   refine rH hV [se 0 uy,se 1 ((Int.tmod Ca uy):Int)] [] ?_
   exact k4 _ _ (aF hg).symm (Sub.rm [])
  refine ab.exit ?_
  cases xk _ (aF hg).symm;have hg:=asN;try dsimp only at hg
  exact k3 _ ⟨_,hg,Sub.rm []⟩
 unfold Ti at hg
 refine rG hV [se 4 Gq] [] ?_
 cases hg;exact rz hQ
noncomputable def Js:an.Spec:=eA BI
theorem aaZ:aL Tryz.prog 89 Js:=by
 have hV:=aW (cs av9 cn)
 refine dT hV Tryz.func89 rfl Tryz.ntmps89 fun a0 r hg _ _ _ _ _ hQ=>?_
 unfold BI at hg
 refine rG hV [pt 1 0] [.w 46 a0] ?_
 refine sG fun _ k2=>?_
 obtain⟨aet,bF,hg⟩:=ah hg
 unfold abq at bF
 refine sq [pt 1 0,se 29 aet] [.w 46 a0] (fun _ k8=>?_) ?_
 ·rcases ay bF with ⟨c9,bF⟩ | ⟨c9,bF⟩
  ·have gA:=c9;try simp at gA
   exact rJ hV (some [7,8,9,10,13,14,15,18,19,20,23,24,25,26,27,28]) k8 fun K k=>by simp[Jh,gA];cases bF;exact k _ (Sub.rm [0])
  have gA:=c9;try simp at gA
  obtain⟨g3,bF⟩:=aK bF
  rcases ay bF with ⟨iV,bF⟩ | ⟨iV,bF⟩
  ·have ow:=iV;try simp at ow
   exact rJ hV (some [13,14,15,18,19,20,23,24,25,26,27,28]) k8 fun K k=>by simp[Jh,c9,ow];(repeat refine ai ?_);cases bF;exact k _ (Sub.rm [0])
  have ow:=rk iV
  rcases ay bF with ⟨gz,bF⟩ | ⟨gz,bF⟩
  ·have ox:=gz;try simp at ox
   exact rJ hV (some [18,19,20,23,24,25,26,27,28]) k8 fun K k=>by simp[Jh,c9,ow,ox];(repeat refine ai ?_);cases bF;exact k _ (Sub.rm [0])
  have ox:=gz;try simp at ox
  rcases ay bF with ⟨fw,bF⟩ | ⟨fw,bF⟩
  ·have hM:=fw;try simp at hM
   exact rJ hV (some [23,24,25,26,27,28]) k8 fun K k=>by simp[Jh,c9,ow,gz,hM];(repeat refine ai ?_);cases bF;exact k _ (Sub.rm [0])
  have hM:=fw;try simp at hM
  obtain⟨x4,h5,bF⟩:=ah bF
  exact rJ hV (some []) k8 fun K k=>by simp[Jh,c9,ow,gz,fw,h5];(repeat refine ai ?_);cases bF;exact k _ (Sub.rm [0])
 refine cN hg ?_ ?_<;>(clear hg;intro zt hg)
 ·refine rG hV [se 2 ((-1):Int)] [.w 46 a0] ?_
  cases hg;exact rz hQ
 refine sk k2 ?_
 obtain⟨g20,hg⟩:=aK hg
 obtain⟨g21,hg⟩:=aK hg
 unfold ax at g21
 obtain⟨g22,hg⟩:=aK hg
 unfold ax at g22
 refine ic hV mixed [se 2 ((a0.n*(Int.tdiv 1680 a0.d)):Int)] [.w 46 a0] 5 [] ?_
 cases hg;exact rz hQ
noncomputable def acP:an.Spec:=eA IM
theorem ajX:aL Tryz.prog 56 acP:=by
 have hV:=aW (cs aaZ cn)
 refine dT hV Tryz.func56 rfl Tryz.ntmps56 fun a0 r hg _ _ _ _ _ hQ=>?_
 unfold IM at hg
 refine rG hV [se 0 a0] [] ?_
 refine sG fun _ k2=>?_
 obtain⟨Gw,eX,hg⟩:=ah hg
 unfold abr at eX
 refine sq [se 0 a0,se 13 Gw] [] (fun _ k5=>?_) ?_
 ·rcases ay eX with ⟨c6,eX⟩ | ⟨c6,eX⟩
  ·have rM:=c6;try simp at rM
   exact rJ hV (some [10,11,12]) k5 fun K k=>by simp[rM];cases eX;exact k _ (Sub.rm [])
  exact rJ hV (some []) k5 fun K k=>by simp[c6];cases eX;exact k _ (Sub.rm [])
 refine cN hg ?_ ?_<;>(clear hg;intro h9 hg)
 ·refine rG hV [se 2 false] [] ?_
  cases hg;exact rz hQ
 refine sk k2 ?_
 refine ch (Tf=some r) [] [] (fun _ gF=>?_) fun hg=>?_
 ·refine rG hV [se 0 a0,se 3 (0:Int)] [] ?_
  obtain⟨ajr,ar1,Ya⟩:=ah hg;clear hg
  refine ab.block <| ab.aH (fun(cI:Int)=>⟨[se 0 a0,se 3 cI],[]⟩) (Nn a0) 0 ar1 (Sub.rm []) fun cI aAN _ hg YA fY=>?_
  unfold Nn at hg;try dsimp only at hg
  refine sG fun _ at5=>?_
  refine rG hV [se 0 a0,se 3 cI,se 17 (decide (cI < (a0.length:Int)))] [] ?_
  refine cN hg ?_ ?_<;>(clear hg;intro ap8 hg)
  ·refine sk at5 ?_
   refine ch (Te cI=some aAN) [se 0 a0,se 3 cI] [] (fun _ at6=>?_) fun hg=>?_
   ·refine ab.block ?_
    obtain⟨amN,ap9,hg⟩:=ah hg
    obtain⟨aCr,aCs,agC⟩:=aY ap9;have aqa:=agC;try simp at aqa
    obtain⟨JC,agD,hg⟩:=ah hg
    refine rG hV [se 0 a0,se 3 cI,se 4 JC] [] ?_ fun K k=>by simp[Js,agC,agD];(repeat refine ai ?_);exact kx k
    refine sG fun _ Y5=>?_
    obtain⟨adW,og,hg⟩:=ah hg
    unfold Th at og
    refine sq [se 0 a0,se 3 cI,se 63 adW] [] (fun _ Ie=>?_) ?_
    ·obtain⟨xJ,WI,og⟩:=ah og
     obtain⟨aqb,aqc,ye⟩:=aY WI;have Lk:=ye;try simp at Lk
     rcases ay og with ⟨Cj,og⟩ | ⟨Cj,og⟩
     ·have PA:=Cj;try simp at PA
      exact rJ hV (some [33,34,35,36,37,38,41,42,45,46,49,50,51,52,53,54,57,58,59,60,61,62]) Ie fun K k=>by simp[ye,PA];(repeat refine ai ?_);cases og;exact k _ (Sub.rm [])
     have PA:=Cj;try simp at PA
     rcases ay og with ⟨DY,og⟩ | ⟨DY,og⟩
     ·have PB:=DY;try simp at PB
      exact rJ hV (some [41,42,45,46,49,50,51,52,53,54,57,58,59,60,61,62]) Ie fun K k=>by simp[ye,Cj,PB];(repeat refine ai ?_);cases og;exact k _ (Sub.rm [])
     have PB:=DY;try simp at PB
     rcases ay og with ⟨Hd,og⟩ | ⟨Hd,og⟩
     ·have PE:=Hd;try simp at PE
      exact rJ hV (some [45,46,49,50,51,52,53,54,57,58,59,60,61,62]) Ie fun K k=>by simp[ye,Cj,DY,PE];(repeat refine ai ?_);cases og;exact k _ (Sub.rm [])
     have PE:=Hd;try simp at PE
     rcases ay og with ⟨Ka,og⟩ | ⟨Ka,og⟩
     ·have PF:=Ka;try simp at PF
      exact rJ hV (some [49,50,51,52,53,54,57,58,59,60,61,62]) Ie fun K k=>by simp[ye,Cj,DY,Hd,PF];(repeat refine ai ?_);cases og;exact k _ (Sub.rm [])
     have PF:=Ka;try simp at PF
     rcases ay og with ⟨PG,og⟩ | ⟨PG,og⟩
     ·have PH:=PG;try simp at PH
      exact rJ hV (some [57,58,59,60,61,62]) Ie fun K k=>by simp[ye,Cj,DY,Hd,Ka,PH];(repeat refine ai ?_);cases og;exact k _ (Sub.rm [])
     have PH:=PG;try simp at PH
     exact rJ hV (some []) Ie fun K k=>by simp[ye,Cj,DY,Hd,Ka,PG];(repeat refine ai ?_);cases og;exact k _ (Sub.rm [])
    refine cN hg ?_ ?_<;>(clear hg;intro aCw hg)
    ·refine rG hV [se 2 false] [] ?_
     cases YA _ (aF hg).symm;have hg:=Ya;try dsimp only at hg
     cases hg;exact rz hQ
    refine sk Y5 ?_
    refine rG hV [se 0 a0,se 3 cI,se 5 (0:Int)] [] ?_
    obtain⟨ajv,ar7,ahF⟩:=ah hg;clear hg
    refine ab.block <| ab.aH (fun(ux:Int)=>⟨[se 0 a0,se 3 cI,se 5 ux],[]⟩) (No a0 cI) 0 ar7 (Sub.rm []) fun ux aAS _ hg ah9 aud=>?_
    unfold No at hg;try dsimp only at hg
    refine sG fun _ Y7=>?_
    refine rG hV [se 0 a0,se 3 cI,se 5 ux,se 66 (decide (ux < cI))] [] ?_
    refine cN hg ?_ ?_<;>(clear hg;intro aCO hg)
    ·refine sk Y7 ?_
     refine ch (Tg ux=some aAS) [se 0 a0,se 3 cI,se 5 ux] [] (fun _ auj=>?_) fun hg=>?_
     ·refine ab.block ?_
      obtain⟨adv,aqt,hg⟩:=ah hg
      obtain⟨aCP,aCQ,agJ⟩:=aY aqt;have aqu:=agJ;try simp at aqu
      obtain⟨adw,aqv,hg⟩:=ah hg
      obtain⟨aCR,aCS,agK⟩:=aY aqv;have aqw:=agK;try simp at aqw
      refine ic hV mixed [se 0 a0,se 3 cI,se 5 ux,se 79 (decide (adv.id=adw.id))] [] 10 [] ?_ fun K k=>by simp[agJ,agK];(repeat refine ai ?_);exact kx k
      refine cN hg ?_ ?_<;>(clear hg;intro aCT hg)
      ·refine rG hV [se 2 false] [] ?_
       cases ah9 _ (aF hg).symm;have hg:=ahF;try dsimp only at hg
       cases YA _ (aF hg).symm;have hg:=Ya;try dsimp only at hg
       cases hg;exact rz hQ
      exact ab.skip (auj _ ⟨hg,Sub.rm []⟩)
     unfold Tg at hg
     obtain⟨ao8,hg⟩:=aK hg
     unfold ax at ao8
     refine rH hV [se 0 a0,se 3 cI,se 5 ((ux+1):Int)] [] ?_
     exact aud _ _ (aF hg).symm (Sub.rm [])
    refine ab.exit ?_
    cases ah9 _ (aF hg).symm;have hg:=ahF;try dsimp only at hg
    exact at6 _ ⟨hg,Sub.rm []⟩
   unfold Te at hg
   obtain⟨ao9,hg⟩:=aK hg
   unfold ax at ao9
   refine rH hV [se 0 a0,se 3 ((cI+1):Int)] [] ?_
   exact fY _ _ (aF hg).symm (Sub.rm [])
  refine ab.exit ?_
  cases YA _ (aF hg).symm;have hg:=Ya;try dsimp only at hg
  exact gF _ ⟨hg,Sub.rm []⟩
 unfold Tf at hg
 refine rG hV [se 2 true] [] ?_
 cases hg;exact rz hQ
end
end Go.Proofs.YtjigeffmmcmlnaaGreatDoor
