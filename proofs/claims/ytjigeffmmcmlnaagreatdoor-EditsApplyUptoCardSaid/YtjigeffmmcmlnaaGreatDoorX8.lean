import Derived.Test.YtjigeffmmcmlnaaGreatDoorX7
set_option linter.all false
set_option linter.unnecessarySimpa false
set_option linter.deprecated false
set_option linter.unusedVariables false
set_option linter.unusedSimpArgs false
set_option linter.unusedSectionVars false
namespace Go.Proofs.YtjigeffmmcmlnaaGreatDoor
open Go Go.an au
set_option maxRecDepth 4000
attribute [local instance] cJ
attribute [local congr] ab.kO
attribute [local simp] bu dz dU evalOp bd an.get fk strip bq an.after iI typed gr holds cR R.ok R.bad gI iU jk gW ku ji Op.operands Call.operands dY dA dQ dR iH il fm im gK fg nj nk nm np fK lH lL lJ fL jq lg lp lk ln ng ni jv mD bf D.cells T.eT D.one gH fV gb fo setAt eI fC jC fa gN bw cX iy fU iA gv jV arith et iM jf dG gC iN TD.agg env bR List.map fe iD ff gn gT mapOf iz iq dr mH mI mJ mK mL mM mN mO lK nh ll me mC my mB mr mG lq mi ml jw mE ko jh fh du fj iP gJ jB gone unbox iW fE gB gG lI lh nf jg jS List.contains_cons List.contains_nil lr iO iC iB gm ib gX lC kY mW l6 mw mu mz kr mF mh mj P2.list mA lB kW mU lF lb mZ l9 jQ kM lu kR mP lW jI kC lA kV mT l4 jM kH lE la mY l8 jP kL lD kZ mX l7 jO kJ jX kX mV l5 jN kI lG lf nc ma jW kT mR lY jK kF lv kS mQ lX jJ kD lz kU mS lZ jL kG kQ km lN lO lT lU lP lV lQ lR lS lM nD nH kv kz iQ nB nC nE nF nG nI nJ jD jE nL nM nN nO nP nQ nR nS nq nr nu nv nw nx ny nz nA
section
variable [e8]
set_option maxRecDepth 10000
attribute [local simp] eJ
noncomputable def acH:an.Spec:=eA Ja
theorem awt:aL Tryz.prog 177 acH:=by
 have hV:=aW cn
 refine dT hV Tryz.func177 rfl Tryz.ntmps177 fun a0 r hg _ _ _ _ _ hQ=>?_
 unfold Ja at hg
 refine rG hV [se 0 a0] [] ?_
 obtain⟨g2,hg⟩:=aK hg
 unfold ax at g2
 refine rG hV [se 2 ((max a0 (0 - a0)):Int)] [] ?_
 cases hg;exact rz hQ
noncomputable def Jm:an.Spec:=vr BD
theorem ajM:aL Tryz.prog 164 Jm:=by
 have hV:=aW cn
 refine pL hV Tryz.func164 rfl Tryz.ntmps164 fun a0 a1 a2 r hg _ _ _ _ _ hQ=>?_
 unfold BD at hg
 refine rG hV [se 0 a0,se 1 a1,se 2 a2] [] ?_
 obtain⟨ij,bo,hg⟩:=ah hg
 unfold aa9 at bo
 refine sq [se 6 ij] [] (fun _ k4=>?_) ?_
 ·rcases ay bo with ⟨c5,bo⟩ | ⟨c5,bo⟩
  ·have eE:=c5;try simp at eE
   exact rJ hV (some []) k4 fun K k=>by simp[eE];cases bo;exact k _ (Sub.rm [])
  exact rJ hV (some [11,12,13]) k4 fun K k=>by simp[c5];cases bo;exact k _ (Sub.rm [])
 cases hg;exact rz hQ
noncomputable def Dt:an.Spec:=eA De
theorem aaJ:aL Tryz.prog 128 Dt:=by
 have hV:=aW (cs ajM cn)
 refine dT hV Tryz.func128 rfl Tryz.ntmps128 fun a0 r hg _ _ _ _ _ hQ=>?_
 unfold De at hg
 refine rG hV [pt 1 0] [.w 48 a0] ?_
 obtain⟨GS,ey,hg⟩:=ah hg
 unfold aa8 at ey
 refine sq [se 2 GS] [] (fun _ oj=>?_) ?_
 ·obtain⟨x2,h3,ey⟩:=ah ey
  rcases ay ey with ⟨iV,ey⟩ | ⟨iV,ey⟩
  ·obtain⟨x4,h5,ey⟩:=ah ey
   rcases ay ey with ⟨oa,ey⟩ | ⟨oa,ey⟩
   ·obtain⟨x6,h7,ey⟩:=ah ey
    exact rJ hV (some []) oj fun K k=>by simp[Jm,h3,iV,h5,oa,h7];cases ey;exact k _ (Sub.rm [])
   exact rJ hV (some [12,13,14]) oj fun K k=>by simp[Jm,h3,iV,h5,oa];cases ey;exact k _ (Sub.rm [])
  exact rJ hV (some [7,8,9,12,13,14]) oj fun K k=>by simp[Jm,h3,iV];cases ey;exact k _ (Sub.rm [])
 cases hg;exact rz hQ
noncomputable def alQ:an.Spec:=eA S7
theorem awq:aL Tryz.prog 165 alQ:=by
 have hV:=aW cn
 refine dT hV Tryz.func165 rfl Tryz.ntmps165 fun a0 r hg _ _ _ _ _ hQ=>?_
 unfold S7 at hg
 refine rG hV [pt 1 0] [.w 48 a0] ?_
 obtain⟨g2,hg⟩:=aK hg
 unfold ax at g2
 obtain⟨x3,h4,hg⟩:=ah hg
 obtain⟨h4a,h4b,h4c⟩:=Pa h4
 have h4f:=anA h4c
 have EF:=h4b
 try simp at EF
 obtain⟨g5,hg⟩:=aK hg
 unfold ax at g5
 obtain⟨g6,hg⟩:=aK hg
 unfold ax at g6
 refine ic hV mixed [se 2 ((((12*a0.bU)+x3)+a0.alter):Int)] [.w 48 a0] 10 [] ?_ fun K k=>by simp[h4f];(repeat refine ai ?_);exact kx k
 cases hg;exact rz hQ
noncomputable def Uv:an.Spec:=fh fun(a0:az)=>(FA a0).map fun r=> .bn [enc r.1,enc r.2]
theorem ajJ:aL Tryz.prog 134 Uv:=by
 have hV:=aW (cs aaJ (cs awq cn))
 refine dT hV Tryz.func134 rfl Tryz.ntmps134 fun a0 r hg _ _ _ _ _ hQ=>?_
 unfold FA at hg
 refine rG hV [pt 1 0] [.w 48 a0] ?_
 refine sG fun _ k2=>?_
 obtain⟨x3,h4,hg⟩:=ah hg
 refine rG hV [pt 1 0,se 6 (!x3)] [.w 48 a0] ?_ fun K k=>by simp[Dt,h4];exact kx k
 refine cN hg ?_ ?_<;>(clear hg;intro h6 hg)
 ·refine rG hV [se 2 (0:Int),se 3 (1:Int)] [.w 48 a0] ?_
  cases hg;exact rz hQ
 refine sk k2 ?_
 obtain⟨x8,h9,hg⟩:=ah hg
 refine rG hV [se 2 x8,se 3 (0:Int)] [.w 48 a0] ?_ fun K k=>by simp[alQ,h9];exact kx k
 cases hg;exact rz hQ
noncomputable def alU:an.Spec:=eA S5
theorem awx:aL Tryz.prog 194 alU:=by
 have hV:=aW (cs ajM cn)
 refine dT hV Tryz.func194 rfl Tryz.ntmps194 fun a0 r hg _ _ _ _ _ hQ=>?_
 unfold S5 at hg
 refine rG hV [pt 1 0] [.w 69 a0] ?_
 obtain⟨GO,bF,hg⟩:=ah hg
 unfold abc at bF
 refine sq [se 2 GO] [] (fun _ k8=>?_) ?_
 ·obtain⟨x2,h3,bF⟩:=ah bF
  rcases ay bF with ⟨c9,bF⟩ | ⟨c9,bF⟩
  ·obtain⟨x4,h5,bF⟩:=ah bF
   exact rJ hV (some []) k8 fun K k=>by simp[Jm,h3,c9,h5];cases bF;exact k _ (Sub.rm [])
  exact rJ hV (some [7,8,9]) k8 fun K k=>by simp[Jm,h3,c9];cases bF;exact k _ (Sub.rm [])
 cases hg;exact rz hQ
noncomputable def alT:an.Spec:=fh fun(a0:Interval)=>(S3 a0).map fun r=> .bn [enc r.1,enc r.2]
theorem aww:aL Tryz.prog 190 alT:=by
 have hV:=aW (cs awx cn)
 refine dT hV Tryz.func190 rfl Tryz.ntmps190 fun a0 r hg _ _ _ _ _ hQ=>?_
 unfold S3 at hg
 refine rG hV [pt 1 0,pt 2 1] [.w 69 a0,.w 69 (⟨0,0⟩:Interval)] ?_
 refine sG fun _ k2=>?_
 obtain⟨x3,h4,hg⟩:=ah hg
 refine rG hV [pt 1 0,pt 2 1,se 6 (!x3)] [.w 69 a0,.w 69 (⟨0,0⟩:Interval)] ?_ fun K k=>by simp[alU,h4];exact kx k
 refine cN hg ?_ ?_<;>(clear hg;intro h6 hg)
 ·refine rG hV [pt 2 1,se 3 (1:Int)] [.w 69 a0,.w 69 (⟨0,0⟩:Interval)] ?_
  cases hg;exact rz hQ
 refine sk k2 ?_
 obtain⟨g8,hg⟩:=aK hg
 unfold ax at g8
 obtain⟨g9,hg⟩:=aK hg
 unfold ax at g9
 refine rG hV [pt 2 1,se 3 (0:Int)] [.w 69 a0,.w 69 (⟨(0 - a0.steps),(0 - a0.gu)⟩:Interval)] ?_
 cases hg;exact rz hQ
noncomputable def alS:an.Spec:=eA RY
theorem awu:aL Tryz.prog 178 alS:=by
 have hV:=aW (cs aww cn)
 refine dT hV Tryz.func178 rfl Tryz.ntmps178 fun a0 r hg _ _ _ _ _ hQ=>?_
 unfold RY at hg
 refine rG hV [pt 1 0] [.w 69 a0] ?_
 obtain⟨⟨x2,x3⟩,h4,hg⟩:=ah hg;try dsimp only at hg
 refine rG hV [se 4 x3] [.w 69 a0,.w 69 x2] ?_ fun K k=>by simp[alT,h4];exact kx k
 refine rG hV [se 2 (decide (x3=0))] [.w 69 a0,.w 69 x2] ?_
 cases hg;exact rz hQ
noncomputable def alP:an.Spec:=fh fun(a0:Interval)=>(MD a0).map fun r=> .bn [enc r.1,enc r.2]
theorem awp:aL Tryz.prog 163 alP:=by
 have hV:=aW (cs awu cn)
 refine dT hV Tryz.func163 rfl Tryz.ntmps163 fun a0 r hg _ _ _ _ _ hQ=>?_
 unfold MD at hg
 refine rG hV [pt 1 0] [.w 69 a0] ?_
 refine sG fun _ k2=>?_
 obtain⟨x3,h4,hg⟩:=ah hg
 refine rG hV [pt 1 0,se 6 (!x3)] [.w 69 a0] ?_ fun K k=>by simp[alS,h4];exact kx k
 refine cN hg ?_ ?_<;>(clear hg;intro h6 hg)
 ·refine rG hV [se 2 (0:Int),se 3 (1:Int)] [.w 69 a0] ?_
  cases hg;exact rz hQ
 refine sk k2 ?_
 obtain⟨g8,hg⟩:=aK hg
 unfold ax at g8
 obtain⟨g9,hg⟩:=aK hg
 unfold ax at g9
 obtain⟨g10,hg⟩:=aK hg
 unfold ax at g10
 refine rG hV [se 2 (((7*a0.gu) - (12*a0.steps)):Int),se 3 (0:Int)] [.w 69 a0] ?_
 cases hg;exact rz hQ
noncomputable def Ad:an.Spec:=vr Da
theorem aaK:aL Tryz.prog 132 Ad:=by
 have hV:=aW cn
 refine pL hV Tryz.func132 rfl Tryz.ntmps132 fun a0 a1 a2 r hg _ _ _ _ _ hQ=>?_
 unfold Da at hg
 refine rG hV [se 0 a0,se 1 a1,se 2 a2] [] ?_
 obtain⟨ij,bo,hg⟩:=ah hg
 unfold ajk at bo
 refine sq [se 6 ij] [] (fun _ k4=>?_) ?_
 ·rcases ay bo with ⟨c5,bo⟩ | ⟨c5,bo⟩
  ·have eE:=c5;try simp at eE
   exact rJ hV (some []) k4 fun K k=>by simp[eE];cases bo;exact k _ (Sub.rm [])
  exact rJ hV (some [11,12,13]) k4 fun K k=>by simp[c5];cases bo;exact k _ (Sub.rm [])
 cases hg;exact rz hQ
noncomputable def Jj:an.Spec:=eA IE
theorem awg:aL Tryz.prog 131 Jj:=by
 have hV:=aW (cs aaK cn)
 refine dT hV Tryz.func131 rfl Tryz.ntmps131 fun a0 r hg _ _ _ _ _ hQ=>?_
 unfold IE at hg
 refine rG hV [se 0 a0] [] ?_
 obtain⟨x2,h3,hg⟩:=ah hg
 refine rG hV [se 2 x2] [] ?_ fun K k=>by simp[Ad,h3];exact kx k
 cases hg;exact rz hQ
noncomputable def acA:an.Spec:=eA IC
theorem ajD:aL Tryz.prog 102 acA:=by
 have hV:=aW cn
 refine dT hV Tryz.func102 rfl Tryz.ntmps102 fun a0 r hg _ _ _ _ _ hQ=>?_
 unfold IC at hg
 refine rG hV [se 0 a0] [] ?_
 refine rG hV [se 0 a0,(3,.map 0)] [.mp ([]:(List (Int×Int)))] ?_
 refine cH (fun jH:(List (Int×Int))=>aax jH=some r) (fun jH=>⟨[(3,.map 0)],[.mp (jH:(List (Int×Int)))]⟩) (fun _ k4=>?_) fun jH hg=>?_
 ·refine rG hV [(3,.map 0),se 7 a0,se 8 (a0.length:Int),se 9 (0:Int)] [.mp ([]:(List (Int×Int)))] ?_
  obtain⟨o29,ar9,asP⟩:=ah hg;clear hg
  refine ab.block <| ab.aH (fun((bj,bE):(List (Int×Int))×Int)=>⟨[(3,.map 0),se 7 a0,se 8 (a0.length:Int),se 9 bE],[.mp (bj:(List (Int×Int)))]⟩) (ID a0) ([],0) ar9 (Sub.rm [0]) fun z32 w34 _ hg atn k6=>?_
  obtain⟨bj,bE⟩:=z32
  unfold ID at hg;try dsimp only at hg
  refine rG hV [(3,.map 0),se 7 a0,se 8 (a0.length:Int),se 9 bE,se 10 (decide (bE < (a0.length:Int)))] [.mp (bj:(List (Int×Int)))] ?_
  refine sG fun _ yL=>?_
  refine cN hg ?_ ?_<;>(clear hg;intro EB hg)
  ·refine sk yL ?_
   refine cH (fun Gv:(List (Int×Int))=>SJ bE Gv=some w34) (fun Gv=>⟨[(3,.map 0),se 7 a0,se 8 (a0.length:Int),se 9 bE],[.mp (Gv:(List (Int×Int)))]⟩) (fun _ Y8=>?_) fun Gv hg=>?_
   ·refine ab.block ?_
    obtain⟨ry,yf,hg⟩:=ah hg
    obtain⟨W0,W1,vR⟩:=aY yf;have zx:=vR;try simp at zx
    refine rG hV [(3,.map 0),se 4 bE,pt 5 1,se 7 a0,se 8 (a0.length:Int),se 9 bE] [.mp (bj:(List (Int×Int))),.w 67 ry] ?_ fun K k=>by simp[vR];(repeat refine ai ?_);exact kx k
    refine rH hV [(3,.map 0),se 7 a0,se 8 (a0.length:Int),se 9 bE] [.mp ((cq bj ry.id bE):(List (Int×Int))),.w 67 ry] ?_
    exact Y8 _ ⟨_,hg,Sub.rm [0]⟩
   unfold SJ at hg
   obtain⟨g44,hg⟩:=aK hg
   unfold ax at g44
   refine rH hV [(3,.map 0),se 7 a0,se 8 (a0.length:Int),se 9 ((bE+1):Int)] [.mp (Gv:(List (Int×Int)))] ?_
   exact k6 _ _ (aF hg).symm (Sub.rm [0])
  refine ab.exit ?_
  cases atn _ (aF hg).symm;have hg:=asP;try dsimp only at hg
  exact k4 _ ⟨_,hg,Sub.rm [0]⟩
 unfold aax at hg
 refine rG hV [(2,.map 0)] [.mp (jH:(List (Int×Int)))] ?_
 cases hg;exact rz hQ
noncomputable def xG:an.Spec:=vr wE
theorem M7:aL Tryz.prog 96 xG:=by
 have hV:=aW cn
 refine pL hV Tryz.func96 rfl Tryz.ntmps96 fun a0 a1 a2 r hg _ _ _ _ _ hQ=>?_
 unfold wE at hg
 refine rG hV [se 0 a0,se 1 a1,se 2 a2] [] ?_
 obtain⟨ij,bo,hg⟩:=ah hg
 unfold amk at bo
 refine sq [se 6 ij] [] (fun _ k4=>?_) ?_
 ·rcases ay bo with ⟨c5,bo⟩ | ⟨c5,bo⟩
  ·have eE:=c5;try simp at eE
   exact rJ hV (some []) k4 fun K k=>by simp[eE];cases bo;exact k _ (Sub.rm [])
  exact rJ hV (some [11,12,13]) k4 fun K k=>by simp[c5];cases bo;exact k _ (Sub.rm [])
 cases hg;exact rz hQ
noncomputable def vv:an.Spec:=eA FT
theorem aaX:aL Tryz.prog 62 vv:=by
 have hV:=aW (cs M7 cn)
 refine dT hV Tryz.func62 rfl Tryz.ntmps62 fun a0 r hg _ _ _ _ _ hQ=>?_
 unfold FT at hg
 refine rG hV [se 0 a0] [] ?_
 obtain⟨x2,h3,hg⟩:=ah hg
 refine rG hV [se 2 x2] [] ?_ fun K k=>by simp[xG,h3];exact kx k
 cases hg;exact rz hQ
noncomputable def Jo:an.Spec:=eY Ep
theorem ajR:aL Tryz.prog 31 Jo:=by
 have hV:=aW cn
 refine go2 hV Tryz.func31 rfl Tryz.ntmps31 fun a0 a1 r hg _ _ _ _ _ hQ=>?_
 unfold Ep at hg
 refine rG hV [se 0 a0,se 1 a1] [] ?_
 obtain⟨yY,bo,hg⟩:=ah hg
 unfold afA at bo
 refine sq [se 4 yY] [] (fun _ k4=>?_) ?_
 ·rcases ay bo with ⟨c5,bo⟩ | ⟨c5,bo⟩
  ·have eE:=c5;try simp at eE
   exact rJ hV (some []) k4 fun K k=>by simp[eE];cases bo;exact k _ (Sub.rm [])
  exact rJ hV (some [8,9,10]) k4 fun K k=>by simp[c5];cases bo;exact k _ (Sub.rm [])
 cases hg;exact rz hQ
noncomputable def acM:an.Spec:=eA Hu
theorem ajV:aL Tryz.prog 42 acM:=by
 have hV:=aW (cs ajR cn)
 refine dT hV Tryz.func42 rfl Tryz.ntmps42 fun a0 r hg _ _ _ _ _ hQ=>?_
 unfold Hu at hg
 refine rG hV [pt 1 0] [.w 52 a0] ?_
 refine sG fun _ k2=>?_
 obtain⟨GX,cr,hg⟩:=ah hg
 unfold VK at cr
 refine sq [pt 1 0,se 19 GX] [.w 52 a0] (fun _ gS=>?_) ?_
 ·obtain⟨x3,h4,cr⟩:=ah cr
  rcases ay cr with ⟨oa,cr⟩ | ⟨oa,cr⟩
  ·have pJ:=oa;try simp at pJ
   exact rJ hV (some [8,9,10,11,14,15,16,17,18]) gS fun K k=>by simp[Jo,h4,pJ];cases cr;exact k _ (Sub.rm [0])
  have pJ:=oa;try simp at pJ
  obtain⟨x5,h6,cr⟩:=ah cr
  rcases ay cr with ⟨hG,cr⟩ | ⟨hG,cr⟩
  ·have eo:=hG;try simp at eo
   exact rJ hV (some [14,15,16,17,18]) gS fun K k=>by simp[Jo,h4,pJ,h6,eo];cases cr;exact k _ (Sub.rm [0])
  have eo:=hG;try simp at eo
  obtain⟨x7,h8,cr⟩:=ah cr
  exact rJ hV (some []) gS fun K k=>by simp[Jo,h4,pJ,h6,eo,h8];cases cr;exact k _ (Sub.rm [0])
 refine cN hg ?_ ?_<;>(clear hg;intro sU hg)
 ·refine rG hV [se 2 false] [.w 52 a0] ?_
  cases hg;exact rz hQ
 refine sk k2 ?_
 obtain⟨Gm,po,hg⟩:=ah hg
 unfold VL at po
 refine sq [se 2 Gm] [] (fun _ yJ=>?_) ?_
 ·rcases ay po with ⟨tQ,po⟩ | ⟨tQ,po⟩
  ·have jR:=eq_true (of_decide_eq_true tQ)
   exact rJ hV (some [24,25,26,27,28,29,30,31,32,33,34,35]) yJ fun K k=>by simp[jR];cases po;exact k _ (Sub.rm [])
  have jR:=tQ;try simp at jR
  rcases ay po with ⟨xR,po⟩ | ⟨xR,po⟩
  ·have rK:=eq_true (of_decide_eq_true xR)
   exact rJ hV (some []) yJ fun K k=>by simp[jR,rK];cases po;exact k _ (Sub.rm [])
  have rK:=xR;try simp at rK
  exact rJ hV (some [28,29,30,31,32,33,34]) yJ fun K k=>by simp[jR,rK];cases po;exact k _ (Sub.rm [])
 cases hg;exact rz hQ
noncomputable def al5:an.Spec:=eA Qo
theorem awN:aL Tryz.prog 70 al5:=by
 have hV:=aW cn
 refine dT hV Tryz.func70 rfl Tryz.ntmps70 fun a0 r hg _ _ _ _ _ hQ=>?_
 unfold Qo at hg
 refine rG hV [pt 1 0] [.w 50 a0] ?_
 refine rG hV [se 2 a0.id] [.w 50 a0] ?_
 cases hg;exact rz hQ
noncomputable def OF:an.Spec:=eA Cy
theorem aj4:aL Tryz.prog 79 OF:=by
 have hV:=aW cn
 refine dT hV Tryz.func79 rfl Tryz.ntmps79 fun a0 r hg _ _ _ _ _ hQ=>?_
 unfold Cy at hg
 refine rG hV [pt 1 0,pt 2 1] [.w 52 a0,.w 121 (⟨0,0⟩:P2)] ?_
 refine rG hV [pt 2 1] [.w 52 a0,.w 121 (⟨a0.clock,a0.ev⟩:P2)] ?_
 cases hg;exact rz hQ
noncomputable def Uy:an.Spec:=eA En
theorem aaT:aL Tryz.prog 43 Uy:=by
 have hV:=aW (cs aj4 cn)
 refine dT hV Tryz.func43 rfl Tryz.ntmps43 fun a0 r hg _ _ _ _ _ hQ=>?_
 unfold En at hg
 refine rG hV [se 0 a0] [] ?_
 refine rG hV [se 0 a0,(3,.map 0)] [.map (([]:(List (P2×aa))).map kP) (([]:(List (P2×aa))).map vP)] ?_
 refine ch (VH=some r) [] [] (fun _ k4=>?_) fun hg=>?_
 ·refine rG hV [(3,.map 0),se 9 a0,se 10 (a0.length:Int),se 11 (0:Int)] [.map (([]:(List (P2×aa))).map kP) (([]:(List (P2×aa))).map vP)] ?_
  obtain⟨o57,asq,ahM⟩:=ah hg;clear hg
  refine ab.block <| ab.aH (fun((bj,bB):(List (P2×aa))×Int)=>⟨[(3,.map 0),se 9 a0,se 10 (a0.length:Int),se 11 bB],[.map ((bj:(List (P2×aa))).map kP) ((bj:(List (P2×aa))).map vP)]⟩) (KT a0) ([],0) asq (Sub.rm [0]) fun z60 w62 _ hg pv k6=>?_
  obtain⟨bj,bB⟩:=z60
  unfold KT at hg;try dsimp only at hg
  refine rG hV [(3,.map 0),se 9 a0,se 10 (a0.length:Int),se 11 bB,se 12 (decide (bB < (a0.length:Int)))] [.map ((bj:(List (P2×aa))).map kP) ((bj:(List (P2×aa))).map vP)] ?_
  refine sG fun _ Fi=>?_
  refine cN hg ?_ ?_<;>(clear hg;intro Lr hg)
  ·refine sk Fi ?_
   refine cH (fun B9:(List (P2×aa))=>Qn bB B9=some w62) (fun B9=>⟨[(3,.map 0),se 9 a0,se 10 (a0.length:Int),se 11 bB],[.map ((B9:(List (P2×aa))).map kP) ((B9:(List (P2×aa))).map vP)]⟩) (fun _ wh=>?_) fun B9 hg=>?_
   ·refine ab.block ?_
    obtain⟨oN,EJ,hg⟩:=ah hg
    obtain⟨aDR,aDS,ahb⟩:=aY EJ;have Xd:=ahb;try simp at Xd
    refine rG hV [(3,.map 0),pt 5 1,se 9 a0,se 10 (a0.length:Int),se 11 bB] [.map ((bj:(List (P2×aa))).map kP) ((bj:(List (P2×aa))).map vP),.w 52 oN] ?_ fun K k=>by simp[ahb];(repeat refine ai ?_);exact kx k
    refine sG fun _ Zi=>?_
    obtain⟨tF,Xf,hg⟩:=ah hg
    refine rG hV [(3,.map 0),pt 5 1,pt 6 2,se 7 ((pU bj tF):Bool),se 9 a0,se 10 (a0.length:Int),se 11 bB] [.map ((bj:(List (P2×aa))).map kP) ((bj:(List (P2×aa))).map vP),.w 52 oN,.w 52 ((o4 bj tF (⟨0,0,0,(⟨0,0,0,0,0,(⟨0,0⟩:Rat),(⟨0,0⟩:Rat),(⟨0,0,0⟩:az)⟩:ae)⟩:aa)):aa)] ?_ fun K k=>by simp[OF,Xf];exact kx k
    obtain⟨aey,H5,hg⟩:=ah hg
    unfold VI at H5
    refine sq [(3,.map 0),pt 5 1,se 9 a0,se 10 (a0.length:Int),se 11 bB,se 27 aey] [.map ((bj:(List (P2×aa))).map kP) ((bj:(List (P2×aa))).map vP),.w 52 oN] (fun _ RU=>?_) ?_
    ·rcases ay H5 with ⟨Vr,H5⟩ | ⟨Vr,H5⟩
     ·exact rJ hV (some []) RU fun K k=>by simp[Vr];cases H5;exact k _ (Sub.rm [0,1])
     exact rJ hV (some [24,25,26]) RU fun K k=>by simp[Vr];cases H5;exact k _ (Sub.rm [0,1])
    refine cN hg ?_ ?_<;>(clear hg;intro h81 hg)
    ·refine rG hV [se 2 false] [.map ((bj:(List (P2×aa))).map kP) ((bj:(List (P2×aa))).map vP),.w 52 oN] ?_
     cases pv _ (aF hg).symm;have hg:=ahM;try dsimp only at hg
     cases hg;exact rz hQ
    refine sk Zi ?_
    obtain⟨UT,h85,hg⟩:=ah hg
    refine ab.akK hV mixed none 4 [3,9,10,11] (by decide) fun K MB=>?_
    simp[OF,h85];repeat refine ai ?_
    refine kd [(3,.map 0),se 9 a0,se 10 (a0.length:Int),se 11 bB] [.map (((pV bj UT oN):(List (P2×aa))).map kP) (((pV bj UT oN):(List (P2×aa))).map vP),.w 52 oN] (by first | rfl | (simp[OF,h85]<;>grind)) (MB _ ?_)
    exact wh _ ⟨_,hg,Sub.rm [0]⟩
   unfold Qn at hg
   obtain⟨g87,hg⟩:=aK hg
   unfold ax at g87
   refine rH hV [(3,.map 0),se 9 a0,se 10 (a0.length:Int),se 11 ((bB+1):Int)] [.map ((B9:(List (P2×aa))).map kP) ((B9:(List (P2×aa))).map vP)] ?_
   exact k6 _ _ (aF hg).symm (Sub.rm [0])
  refine ab.exit ?_
  cases pv _ (aF hg).symm;have hg:=ahM;try dsimp only at hg
  exact k4 _ ⟨hg,Sub.rm []⟩
 unfold VH at hg
 refine rG hV [se 2 true] [] ?_
 cases hg;exact rz hQ
noncomputable def acF:an.Spec:=eA isNaN
theorem awl:aL Tryz.prog 149 acF:=by
 have hV:=aW cn
 refine dT hV Tryz.func149 rfl Tryz.ntmps149 fun a0 r hg _ _ _ _ _ hQ=>?_
 unfold isNaN at hg
 refine rG hV [se 0 a0] [] ?_
 refine rG hV [se 2 false] [] ?_
 cases hg;exact rz hQ
noncomputable def alF:an.Spec:=eY KD
theorem av8:aL Tryz.prog 115 alF:=by
 have hV:=aW (cs awl cn)
 refine go2 hV Tryz.func115 rfl Tryz.ntmps115 fun a0 a1 r hg _ _ _ _ _ hQ=>?_
 unfold KD at hg
 refine rG hV [se 0 a0,se 1 a1] [] ?_
 obtain⟨x2,h3,hg⟩:=ah hg
 refine rG hV [se 0 a0,se 1 a1,se 5 x2] [] ?_ fun K k=>by simp[acF,h3];exact kx k
 obtain⟨x5,h6,hg⟩:=ah hg
 refine rG hV [se 0 a0,se 1 a1,se 5 x2,se 6 x5] [] ?_ fun K k=>by simp[acF,h6];exact kx k
 refine sG fun _ k8=>?_
 refine rG hV [se 0 a0,se 1 a1,se 6 x5,se 11 x2] [] ?_
 refine cN hg ?_ ?_<;>(clear hg;intro pM hg)
 ·refine sG fun _ gS=>?_
  refine rG hV [se 12 x5] [] ?_
  refine cN hg ?_ ?_<;>(clear hg;intro QA hg)
  ·refine rG hV [se 4 (0:Int)] [] ?_
   cases hg;exact rz hQ
  refine sk gS ?_
  refine rG hV [se 4 ((-1):Int)] [] ?_
  cases hg;exact rz hQ
 refine sk k8 ?_
 refine sG fun _ Bm=>?_
 refine rG hV [se 0 a0,se 1 a1,se 13 x5] [] ?_
 refine cN hg ?_ ?_<;>(clear hg;intro zt hg)
 ·refine rG hV [se 4 (1:Int)] [] ?_
  cases hg;exact rz hQ
 refine sk Bm ?_
 refine sG fun _ Mu=>?_
 refine rG hV [se 0 a0,se 1 a1,se 16 (decide (a0 < a1))] [] ?_
 refine cN hg ?_ ?_<;>(clear hg;intro zu hg)
 ·refine rG hV [se 4 ((-1):Int)] [] ?_
  cases hg;exact rz hQ
 refine sk Mu ?_
 refine sG fun _ wc=>?_
 refine rG hV [se 19 (decide (a1 < a0))] [] ?_
 refine cN hg ?_ ?_<;>(clear hg;intro Ey hg)
 ·refine rG hV [se 4 (1:Int)] [] ?_
  cases hg;exact rz hQ
 refine sk wc ?_
 refine rG hV [se 4 (0:Int)] [] ?_
 cases hg;exact rz hQ
noncomputable def alK:an.Spec:=eA KF
theorem awj:aL Tryz.prog 137 alK:=by
 have hV:=aW cn
 refine dT hV Tryz.func137 rfl Tryz.ntmps137 fun a0 r hg _ _ _ _ _ hQ=>?_
 unfold KF at hg
 refine rG hV [se 0 a0] [] ?_
 refine rG hV [se 0 a0,se 3 (0:Int)] [] ?_
 refine ch (P3=some r) [se 3 (0:Int)] [] (fun _ k4=>?_) fun hg=>?_
 ·refine rG hV [se 3 (0:Int),se 6 a0,se 7 (a0.length:Int),se 8 (0:Int)] [] ?_
  obtain⟨o33,XP,Rk⟩:=ah hg;clear hg
  refine ab.block <| ab.aH (fun(aO:Int)=>⟨[se 3 (0:Int),se 6 a0,se 7 (a0.length:Int),se 8 aO],[]⟩) (Cq a0) 0 XP (Sub.rm []) fun aO w38 _ hg oG k6=>?_
  unfold Cq at hg;try dsimp only at hg
  refine rG hV [se 3 (0:Int),se 6 a0,se 7 (a0.length:Int),se 8 aO,se 9 (decide (aO < (a0.length:Int)))] [] ?_
  refine sG fun _ yM=>?_
  refine cN hg ?_ ?_<;>(clear hg;intro yf hg)
  ·refine sk yM ?_
   refine ch (P4 aO=some w38) [se 3 (0:Int),se 6 a0,se 7 (a0.length:Int),se 8 aO] [] (fun _ vh=>?_) fun hg=>?_
   ·refine ab.block ?_
    obtain⟨ig,uP,hg⟩:=ah hg
    obtain⟨agZ,ag0,EE⟩:=aY uP;have yg:=EE;try simp at yg
    refine rG hV [se 3 (0:Int),se 5 ig,se 6 a0,se 7 (a0.length:Int),se 8 aO] [] ?_ fun K k=>by simp[EE];(repeat refine ai ?_);exact kx k
    refine rG hV [se 3 (0:Int),se 5 ig,se 6 a0,se 7 (a0.length:Int),se 8 aO,se 14 (!decide (ig=0))] [] ?_
    refine cN hg ?_ ?_<;>(clear hg;intro zy hg)
    ·refine rG hV [se 2 ig] [] ?_
     cases oG _ (aF hg).symm;have hg:=Rk;try dsimp only at hg
     cases hg;exact rz hQ
    exact ab.skip (vh _ ⟨hg,Sub.rm []⟩)
   unfold P4 at hg
   obtain⟨g51,hg⟩:=aK hg
   unfold ax at g51
   refine rH hV [se 3 (0:Int),se 6 a0,se 7 (a0.length:Int),se 8 ((aO+1):Int)] [] ?_
   exact k6 _ _ (aF hg).symm (Sub.rm [])
  refine ab.exit ?_
  cases oG _ (aF hg).symm;have hg:=Rk;try dsimp only at hg
  exact k4 _ ⟨hg,Sub.rm []⟩
 unfold P3 at hg
 refine rG hV [se 2 (0:Int)] [] ?_
 cases hg;exact rz hQ
noncomputable def ama:an.Spec:=eY Ou
theorem awS:aL Tryz.prog 83 ama:=by
 have hV:=aW (cs av8 cn)
 refine go2 hV Tryz.func83 rfl Tryz.ntmps83 fun a0 a1 r hg _ _ _ _ _ hQ=>?_
 unfold Ou at hg
 refine rG hV [se 0 a0,se 1 a1] [] ?_
 refine ch (Ul a0 a1=some r) [se 0 a0,se 1 a1] [] (fun _ k3=>?_) fun hg=>?_
 ·refine rG hV [se 0 a0,se 1 a1,se 9 a0,se 10 (a0.length:Int),se 11 (0:Int)] [] ?_
  obtain⟨o52,asn,Yc⟩:=ah hg;clear hg
  refine ab.block <| ab.aH (fun(bB:Int)=>⟨[se 0 a0,se 1 a1,se 9 a0,se 10 (a0.length:Int),se 11 bB],[]⟩) (wB a0 a1) 0 asn (Sub.rm []) fun bB w57 _ hg kh k5=>?_
  unfold wB at hg;try dsimp only at hg
  refine rG hV [se 0 a0,se 1 a1,se 9 a0,se 10 (a0.length:Int),se 11 bB,se 12 (decide (bB < (a0.length:Int)))] [] ?_
  refine sG fun _ tq=>?_
  refine cN hg ?_ ?_<;>(clear hg;intro h60 hg)
  ·refine sk tq ?_
   refine ch (Dp bB=some w57) [se 0 a0,se 1 a1,se 9 a0,se 10 (a0.length:Int),se 11 bB] [] (fun _ zS=>?_) fun hg=>?_
   ·refine ab.block ?_
    obtain⟨B5,Lq,hg⟩:=ah hg
    obtain⟨aDJ,aDK,ag8⟩:=aY Lq;have arb:=ag8;try simp at arb
    refine rG hV [se 0 a0,se 1 a1,se 5 bB,se 6 B5,se 9 a0,se 10 (a0.length:Int),se 11 bB] [] ?_ fun K k=>by simp[ag8];(repeat refine ai ?_);exact kx k
    refine sG fun _ Mz=>?_
    refine rG hV [se 0 a0,se 1 a1,se 5 bB,se 6 B5,se 9 a0,se 10 (a0.length:Int),se 11 bB,se 19 (decide ((a1.length:Int)≤bB))] [] ?_
    refine cN hg ?_ ?_<;>(clear hg;intro Ls hg)
    ·refine rG hV [se 4 (1:Int)] [] ?_
     cases kh _ (aF hg).symm;have hg:=Yc;try dsimp only at hg
     cases hg;exact rz hQ
    refine sk Mz ?_
    obtain⟨pY,AU,hg⟩:=ah hg
    obtain⟨ahc,ahd,AV⟩:=aY AU;have EK:=AV;try simp at EK
    refine rG hV [se 0 a0,se 1 a1,se 6 B5,se 7 pY,se 9 a0,se 10 (a0.length:Int),se 11 bB] [] ?_ fun K k=>by simp[AV];(repeat refine ai ?_);exact kx k
    obtain⟨wM,h75,hg⟩:=ah hg
    refine rG hV [se 0 a0,se 1 a1,se 8 wM,se 9 a0,se 10 (a0.length:Int),se 11 bB] [] ?_ fun K k=>by simp[alF,h75];exact kx k
    refine rG hV [se 0 a0,se 1 a1,se 8 wM,se 9 a0,se 10 (a0.length:Int),se 11 bB,se 28 (!decide (wM=0))] [] ?_
    refine cN hg ?_ ?_<;>(clear hg;intro h78 hg)
    ·refine rG hV [se 4 wM] [] ?_
     cases kh _ (aF hg).symm;have hg:=Yc;try dsimp only at hg
     cases hg;exact rz hQ
    exact ab.skip (zS _ ⟨hg,Sub.rm []⟩)
   unfold Dp at hg
   obtain⟨g81,hg⟩:=aK hg
   unfold ax at g81
   refine rH hV [se 0 a0,se 1 a1,se 9 a0,se 10 (a0.length:Int),se 11 ((bB+1):Int)] [] ?_
   exact k5 _ _ (aF hg).symm (Sub.rm [])
  refine ab.exit ?_
  cases kh _ (aF hg).symm;have hg:=Yc;try dsimp only at hg
  exact k3 _ ⟨hg,Sub.rm []⟩
 unfold Ul at hg
 refine sG fun _ MB=>?_
 refine rG hV [se 35 (decide ((a0.length:Int) < (a1.length:Int)))] [] ?_
 refine cN hg ?_ ?_<;>(clear hg;intro h88 hg)
 ·refine rG hV [se 4 ((-1):Int)] [] ?_
  cases hg;exact rz hQ
 refine sk MB ?_
 refine rG hV [se 4 (0:Int)] [] ?_
 cases hg;exact rz hQ
noncomputable def F2:an.Spec:=eY Cw
theorem M5:aL Tryz.prog 47 F2:=by
 have hV:=aW (cs aj4 (cs awS cn))
 refine go2 hV Tryz.func47 rfl Tryz.ntmps47 fun a0 a1 r hg _ _ _ _ _ hQ=>?_
 unfold Cw at hg
 refine rG hV [pt 2 0,pt 3 1] [.w 52 a0,.w 52 a1] ?_
 obtain⟨x2,h3,hg⟩:=ah hg
 obtain⟨x4,h5,hg⟩:=ah hg
 refine ic hV mixed [pt 5 2,pt 6 3] [.w 52 a0,.w 52 a1,.w 121 x2,.w 121 x4] 6 [] ?_ fun K k=>by simp[OF,h3,h5];exact kx k
 refine ab.sub (s':=⟨[se 5 ((⟨x2⟩:(Bx P2)):(Bx P2)),pt 6 2],[.w 52 a0,.w 52 a1,.w 121 x4]⟩) (Sub.fz 5 2 x2 [0,1,3]) ?_
 refine ab.sub (s':=⟨[se 6 ((⟨x4⟩:(Bx P2)):(Bx P2)),se 5 ((⟨x2⟩:(Bx P2)):(Bx P2))],[.w 52 a0,.w 52 a1]⟩) (Sub.fz 6 2 x4 [0,1]) ?_
 obtain⟨x7,h8,hg⟩:=ah hg
 refine ic hV mixed [se 4 x7] [.w 52 a0,.w 52 a1] 1 [0] ?_ fun K k=>by simp[ama,h8];exact kx k
 cases hg;exact rz hQ
noncomputable def FZ:an.Spec:=eA vM
theorem aaV:aL Tryz.prog 46 FZ:=by
 have hV:=aW (cs M5 cn)
 refine dT hV Tryz.func46 rfl Tryz.ntmps46 fun a0 r hg _ _ _ _ _ hQ=>?_
 unfold vM at hg
 refine rG hV [se 0 a0] [] ?_
 refine rG hV [se 0 a0,(3,.map 0)] [.mp ([]:(List (Int×aa)))] ?_
 refine cH (fun jH:(List (Int×aa))=>VN jH=some r) (fun jH=>⟨[(3,.map 0)],[.mp (jH:(List (Int×aa)))]⟩) (fun _ k4=>?_) fun jH hg=>?_
 ·refine rG hV [(3,.map 0),se 9 a0,se 10 (a0.length:Int),se 11 (0:Int)] [.mp ([]:(List (Int×aa)))] ?_
  obtain⟨o49,XQ,Yb⟩:=ah hg;clear hg
  refine ab.block <| ab.aH (fun((bj,bB):(List (Int×aa))×Int)=>⟨[(3,.map 0),se 9 a0,se 10 (a0.length:Int),se 11 bB],[.mp (bj:(List (Int×aa)))]⟩) (KW a0) ([],0) XQ (Sub.rm [0]) fun z52 w54 _ hg YC k6=>?_
  obtain⟨bj,bB⟩:=z52
  unfold KW at hg;try dsimp only at hg
  refine rG hV [(3,.map 0),se 9 a0,se 10 (a0.length:Int),se 11 bB,se 12 (decide (bB < (a0.length:Int)))] [.mp (bj:(List (Int×aa)))] ?_
  refine sG fun _ k56=>?_
  refine cN hg ?_ ?_<;>(clear hg;intro zA hg)
  ·refine sk k56 ?_
   refine cH (fun GH:(List (Int×aa))=>KV bB GH=some w54) (fun GH=>⟨[(3,.map 0),se 9 a0,se 10 (a0.length:Int),se 11 bB],[.mp (GH:(List (Int×aa)))]⟩) (fun _ tq=>?_) fun GH hg=>?_
   ·refine ab.block ?_
    obtain⟨oM,Lp,hg⟩:=ah hg
    obtain⟨aq7,aq8,EH⟩:=aY Lp;have Xb:=EH;try simp at Xb
    refine rG hV [(3,.map 0),pt 5 1,se 9 a0,se 10 (a0.length:Int),se 11 bB] [.mp (bj:(List (Int×aa))),.w 52 oM] ?_ fun K k=>by simp[EH];(repeat refine ai ?_);exact kx k
    refine rG hV [(3,.map 0),pt 5 1,pt 6 2,se 7 ((eu bj oM.note.id):Bool),se 9 a0,se 10 (a0.length:Int),se 11 bB] [.mp (bj:(List (Int×aa))),.w 52 oM,.w 52 ((aV bj oM.note.id (⟨0,0,0,(⟨0,0,0,0,0,(⟨0,0⟩:Rat),(⟨0,0⟩:Rat),(⟨0,0,0⟩:az)⟩:ae)⟩:aa)):aa)] ?_
    obtain⟨aes,CW,hg⟩:=ah hg
    unfold VO at CW
    refine sq [(3,.map 0),pt 5 1,se 9 a0,se 10 (a0.length:Int),se 11 bB,se 30 aes] [.mp (bj:(List (Int×aa))),.w 52 oM] (fun _ RT=>?_) ?_
    ·rcases ay CW with ⟨Ea,CW⟩ | ⟨Ea,CW⟩
     ·have uI:=Ea;try simp at uI
      exact rJ hV (some [26,27,28,29]) RT fun K k=>by simp[uI];cases CW;exact k _ (Sub.rm [0,1])
     have uI:=Ea;try simp at uI
     obtain⟨JH,Lr,CW⟩:=ah CW
     exact rJ hV (some []) RT fun K k=>by simp[F2,uI,Lr];cases CW;exact k _ (Sub.rm [0,1])
    refine cN hg ?_ ?_<;>(clear hg;intro AU hg)
    ·refine rH hV [(3,.map 0),se 9 a0,se 10 (a0.length:Int),se 11 bB] [.mp ((cq bj oM.note.id oM):(List (Int×aa))),.w 52 oM] ?_
     exact tq _ ⟨_,hg,Sub.rm [0]⟩
    exact ab.skip (tq _ ⟨_,hg,Sub.rm [0]⟩)
   unfold KV at hg
   obtain⟨Qv,hg⟩:=aK hg
   unfold ax at Qv
   refine rH hV [(3,.map 0),se 9 a0,se 10 (a0.length:Int),se 11 ((bB+1):Int)] [.mp (GH:(List (Int×aa)))] ?_
   exact k6 _ _ (aF hg).symm (Sub.rm [0])
  refine ab.exit ?_
  cases YC _ (aF hg).symm;have hg:=Yb;try dsimp only at hg
  exact k4 _ ⟨_,hg,Sub.rm [0]⟩
 unfold VN at hg
 refine rG hV [(2,.map 0)] [.mp (jH:(List (Int×aa)))] ?_
 cases hg;exact rz hQ
end
end Go.Proofs.YtjigeffmmcmlnaaGreatDoor
