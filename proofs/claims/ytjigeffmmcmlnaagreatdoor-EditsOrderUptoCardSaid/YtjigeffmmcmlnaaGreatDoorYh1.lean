import Derived.Test.YtjigeffmmcmlnaaGreatDoorYb2
import Derived.Test.YtjigeffmmcmlnaaGreatDoorX18
set_option linter.all false
set_option linter.unnecessarySimpa false
set_option linter.deprecated false
set_option linter.unusedVariables false
set_option linter.unusedSimpArgs false
set_option linter.unusedSectionVars false
namespace Go.Proofs.YtjigeffmmcmlnaaGreatDoor
open Go Go.an au
set_option maxRecDepth 4000
attribute [local instance] cJ
attribute [local congr] ab.kO
attribute [local simp] bu dz dU evalOp bd an.get fk strip bq an.after iI typed gr holds cR R.ok R.bad gI iU jk gW ku ji Op.operands Call.operands dY dA dQ dR iH il fm im gK fg nj nk nm np fK lH lL lJ fL jq lg lp lk ln ng ni jv mD bf D.cells T.eT D.one gH fV gb fo setAt eI fC jC fa gN bw cX iy fU iA gv jV arith et iM jf dG gC iN TD.agg env bR List.map fe iD ff gn gT mapOf iz iq dr mH mI mJ mK mL mM mN mO lK nh ll me mC my mB mr mG lq mi ml jw mE ko jh fh du fj iP gJ jB gone unbox iW fE gB gG lI lh nf jg jS List.contains_cons List.contains_nil lr iO iC iB gm ib gX lC kY mW l6 mw mu mz kr mF mh mj P2.list mA lB kW mU lF lb mZ l9 jQ kM lu kR mP lW jI kC lA kV mT l4 jM kH lE la mY l8 jP kL lD kZ mX l7 jO kJ jX kX mV l5 jN kI lG lf nc ma jW kT mR lY jK kF lv kS mQ lX jJ kD lz kU mS lZ jL kG kQ km lN lO lT lU lP lV lQ lR lS lM nD nH kv kz iQ nB nC nE nF nG nI nJ jD jE nL nM nN nO nP nQ nR nS nq nr nu nv nw nx ny nz nA
section
set_option maxRecDepth 10000
attribute [local simp] eJ qO qL rl qR qP qM rp qS qQ qN rq qT rT rP su rW rQ rN so rU rR rO sr rV tU tR ui tV Cx zn Ac BV BA C5 Fv
noncomputable def sp5:an.Spec:=vr Sh
set_option maxHeartbeats 20000000 in
theorem ok5:aL Tryz.prog 5 sp5:=by
 have hV:=AJ (cs IH (cs aaP (cs M4 (cs IG (cs M3 cn)))))
 refine pL hV Tryz.func5 rfl Tryz.ntmps5 fun a0 a1 a2 r hg _ _ _ _ _ hQ=>?_
 unfold Sh at hg
 refine rG hV [pt 3 0,pt 4 1,pt 5 2] [.w 26 a0,.w 52 a1,.w 52 a2] ?_
 obtain⟨x2,h3,hg⟩:=ah hg
 refine rG hV [pt 3 0,pt 4 1,pt 5 2,se 7 x2] [.w 26 a0,.w 52 a1,.w 52 a2] ?_ fun K k=>by simp[wD,h3];(repeat refine ai ?_);exact ky k (by first | rfl | (simp[wD,h3]<;>grind))
 refine sG fun _ k5=>?_
 obtain⟨adF,dE,hg⟩:=ah hg
 unfold ZT at dE
 refine sq [pt 3 0,pt 4 1,pt 5 2,se 7 x2,se 31 adF] [.w 26 a0,.w 52 a1,.w 52 a2] (fun _ gF=>?_) ?_
 ·obtain⟨x6,h7,dE⟩:=ah dE
  have CF:=h7;try simp at CF
  rcases ay dE with ⟨gz,dE⟩ | ⟨gz,dE⟩
  ·have ox:=gz;try simp at ox
   exact rJ hV (some [19,20,21,24,25,26,27,28,29,30]) gF fun K k=>by simp[Du,uk,h7,CF,gz,ox];(repeat refine ai ?_);cases dE;exact k _ (Sub.rm [0,1,2])
  have ox:=gz;try simp at ox
  obtain⟨x8,h9,dE⟩:=ah dE
  rcases ay dE with ⟨fw,dE⟩ | ⟨fw,dE⟩
  ·have hM:=fw;try simp at hM
   exact rJ hV (some [24,25,26,27,28,29,30]) gF fun K k=>by simp[Du,uk,h7,CF,gz,ox,h9,fw,hM];(repeat refine ai ?_);cases dE;exact k _ (Sub.rm [0,1,2])
  have hM:=fw;try simp at hM
  exact rJ hV (some []) gF fun K k=>by simp[Du,uk,h7,CF,gz,ox,h9,fw,hM];(repeat refine ai ?_);cases dE;exact k _ (Sub.rm [0,1,2])
 refine cN hg ?_ ?_<;>(clear hg;intro zt hg)
 ·refine rG hV [se 6 x2] [.w 26 a0,.w 52 a1,.w 52 a2] ?_
  cases hg;exact rz hQ
 refine sk k5 ?_
 obtain⟨⟨bN,bJ,ot⟩,Ex,hg⟩:=ah hg;try dsimp only at hg
 have WR:=Ex;try simp at WR
 refine rG hV [pt 3 0,pt 4 1,pt 5 2,se 7 x2,pt 8 3,se 9 bJ,se 10 ot] [.w 26 a0,.w 52 a1,.w 52 a2,.w 26 bN] ?_ fun K k=>by simp[pB,Ex,WR];(repeat refine ai ?_);exact ky k (by first | rfl | (simp[pB,Ex,WR]<;>grind))
 obtain⟨⟨bK,aM,br⟩,sW,hg⟩:=ah hg;try dsimp only at hg
 have Ll:=sW;try simp at Ll
 refine rG hV [se 7 x2,pt 8 3,se 9 bJ,se 10 ot,pt 11 4,se 12 aM,se 13 br] [.w 26 a0,.w 52 a1,.w 52 a2,.w 26 bN,.w 26 bK] ?_ fun K k=>by simp[pB,sW,Ll];(repeat refine ai ?_);exact ky k (by first | rfl | (simp[pB,sW,Ll]<;>grind))
 refine sG fun _ Ih=>?_
 obtain⟨ad8,iL,hg⟩:=ah hg
 unfold ZU at iL
 refine sq [se 7 x2,pt 8 0,se 9 bJ,pt 11 1,se 12 aM,se 66 ad8] [.w 26 bN,.w 26 bK] (fun _ sf=>?_) ?_
 ·rcases ay iL with ⟨jo,iL⟩ | ⟨jo,iL⟩
  ·have iG:=jo;try simp at iG
   exact rJ hV (some [54,55,58,59,60,63,64,65]) sf fun K k=>by simp[jo,iG];(repeat refine ai ?_);cases iL;exact k _ (Sub.rm [3,4])
  have iG:=rk jo
  rcases ay iL with ⟨oc,iL⟩ | ⟨oc,iL⟩
  ·have hX:=oc;try simp at hX
   exact rJ hV (some [58,59,60,63,64,65]) sf fun K k=>by simp[jo,iG,oc,hX];(repeat refine ai ?_);cases iL;exact k _ (Sub.rm [3,4])
  have hX:=rk oc
  rcases ay iL with ⟨AD,iL⟩ | ⟨AD,iL⟩
  ·have wT:=AD;try simp at wT
   exact rJ hV (some [63,64,65]) sf fun K k=>by simp[jo,iG,oc,hX,AD,wT];(repeat refine ai ?_);cases iL;exact k _ (Sub.rm [3,4])
  have wT:=rk AD
  exact rJ hV (some []) sf fun K k=>by simp[jo,iG,oc,hX,AD,wT];(repeat refine ai ?_);cases iL;exact k _ (Sub.rm [3,4])
 refine cN hg ?_ ?_<;>(clear hg;intro yf hg)
 ·refine rG hV [se 6 false] [.w 26 bN,.w 26 bK] ?_
  cases hg;exact rz hQ
 refine sk Ih ?_
 obtain⟨aem,oi,hg⟩:=ah hg
 unfold ZV at oi
 refine sq [se 6 aem] [] (fun _ C0=>?_) ?_
 ·rcases ay oi with ⟨Kr,oi⟩ | ⟨Kr,oi⟩
  ·obtain⟨Am,qV,oi⟩:=ah oi
   rcases ay oi with ⟨PS,oi⟩ | ⟨PS,oi⟩
   ·obtain⟨Dx,uQ,oi⟩:=ah oi
    obtain⟨aqU,aqV,HF⟩:=aY uQ;have Ln:=HF;try simp at Ln
    obtain⟨iR,zy,oi⟩:=ah oi
    obtain⟨aDx,aDy,W9⟩:=aY zy;have Xa:=W9;try simp at Xa
    rcases ay oi with ⟨AE,oi⟩ | ⟨AE,oi⟩
    ·have xU:=eq_true (of_decide_eq_true AE)
     obtain⟨ej,oS,oi⟩:=ah oi
     obtain⟨CD,CE,jY⟩:=aY oS;have qW:=jY;try simp at qW
     obtain⟨fH,rX,oi⟩:=ah oi
     obtain⟨HG,HH,pN⟩:=aY rX;have uS:=pN;try simp at uS
     exact cU hV mixed (some []) 22 [] C0 fun K k=>by simp[pC,Kr,qV,PS,HF,Ln,W9,Xa,AE,xU,jY,qW,pN,uS];(repeat refine ai ?_);cases oi;exact k _ (Sub.rm [])
    have xU:=AE;try simp at xU
    exact cU hV mixed (some [83,84,85,86,87,88,89]) 22 [] C0 fun K k=>by simp[pC,Kr,qV,PS,HF,Ln,W9,Xa,AE,xU];(repeat refine ai ?_);cases oi;exact k _ (Sub.rm [])
   exact cU hV mixed (some [74,75,76,77,78,79,80,83,84,85,86,87,88,89]) 22 [] C0 fun K k=>by simp[pC,Kr,qV,PS];(repeat refine ai ?_);cases oi;exact k _ (Sub.rm [])
  exact cU hV mixed (some [69,70,71,74,75,76,77,78,79,80,83,84,85,86,87,88,89]) 22 [] C0 fun K k=>by simp[pC,Kr];(repeat refine ai ?_);cases oi;exact k _ (Sub.rm [])
 cases hg;exact rz hQ
end
end Go.Proofs.YtjigeffmmcmlnaaGreatDoor
