import Derived.Test.YtjigeffmmcmlnaaGreatDoorYb2
import Derived.Test.YtjigeffmmcmlnaaGreatDoorX18
set_option linter.all false
set_option linter.unnecessarySimpa false
set_option linter.deprecated false
set_option linter.unusedVariables false
set_option linter.unusedSimpArgs false
set_option linter.unusedSectionVars false
namespace Go.Proofs.YtjigeffmmcmlnaaGreatDoor
open Go Go.an au
set_option maxRecDepth 4000
attribute [local instance] cJ
attribute [local congr] ab.kO
attribute [local simp] bu dz dU evalOp bd an.get fk strip bq an.after iI typed gr holds cR R.ok R.bad gI iU jk gW ku ji Op.operands Call.operands dY dA dQ dR iH il fm im gK fg nj nk nm np fK lH lL lJ fL jq lg lp lk ln ng ni jv mD bf D.cells T.eT D.one gH fV gb fo setAt eI fC jC fa gN bw cX iy fU iA gv jV arith et iM jf dG gC iN TD.agg env bR List.map fe iD ff gn gT mapOf iz iq dr mH mI mJ mK mL mM mN mO lK nh ll me mC my mB mr mG lq mi ml jw mE ko jh fh du fj iP gJ jB gone unbox iW fE gB gG lI lh nf jg jS List.contains_cons List.contains_nil lr iO iC iB gm ib gX lC kY mW l6 mw mu mz kr mF mh mj P2.list mA lB kW mU lF lb mZ l9 jQ kM lu kR mP lW jI kC lA kV mT l4 jM kH lE la mY l8 jP kL lD kZ mX l7 jO kJ jX kX mV l5 jN kI lG lf nc ma jW kT mR lY jK kF lv kS mQ lX jJ kD lz kU mS lZ jL kG kQ km lN lO lT lU lP lV lQ lR lS lM nD nH kv kz iQ nB nC nE nF nG nI nJ jD jE nL nM nN nO nP nQ nR nS nq nr nu nv nw nx ny nz nA
section
set_option maxRecDepth 10000
attribute [local simp] eJ qO qL rl qR qP qM rp qS qQ qN rq qT rT rP su rW rQ rN so rU rR rO sr rV tU tR ui tV Cx zn Ac BV BA C5 Fv
noncomputable def sp4:an.Spec:=eY R1
set_option maxHeartbeats 20000000 in
theorem ok4:aL Tryz.prog 4 sp4:=by
 have hV:=AJ (cs IH (cs aaP (cs M4 (cs IG (cs M3 (cs ajN (cs ajO (cs ajP cn))))))))
 refine go2 hV Tryz.func4 rfl Tryz.ntmps4 fun a0 a1 r hg _ _ _ _ _ hQ=>?_
 unfold R1 at hg
 refine rG hV [pt 2 0,pt 3 1] [.w 26 a0,.w 52 a1] ?_
 obtain⟨x2,h3,hg⟩:=ah hg
 refine rG hV [pt 2 0,pt 3 1,se 5 x2] [.w 26 a0,.w 52 a1] ?_ fun K k=>by simp[wD,h3];(repeat refine ai ?_);exact ky k (by first | rfl | (simp[wD,h3]<;>grind))
 refine sG fun _ k5=>?_
 obtain⟨adD,dE,hg⟩:=ah hg
 unfold Zy at dE
 refine sq [pt 2 0,pt 3 1,se 5 x2,se 23 adD] [.w 26 a0,.w 52 a1] (fun _ gF=>?_) ?_
 ·obtain⟨x6,h7,dE⟩:=ah dE
  have CF:=h7;try simp at CF
  rcases ay dE with ⟨gz,dE⟩ | ⟨gz,dE⟩
  ·have ox:=gz;try simp at ox
   exact rJ hV (some [20,21,22]) gF fun K k=>by simp[Du,uk,h7,CF,gz,ox];(repeat refine ai ?_);cases dE;exact k _ (Sub.rm [0,1])
  have ox:=gz;try simp at ox
  obtain⟨x8,h9,dE⟩:=ah dE
  exact rJ hV (some []) gF fun K k=>by simp[Du,uk,h7,CF,gz,ox,h9];(repeat refine ai ?_);cases dE;exact k _ (Sub.rm [0,1])
 refine cN hg ?_ ?_<;>(
             clear hg;intro sT hg)
 ·refine rG hV [se 4 x2] [.w 26 a0,.w 52 a1] ?_
  cases hg;exact rz hQ
 refine sk k5 ?_
 obtain⟨⟨bh,ru,bN⟩,qn,hg⟩:=ah hg;try dsimp only at hg
 have Ew:=qn;try simp at Ew
 refine rG hV [pt 2 0,pt 3 1,se 5 x2,pt 6 2,se 7 ru,se 8 bN] [.w 26 a0,.w 52 a1,.w 26 bh] ?_ fun K k=>by simp[pB,qn,Ew];(repeat refine ai ?_);exact ky k (by first | rfl | (simp[pB,qn,Ew]<;>grind))
 refine sG fun _ Mw=>?_
 obtain⟨ad4,s8,hg⟩:=ah hg
 unfold ZA at s8
 refine sq [pt 2 0,pt 3 1,se 5 x2,pt 6 2,se 7 ru,se 49 ad4] [.w 26 a0,.w 52 a1,.w 26 bh] (fun _ CZ=>?_) ?_
 ·rcases ay s8 with ⟨rL,s8⟩ | ⟨rL,s8⟩
  ·have Hi:=rL;try simp at Hi
   exact rJ hV (some [36,37,38,41,42,43,46,47,48]) CZ fun K k=>by simp[uk,rL,Hi];(repeat refine ai ?_);cases s8;exact k _ (Sub.rm [0,1,2])
  have Hi:=rk rL
  rcases ay s8 with ⟨xS,s8⟩ | ⟨xS,s8⟩
  ·have uG:=xS;try simp at uG
   exact rJ hV (some [41,42,43,46,47,48]) CZ fun K k=>by simp[uk,rL,Hi,xS,uG];(repeat refine ai ?_);cases s8;exact k _ (Sub.rm [0,1,2])
  have uG:=rk xS
  obtain⟨fT,w6,s8⟩:=ah s8
  rcases ay s8 with ⟨xT,s8⟩ | ⟨xT,s8⟩
  ·have Kh:=xT;try simp at Kh
   exact rJ hV (some [46,47,48]) CZ fun K k=>by simp[uk,rL,Hi,xS,uG,w6,xT,Kh];(repeat refine ai ?_);cases s8;exact k _ (Sub.rm [0,1,2])
  have Kh:=xT;try simp at Kh
  exact rJ hV (some []) CZ fun K k=>by simp[uk,rL,Hi,xS,uG,w6,xT,Kh];(repeat refine ai ?_);cases s8;exact k _ (Sub.rm [0,1,2])
 refine cN hg ?_ ?_<;>(clear hg;intro h36 hg)
 ·refine rG hV [se 4 false] [.w 26 a0,.w 52 a1,.w 26 bh] ?_
  cases hg;exact rz hQ
 refine sk Mw ?_
 refine rG hV [pt 2 0,pt 3 1,se 5 x2,pt 6 2,se 7 ru] [.w 26 a0,.w 52 a1,.w 26 (({ bh with version:=a0.version }):Score)] ?_
 refine sG fun _ Y8=>?_
 obtain⟨ry,yf,hg⟩:=ah hg
 obtain⟨W0,W1,vR⟩:=aY yf;have zx:=vR;try simp at zx
 refine rG hV [pt 2 0,pt 3 1,se 5 x2,pt 6 2,se 56 (!decide (ry=0))] [.w 26 a0,.w 52 a1,.w 26 (({ bh with version:=a0.version }):Score)] ?_ fun K k=>by simp[vR,zx];(repeat refine ai ?_);exact ky k (by first | rfl | (simp[vR,zx]<;>grind))
 refine cN hg ?_ ?_<;>(clear hg;intro ED hg)
 ·obtain⟨aeg,yE,hg⟩:=ah hg
  unfold ZE at yE
  refine sq [se 4 aeg] [] (fun _ pw=>?_) ?_
  ·rcases ay yE with ⟨Vj,yE⟩ | ⟨Vj,yE⟩
   ·obtain⟨ig,uP,yE⟩:=ah yE
    have yg:=uP;try simp at yg
    exact rJ hV (some []) pw fun K k=>by simp[pC,Vj,uP,yg];(repeat refine ai ?_);cases yE;exact k _ (Sub.rm [])
   exact rJ hV (some [59,60,61]) pw fun K k=>by simp[pC,Vj];(repeat refine ai ?_);cases yE;exact k _ (Sub.rm [])
  cases hg;exact rz hQ
 refine sk Y8 ?_
 refine ch (R5 a0 a1 x2 bh=some r) [pt 2 0,pt 3 1,se 5 x2,pt 6 2] [.w 26 a0,.w 52 a1,.w 26 (({ bh with version:=a0.version }):Score)] (fun _ Bo=>?_) fun hg=>?_
 ·refine rG hV [pt 2 0,pt 3 1,se 5 x2,pt 6 2,se 64 a0.notes,se 65 (a0.notes.length:Int),se 66 (0:Int)] [.w 26 a0,.w 52 a1,.w 26 (({ bh with version:=a0.version }):Score)] ?_
  obtain⟨ajn,arU,ahz⟩:=ah hg;clear hg
  refine ab.block <| ab.aH (fun(sN:Int)=>⟨[pt 2 0,pt 3 1,se 5 x2,pt 6 2,se 64 a0.notes,se 65 (a0.notes.length:Int),se 66 sN],[.w 26 a0,.w 52 a1,.w 26 (({ bh with version:=a0.version }):Score)]⟩) (MF a0 a1 bh) 0 arU (Sub.rm [0,1,2]) fun sN aAG _ hg ah3 C0=>?_
  unfold MF at hg;try dsimp only at hg
  refine rG hV [pt 2 0,pt 3 1,se 5 x2,pt 6 2,se 64 a0.notes,se 65 (a0.notes.length:Int),se 66 sN,se 67 (decide (sN < (a0.notes.length:Int)))] [.w 26 a0,.w 52 a1,.w 26 (({ bh with version:=a0.version }):Score)] ?_
  refine sG fun _ Ib=>?_
  refine cN hg ?_ ?_<;>(clear hg;intro Qz hg)
  ·refine sk Ib ?_
   refine ch (R2 sN=some aAG) [pt 2 0,pt 3 1,se 5 x2,pt 6 2,se 64 a0.notes,se 65 (a0.notes.length:Int),se 66 sN] [.w 26 a0,.w 52 a1,.w 26 (({ bh with version:=a0.version }):Score)] (fun _ Mq=>?_) fun hg=>?_
   ·refine ab.block ?_
    obtain⟨wH,Wx,hg⟩:=ah hg
    obtain⟨aBJ,aBK,Wy⟩:=aY Wx;have Wz:=Wy;try simp at Wz
    refine rG hV [pt 2 0,pt 3 1,se 5 x2,pt 6 2,pt 10 3,se 64 a0.notes,se 65 (a0.notes.length:Int),se 66 sN] [.w 26 a0,.w 52 a1,.w 26 (({ bh with version:=a0.version }):Score),.w 50 wH] ?_ fun K k=>by simp[Wy,Wz];(repeat refine ai ?_);exact ky k (by first | rfl | (simp[Wy,Wz]<;>grind))
    obtain⟨xI,yd,hg⟩:=ah hg
    have Ld:=yd;try simp at Ld
    refine rG hV [pt 2 0,pt 3 1,se 5 x2,pt 6 2,pt 10 3,se 11 xI,se 64 a0.notes,se 65 (a0.notes.length:Int),se 66 sN] [.w 26 a0,.w 52 a1,.w 26 (({ bh with version:=a0.version }):Score),.w 50 wH] ?_ fun K k=>by simp[xF,yd,Ld];(repeat refine ai ?_);exact ky k (by first | rfl | (simp[xF,yd,Ld]<;>grind))
    obtain⟨adO,xh,hg⟩:=ah hg
    unfold Zz at xh
    refine sq [pt 2 0,pt 3 1,se 5 x2,pt 6 2,se 64 a0.notes,se 65 (a0.notes.length:Int),se 66 sN,se 93 adO] [.w 26 a0,.w 52 a1,.w 26 (({ bh with version:=a0.version }):Score)] (fun _ YY=>?_) ?_
    ·rcases ay xh with ⟨G9,xh⟩ | ⟨G9,xh⟩
     ·have J4:=G9;try simp at J4
      rcases ay xh with ⟨AA,xh⟩ | ⟨AA,xh⟩
      ·have za:=AA;try simp at za
       exact cU hV mixed (some [85,86,87,88,89,90,91]) 16 [] YY fun K k=>by simp[G9,J4,AA,za];(repeat refine ai ?_);cases xh;exact k _ (Sub.rm [0,1,2])
      have za:=AA;try simp at za
      obtain⟨amH,apH,xh⟩:=ah xh
      obtain⟨aBS,aBT,ago⟩:=aY apH;have agp:=ago;try simp at agp
      exact cU hV mixed (some []) 16 [] YY fun K k=>by simp[G9,J4,AA,za,ago,agp];(repeat refine ai ?_);cases xh;exact k _ (Sub.rm [0,1,2])
     have J4:=rk G9
     exact cU hV mixed (some [82,83,84,85,86,87,88,89,90,91,92]) 16 [] YY fun K k=>by simp[G9,J4];(repeat refine ai ?_);cases xh;exact k _ (Sub.rm [0,1,2])
    refine cN hg ?_ ?_<;>(clear hg;intro aBY hg)
    ·refine rG hV [se 4 false] [.w 26 a0,.w 52 a1,.w 26 (({ bh with version:=a0.version }):Score)] ?_
     cases ah3 _ (aF hg).symm;have hg:=ahz;try dsimp only at hg
     cases hg;exact rz hQ
    exact ab.skip (Mq _ ⟨hg,Sub.rm [0,1,2]⟩)
   unfold R2 at hg
   obtain⟨Wg,hg⟩:=aK hg
   unfold ax at Wg
   refine rH hV [pt 2 0,pt 3 1,se 5 x2,pt 6 2,se 64 a0.notes,se 65 (a0.notes.length:Int),se 66 ((sN+1):Int)] [.w 26 a0,.w 52 a1,.w 26 (({ bh with version:=a0.version }):Score)] ?_
   exact C0 _ _ (aF hg).symm (Sub.rm [0,1,2])
  refine ab.exit ?_
  cases ah3 _ (aF hg).symm;have hg:=ahz;try dsimp only at hg
  exact Bo _ ⟨hg,Sub.rm [0,1,2]⟩
 unfold R5 at hg
 refine ch (R3 a0 a1 x2 bh=some r) [pt 2 0,pt 3 1,se 5 x2,pt 6 2] [.w 26 a0,.w 52 a1,.w 26 (({ bh with version:=a0.version }):Score)] (fun _ atS=>?_) fun hg=>?_
 ·refine rG hV [pt 2 0,pt 3 1,se 5 x2,pt 6 2,se 96 (({ bh with version:=a0.version }).notes:(List ae)),se 97 (((({ bh with version:=a0.version }).notes).length:Int):Int),se 98 (0:Int)] [.w 26 a0,.w 52 a1,.w 26 (({ bh with version:=a0.version }):Score)] ?_
  obtain⟨ajs,ar2,ahC⟩:=ah hg;clear hg
  refine ab.block <| ab.aH (fun(tH:Int)=>⟨[pt 2 0,pt 3 1,se 5 x2,pt 6 2,se 96 (({ bh with version:=a0.version }).notes:(List ae)),se 97 (((({ bh with version:=a0.version }).notes).length:Int):Int),se 98 tH],[.w 26 a0,.w 52 a1,.w 26 (({ bh with version:=a0.version }):Score)]⟩) (MG a0 a1 bh) 0 ar2 (Sub.rm [0,1,2]) fun tH aAO _ hg ah6 atT=>?_
  unfold MG at hg;try dsimp only at hg
  refine rG hV [pt 2 0,pt 3 1,se 5 x2,pt 6 2,se 96 (({ bh with version:=a0.version }).notes:(List ae)),se 97 (((({ bh with version:=a0.version }).notes).length:Int):Int),se 98 tH,se 99 (decide (tH < ((({ bh with version:=a0.version }).notes).length:Int)))] [.w 26 a0,.w 52 a1,.w 26 (({ bh with version:=a0.version }):Score)] ?_
  refine sG fun _ at7=>?_
  refine cN hg ?_ ?_<;>(clear hg;intro agD hg)
  ·refine sk at7 ?_
   refine ch (R4 tH=some aAO) [pt 2 0,pt 3 1,se 5 x2,pt 6 2,se 96 (({ bh with version:=a0.version }).notes:(List ae)),se 97 (((({ bh with version:=a0.version }).notes).length:Int):Int),se 98 tH] [.w 26 a0,.w 52 a1,.w 26 (({ bh with version:=a0.version }):Score)] (fun _ Y5=>?_) fun hg=>?_
   ·refine ab.block ?_
    obtain⟨xJ,WI,hg⟩:=ah hg
    obtain⟨aqb,aqc,ye⟩:=aY WI;have Lk:=ye;try simp at Lk
    refine rG hV [pt 2 0,pt 3 1,se 5 x2,pt 6 2,pt 13 3,se 96 (({ bh with version:=a0.version }).notes:(List ae)),se 97 (((({ bh with version:=a0.version }).notes).length:Int):Int),se 98 tH] [.w 26 a0,.w 52 a1,.w 26 (({ bh with version:=a0.version }):Score),.w 50 xJ] ?_ fun K k=>by simp[ye,Lk];(repeat refine ai ?_);exact ky k (by first | rfl | (simp[ye,Lk]<;>grind))
    obtain⟨adX,CT,hg⟩:=ah hg
    unfold ZB at CT
    refine sq [pt 2 0,pt 3 1,se 5 x2,pt 6 2,se 96 (({ bh with version:=a0.version }).notes:(List ae)),se 97 (((({ bh with version:=a0.version }).notes).length:Int):Int),se 98 tH,se 115 adX] [.w 26 a0,.w 52 a1,.w 26 (({ bh with version:=a0.version }):Score)] (fun _ air=>?_) ?_
    ·rcases ay CT with ⟨J9,CT⟩ | ⟨J9,CT⟩
     ·have PD:=J9;try simp at PD
      obtain⟨amO,aqd,CT⟩:=ah CT
      exact rJ hV (some []) air fun K k=>by simp[xF,J9,PD,aqd];(repeat refine ai ?_);cases CT;exact k _ (Sub.rm [0,1,2])
     have PD:=rk J9
     exact rJ hV (some [109,110,111,112,113,114]) air fun K k=>by simp[xF,J9,PD];(repeat refine ai ?_);cases CT;exact k _ (Sub.rm [0,1,2])
    refine cN hg ?_ ?_<;>(clear hg;intro aCu hg)
    ·refine rG hV [se 4 false] [.w 26 a0,.w 52 a1,.w 26 (({ bh with version:=a0.version }):Score)] ?_
     cases ah6 _ (aF hg).symm;have hg:=ahC;try dsimp only at hg
     cases hg;exact rz hQ
    exact ab.skip (Y5 _ ⟨hg,Sub.rm [0,1,2]⟩)
   unfold R4 at hg
   obtain⟨ao1,hg⟩:=aK hg
   unfold ax at ao1
   refine rH hV [pt 2 0,pt 3 1,se 5 x2,pt 6 2,se 96 (({ bh with version:=a0.version }).notes:(List ae)),se 97 (((({ bh with version:=a0.version }).notes).length:Int):Int),se 98 ((tH+1):Int)] [.w 26 a0,.w 52 a1,.w 26 (({ bh with version:=a0.version }):Score)] ?_
   exact atT _ _ (aF hg).symm (Sub.rm [0,1,2])
  refine ab.exit ?_
  cases ah6 _ (aF hg).symm;have hg:=ahC;try dsimp only at hg
  exact atS _ ⟨hg,Sub.rm [0,1,2]⟩
 unfold R3 at hg
 obtain⟨Ak,WJ,hg⟩:=ah hg
 have WK:=WJ;try simp at WK
 refine rG hV [pt 2 0,pt 3 1,se 5 x2,pt 6 2,se 14 Ak] [.w 26 a0,.w 52 a1,.w 26 (({ bh with version:=a0.version }):Score)] ?_ fun K k=>by simp[xF,WJ,WK];(repeat refine ai ?_);exact ky k (by first | rfl | (simp[xF,WJ,WK]<;>grind))
 refine sG fun _ aue=>?_
 refine rG hV [pt 2 0,pt 3 1,se 5 x2,pt 6 2,se 14 Ak,se 125 (decide (a1.kind=2))] [.w 26 a0,.w 52 a1,.w 26 (({ bh with version:=a0.version }):Score)] ?_
 refine cN hg ?_ ?_<;>(clear hg;intro aCC hg)
 ·obtain⟨adY,xj,hg⟩:=ah hg
  unfold ZC at xj
  refine sq [se 4 adY] [] (fun _ Mv=>?_) ?_
  ·rcases ay xj with ⟨PI,xj⟩ | ⟨PI,xj⟩
   ·rcases ay xj with ⟨Kb,xj⟩ | ⟨Kb,xj⟩
    ·have Kc:=Kb;try simp at Kc
     obtain⟨amP,aqj,xj⟩:=ah xj
     exact rJ hV (some []) Mv fun K k=>by simp[xF,PI,Kb,Kc,aqj];(repeat refine ai ?_);cases xj;exact k _ (Sub.rm [])
    have Kc:=Kb;try simp at Kc
    exact rJ hV (some [132,133,134,135,136,137,138]) Mv fun K k=>by simp[xF,PI,Kb,Kc];(repeat refine ai ?_);cases xj;exact k _ (Sub.rm [])
   exact rJ hV (some [128,129,132,133,134,135,136,137,138]) Mv fun K k=>by simp[xF,PI];(repeat refine ai ?_);cases xj;exact k _ (Sub.rm [])
  cases hg;exact rz hQ
 refine sk aue ?_
 obtain⟨ad1,oh,hg⟩:=ah hg
 unfold ZD at oh
 refine sq [se 4 ad1] [] (fun _ Mx=>?_) ?_
 ·rcases ay oh with ⟨He,oh⟩ | ⟨He,oh⟩
  ·rcases ay oh with ⟨DZ,oh⟩ | ⟨DZ,oh⟩
   ·have D2:=DZ;try simp at D2
    obtain⟨amQ,aqn,oh⟩:=ah oh
    obtain⟨aCG,aCH,QC⟩:=aY aqn;have QD:=QC;try simp at QD
    rcases ay oh with ⟨Hf,oh⟩ | ⟨Hf,oh⟩
    ·have Kd:=eq_true (of_decide_eq_true Hf)
     obtain⟨amR,WN,oh⟩:=ah oh
     have WO:=WN;try simp at WO
     rcases ay oh with ⟨U8,oh⟩ | ⟨U8,oh⟩
     ·obtain⟨amT,agG,oh⟩:=ah oh
      have agH:=agG;try simp at agH
      exact cU hV mixed (some []) 27 [] Mx fun K k=>by simp[FX,FY,He,DZ,D2,QC,QD,Hf,Kd,WN,WO,U8,agG,agH];(repeat refine ai ?_);cases oh;exact k _ (Sub.rm [])
     exact cU hV mixed (some [163,164,165,166,167]) 27 [] Mx fun K k=>by simp[FX,FY,He,DZ,D2,QC,QD,Hf,Kd,WN,WO,U8];(repeat refine ai ?_);cases oh;exact k _ (Sub.rm [])
    have Kd:=Hf;try simp at Kd
    exact cU hV mixed (some [156,157,158,159,160,163,164,165,166,167]) 27 [] Mx fun K k=>by simp[FX,FY,He,DZ,D2,QC,QD,Hf,Kd];(repeat refine ai ?_);cases oh;exact k _ (Sub.rm [])
   have D2:=DZ;try simp at D2
   exact cU hV mixed (some [146,147,148,149,150,151,152,153,156,157,158,159,160,163,164,165,166,167]) 27 [] Mx fun K k=>by simp[FX,FY,He,DZ,D2];(repeat refine ai ?_);cases oh;exact k _ (Sub.rm [])
  exact cU hV mixed (some [142,143,146,147,148,149,150,151,152,153,156,157,158,159,160,163,164,165,166,167]) 27 [] Mx fun K k=>by simp[FX,FY,He];(repeat refine ai ?_);cases oh;exact k _ (Sub.rm [])
 cases hg;exact rz hQ
end
end Go.Proofs.YtjigeffmmcmlnaaGreatDoor
