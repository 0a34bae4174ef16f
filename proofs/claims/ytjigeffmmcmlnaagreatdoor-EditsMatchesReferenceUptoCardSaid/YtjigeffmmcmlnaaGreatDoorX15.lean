import Derived.Test.YtjigeffmmcmlnaaGreatDoorX14
import Derived.Test.YtjigeffmmcmlnaaGreatDoorX12
set_option linter.all false
set_option linter.unnecessarySimpa false
set_option linter.deprecated false
set_option linter.unusedVariables false
set_option linter.unusedSimpArgs false
set_option linter.unusedSectionVars false
namespace Go.Proofs.YtjigeffmmcmlnaaGreatDoor
open Go Go.an au
set_option maxRecDepth 4000
attribute [local instance] cJ
attribute [local congr] ab.kO
attribute [local simp] bu dz dU evalOp bd an.get fk strip bq an.after iI typed gr holds cR R.ok R.bad gI iU jk gW ku ji Op.operands Call.operands dY dA dQ dR iH il fm im gK fg nj nk nm np fK lH lL lJ fL jq lg lp lk ln ng ni jv mD bf D.cells T.eT D.one gH fV gb fo setAt eI fC jC fa gN bw cX iy fU iA gv jV arith et iM jf dG gC iN TD.agg env bR List.map fe iD ff gn gT mapOf iz iq dr mH mI mJ mK mL mM mN mO lK nh ll me mC my mB mr mG lq mi ml jw mE ko jh fh du fj iP gJ jB gone unbox iW fE gB gG lI lh nf jg jS List.contains_cons List.contains_nil lr iO iC iB gm ib gX lC kY mW l6 mw mu mz kr mF mh mj P2.list mA lB kW mU lF lb mZ l9 jQ kM lu kR mP lW jI kC lA kV mT l4 jM kH lE la mY l8 jP kL lD kZ mX l7 jO kJ jX kX mV l5 jN kI lG lf nc ma jW kT mR lY jK kF lv kS mQ lX jJ kD lz kU mS lZ jL kG kQ km lN lO lT lU lP lV lQ lR lS lM nD nH kv kz iQ nB nC nE nF nG nI nJ jD jE nL nM nN nO nP nQ nR nS nq nr nu nv nw nx ny nz nA
section
set_option maxRecDepth 10000
attribute [local simp] eJ qO qL rl qR qP qM rp qS qQ qN rq qT rT rP su rW rQ rN so rU rR rO sr rV tU tR ui tV KX CB Ee FV Uq Up
noncomputable def alz:an.Spec:=eY M1
theorem av1:aL Tryz.prog 108 alz:=by
 have hV:=zj (cs ajD cn)
 refine go2 hV Tryz.func108 rfl Tryz.ntmps108 fun a0 a1 r hg _ _ _ _ _ hQ=>?_
 unfold M1 at hg
 refine rG hV [se 0 a0,se 1 a1] [] ?_
 obtain⟨x2,h3,hg⟩:=ah hg
 refine rG hV [se 1 a1,pt 5 0] [.w 139 x2] ?_ fun K k=>by simp[acA,h3];exact kx k
 obtain⟨g5,hg⟩:=aK hg
 refine rG hV [pt 5 0,(6,.row 1)] [.w 139 x2,.ro 50 12 a1] ?_
 refine ab.sub (s':=⟨[se 5 ((⟨x2⟩:(Bx (List (Int×Int)))):(Bx (List (Int×Int)))),(6,.row 0)],[.ro 50 12 a1]⟩) (Sub.fz 5 0 x2 [1]) ?_
 obtain⟨g7,hg⟩:=aK hg
 refine rG hV [(6,.row 0)] [.ro 50 12 ((oK ((⟨(⟨x2⟩:(Bx (List (Int×Int))))⟩:y6).v0.v) a1):List ae)] ?_
 refine rG hV [(4,.row 0)] [.ro 50 12 ((oK ((⟨(⟨x2⟩:(Bx (List (Int×Int))))⟩:y6).v0.v) a1):List ae)] ?_
 cases hg;exact rz hQ
noncomputable def acS:an.Spec:=du fun(a0:(List aT)) (a1:(List ae))=>(IA a0 a1).map fun r=> .bn [enc r.1,enc r.2]
theorem aj3:aL Tryz.prog 67 acS:=by
 have hV:=zj (cs aaY (cs av1 cn))
 refine go2 hV Tryz.func67 rfl Tryz.ntmps67 fun a0 a1 r hg _ _ _ _ _ hQ=>?_
 unfold IA at hg
 refine rG hV [se 0 a0,se 1 a1] [] ?_
 refine sG fun _ k2=>?_
 obtain⟨x3,h4,hg⟩:=ah hg
 refine rG hV [se 0 a0,se 1 a1,se 9 (!x3)] [] ?_ fun K k=>by simp[Af,h4];exact kx k
 refine cN hg ?_ ?_<;>(clear hg;intro h6 hg)
 ·refine rG hV [(4,.ao 12),se 5 (1:Int)] [] ?_
  cases hg;exact rz hQ
 refine sk k2 ?_
 obtain⟨x8,h9,hg⟩:=ah hg
 refine rG hV [se 4 x8,se 5 (0:Int)] [] ?_ fun K k=>by simp[alz,h9];exact kx k
 cases hg;exact rz hQ
noncomputable def Jp:an.Spec:=eA Jc
theorem ajS:aL Tryz.prog 32 Jp:=by
 have hV:=zj (cs aaX (cs aj1 (cs awK (cs aaY (cs aj2 (cs aj3 (cs awL cn)))))))
 refine dT hV Tryz.func32 rfl Tryz.ntmps32 fun a0 r hg _ _ _ _ _ hQ=>?_
 unfold Jc at hg
 refine rG hV [pt 1 0] [.w 26 a0] ?_
 refine sG fun _ k2=>?_
 obtain⟨adR,dM,hg⟩:=ah hg
 unfold acj at dM
 refine sq [pt 1 0,se 36 adR] [.w 26 a0] (fun _ rj=>?_) ?_
 ·obtain⟨x3,h4,dM⟩:=ah dM
  rcases ay dM with ⟨gd,dM⟩ | ⟨gd,dM⟩
  ·have pe:=gd;try simp at pe
   exact rJ hV (some [10,11,12,13,16,17,18,19,22,23,24,25,26,27,30,31,32,33,34,35]) rj fun K k=>by simp[vv,Dv,Jr,Af,F5,h4,pe];cases dM;exact k _ (Sub.rm [0])
  have pe:=gd;try simp at pe
  obtain⟨x5,h6,dM⟩:=ah dM
  rcases ay dM with ⟨vI,dM⟩ | ⟨vI,dM⟩
  ·have uD:=vI;try simp at uD
   exact rJ hV (some [16,17,18,19,22,23,24,25,26,27,30,31,32,33,34,35]) rj fun K k=>by simp[vv,Dv,Jr,Af,F5,h4,pe,h6,uD];cases dM;exact k _ (Sub.rm [0])
  have uD:=vI;try simp at uD
  obtain⟨x7,h8,dM⟩:=ah dM
  rcases ay dM with ⟨tP,dM⟩ | ⟨tP,dM⟩
  ·have uE:=tP;try simp at uE
   exact rJ hV (some [22,23,24,25,26,27,30,31,32,33,34,35]) rj fun K k=>by simp[vv,Dv,Jr,Af,F5,h4,pe,h6,uD,h8,uE];cases dM;exact k _ (Sub.rm [0])
  have uE:=tP;try simp at uE
  obtain⟨x9,pM,dM⟩:=ah dM
  rcases ay dM with ⟨tQ,dM⟩ | ⟨tQ,dM⟩
  ·have jR:=tQ;try simp at jR
   exact rJ hV (some [30,31,32,33,34,35]) rj fun K k=>by simp[vv,Dv,Jr,Af,F5,h4,pe,h6,uD,h8,uE,pM,jR];cases dM;exact k _ (Sub.rm [0])
  have jR:=tQ;try simp at jR
  obtain⟨cb,pg,dM⟩:=ah dM
  exact rJ hV (some []) rj fun K k=>by simp[vv,Dv,Jr,Af,F5,h4,pe,h6,uD,h8,uE,pM,jR,pg];cases dM;exact k _ (Sub.rm [0])
 refine cN hg ?_ ?_<;>(clear hg;intro w6 hg)
 ·refine rG hV [se 2 false] [.w 26 a0] ?_
  cases hg;exact rz hQ
 refine sk k2 ?_
 obtain⟨⟨br,bc⟩,zw,hg⟩:=ah hg;try dsimp only at hg
 refine rG hV [pt 1 0,se 3 br,se 4 bc] [.w 26 a0] ?_ fun K k=>by simp[acS,zw];exact kx k
 obtain⟨aea,sd,hg⟩:=ah hg
 unfold ack at sd
 refine sq [se 2 aea] [] (fun _ tp=>?_) ?_
 ·rcases ay sd with ⟨oc,sd⟩ | ⟨oc,sd⟩
  ·have hX:=eq_true (of_decide_eq_true oc)
   obtain⟨tE,HB,sd⟩:=ah sd
   exact rJ hV (some []) tp fun K k=>by simp[al3,hX,HB];cases sd;exact k _ (Sub.rm [])
  have hX:=oc;try simp at hX
  exact rJ hV (some [48,49,50,51]) tp fun K k=>by simp[hX];cases sd;exact k _ (Sub.rm [])
 cases hg;exact rz hQ
noncomputable def acL:an.Spec:=fj fun(a0:Score) (a1:Int) (a2:(List ae))=>(Jd a0 a1 a2).map fun r=> .bn [enc r.1,enc r.2]
theorem ajT:aL Tryz.prog 35 acL:=by
 have hV:=zj (cs ajS (cs aaX (cs aaY (cs aj2 (cs aj3 (cs awO (cs awP cn)))))))
 refine pL hV Tryz.func35 rfl Tryz.ntmps35 fun a0 a1 a2 r hg _ _ _ _ _ hQ=>?_
 unfold Jd at hg
 refine rG hV [se 1 a1,se 2 a2,pt 3 0,pt 6 1] [.w 26 a0,.var 26 [.d (enc (0:Int)),.ao 4,.ao 13,.ao 12]] ?_
 refine sG fun _ k2=>?_
 obtain⟨aeJ,cr,hg⟩:=ah hg
 unfold acn at cr
 refine sq [se 1 a1,se 2 a2,pt 3 0,pt 6 1,se 25 aeJ] [.w 26 a0,.var 26 [.d (enc (0:Int)),.ao 4,.ao 13,.ao 12]] (fun _ gS=>?_) ?_
 ·obtain⟨x3,h4,cr⟩:=ah cr
  rcases ay cr with ⟨oa,cr⟩ | ⟨oa,cr⟩
  ·have pJ:=oa;try simp at pJ
   exact rJ hV (some [15,16,17,20,21,22,23,24]) gS fun K k=>by simp[Jp,vv,Af,h4,pJ];cases cr;exact k _ (Sub.rm [0,1])
  have pJ:=oa;try simp at pJ
  obtain⟨x5,h6,cr⟩:=ah cr
  rcases ay cr with ⟨hG,cr⟩ | ⟨hG,cr⟩
  ·have eo:=hG;try simp at eo
   exact rJ hV (some [20,21,22,23,24]) gS fun K k=>by simp[Jp,vv,Af,h4,pJ,h6,eo];cases cr;exact k _ (Sub.rm [0,1])
  have eo:=hG;try simp at eo
  obtain⟨x7,h8,cr⟩:=ah cr
  exact rJ hV (some []) gS fun K k=>by simp[Jp,vv,Af,h4,pJ,h6,eo,h8];cases cr;exact k _ (Sub.rm [0,1])
 refine cN hg ?_ ?_<;>(clear hg;intro sU hg)
 ·refine rG hV [pt 6 1,se 7 (1:Int)] [.w 26 a0,.var 26 [.d (enc (0:Int)),.ao 4,.ao 13,.ao 12]] ?_
  cases hg;exact rz hQ
 refine sk k2 ?_
 refine sG fun _ vg=>?_
 obtain⟨bN,qn,hg⟩:=ah hg
 refine rG hV [se 1 a1,se 2 a2,pt 3 0,pt 6 1,se 8 bN] [.w 26 a0,.var 26 [.d (enc (0:Int)),.ao 4,.ao 13,.ao 12]] ?_ fun K k=>by simp[F5,qn];exact kx k
 refine rG hV [se 1 a1,se 2 a2,pt 3 0,pt 6 1,se 8 bN,se 32 (!decide (bN=0))] [.w 26 a0,.var 26 [.d (enc (0:Int)),.ao 4,.ao 13,.ao 12]] ?_
 refine cN hg ?_ ?_<;>(clear hg;intro sV hg)
 ·refine rG hV [pt 6 1,se 7 bN] [.w 26 a0,.var 26 [.d (enc (0:Int)),.ao 4,.ao 13,.ao 12]] ?_
  cases hg;exact rz hQ
 refine sk vg ?_
 obtain⟨⟨aM,br⟩,sW,hg⟩:=ah hg;try dsimp only at hg
 refine rG hV [se 1 a1,pt 3 0,pt 6 1,se 9 aM] [.w 26 a0,.var 26 [.d (enc (0:Int)),.ao 4,.ao 13,.ao 12]] ?_ fun K k=>by simp[acS,sW];exact kx k
 obtain⟨kA,Ez,hg⟩:=ah hg
 obtain⟨B2,EA,hg⟩:=ah hg
 refine ic hV mixed [pt 6 1,se 7 (0:Int)] [.w 26 a0,.w 26 (⟨a1,kA,B2,aM⟩:Score)] 8 [] ?_ fun K k=>by simp[al6,al7,Ez,EA];exact kx k
 cases hg;exact rz hQ
end
section
set_option maxRecDepth 10000
attribute [local simp] eJ qO qL rl qR qP qM rp qS qQ qN rq qT rT rP su rW rQ rN so rU rR rO sr rV tU tR ui tV afH Qq Wn BV
noncomputable def Uw:an.Spec:=eA FQ
theorem aaR:aL Tryz.prog 39 Uw:=by
 have hV:=aos cn
 refine dT hV Tryz.func39 rfl Tryz.ntmps39 fun a0 r hg _ _ _ _ _ hQ=>?_
 unfold FQ at hg
 refine rG hV [se 0 a0] [] ?_
 refine rG hV [se 0 a0,se 3 (0:Int)] [] ?_
 refine cH (fun jH:Int=>Ue a0 jH=some r) (fun jH=>⟨[se 0 a0,se 3 jH],[]⟩) (fun _ k4=>?_) fun jH hg=>?_
 ·refine rG hV [se 0 a0,se 3 (0:Int),se 9 a0,se 10 (a0.length:Int),se 11 (0:Int)] [] ?_
  obtain⟨o35,asd,asS⟩:=ah hg;clear hg
  refine ab.block <| ab.aH (fun((bj,bB):Int×Int)=>⟨[se 0 a0,se 3 bj,se 9 a0,se 10 (a0.length:Int),se 11 bB],[]⟩) (BS a0) (0,0) asd (Sub.rm []) fun z38 w40 _ hg atq k6=>?_
  obtain⟨bj,bB⟩:=z38
  unfold BS at hg;try dsimp only at hg
  refine rG hV [se 0 a0,se 3 bj,se 9 a0,se 10 (a0.length:Int),se 11 bB,se 12 (decide (bB < (a0.length:Int)))] [] ?_
  refine sG fun _ Za=>?_
  refine cN hg ?_ ?_<;>(clear hg;intro ED hg)
  ·refine sk Za ?_
   refine cH (fun GB:Int=>Oi bB GB=some w40) (fun GB=>⟨[se 0 a0,se 3 GB,se 9 a0,se 10 (a0.length:Int),se 11 bB],[]⟩) (fun _ Zb=>?_) fun GB hg=>?_
   ·refine ab.block ?_
    obtain⟨nV,W8,hg⟩:=ah hg
    obtain⟨aDu,aDv,ag2⟩:=aY W8;have aqZ:=ag2;try simp at aqZ
    refine rG hV [se 0 a0,se 3 bj,se 5 nV,se 9 a0,se 10 (a0.length:Int),se 11 bB] [] ?_ fun K k=>by simp[ag2];(repeat refine ai ?_);exact kx k
    obtain⟨g49,hg⟩:=aK hg
    unfold ax at g49
    refine rG hV [se 0 a0,se 3 ((bj+(nV.length:Int)):Int),se 9 a0,se 10 (a0.length:Int),se 11 bB] [] ?_
    refine rG hV [se 0 a0,se 3 ((bj+(nV.length:Int)):Int),se 9 a0,se 10 (a0.length:Int),se 11 bB,se 20 (decide ((bj+(nV.length:Int)) < 0))] [] ?_
    refine cN hg ?_ ?_<;>(clear hg;intro rX hg)
    ·cases hg
    exact ab.skip (Zb _ ⟨_,hg,Sub.rm []⟩)
   unfold Oi at hg
   obtain⟨K9,hg⟩:=aK hg
   unfold ax at K9
   refine rH hV [se 0 a0,se 3 GB,se 9 a0,se 10 (a0.length:Int),se 11 ((bB+1):Int)] [] ?_
   exact k6 _ _ (aF hg).symm (Sub.rm [])
  refine ab.exit ?_
  cases atq _ (aF hg).symm;have hg:=asS;try dsimp only at hg
  exact k4 _ ⟨_,hg,Sub.rm []⟩
 unfold Ue at hg
 obtain⟨uM,hg⟩:=aK hg
 refine rG hV [se 0 a0,(6,.row 0)] [.ro 52 15 ([]:List aa)] ?_
 refine cH (fun GJ:(List aa)=>aci GJ=some r) (fun GJ=>⟨[(6,.row 0)],[.ro 52 15 GJ]⟩) (fun _ Zg=>?_) fun GJ hg=>?_
 ·refine rG hV [(6,.row 0),se 25 a0,se 26 (a0.length:Int),se 27 (0:Int)] [.ro 52 15 ([]:List aa)] ?_
  obtain⟨o87,asx,as1⟩:=ah hg;clear hg
  refine ab.block <| ab.aH (fun((kB,tM):(List aa)×Int)=>⟨[(6,.row 0),se 25 a0,se 26 (a0.length:Int),se 27 tM],[.ro 52 15 kB]⟩) (BR a0) ([],0) asx (Sub.rm [0]) fun z90 w92 _ hg atA zS=>?_
  obtain⟨kB,tM⟩:=z90
  unfold BR at hg;try dsimp only at hg
  refine rG hV [(6,.row 0),se 25 a0,se 26 (a0.length:Int),se 27 tM,se 28 (decide (tM < (a0.length:Int)))] [.ro 52 15 kB] ?_
  refine sG fun _ k94=>?_
  refine cN hg ?_ ?_<;>(clear hg;intro QR hg)
  ·refine sk k94 ?_
   refine cH (fun GV:(List aa)=>Oh tM GV=some w92) (fun GV=>⟨[(6,.row 0),se 25 a0,se 26 (a0.length:Int),se 27 tM],[.ro 52 15 GV]⟩) (fun _ zT=>?_) fun GV hg=>?_
   ·refine ab.block ?_
    obtain⟨O0,h99,hg⟩:=ah hg
    obtain⟨aD5,aD6,ahj⟩:=aY h99;have arq:=ahj;try simp at arq
    refine rG hV [(6,.row 0),se 8 O0,se 25 a0,se 26 (a0.length:Int),se 27 tM] [.ro 52 15 kB] ?_ fun K k=>by simp[ahj];(repeat refine ai ?_);exact kx k
    obtain⟨aBg,hg⟩:=aK hg
    refine rH hV [(6,.row 1),se 25 a0,se 26 (a0.length:Int),se 27 tM] [.dead,.ro 52 15 ((kB++O0):List aa)] ?_
    exact zT _ ⟨_,hg,Sub.rm [1]⟩
   unfold Oh at hg
   obtain⟨af6,hg⟩:=aK hg
   unfold ax at af6
   refine rH hV [(6,.row 0),se 25 a0,se 26 (a0.length:Int),se 27 ((tM+1):Int)] [.ro 52 15 GV] ?_
   exact zS _ _ (aF hg).symm (Sub.rm [0])
  refine ab.exit ?_
  cases atA _ (aF hg).symm;have hg:=as1;try dsimp only at hg
  exact Zg _ ⟨_,hg,Sub.rm [0]⟩
 unfold aci at hg
 refine rG hV [(2,.row 0)] [.ro 52 15 GJ] ?_
 cases hg;exact rz hQ
end
section
set_option maxRecDepth 10000
attribute [local simp] eJ qO qL rl qR qP qM rp qS qQ qN rq qT rT rP su rW rQ rN so rU rR rO sr rV tU tR ui tV KX CB Ee FV Uq Up afG Qr Qa xQ AO.fD T.fD T.By AO.RK
noncomputable def alV:an.Spec:=du fun(a0:Score) (a1:aa)=>(KU a0 a1).map fun r=> .bn [enc r.1,enc r.2]
theorem awA:aL Tryz.prog 34 alV:=by
 have hV:=VQ (cs ajV (cs ajT (cs awM cn)))
 refine go2 hV Tryz.func34 rfl Tryz.ntmps34 fun a0 a1 r hg R hR w0 I0 Q hQ=>?_
 unfold KU at hg
 refine rG hV [pt 2 0,pt 3 1,pt 4 2] [.w 26 a0,.w 52 a1,.var 26 [.d (enc (0:Int)),.ao 4,.ao 13,.ao 12]] ?_
 refine sG fun _ k2=>?_
 obtain⟨x3,h4,hg⟩:=ah hg
 refine rG hV [pt 2 0,pt 3 1,pt 4 2,se 12 (!x3)] [.w 26 a0,.w 52 a1,.var 26 [.d (enc (0:Int)),.ao 4,.ao 13,.ao 12]] ?_ fun K k=>by simp[acM,h4];exact kx k
 refine cN hg ?_ ?_<;>(clear hg;intro h6 hg)
 ·refine rG hV [pt 4 2,se 5 (1:Int)] [.w 26 a0,.w 52 a1,.w 26 a0] ?_
  cases hg;exact rz hQ
 refine sk k2 ?_
 obtain⟨x8,h9,hg⟩:=ah hg
 have Xo:=h9;try simp at Xo
 refine rG hV [pt 2 0,pt 3 1,pt 4 2,se 6 x8] [.w 26 a0,.w 52 a1,.var 26 [.d (enc (0:Int)),.ao 4,.ao 13,.ao 12]] ?_ fun K k=>by simp[al4,h9];exact kx k
 obtain⟨g11,hg⟩:=aK hg
 refine rG hV [pt 2 0,pt 3 1,pt 4 2,se 6 x8,(7,.row 3)] [.w 26 a0,.w 52 a1,.var 26 [.d (enc (0:Int)),.ao 4,.ao 13,.ao 12],.ro 50 12 a0.notes] ?_
 refine cH (fun xN:(List ae)=>Ht a0 a1 x8 xN=some r) (fun xN=>⟨[pt 2 0,pt 3 1,pt 4 2,se 6 x8,(7,.row 3)],[.w 26 a0,.w 52 a1,.var 26 [.d (enc (0:Int)),.ao 4,.ao 13,.ao 12],.ro 50 12 xN]⟩) (fun _ fY=>?_) fun xN hg=>?_
 ·refine rG hV [pt 2 0,pt 3 1,pt 4 2,se 6 x8,(7,.row 3),se 24 (decide (0≤x8))] [.w 26 a0,.w 52 a1,.var 26 [.d (enc (0:Int)),.ao 4,.ao 13,.ao 12],.ro 50 12 a0.notes] ?_
  refine cN hg ?_ ?_<;>(clear hg;intro sT hg)
  ·obtain⟨g17,hg⟩:=aK hg
   unfold ax at g17
   obtain⟨g18,hg⟩:=aK hg
   obtain⟨g19,hg⟩:=aK hg
   refine rH hV [pt 2 0,pt 3 1,pt 4 2,se 6 x8,(7,.row 5)] [.w 26 a0,.w 52 a1,.var 26 [.d (enc (0:Int)),.ao 4,.ao 13,.ao 12],.dead,.dead,.ro 50 12 ((a0.notes.take x8.toNat++a0.notes.drop (x8+1).toNat):List ae)] ?_
   exact fY _ ⟨_,hg,Sub.rm [0,1,2,5]⟩
  exact ab.skip (fY _ ⟨_,hg,Sub.rm [0,1,2,3]⟩)
 unfold Ht at hg
 refine cH (fun Ao:(List ae)=>Eo a0 Ao=some r) (fun Ao=>⟨[pt 2 0,pt 4 1,(7,.row 2)],[.w 26 a0,.var 26 [.d (enc (0:Int)),.ao 4,.ao 13,.ao 12],.ro 50 12 Ao]⟩) (fun _ Ig=>?_) fun Ao hg=>?_
 ·refine rG hV [pt 2 0,pt 3 1,pt 4 2,se 6 x8,(7,.row 3),se 32 (decide (a1.kind=1))] [.w 26 a0,.w 52 a1,.var 26 [.d (enc (0:Int)),.ao 4,.ao 13,.ao 12],.ro 50 12 xN] ?_
  refine cN hg ?_ ?_<;>(clear hg;intro sV hg)
  ·obtain⟨Wj,hg⟩:=aK hg
   refine rH hV [pt 2 0,pt 4 2,(7,.row 4)] [.w 26 a0,.w 52 a1,.var 26 [.d (enc (0:Int)),.ao 4,.ao 13,.ao 12],.dead,.ro 50 12 ((xN++[a1.note]):List ae)] ?_
   exact Ig _ ⟨_,hg,Sub.rm [0,2,4]⟩
  refine rG hV [pt 2 0,pt 4 2,(7,.row 3),se 39 (decide (x8 < 0))] [.w 26 a0,.w 52 a1,.var 26 [.d (enc (0:Int)),.ao 4,.ao 13,.ao 12],.ro 50 12 xN] ?_
  refine cN hg ?_ ?_<;>(clear hg;intro sW hg)
  ·refine rG hV [pt 4 2,se 5 (23:Int)] [.w 26 a0,.w 52 a1,.w 26 a0,.ro 50 12 xN] ?_
   cases hg;exact rz hQ
  exact ab.skip (Ig _ ⟨_,hg,Sub.rm [0,2,3]⟩)
 unfold Eo at hg
 obtain⟨⟨kA,tE⟩,HB,hg⟩:=ah hg;try dsimp only at hg
 refine rG hV [pt 2 0,pt 4 1,pt 8 3,se 9 tE] [.w 26 a0,.var 26 [.d (enc (0:Int)),.ao 4,.ao 13,.ao 12],.bz 50 12 Ao,.w 26 kA] ?_ fun K k=>by simp[acL,HB];exact kx k
 refine sG fun _ zR=>?_
 refine rG hV [pt 2 0,pt 4 1,pt 8 3,se 9 tE,se 50 (!decide (tE=0))] [.w 26 a0,.var 26 [.d (enc (0:Int)),.ao 4,.ao 13,.ao 12],.bz 50 12 Ao,.w 26 kA] ?_
 refine cN hg ?_ ?_<;>(clear hg;intro h36 hg)
 ·refine rG hV [pt 4 1,se 5 tE] [.w 26 a0,.w 26 a0,.bz 50 12 Ao,.w 26 kA] ?_
  cases hg;exact rz hQ
 refine sk zR ?_
 refine rG hV [pt 4 1,se 5 (0:Int)] [.w 26 a0,.w 26 kA,.bz 50 12 Ao,.w 26 kA] ?_
 cases hg;exact rz hQ
theorem aoi {p0:Score} {p1:Int} {p2:(List Int)} {p3:aa} {p4:aa} {akA:Score} {akB:(List Int)} (hg:Qc p0 p1 p2 p3 p4=some (akA,akB)):gZ Tryz.prog 33 [.d (enc (p4:aa)),.ptr 0 0,.ptr 2 0] [.w 26 p0,.var 26 [.d (enc (p1:Int)),.ao 4,.ao 13,.ao 12],.var 31 [.row 3],.ro 32 1 p2,.w 52 p3] fun u l'=>u = .bn []∧∃ v f,l'=[.w 26 akA,.var 26 [.d (enc (p1:Int)),.ao 4,.ao 13,.ao 12],.var 31 [.row 6],.dead,.w 52 p3,.frame 5 v f,.ro 32 1 akB]:=by
 have hV:=VQ (cs awA cn)
 refine gZ.of hV (Enters.of Tryz.func33 (by decide)) Tryz.func33 rfl (by rw[Tryz.ntmps33];simp) fun R hR w0 I0 vals ft Q hQ=>?_
 rw[Tryz.ntmps33]
 show ab _ _ _ _ _ ⟨[se 0 p4,pt 1 0,pt 2 2],[.w 26 p0,.var 26 [.d (enc (p1:Int)),.ao 4,.ao 13,.ao 12],.var 31 [.row 3],.ro 32 1 p2,.w 52 p3,.frame 5 vals ft]⟩ _
 unfold Qc at hg
 refine rG hV [pt 1 0,pt 2 2,pt 3 6] [.w 26 p0,.var 26 [.d (enc (p1:Int)),.ao 4,.ao 13,.ao 12],.var 31 [.row 3],.ro 32 1 p2,.w 52 p3,.frame 5 vals ft,.w 52 p4] ?_
 obtain⟨⟨x3,x4⟩,h5,hg⟩:=ah hg;try dsimp only at hg
 refine rG hV [pt 1 0,pt 2 2,pt 4 7,se 5 x4] [.w 26 p0,.var 26 [.d (enc (p1:Int)),.ao 4,.ao 13,.ao 12],.var 31 [.row 3],.ro 32 1 p2,.w 52 p3,.frame 5 vals ft,.w 52 p4,.w 26 x3] ?_ fun K k=>by simp[alV,h5];exact kx k
 obtain⟨g8,hg⟩:=aK hg
 refine ab.MR (t:=⟨[],[.w 26 x3,.var 26 [.d (enc (p1:Int)),.ao 4,.ao 13,.ao 12],.var 31 [.row 8],.dead,.w 52 p3,.frame 5 vals ft,.w 52 p4,.w 26 x3,.ro 32 1 ((p2++[x4]):List Int)]⟩) (fun _ k9=>?_) ?_
 ·refine ab.Ub hV mixed none [0,1,2,3,4,5,6] 4 [0] [[4,5,6]] [] (by decide) (by decide) (by decide) (by first | rfl | decide | simp[AL,BE]) fun K oj K1 gS=>?_
  simp only[dJ,pX,fP,List.filterMap_cons,List.filterMap_nil,List.getElem?_cons_zero,List.getElem?_cons_succ,Option.map_some,Option.map_none,List.map_cons,List.map_nil,List.findIdx_cons]
  simp;repeat refine ai ?_
  refine gS _ ?_;clear gS
  have gF:=oj ⟨[],[.w 26 x3,.var 26 [.d (enc (p1:Int)),.ao 4,.ao 13,.ao 12],.var 31 [.row 8],.dead,.w 52 p3,.frame 5 vals ft,.w 52 p4,.w 26 x3,.ro 32 1 ((p2++[x4]):List Int)]⟩ (k9 _ (Sub.rm [0,1,2,3,4,5,6,7,8]))
  have aio:=gF;try simp at aio
  refine⟨?_,trivial⟩
  all_goals simp only[dJ,pX,fP,List.filterMap_cons,List.filterMap_nil,List.getElem?_cons_zero,List.getElem?_cons_succ,Option.map_some,Option.map_none,List.map_cons,List.map_nil,List.findIdx_cons,wq]
  all_goals simp
  all_goals repeat refine ai ?_
  all_goals first | exact aio | exact cO rfl gF | exact cO (by simp<;>grind) gF
 replace hg:=Option.some.inj hg;obtain⟨gD,dy⟩:=Prod.mk.inj hg;clear hg;subst gD;have hg:=dy;clear dy;subst hg;exact hQ _ _ (.inr rfl) ⟨⟨[],[.w 26 x3,.var 26 [.d (enc (p1:Int)),.ao 4,.ao 13,.ao 12],.var 31 [.row 6],.dead,.w 52 p3,.frame 5 vals ft,.ro 32 1 ((p2++[x4]):List Int)]⟩,Sub.rm [0,1,2,3,4,5,8],by simp[dN],rfl,by simp[dN,sw],_,_,rfl⟩
noncomputable def pB:an.Spec:=fj fun(a0:Score) (a1:Int) (a2:(List aa))=>(tS a0 a1 a2).map fun r=> .bn [enc r.1,enc r.2.1,enc r.2.2]
theorem IG:aL Tryz.prog 12 pB:=by
 have hV:=VQ (cs ajR (cs ajS (cs ajT cn)))
 refine pL hV Tryz.func12 rfl Tryz.ntmps12 fun a0 a1 a2 r hg R hR w0 I0 Q hQ=>?_
 unfold tS at hg
 refine rG hV [se 1 a1,se 2 a2,pt 3 0,pt 6 1] [.w 26 a0,.var 26 [.d (enc (0:Int)),.ao 4,.ao 13,.ao 12]] ?_
 refine sG fun _ k2=>?_
 refine rG hV [se 1 a1,se 2 a2,pt 3 0,pt 6 1,se 17 (decide (1000 < (a2.length:Int)))] [.w 26 a0,.var 26 [.d (enc (0:Int)),.ao 4,.ao 13,.ao 12]] ?_
 refine cN hg ?_ ?_<;>(clear hg;intro h4 hg)
 ·refine rG hV [pt 6 1,(7,.ao 1),se 8 (2:Int)] [.w 26 a0,.var 26 [.d (enc (0:Int)),.ao 4,.ao 13,.ao 12]] ?_
  cases hg;exact rz hQ
 refine sk k2 ?_
 refine sG fun _ k6=>?_
 obtain⟨adK,dF,hg⟩:=ah hg
 unfold VB at dF
 refine sq [se 1 a1,se 2 a2,pt 3 0,pt 6 1,se 26 adK] [.w 26 a0,.var 26 [.d (enc (0:Int)),.ao 4,.ao 13,.ao 12]] (fun _ o0=>?_) ?_
 ·obtain⟨x7,h8,dF⟩:=ah dF
  rcases ay dF with ⟨hG,dF⟩ | ⟨hG,dF⟩
  ·have eo:=hG;try simp at eo
   exact rJ hV (some [23,24,25]) o0 fun K k=>by simp[Jo,Jp,h8,eo];cases dF;exact k _ (Sub.rm [0,1])
  have eo:=hG;try simp at eo
  obtain⟨x9,pM,dF⟩:=ah dF
  exact rJ hV (some []) o0 fun K k=>by simp[Jo,Jp,h8,eo,pM];cases dF;exact k _ (Sub.rm [0,1])
 refine cN hg ?_ ?_<;>(clear hg;intro sU hg)
 ·refine rG hV [pt 6 1,(7,.ao 1),se 8 (1:Int)] [.w 26 a0,.var 26 [.d (enc (0:Int)),.ao 4,.ao 13,.ao 12]] ?_
  cases hg;exact rz hQ
 refine sk k6 ?_
 refine rG hV [se 1 a1,se 2 a2,pt 3 0,pt 6 1,pt 9 2] [.w 26 a0,.var 26 [.d (enc (0:Int)),.ao 4,.ao 13,.ao 12],.var 31 [.ao 1]] ?_
 refine rG hV [se 1 a1,se 2 a2,pt 3 0,pt 6 1,pt 9 2,(10,.aR 33 [.ptr 0 0,.ptr 2 0])] [.w 26 a0,.var 26 [.d (enc (0:Int)),.ao 4,.ao 13,.ao 12],.var 31 [.ao 1]] ?_
 refine ab.sm (fun s'=>∃ yX:Score,∃ Ap:(List Int),Qd a1 yX Ap=some r∧Sub s' ⟨[se 1 a1,pt 3 0,pt 6 1,pt 9 2],[.w 26 yX,.var 26 [.d (enc (0:Int)),.ao 4,.ao 13,.ao 12],.var 31 [.row 3],.ro 32 1 Ap]⟩) (fun _ Ig=>?_) ?_
 ·refine rG hV [se 1 a1,pt 3 0,pt 6 1,pt 9 2,(10,.aR 33 [.ptr 0 0,.ptr 2 0]),se 29 a2,se 30 (a2.length:Int),se 31 (0:Int)] [.w 26 a0,.var 26 [.d (enc (0:Int)),.ao 4,.ao 13,.ao 12],.var 31 [.ao 1]] ?_
  obtain⟨o61,ass,asY⟩:=ah hg;clear hg
  refine ab.block <| ab.aH (fun((tJ,DH,sL):Score×(List Int)×Int)=>⟨[se 1 a1,pt 3 0,pt 6 1,pt 9 2,(10,.aR 33 [.ptr 0 0,.ptr 2 0]),se 29 a2,se 30 (a2.length:Int),se 31 sL],[.w 26 tJ,.var 26 [.d (enc (0:Int)),.ao 4,.ao 13,.ao 12],.var 31 [.row 3],.ro 32 1 DH]⟩) (KN a2) (a0,[],0) ass (Sub.trans (Sub.UW 2 0 32 1 rfl rfl) (Sub.rm [0,1,2,3])) fun z64 w66 _ hg atx wc=>?_
  obtain⟨tJ,DH,sL⟩:=z64
  unfold KN at hg;try dsimp only at hg
  refine rG hV [se 1 a1,pt 3 0,pt 6 1,pt 9 2,(10,.aR 33 [.ptr 0 0,.ptr 2 0]),se 29 a2,se 30 (a2.length:Int),se 31 sL,se 32 (decide (sL < (a2.length:Int)))] [.w 26 tJ,.var 26 [.d (enc (0:Int)),.ao 4,.ao 13,.ao 12],.var 31 [.row 3],.ro 32 1 DH] ?_
  refine sG fun _ RT=>?_
  refine cN hg ?_ ?_<;>(clear hg;intro EJ hg)
  ·refine sk RT ?_
   refine ab.sm (fun s'=>∃ JN:Score,∃ JO:(List Int),Qe sL JN JO=some w66∧Sub s' ⟨[se 1 a1,pt 3 0,pt 6 1,pt 9 2,(10,.aR 33 [.ptr 0 0,.ptr 2 0]),se 29 a2,se 30 (a2.length:Int),se 31 sL],[.w 26 JN,.var 26 [.d (enc (0:Int)),.ao 4,.ao 13,.ao 12],.var 31 [.row 3],.ro 32 1 JO]⟩) (fun _ Zi=>?_) ?_
   ·refine ab.block ?_
    obtain⟨tF,Xf,hg⟩:=ah hg
    obtain⟨aDT,aDU,ahe⟩:=aY Xf;have ari:=ahe;try simp at ari
    refine rG hV [se 1 a1,pt 3 0,pt 6 1,pt 9 2,(10,.aR 33 [.ptr 0 0,.ptr 2 0]),pt 12 4,se 29 a2,se 30 (a2.length:Int),se 31 sL] [.w 26 tJ,.var 26 [.d (enc (0:Int)),.ao 4,.ao 13,.ao 12],.var 31 [.row 3],.ro 32 1 DH,.w 52 tF] ?_ fun K k=>by simp[ahe];(repeat refine ai ?_);exact kx k
    refine ab.Ua hV [1,3,6,9,10,29,30,31] fun K Ik=>?_
    refine cm.seq hV none 2 [1,3,6,9,10,29,30,31,35,36] (by decide) (by decide) fun K1 Zj=>?_
    simp;repeat refine ai ?_
    refine kc [se 1 a1,pt 3 0,pt 6 1,pt 9 2,(10,.aR 33 [.ptr 0 0,.ptr 2 0]),se 29 a2,se 30 (a2.length:Int),se 31 sL,(35,.aR 33 [.ptr 0 0,.ptr 2 0]),se 36 tF] [.w 26 tJ,.var 26 [.d (enc (0:Int)),.ao 4,.ao 13,.ao 12],.var 31 [.row 3],.ro 32 1 DH,.w 52 tF] (Zj _ ?_)
    obtain⟨⟨JI,B6⟩,Xh,hg⟩:=ah hg;try dsimp only at hg
    refine cm.call hV 33 [.d (enc (tF:aa)),.ptr 0 0,.ptr 2 0] rfl rfl trivial (by decide) (by simp[kN]) fun K2 RU=>?_
    refine(aoi Xh).mono ?_
    rintro _ _ ⟨rfl,v81,f82,rfl⟩
    refine RU _ _ ?_
    refine cm.fin hV none ?_
    simp;repeat refine ai ?_
    refine kc [se 1 a1,pt 3 0,pt 6 1,pt 9 2,(10,.aR 33 [.ptr 0 0,.ptr 2 0]),se 29 a2,se 30 (a2.length:Int),se 31 sL] [.w 26 JI,.var 26 [.d (enc (0:Int)),.ao 4,.ao 13,.ao 12],.var 31 [.row 6],.dead,.w 52 tF,.frame 5 v81 f82,.ro 32 1 B6] (Ik _ ?_)
    exact Zi _ ⟨_,_,hg,Sub.rm [0,1,2,6]⟩
   rintro s' ⟨JN,JO,hg,hs⟩
   unfold Qe at hg
   refine ab.sub hs ?_
   obtain⟨g83,hg⟩:=aK hg
   unfold ax at g83
   refine rH hV [se 1 a1,pt 3 0,pt 6 1,pt 9 2,(10,.aR 33 [.ptr 0 0,.ptr 2 0]),se 29 a2,se 30 (a2.length:Int),se 31 ((sL+1):Int)] [.w 26 JN,.var 26 [.d (enc (0:Int)),.ao 4,.ao 13,.ao 12],.var 31 [.row 3],.ro 32 1 JO] ?_
   exact wc _ _ (aF hg).symm (Sub.rm [0,1,2,3])
  refine ab.exit ?_
  cases atx _ (aF hg).symm;have hg:=asY;try dsimp only at hg
  exact Ig _ ⟨_,_,hg,Sub.rm [0,1,2,3]⟩
 rintro s' ⟨yX,Ap,hg,hs⟩
 unfold Qd at hg
 refine ab.sub hs ?_
 obtain⟨⟨vA,tG⟩,HI,hg⟩:=ah hg;try dsimp only at hg
 refine rG hV [pt 6 1,pt 9 2,pt 13 4,se 14 tG] [.w 26 yX,.var 26 [.d (enc (0:Int)),.ao 4,.ao 13,.ao 12],.var 31 [.row 3],.ro 32 1 Ap,.w 26 vA] ?_ fun K k=>by simp[acL,HI];exact kx k
 refine sG fun _ Bp=>?_
 refine rG hV [pt 6 1,pt 9 2,pt 13 4,se 14 tG,se 48 (!decide (tG=0))] [.w 26 yX,.var 26 [.d (enc (0:Int)),.ao 4,.ao 13,.ao 12],.var 31 [.row 3],.ro 32 1 Ap,.w 26 vA] ?_
 refine cN hg ?_ ?_<;>(clear hg;intro Xn hg)
 ·refine rG hV [pt 6 1,(7,.ao 1),se 8 tG] [.w 26 yX,.var 26 [.d (enc (0:Int)),.ao 4,.ao 13,.ao 12],.var 31 [.row 3],.ro 32 1 Ap,.w 26 vA] ?_
  cases hg;exact rz hQ
 refine sk Bp ?_
 refine sq [pt 6 1,(7,.row 3),se 8 (0:Int)] [.w 26 yX,.w 26 vA,.var 31 [.row 3],.ro 32 1 Ap,.w 26 vA] (fun _ Il=>?_) ?_
 ·refine ab.Ub hV mixed none [0,1,2,3,4] 1 [0] [[1,2,3,4],[2,1,3,4]] [6,7,8] (by decide) (by decide) (by decide) (by first | rfl | decide | simp[AL,BE]) fun K Bq K1 zT=>?_
  simp only[dJ,pX,fP,List.filterMap_cons,List.filterMap_nil,List.getElem?_cons_zero,List.getElem?_cons_succ,Option.map_some,Option.map_none,List.map_cons,List.map_nil,List.findIdx_cons]
  simp;repeat refine ai ?_
  refine zT _ ?_;clear zT
  have Zo:=Bq ⟨[pt 6 1,(7,.row 3),se 8 (0:Int)],[.w 26 yX,.w 26 vA,.var 31 [.row 3],.ro 32 1 Ap,.w 26 vA]⟩ (Il _ (Sub.rm [0,1,2,3,4]))
  have aiC:=Zo;try simp at aiC
  refine⟨?_,?_,trivial⟩
  all_goals simp only[dJ,pX,fP,List.filterMap_cons,List.filterMap_nil,List.getElem?_cons_zero,List.getElem?_cons_succ,Option.map_some,Option.map_none,List.map_cons,List.map_nil,List.findIdx_cons,wq]
  all_goals simp
  all_goals repeat refine ai ?_
  all_goals first | exact aiC | exact cO rfl Zo | exact cO (by simp<;>grind) Zo
 cases hg;exact rz hQ
end
end Go.Proofs.YtjigeffmmcmlnaaGreatDoor
