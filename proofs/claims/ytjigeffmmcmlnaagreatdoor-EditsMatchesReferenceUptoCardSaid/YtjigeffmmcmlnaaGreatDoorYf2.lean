import Derived.Test.YtjigeffmmcmlnaaGreatDoorYf1
import Derived.Test.YtjigeffmmcmlnaaGreatDoorX18
set_option linter.all false
set_option linter.unnecessarySimpa false
set_option linter.deprecated false
set_option linter.unusedVariables false
set_option linter.unusedSimpArgs false
set_option linter.unusedSectionVars false
namespace Go.Proofs.YtjigeffmmcmlnaaGreatDoor
open Go Go.an au
set_option maxRecDepth 4000
attribute [local instance] cJ
attribute [local congr] ab.kO
attribute [local simp] bu dz dU evalOp bd an.get fk strip bq an.after iI typed gr holds cR R.ok R.bad gI iU jk gW ku ji Op.operands Call.operands dY dA dQ dR iH il fm im gK fg nj nk nm np fK lH lL lJ fL jq lg lp lk ln ng ni jv mD bf D.cells T.eT D.one gH fV gb fo setAt eI fC jC fa gN bw cX iy fU iA gv jV arith et iM jf dG gC iN TD.agg env bR List.map fe iD ff gn gT mapOf iz iq dr mH mI mJ mK mL mM mN mO lK nh ll me mC my mB mr mG lq mi ml jw mE ko jh fh du fj iP gJ jB gone unbox iW fE gB gG lI lh nf jg jS List.contains_cons List.contains_nil lr iO iC iB gm ib gX lC kY mW l6 mw mu mz kr mF mh mj P2.list mA lB kW mU lF lb mZ l9 jQ kM lu kR mP lW jI kC lA kV mT l4 jM kH lE la mY l8 jP kL lD kZ mX l7 jO kJ jX kX mV l5 jN kI lG lf nc ma jW kT mR lY jK kF lv kS mQ lX jJ kD lz kU mS lZ jL kG kQ km lN lO lT lU lP lV lQ lR lS lM nD nH kv kz iQ nB nC nE nF nG nI nJ jD jE nL nM nN nO nP nQ nR nS nq nr nu nv nw nx ny nz nA
section
set_option maxRecDepth 10000
attribute [local simp] eJ qO qL rl qR qP qM rp qS qQ qN rq qT rT rP su rW rQ rN so rU rR rO sr rV tU tR ui tV KX CB Ee FV Uq Up
noncomputable def acJ:an.Spec:=du fun(a0:Score) (a1:(List aa))=>(N4 a0 a1).map fun r=> .bn [enc r.1,enc r.2]
theorem awy:aL Tryz.prog 21 acJ:=by
 have hV:=zj (cs ajH (cs awI (cs ajN cn)))
 refine go2 hV Tryz.func21 rfl Tryz.ntmps21 fun a0 a1 r hg _ _ _ _ _ hQ=>?_
 unfold N4 at hg
 refine rG hV [se 1 a1,pt 2 0] [.w 26 a0] ?_
 obtain⟨⟨x2,x3,x4⟩,h5,hg⟩:=ah hg;try dsimp only at hg
 have Lo:=h5;try simp at Lo
 refine rG hV [pt 2 0,pt 6 1,se 8 x4] [.w 26 a0,.w 26 x2] ?_ fun K k=>by simp[Uu,h5];exact kx k
 refine sG fun _ k7=>?_
 refine rG hV [pt 2 0,pt 6 1,se 8 x4,se 24 (!decide (x4=0))] [.w 26 a0,.w 26 x2] ?_
 refine cN hg ?_ ?_<;>(clear hg;intro h9 hg)
 ·refine rG hV [(4,.ao 15),se 5 x4] [.w 26 a0,.w 26 x2] ?_
  cases hg;exact rz hQ
 refine sk k7 ?_
 refine rG hV [pt 2 0,pt 6 1,(9,.ao 15)] [.w 26 a0,.w 26 x2] ?_
 refine rG hV [pt 2 0,pt 6 1,(9,.ao 15),(10,.ao 15)] [.w 26 a0,.w 26 x2] ?_
 refine ab.sm (fun s'=>∃ B8:(List aa),∃ yW:(List aa),T1 B8 yW=some r∧Sub s' ⟨[(9,.row 0),(10,.row 1)],[.ro 52 15 B8,.ro 52 15 yW]⟩) (fun _ fY=>?_) ?_
 ·refine rG hV [pt 2 0,pt 6 1,(9,.ao 15),(10,.ao 15),se 11 (0:Int)] [.w 26 a0,.w 26 x2] ?_
  obtain⟨o85,asw,ahO⟩:=ah hg;clear hg
  refine ab.block <| ab.aH (fun((bE,rB,bB):(List aa)×(List aa)×Int)=>⟨[pt 2 0,pt 6 1,(9,.row 2),(10,.row 3),se 11 bB],[.w 26 a0,.w 26 x2,.ro 52 15 bE,.ro 52 15 rB]⟩) (FO a0 x2) ([],[],0) asw (Sub.trans (Sub.pb 9 52 15 rfl) (Sub.trans (Sub.pb 10 52 15 rfl) (Sub.rm [0,1,2,3]))) fun z88 w90 _ hg aie Bm=>?_
  obtain⟨bE,rB,bB⟩:=z88
  unfold FO at hg;try dsimp only at hg
  refine sG fun _ Bp=>?_
  refine rG hV [pt 2 0,pt 6 1,(9,.row 2),(10,.row 3),se 11 bB,se 27 (decide (0≤bB))] [.w 26 a0,.w 26 x2,.ro 52 15 bE,.ro 52 15 rB] ?_
  refine cN hg ?_ ?_<;>(clear hg;intro Xn hg)
  ·refine sk Bp ?_
   refine ab.block ?_
   obtain⟨jG,QR,hg⟩:=ah hg
   refine rG hV [pt 2 0,pt 6 1,(9,.row 2),(10,.row 3),se 11 jG] [.w 26 a0,.w 26 x2,.ro 52 15 bE,.ro 52 15 rB] ?_ fun K k=>by simp[al1,QR];exact kx k
   refine sG fun _ zT=>?_
   refine rG hV [pt 2 0,pt 6 1,(9,.row 2),(10,.row 3),se 11 jG,se 35 (decide (jG < 0))] [.w 26 a0,.w 26 x2,.ro 52 15 bE,.ro 52 15 rB] ?_
   refine cN hg ?_ ?_<;>(clear hg;intro h99 hg)
   ·refine ab.exit ?_
    cases aie _ (aF hg).symm;have hg:=ahO;try dsimp only at hg
    exact fY _ ⟨_,_,hg,Sub.rm [2,3]⟩
   refine sk zT ?_
   obtain⟨vw,Wp,hg⟩:=ah hg
   refine rG hV [pt 2 0,pt 6 1,(9,.row 2),(10,.row 3),se 11 jG,se 12 vw] [.w 26 a0,.w 26 x2,.ro 52 15 bE,.ro 52 15 rB] ?_ fun K k=>by simp[xF,Wp];exact kx k
   obtain⟨Gc,age,hg⟩:=ah hg
   refine rG hV [pt 2 0,pt 6 1,(9,.row 2),(10,.row 3),se 11 jG,se 12 vw,se 13 Gc] [.w 26 a0,.w 26 x2,.ro 52 15 bE,.ro 52 15 rB] ?_ fun K k=>by simp[xF,age];exact kx k
   refine rG hV [pt 2 0,pt 6 1,(9,.row 2),(10,.row 3),se 11 jG,se 12 vw,se 13 Gc,se 45 (decide (vw < 0))] [.w 26 a0,.w 26 x2,.ro 52 15 bE,.ro 52 15 rB] ?_
   refine cN hg ?_ ?_<;>(clear hg;intro aps hg)
   ·obtain⟨aBj,hg⟩:=aK hg
    refine rH hV [pt 2 0,pt 6 1,(9,.row 4),(10,.row 3),se 11 jG] [.w 26 a0,.w 26 x2,.dead,.ro 52 15 rB,.ro 52 15 ((bE++[(⟨2,0,0,(⟨jG,0,0,0,0,(⟨0,0⟩:Rat),(⟨0,0⟩:Rat),(⟨0,0,0⟩:az)⟩:ae)⟩:aa)]):List aa)] ?_
    exact Bm _ _ (aF hg).symm (Sub.rm [0,1,4,3])
   obtain⟨adH,gR,hg⟩:=ah hg
   unfold abX at gR
   refine sq [pt 2 0,pt 6 1,(9,.row 2),(10,.row 3),se 11 jG,se 12 vw,se 66 adH] [.w 26 a0,.w 26 x2,.ro 52 15 bE,.ro 52 15 rB] (fun _ zP=>?_) ?_
   ·rcases ay gR with ⟨wQ,gR⟩ | ⟨wQ,gR⟩
    ·have qg:=wQ;try simp at qg
     exact cU hV mixed (some [55,56,57,58,59,60,61,62,63,64,65]) 13 [] zP fun K k=>by simp[qg];cases gR;exact k _ (Sub.rm [0,1,2,3])
    have qg:=wQ;try simp at qg
    obtain⟨JA,Wv,gR⟩:=ah gR
    obtain⟨apy,apz,Lc⟩:=aY Wv;have Ww:=Lc;try simp at Ww
    obtain⟨OU,Qz,gR⟩:=ah gR
    obtain⟨aBD,aBE,agh⟩:=aY Qz;have apA:=agh;try simp at apA
    exact cU hV mixed (some []) 13 [] zP fun K k=>by simp[wQ,qg,Lc,agh];(repeat refine ai ?_);cases gR;exact k _ (Sub.rm [0,1,2,3])
   refine cN hg ?_ ?_<;>(clear hg;intro yd hg)
   ·obtain⟨Ai,Ev,hg⟩:=ah hg
    obtain⟨aBQ,aBR,agn⟩:=aY Ev;have apG:=agn;try simp at apG
    obtain⟨af7,hg⟩:=aK hg
    refine rH hV [pt 2 0,pt 6 1,(9,.row 2),(10,.row 4),se 11 jG] [.w 26 a0,.w 26 x2,.ro 52 15 bE,.dead,.ro 52 15 ((rB++[(⟨1,0,0,Ai⟩:aa)]):List aa)] ?_ fun K k=>by simp[agn];(repeat refine ai ?_);exact ky k (by first | rfl | (simp<;>grind))
    exact Bm _ _ (aF hg).symm (Sub.rm [0,1,2,4])
   exact ab.skip (Bm _ _ (aF hg).symm (Sub.rm [0,1,2,3]))
  refine ab.exit ?_
  cases aie _ (aF hg).symm;have hg:=ahO;try dsimp only at hg
  exact fY _ ⟨_,_,hg,Sub.rm [2,3]⟩
 rintro s' ⟨B8,yW,hg,hs⟩
 unfold T1 at hg
 refine ab.sub hs ?_
 obtain⟨aBk,hg⟩:=aK hg
 refine rG hV [(14,.row 2)] [.dead,.bz 52 15 yW,.ro 52 15 ((B8++yW):List aa)] ?_
 refine cH (fun Gh:(List aa)=>T3 Gh=some r) (fun Gh=>⟨[(14,.row 0)],[.ro 52 15 Gh]⟩) (fun _ atQ=>?_) fun Gh hg=>?_
 ·refine rG hV [(14,.row 2),se 15 (0:Int)] [.dead,.bz 52 15 yW,.ro 52 15 ((B8++yW):List aa)] ?_
  obtain⟨aEk,arZ,asM⟩:=ah hg;clear hg
  refine ab.block <| ab.aH (fun((xO,jl):(List aa)×Int)=>⟨[(14,.row 0),se 15 jl],[.ro 52 15 xO]⟩) FN ((B8++yW),0) arZ (Sub.rm [2]) fun aA5 aAL _ hg atl YZ=>?_
  obtain⟨xO,jl⟩:=aA5
  unfold FN at hg;try dsimp only at hg
  refine sG fun _ Y2=>?_
  refine rG hV [(14,.row 0),se 15 jl,se 82 (decide (jl < (xO.length:Int)))] [.ro 52 15 xO] ?_
  refine cN hg ?_ ?_<;>(clear hg;intro ap3 hg)
  ·refine sk Y2 ?_
   refine cH (fun Gk:(List aa)=>T2 jl Gk=some aAL) (fun Gk=>⟨[(14,.row 0),se 15 jl],[.ro 52 15 Gk]⟩) (fun _ at1=>?_) fun Gk hg=>?_
   ·refine ab.block ?_
    obtain⟨aoY,hg⟩:=aK hg
    unfold ax at aoY
    obtain⟨OW,ap4,hg⟩:=ah hg
    obtain⟨aCn,aCo,agA⟩:=aY ap4;have ap5:=agA;try simp at ap5
    refine rG hV [(14,.row 0),se 15 jl] [.ro 52 15 ((xO.set jl.toNat ({ OW with clock:=(jl+1) })):List aa)] ?_ fun K k=>by simp[agA];(repeat refine ai ?_);exact ky k (by first | rfl | (simp<;>grind))
    obtain⟨adq,ap6,hg⟩:=ah hg
    obtain⟨aCp,aCq,ap7⟩:=aY ap6;have agB:=ap7;try simp at agB
    refine rH hV [(14,.row 0),se 15 jl] [.ro 52 15 (((xO.set jl.toNat ({ OW with clock:=(jl+1) })).set jl.toNat ({ adq with ev:=1 })):List aa)] ?_ fun K k=>by simp[agB];(repeat refine ai ?_);exact ky k (by first | rfl | (simp<;>grind))
    exact at1 _ ⟨_,hg,Sub.rm [0]⟩
   unfold T2 at hg
   obtain⟨aoZ,hg⟩:=aK hg
   unfold ax at aoZ
   refine rH hV [(14,.row 0),se 15 ((jl+1):Int)] [.ro 52 15 Gk] ?_
   exact YZ _ _ (aF hg).symm (Sub.rm [0])
  refine ab.exit ?_
  cases atl _ (aF hg).symm;have hg:=asM;try dsimp only at hg
  exact atQ _ ⟨_,hg,Sub.rm [0]⟩
 unfold T3 at hg
 refine rG hV [(4,.row 0),se 5 (0:Int)] [.ro 52 15 Gh] ?_
 cases hg;exact rz hQ
end
section
set_option maxRecDepth 10000
attribute [local simp] eJ qO qL rl qR qP qM rp qS qQ qN rq qT rT rP su rW rQ rN so rU rR rO sr rV tU tR ui tV Cx zn Ac BV BA C5 Fv
noncomputable def sp3:an.Spec:=iP fun(a0:Score) (a1:Int) (a2:(List aa)) (a3:(List aa))=>(Se a0 a1 a2 a3).map fun r=>enc r
set_option maxHeartbeats 20000000 in
theorem ok3:aL Tryz.prog 3 sp3:=by
 have hV:=AJ (cs IH (cs ajC (cs av5 (cs IG (cs ajH (cs M3 (cs ajK (cs aaL (cs awr (cs aaM (cs aaN (cs aaO (cs awy cn)))))))))))))
 refine aL.ajz (Enters.of Tryz.func3 (by decide)) fun a0 a1 a2 a3 rr hr=>?_
 obtain⟨r,hg,rfl⟩:=C4 hr;clear hr
 refine ee.Dc hV Tryz.func3 rfl Tryz.ntmps3 fun R hR w0 I0 Q hQ=>?_
 unfold Se at hg
 refine rG hV [se 1 a1,se 2 a2,se 3 a3,pt 4 0] [.w 26 a0] ?_
 obtain⟨x2,h3,hg⟩:=ah hg
 refine rG hV [se 1 a1,se 2 a2,se 3 a3,pt 4 0,se 9 x2] [.w 26 a0] ?_ fun K k=>by simp[wD,h3];(repeat refine ai ?_);exact ky k (by first | rfl | (simp[wD,h3]<;>grind))
 refine sG fun _ k5=>?_
 obtain⟨adP,bC,hg⟩:=ah hg
 unfold Sf at bC
 refine sq [se 1 a1,se 2 a2,se 3 a3,pt 4 0,se 9 x2,se 33 adP] [.w 26 a0] (fun _ fY=>?_) ?_
 ·obtain⟨x6,h7,bC⟩:=ah bC
  rcases ay bC with ⟨fw,bC⟩ | ⟨fw,bC⟩
  ·have hM:=fw;try simp at hM
   exact rJ hV (some [25,26,27,30,31,32]) fY fun K k=>by simp[Jg,Us,h7,fw,hM];(repeat refine ai ?_);cases bC;exact k _ (Sub.rm [0])
  have hM:=fw;try simp at hM
  obtain⟨x8,h9,bC⟩:=ah bC
  rcases ay bC with ⟨qI,bC⟩ | ⟨qI,bC⟩
  ·have J6:=qI;try simp at J6
   exact rJ hV (some [30,31,32]) fY fun K k=>by simp[Jg,Us,h7,fw,hM,h9,qI,J6];(repeat refine ai ?_);cases bC;exact k _ (Sub.rm [0])
  have J6:=qI;try simp at J6
  obtain⟨dw,wZ,bC⟩:=ah bC
  exact rJ hV (some []) fY fun K k=>by simp[Jg,Us,h7,fw,hM,h9,qI,J6,wZ];(repeat refine ai ?_);cases bC;exact k _ (Sub.rm [0])
 refine cN hg ?_ ?_<;>(clear hg;intro AQ hg)
 ·refine rG hV [se 8 x2] [.w 26 a0] ?_
  cases hg;exact rz hQ
 refine sk k5 ?_
 obtain⟨⟨ot,fu,fT⟩,w6,hg⟩:=ah hg;try dsimp only at hg
 refine rG hV [se 1 a1,se 2 a2,se 3 a3,pt 4 0,se 9 x2,pt 10 1,se 11 fu,se 12 fT] [.w 26 a0,.w 26 ot] ?_ fun K k=>by simp[pB,w6];(repeat refine ai ?_);exact ky k (by first | rfl | (simp[pB,w6]<;>grind))
 obtain⟨⟨br,bc,ei⟩,AR,hg⟩:=ah hg;try dsimp only at hg
 refine rG hV [se 2 a2,se 3 a3,pt 4 0,se 9 x2,pt 10 1,se 11 fu,se 12 fT,pt 13 2,se 14 bc,se 15 ei] [.w 26 a0,.w 26 ot,.w 26 br] ?_ fun K k=>by simp[Uu,AR];(repeat refine ai ?_);exact ky k (by first | rfl | (simp[Uu,AR]<;>grind))
 obtain⟨Gt,oG,hg⟩:=ah hg
 unfold ZL at oG
 refine sq [se 2 a2,se 3 a3,pt 4 0,se 9 Gt] [.w 26 a0] (fun _ RQ=>?_) ?_
 ·rcases ay oG with ⟨Ki,oG⟩ | ⟨Ki,oG⟩
  ·obtain⟨B2,EA,oG⟩:=ah oG
   rcases ay oG with ⟨Ck,oG⟩ | ⟨Ck,oG⟩
   ·obtain⟨OX,QF,oG⟩:=ah oG
    rcases ay oG with ⟨Vc,oG⟩ | ⟨Vc,oG⟩
    ·exact rJ hV (some []) RQ fun K k=>by simp[pC,BY,Ki,EA,Ck,QF,Vc];(repeat refine ai ?_);cases oG;exact k _ (Sub.rm [0])
    exact rJ hV (some [63,64,65]) RQ fun K k=>by simp[pC,BY,Ki,EA,Ck,QF,Vc];(repeat refine ai ?_);cases oG;exact k _ (Sub.rm [0])
   exact rJ hV (some [58,59,60,63,64,65]) RQ fun K k=>by simp[pC,BY,Ki,EA,Ck];(repeat refine ai ?_);cases oG;exact k _ (Sub.rm [0])
  exact rJ hV (some [53,54,55,58,59,60,63,64,65]) RQ fun K k=>by simp[pC,BY,Ki];(repeat refine ai ?_);cases oG;exact k _ (Sub.rm [0])
 obtain⟨⟨nV,iR,gY⟩,sX,hg⟩:=ah hg;try dsimp only at hg
 refine rG hV [se 2 a2,se 3 a3,pt 4 0,se 9 Gt,se 12 gY,se 16 nV,se 17 iR] [.w 26 a0] ?_ fun K k=>by simp[pD,sX];(repeat refine ai ?_);exact ky k (by first | rfl | (simp[pD,sX]<;>grind))
 obtain⟨⟨fH,rA,wI⟩,vS,hg⟩:=ah hg;try dsimp only at hg
 refine rG hV [se 2 a2,pt 4 0,se 9 Gt,se 12 gY,se 15 wI,se 16 nV,se 17 iR,se 18 fH,se 19 rA] [.w 26 a0] ?_ fun K k=>by simp[acG,vS];(repeat refine ai ?_);exact ky k (by first | rfl | (simp[acG,vS]<;>grind))
 obtain⟨GK,pv,hg⟩:=ah hg
 unfold ZM at pv
 refine sq [se 2 a2,pt 4 0,se 9 GK] [.w 26 a0] (fun _ zS=>?_) ?_
 ·rcases ay pv with ⟨Kv,pv⟩ | ⟨Kv,pv⟩
  ·obtain⟨wJ,zA,pv⟩:=ah pv
   rcases ay pv with ⟨PU,pv⟩ | ⟨PU,pv⟩
   ·obtain⟨sC,EG,pv⟩:=ah pv
    rcases ay pv with ⟨Co,pv⟩ | ⟨Co,pv⟩
    ·exact rJ hV (some []) zS fun K k=>by simp[oL,xE,Kv,zA,PU,EG,Co];(repeat refine ai ?_);cases pv;exact k _ (Sub.rm [0])
    exact rJ hV (some [93,94,95]) zS fun K k=>by simp[oL,xE,Kv,zA,PU,EG,Co];(repeat refine ai ?_);cases pv;exact k _ (Sub.rm [0])
   exact rJ hV (some [88,89,90,93,94,95]) zS fun K k=>by simp[oL,xE,Kv,zA,PU];(repeat refine ai ?_);cases pv;exact k _ (Sub.rm [0])
  exact rJ hV (some [83,84,85,88,89,90,93,94,95]) zS fun K k=>by simp[oL,xE,Kv];(repeat refine ai ?_);cases pv;exact k _ (Sub.rm [0])
 obtain⟨⟨wL,pY⟩,AU,hg⟩:=ah hg;try dsimp only at hg
 refine rG hV [se 2 a2,pt 4 0,se 9 GK,se 12 pY,se 16 wL] [.w 26 a0] ?_ fun K k=>by simp[Jn,AU];(repeat refine ai ?_);exact ky k (by first | rfl | (simp[Jn,AU]<;>grind))
 obtain⟨⟨wM,Dz⟩,Lv,hg⟩:=ah hg;try dsimp only at hg
 refine rG hV [se 9 GK,se 12 pY,se 15 Dz,se 16 wL,se 18 wM] [.w 26 a0] ?_ fun K k=>by simp[acJ,Lv];(repeat refine ai ?_);exact ky k (by first | rfl | (simp[acJ,Lv]<;>grind))
 obtain⟨aeB,xp,hg⟩:=ah hg
 unfold ZN at xp
 refine sq [se 8 aeB] [] (fun _ Fj=>?_) ?_
 ·rcases ay xp with ⟨P0,xp⟩ | ⟨P0,xp⟩
  ·obtain⟨JI,Xg,xp⟩:=ah xp
   rcases ay xp with ⟨Vt,xp⟩ | ⟨Vt,xp⟩
   ·exact rJ hV (some []) Fj fun K k=>by simp[oL,P0,Xg,Vt];(repeat refine ai ?_);cases xp;exact k _ (Sub.rm [])
   exact rJ hV (some [116,117,118]) Fj fun K k=>by simp[oL,P0,Xg,Vt];(repeat refine ai ?_);cases xp;exact k _ (Sub.rm [])
  exact rJ hV (some [111,112,113,116,117,118]) Fj fun K k=>by simp[oL,P0];(repeat refine ai ?_);cases xp;exact k _ (Sub.rm [])
 cases hg;exact rz hQ
end
end Go.Proofs.YtjigeffmmcmlnaaGreatDoor
