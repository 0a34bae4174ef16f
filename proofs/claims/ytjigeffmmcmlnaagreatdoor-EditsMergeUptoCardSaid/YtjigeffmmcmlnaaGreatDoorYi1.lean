import Derived.Test.YtjigeffmmcmlnaaGreatDoorX18
set_option linter.all false
set_option linter.unnecessarySimpa false
set_option linter.deprecated false
set_option linter.unusedVariables false
set_option linter.unusedSimpArgs false
set_option linter.unusedSectionVars false
namespace Go.Proofs.YtjigeffmmcmlnaaGreatDoor
open Go Go.an au
set_option maxRecDepth 4000
attribute [local instance] cJ
attribute [local congr] ab.kO
attribute [local simp] bu dz dU evalOp bd an.get fk strip bq an.after iI typed gr holds cR R.ok R.bad gI iU jk gW ku ji Op.operands Call.operands dY dA dQ dR iH il fm im gK fg nj nk nm np fK lH lL lJ fL jq lg lp lk ln ng ni jv mD bf D.cells T.eT D.one gH fV gb fo setAt eI fC jC fa gN bw cX iy fU iA gv jV arith et iM jf dG gC iN TD.agg env bR List.map fe iD ff gn gT mapOf iz iq dr mH mI mJ mK mL mM mN mO lK nh ll me mC my mB mr mG lq mi ml jw mE ko jh fh du fj iP gJ jB gone unbox iW fE gB gG lI lh nf jg jS List.contains_cons List.contains_nil lr iO iC iB gm ib gX lC kY mW l6 mw mu mz kr mF mh mj P2.list mA lB kW mU lF lb mZ l9 jQ kM lu kR mP lW jI kC lA kV mT l4 jM kH lE la mY l8 jP kL lD kZ mX l7 jO kJ jX kX mV l5 jN kI lG lf nc ma jW kT mR lY jK kF lv kS mQ lX jJ kD lz kU mS lZ jL kG kQ km lN lO lT lU lP lV lQ lR lS lM nD nH kv kz iQ nB nC nE nF nG nI nJ jD jE nL nM nN nO nP nQ nR nS nq nr nu nv nw nx ny nz nA
section
set_option maxRecDepth 10000
attribute [local simp] eJ qO qL rl qR qP qM rp qS qQ qN rq qT rT rP su rW rQ rN so rU rR rO sr rV tU tR ui tV Cx zn Ac BV BA C5 Fv
noncomputable def sp6:an.Spec:=vr Sg
set_option maxHeartbeats 20000000 in
theorem ok6:aL Tryz.prog 6 sp6:=by
 have hV:=AJ (cs IH (cs aaL (cs aaM (cs aaN cn))))
 refine pL hV Tryz.func6 rfl Tryz.ntmps6 fun a0 a1 a2 r hg _ _ _ _ _ hQ=>?_
 unfold Sg at hg
 refine rG hV [se 0 a0,se 1 a1,se 2 a2] [] ?_
 obtain⟨x2,h3,hg⟩:=ah hg
 refine rG hV [se 0 a0,se 1 a1,se 2 a2,se 7 x2] [] ?_ fun K k=>by simp[wD,h3];(repeat refine ai ?_);exact ky k (by first | rfl | (simp[wD,h3]<;>grind))
 refine sG fun _ k5=>?_
 obtain⟨aev,bF,hg⟩:=ah hg
 unfold ZO at bF
 refine sq [se 0 a0,se 1 a1,se 2 a2,se 7 x2,se 42 aev] [] (fun _ k8=>?_) ?_
 ·rcases ay bF with ⟨c9,bF⟩ | ⟨c9,bF⟩
  ·have gA:=c9;try simp at gA
   exact rJ hV (some [34,35,36,39,40,41]) k8 fun K k=>by simp[c9,gA];(repeat refine ai ?_);cases bF;exact k _ (Sub.rm [])
  have gA:=c9;try simp at gA
  rcases ay bF with ⟨iV,bF⟩ | ⟨iV,bF⟩
  ·have ow:=iV;try simp at ow
   exact rJ hV (some [39,40,41]) k8 fun K k=>by simp[c9,gA,iV,ow];(repeat refine ai ?_);cases bF;exact k _ (Sub.rm [])
  have ow:=iV;try simp at ow
  exact rJ hV (some []) k8 fun K k=>by simp[c9,gA,iV,ow];(repeat refine ai ?_);cases bF;exact k _ (Sub.rm [])
 refine cN hg ?_ ?_<;>(clear hg;intro AP hg)
 ·refine rG hV [se 6 x2] [] ?_
  cases hg;exact rz hQ
 refine sk k5 ?_
 obtain⟨⟨cL,o6,bh⟩,Lj,hg⟩:=ah hg;try dsimp only at hg
 refine rG hV [se 0 a0,se 1 a1,se 2 a2,se 7 x2,se 8 cL,se 9 o6,se 10 bh] [] ?_ fun K k=>by simp[pD,Lj];(repeat refine ai ?_);exact ky k (by first | rfl | (simp[pD,Lj]<;>grind))
 obtain⟨⟨bJ,ot,fu⟩,sV,hg⟩:=ah hg;try dsimp only at hg
 refine rG hV [se 0 a0,se 1 a1,se 2 a2,se 7 x2,se 8 cL,se 9 o6,se 10 bh,se 11 bJ,se 12 ot,se 13 fu] [] ?_ fun K k=>by simp[pD,sV];(repeat refine ai ?_);exact ky k (by first | rfl | (simp[pD,sV]<;>grind))
 refine sG fun _ Fg=>?_
 obtain⟨ad9,iL,hg⟩:=ah hg
 unfold ZP at iL
 refine sq [se 0 a0,se 1 a1,se 2 a2,se 7 x2,se 8 cL,se 10 bh,se 72 ad9] [] (fun _ sf=>?_) ?_
 ·rcases ay iL with ⟨jo,iL⟩ | ⟨jo,iL⟩
  ·have iG:=jo;try simp at iG
   exact rJ hV (some [62,63,64,65,68,69,70,71]) sf fun K k=>by simp[oL,xE,jo,iG];(repeat refine ai ?_);cases iL;exact k _ (Sub.rm [])
  have iG:=rk jo
  obtain⟨br,sW,iL⟩:=ah iL
  rcases ay iL with ⟨oc,iL⟩ | ⟨oc,iL⟩
  ·have hX:=oc;try simp at hX
   exact rJ hV (some [68,69,70,71]) sf fun K k=>by simp[oL,xE,jo,iG,sW,oc,hX];(repeat refine ai ?_);cases iL;exact k _ (Sub.rm [])
  have hX:=oc;try simp at hX
  obtain⟨ei,AR,iL⟩:=ah iL
  exact rJ hV (some []) sf fun K k=>by simp[oL,xE,jo,iG,sW,oc,hX,AR];(repeat refine ai ?_);cases iL;exact k _ (Sub.rm [])
 refine cN hg ?_ ?_<;>(clear hg;intro WY hg)
 ·refine rG hV [se 6 false] [] ?_
  cases hg;exact rz hQ
 refine sk Fg ?_
 obtain⟨⟨iE,sB,Am⟩,qV,hg⟩:=ah hg;try dsimp only at hg
 refine rG hV [se 0 a0,se 1 a1,se 2 a2,se 7 x2,se 8 cL,se 10 bh,se 14 iE,se 15 sB,se 16 Am] [] ?_ fun K k=>by simp[pD,qV];(repeat refine ai ?_);exact ky k (by first | rfl | (simp[pD,qV]<;>grind))
 refine cH (fun vB:Bool=>Ir a0 a1 a2 cL bh vB=some r) (fun vB=>⟨[se 0 a0,se 1 a1,se 2 a2,se 7 vB,se 8 cL,se 10 bh],[]⟩) (fun _ Ij=>?_) fun vB hg=>?_
 ·refine rG hV [se 0 a0,se 1 a1,se 2 a2,se 7 x2,se 8 cL,se 10 bh,se 14 iE,se 15 sB,se 81 (decide (Am=0))] [] ?_
  refine cN hg ?_ ?_<;>(clear hg;intro sX hg)
  ·obtain⟨⟨nW,fH,rA⟩,AT,hg⟩:=ah hg;try dsimp only at hg
   refine rG hV [se 0 a0,se 1 a1,se 2 a2,se 7 x2,se 8 cL,se 10 bh,se 14 iE,se 15 sB,se 17 nW,se 19 rA] [] ?_ fun K k=>by simp[pD,AT];(repeat refine ai ?_);exact ky k (by first | rfl | (simp[pD,AT]<;>grind))
   obtain⟨aeo,te,hg⟩:=ah hg
   unfold ZQ at te
   refine ab.MR (t:=⟨[se 0 a0,se 1 a1,se 2 a2,se 7 aeo,se 8 cL,se 10 bh],[]⟩) (fun _ tq=>?_) ?_
   ·rcases ay te with ⟨Kt,te⟩ | ⟨Kt,te⟩
    ·rcases ay te with ⟨zb,te⟩ | ⟨zb,te⟩
     ·have xV:=eq_true (of_decide_eq_true zb);simp only[Int.natCast_eq_zero,List.length_eq_zero_iff] at xV
      rcases ay te with ⟨Ku,te⟩ | ⟨Ku,te⟩
      ·have PT:=eq_true (of_decide_eq_true Ku)
       obtain⟨JG,h56,te⟩:=ah te
       refine ab.vp hV (some []) [0,1,2,7,8,10] fun K RS=>?_
       simp[oL,Kt,zb,xV,Ku,PT,h56];repeat refine ai ?_
       cases te;exact RS _ (tq _ (Sub.rm []))
      have PT:=Ku;try simp at PT
      refine ab.vp hV (some [100,101,102]) [0,1,2,7,8,10] fun K Fi=>?_
      simp[oL,Kt,zb,xV,Ku,PT];repeat refine ai ?_
      cases te;exact Fi _ (tq _ (Sub.rm []))
     have xV:=zb;try simp at xV
     refine ab.vp hV (some [96,97,100,101,102]) [0,1,2,7,8,10] fun K k65=>?_
     simp[oL,Kt,zb,xV];repeat refine ai ?_
     cases te;exact k65 _ (tq _ (Sub.rm []))
    refine ab.vp hV (some [91,92,93,96,97,100,101,102]) [0,1,2,7,8,10] fun K Mz=>?_
    simp[oL,Kt];repeat refine ai ?_
    cases te;exact Mz _ (tq _ (Sub.rm []))
   exact Ij _ ⟨_,hg,Sub.rm []⟩
  exact ab.skip (Ij _ ⟨_,hg,Sub.rm []⟩)
 unfold Ir at hg
 obtain⟨⟨xL,oN,wK⟩,Xe,hg⟩:=ah hg;try dsimp only at hg
 refine rG hV [se 0 a0,se 2 a2,se 7 vB,se 8 cL,se 10 bh,se 20 xL,se 22 wK] [] ?_ fun K k=>by simp[pD,Xe];(repeat refine ai ?_);exact ky k (by first | rfl | (simp[pD,Xe]<;>grind))
 refine sG fun _ MA=>?_
 obtain⟨aex,H4,hg⟩:=ah hg
 unfold ZR at H4
 refine sq [se 0 a0,se 2 a2,se 7 vB,se 8 cL,se 20 xL,se 116 aex] [] (fun _ Ik=>?_) ?_
 ·rcases ay H4 with ⟨Kz,H4⟩ | ⟨Kz,H4⟩
  ·have PY:=Kz;try simp at PY
   exact rJ hV (some [114,115]) Ik fun K k=>by simp[Kz,PY];(repeat refine ai ?_);cases H4;exact k _ (Sub.rm [])
  have PY:=rk Kz
  exact rJ hV (some []) Ik fun K k=>by simp[Kz,PY];(repeat refine ai ?_);cases H4;exact k _ (Sub.rm [])
 refine cN hg ?_ ?_<;>(clear hg;intro Xg hg)
 ·refine rG hV [se 6 vB] [] ?_
  cases hg;exact rz hQ
 refine sk MA ?_
 obtain⟨⟨B7,x82,xM⟩,CG,hg⟩:=ah hg;try dsimp only at hg
 refine rG hV [se 0 a0,se 7 vB,se 20 xL,se 23 B7,se 25 xM] [] ?_ fun K k=>by simp[pD,CG];(repeat refine ai ?_);exact ky k (by first | rfl | (simp[pD,CG]<;>grind))
 obtain⟨⟨nX,vA,tG⟩,HI,hg⟩:=ah hg;try dsimp only at hg
 refine rG hV [se 7 vB,se 23 B7,se 25 xM,se 26 nX,se 28 tG] [] ?_ fun K k=>by simp[pD,HI];(repeat refine ai ?_);exact ky k (by first | rfl | (simp[pD,HI]<;>grind))
 obtain⟨aeF,tg,hg⟩:=ah hg
 unfold ZS at tg
 refine sq [se 6 aeF] [] (fun _ Il=>?_) ?_
 ·rcases ay tg with ⟨KB,tg⟩ | ⟨KB,tg⟩
  ·rcases ay tg with ⟨vK,tg⟩ | ⟨vK,tg⟩
   ·have KC:=vK;try simp at KC
    exact rJ hV (some [137,138,141,142,143]) Il fun K k=>by simp[oL,KB,vK,KC];(repeat refine ai ?_);cases tg;exact k _ (Sub.rm [])
   have KC:=rk vK
   rcases ay tg with ⟨wU,tg⟩ | ⟨wU,tg⟩
   ·have zf:=wU;try simp at zf
    exact rJ hV (some [141,142,143]) Il fun K k=>by simp[oL,KB,vK,KC,wU,zf];(repeat refine ai ?_);cases tg;exact k _ (Sub.rm [])
   have zf:=rk wU
   obtain⟨OZ,Xm,tg⟩:=ah tg
   exact rJ hV (some []) Il fun K k=>by simp[oL,KB,vK,KC,wU,zf,Xm];(repeat refine ai ?_);cases tg;exact k _ (Sub.rm [])
  exact rJ hV (some [134,135,136,137,138,139,140,141,142,143,144]) Il fun K k=>by simp[oL,KB];(repeat refine ai ?_);cases tg;exact k _ (Sub.rm [])
 cases hg;exact rz hQ
end
end Go.Proofs.YtjigeffmmcmlnaaGreatDoor
