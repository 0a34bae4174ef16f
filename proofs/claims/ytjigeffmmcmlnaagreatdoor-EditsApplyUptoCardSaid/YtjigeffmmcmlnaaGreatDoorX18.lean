import Derived.Test.YtjigeffmmcmlnaaGreatDoorX16
import Derived.Test.YtjigeffmmcmlnaaGreatDoorX17
set_option linter.all false
set_option linter.unnecessarySimpa false
set_option linter.deprecated false
set_option linter.unusedVariables false
set_option linter.unusedSimpArgs false
set_option linter.unusedSectionVars false
namespace Go.Proofs.YtjigeffmmcmlnaaGreatDoor
open Go Go.an au
set_option maxRecDepth 4000
attribute [local instance] cJ
attribute [local congr] ab.kO
attribute [local simp] bu dz dU evalOp bd an.get fk strip bq an.after iI typed gr holds cR R.ok R.bad gI iU jk gW ku ji Op.operands Call.operands dY dA dQ dR iH il fm im gK fg nj nk nm np fK lH lL lJ fL jq lg lp lk ln ng ni jv mD bf D.cells T.eT D.one gH fV gb fo setAt eI fC jC fa gN bw cX iy fU iA gv jV arith et iM jf dG gC iN TD.agg env bR List.map fe iD ff gn gT mapOf iz iq dr mH mI mJ mK mL mM mN mO lK nh ll me mC my mB mr mG lq mi ml jw mE ko jh fh du fj iP gJ jB gone unbox iW fE gB gG lI lh nf jg jS List.contains_cons List.contains_nil lr iO iC iB gm ib gX lC kY mW l6 mw mu mz kr mF mh mj P2.list mA lB kW mU lF lb mZ l9 jQ kM lu kR mP lW jI kC lA kV mT l4 jM kH lE la mY l8 jP kL lD kZ mX l7 jO kJ jX kX mV l5 jN kI lG lf nc ma jW kT mR lY jK kF lv kS mQ lX jJ kD lz kU mS lZ jL kG kQ km lN lO lT lU lP lV lQ lR lS lM nD nH kv kz iQ nB nC nE nF nG nI nJ jD jE nL nM nN nO nP nQ nR nS nq nr nu nv nw nx ny nz nA
section
set_option maxRecDepth 10000
attribute [local simp] eJ qO qL rl qR qP qM rp qS qQ qN rq qT rT rP su rW rQ rN so rU rR rO sr rV tU tR ui tV Cx zn Ac BV BA C5 Fv
theorem auW {p0:Score} {p1:aa} {p2:aa} {p3:(List aa)} {p4:(List aa)} {wx:(List aa)} {BK:(List aJ)} {BL:Int} (hg:Sl p0 p1 p2 p3 p4=some (wx,BK,BL)):gZ Tryz.prog 16 [.d (enc (p3:(List aa))),.d (enc (p4:(List aa)))] [.w 26 p0,.w 52 p1,.w 52 p2] fun u l'=>u = .bn [.row 4,.row 5,.d (enc (BL:Int))]∧∃ v f,l'=[.w 26 p0,.w 52 p1,.w 52 p2,.frame 3 v f,.ro 52 15 wx,.ro 64 31 BK]:=by
 have hV:=AJ (cs aaR (cs aaT (cs aaV (cs aaU (cs aaW (cs SR (cs M5 (cs aaS cn))))))))
 refine gZ.of hV (Enters.of Tryz.func16 (by decide)) Tryz.func16 rfl (by rw[Tryz.ntmps16];simp) fun R hR w0 I0 vals ft Q hQ=>?_
 rw[Tryz.ntmps16]
 show ab _ _ _ _ _ ⟨[se 0 p3,se 1 p4],[.w 26 p0,.w 52 p1,.w 52 p2,.frame 3 vals ft]⟩ _
 unfold Sl at hg
 refine rG hV [se 0 p3,se 1 p4] [.w 26 p0,.w 52 p1,.w 52 p2,.frame 3 vals ft] ?_
 obtain⟨x3,h4,hg⟩:=ah hg
 have EF:=h4;try simp at EF
 refine rG hV [se 0 p3,se 1 p4,se 7 x3] [.w 26 p0,.w 52 p1,.w 52 p2,.frame 3 vals ft] ?_ fun K k=>by simp[Uw,h4];exact kx k
 refine ch (Z0 p3 p4 x3=some (wx,BK,BL)) [se 0 p3,se 1 p4,se 7 x3] [.w 26 p0,.w 52 p1,.w 52 p2,.frame 3 vals ft] (fun _ k7=>?_) fun hg=>?_
 ·refine ab.block ?_
  refine rG hV [se 0 p3,se 1 p4,se 7 x3,se 21 (decide (1000 < (x3.length:Int)))] [.w 26 p0,.w 52 p1,.w 52 p2,.frame 3 vals ft] ?_
  refine cN hg ?_ ?_<;>(clear hg;intro h9 hg)
  ·refine rG hV [(4,.ao 15),(5,.ao 31),se 6 (2:Int)] [.w 26 p0,.w 52 p1,.w 52 p2,.frame 3 vals ft] ?_
   refine ab.ret ?_
   replace hg:=Option.some.inj hg;obtain⟨gD,dy⟩:=Prod.mk.inj hg;clear hg;subst gD;have hg:=dy;clear dy;obtain⟨gD,dy⟩:=Prod.mk.inj hg;clear hg;subst gD;have hg:=dy;clear dy;subst hg;exact hQ _ _ (.inl rfl) ⟨⟨[(4,.row 4),(5,.row 5),se 6 (2:Int)],[.w 26 p0,.w 52 p1,.w 52 p2,.frame 3 vals ft,.ro 52 15 ([]:List aa),.ro 64 31 ([]:List aJ)]⟩,Sub.trans (Sub.pb 4 52 15 rfl) (Sub.trans (Sub.pb 5 64 31 rfl) (Sub.rm [0,1,2,3,4,5])),by simp[dN],rfl,by simp[dN,sw],_,_,rfl⟩
  obtain⟨cb,pg,hg⟩:=ah hg
  refine rG hV [se 0 p3,se 1 p4,se 7 x3,se 25 cb] [.w 26 p0,.w 52 p1,.w 52 p2,.frame 3 vals ft] ?_ fun K k=>by simp[Ux,pg];exact kx k
  refine cN hg ?_ ?_<;>(clear hg;intro AP hg)
  ·refine rG hV [(4,.ao 15),(5,.ao 31),se 6 (1:Int)] [.w 26 p0,.w 52 p1,.w 52 p2,.frame 3 vals ft] ?_
   refine ab.ret ?_
   replace hg:=Option.some.inj hg;obtain⟨gD,dy⟩:=Prod.mk.inj hg;clear hg;subst gD;have hg:=dy;clear dy;obtain⟨gD,dy⟩:=Prod.mk.inj hg;clear hg;subst gD;have hg:=dy;clear dy;subst hg;exact hQ _ _ (.inl rfl) ⟨⟨[(4,.row 4),(5,.row 5),se 6 (1:Int)],[.w 26 p0,.w 52 p1,.w 52 p2,.frame 3 vals ft,.ro 52 15 ([]:List aa),.ro 64 31 ([]:List aJ)]⟩,Sub.trans (Sub.pb 4 52 15 rfl) (Sub.trans (Sub.pb 5 64 31 rfl) (Sub.rm [0,1,2,3,4,5])),by simp[dN],rfl,by simp[dN,sw],_,_,rfl⟩
  obtain⟨cL,sU,hg⟩:=ah hg
  refine rG hV [se 0 p3,se 1 p4,se 7 x3,se 28 (!cL)] [.w 26 p0,.w 52 p1,.w 52 p2,.frame 3 vals ft] ?_ fun K k=>by simp[Uy,sU];exact kx k
  refine cN hg ?_ ?_<;>(clear hg;intro Lj hg)
  ·refine rG hV [(4,.ao 15),(5,.ao 31),se 6 (61:Int)] [.w 26 p0,.w 52 p1,.w 52 p2,.frame 3 vals ft] ?_
   refine ab.ret ?_
   replace hg:=Option.some.inj hg;obtain⟨gD,dy⟩:=Prod.mk.inj hg;clear hg;subst gD;have hg:=dy;clear dy;obtain⟨gD,dy⟩:=Prod.mk.inj hg;clear hg;subst gD;have hg:=dy;clear dy;subst hg;exact hQ _ _ (.inl rfl) ⟨⟨[(4,.row 4),(5,.row 5),se 6 (61:Int)],[.w 26 p0,.w 52 p1,.w 52 p2,.frame 3 vals ft,.ro 52 15 ([]:List aa),.ro 64 31 ([]:List aJ)]⟩,Sub.trans (Sub.pb 4 52 15 rfl) (Sub.trans (Sub.pb 5 64 31 rfl) (Sub.rm [0,1,2,3,4,5])),by simp[dN],rfl,by simp[dN,sw],_,_,rfl⟩
  exact ab.skip (k7 _ ⟨hg,Sub.rm [0,1,2,3]⟩)
 unfold Z0 at hg
 obtain⟨bJ,zu,hg⟩:=ah hg
 obtain⟨g23,hg⟩:=aK hg
 have Wi:=aa0 g23
 refine rG hV [se 0 p3,se 1 p4,(8,.row 4)] [.w 26 p0,.w 52 p1,.w 52 p2,.frame 3 vals ft,.ro 52 15 ((bD aQ (bT bJ)):List aa)] ?_ fun K k=>by simp[FZ,OC,zu,Wi];exact kx k
 refine rG hV [se 0 p3,se 1 p4,(8,.row 4),(9,.ao 31)] [.w 26 p0,.w 52 p1,.w 52 p2,.frame 3 vals ft,.ro 52 15 ((bD aQ (bT bJ)):List aa)] ?_
 obtain⟨aM,QE,hg⟩:=ah hg
 obtain⟨bc,zw,hg⟩:=ah hg
 refine rG hV [(8,.row 4),(9,.ao 31),se 10 aM,se 11 bc] [.w 26 p0,.w 52 p1,.w 52 p2,.frame 3 vals ft,.ro 52 15 ((bD aQ (bT bJ)):List aa)] ?_ fun K k=>by simp[FZ,QE,zw];exact kx k
 refine cH (fun sF:(List aJ)=>Z1 bJ sF=some (wx,BK,BL)) (fun sF=>⟨[(8,.row 4),(9,.row 5)],[.w 26 p0,.w 52 p1,.w 52 p2,.frame 3 vals ft,.ro 52 15 ((bD aQ (bT bJ)):List aa),.ro 64 31 sF]⟩) (fun _ Bn=>?_) fun sF hg=>?_
 ·obtain⟨g33,hg⟩:=aK hg
  refine rG hV [(8,.row 4),(9,.ao 31),se 10 aM,se 11 bc,se 42 ((aE (aA aM)):(List Int)),se 43 (((aE (aA aM)).length:Int):Int),se 44 (0:Int)] [.w 26 p0,.w 52 p1,.w 52 p2,.frame 3 vals ft,.ro 52 15 ((bD aQ (bT bJ)):List aa)] ?_ fun K k=>by simp[OD,F3];(repeat refine ai ?_);exact kx k
  obtain⟨o98,XS,X8⟩:=ah hg;clear hg
  refine ab.block <| ab.aH (fun((bW,bH):(List aJ)×Int)=>⟨[(8,.row 4),(9,.row 5),se 10 aM,se 11 bc,se 42 ((aE (aA aM)):(List Int)),se 43 (((aE (aA aM)).length:Int):Int),se 44 bH],[.w 26 p0,.w 52 p1,.w 52 p2,.frame 3 vals ft,.ro 52 15 ((bD aQ (bT bJ)):List aa),.ro 64 31 bW]⟩) (Z2 aM bc) ([],0) XS (Sub.trans (Sub.pb 9 64 31 rfl) (Sub.rm [0,1,2,3,4,5])) fun aeK OR _ hg Yy tp=>?_
  obtain⟨bW,bH⟩:=aeK
  unfold Z2 at hg;try dsimp only at hg
  refine rG hV [(8,.row 4),(9,.row 5),se 10 aM,se 11 bc,se 42 ((aE (aA aM)):(List Int)),se 43 (((aE (aA aM)).length:Int):Int),se 44 bH,se 45 (decide (bH < ((aE (aA aM)).length:Int)))] [.w 26 p0,.w 52 p1,.w 52 p2,.frame 3 vals ft,.ro 52 15 ((bD aQ (bT bJ)):List aa),.ro 64 31 bW] ?_
  refine sG fun _ Mp=>?_
  refine cN hg ?_ ?_<;>(clear hg;intro Qy hg)
  ·refine sk Mp ?_
   refine cH (fun ur:(List aJ)=>Sm bH ur=some OR) (fun ur=>⟨[(8,.row 4),(9,.row 5),se 10 aM,se 11 bc,se 42 ((aE (aA aM)):(List Int)),se 43 (((aE (aA aM)).length:Int):Int),se 44 bH],[.w 26 p0,.w 52 p1,.w 52 p2,.frame 3 vals ft,.ro 52 15 ((bD aQ (bT bJ)):List aa),.ro 64 31 ur]⟩) (fun _ Fe=>?_) fun ur hg=>?_
   ·refine ab.block ?_
    obtain⟨bQ,Wt,hg⟩:=ah hg
    obtain⟨apw,apx,Lb⟩:=aY Wt;have Wu:=Lb;try simp at Wu
    refine rG hV [(8,.row 4),(9,.row 5),se 10 aM,se 11 bc,se 13 bQ,se 42 ((aE (aA aM)):(List Int)),se 43 (((aE (aA aM)).length:Int):Int),se 44 bH] [.w 26 p0,.w 52 p1,.w 52 p2,.frame 3 vals ft,.ro 52 15 ((bD aQ (bT bJ)):List aa),.ro 64 31 bW] ?_ fun K k=>by simp[Lb];(repeat refine ai ?_);exact kx k
    refine rG hV [(8,.row 4),(9,.row 5),se 10 aM,se 11 bc,se 13 bQ,pt 14 6,se 42 ((aE (aA aM)):(List Int)),se 43 (((aE (aA aM)).length:Int):Int),se 44 bH] [.w 26 p0,.w 52 p1,.w 52 p2,.frame 3 vals ft,.ro 52 15 ((bD aQ (bT bJ)):List aa),.ro 64 31 bW,.w 52 ((aV aM bQ (⟨0,0,0,(⟨0,0,0,0,0,(⟨0,0⟩:Rat),(⟨0,0⟩:Rat),(⟨0,0,0⟩:az)⟩:ae)⟩:aa)):aa)] ?_
    refine rG hV [(8,.row 4),(9,.row 5),se 10 aM,se 11 bc,se 13 bQ,pt 14 6,pt 15 7,se 16 ((eu bc bQ):Bool),se 42 ((aE (aA aM)):(List Int)),se 43 (((aE (aA aM)).length:Int):Int),se 44 bH] [.w 26 p0,.w 52 p1,.w 52 p2,.frame 3 vals ft,.ro 52 15 ((bD aQ (bT bJ)):List aa),.ro 64 31 bW,.w 52 ((aV aM bQ (⟨0,0,0,(⟨0,0,0,0,0,(⟨0,0⟩:Rat),(⟨0,0⟩:Rat),(⟨0,0,0⟩:az)⟩:ae)⟩:aa)):aa),.w 52 ((aV bc bQ (⟨0,0,0,(⟨0,0,0,0,0,(⟨0,0⟩:Rat),(⟨0,0⟩:Rat),(⟨0,0,0⟩:az)⟩:ae)⟩:aa)):aa)] ?_
    refine sG fun _ YW=>?_
    obtain⟨Gf,gR,hg⟩:=ah hg
    unfold aiL at gR
    refine sq [(8,.row 4),(9,.row 5),se 10 aM,se 11 bc,se 13 bQ,pt 14 6,pt 15 7,se 42 ((aE (aA aM)):(List Int)),se 43 (((aE (aA aM)).length:Int):Int),se 44 bH,se 72 Gf] [.w 26 p0,.w 52 p1,.w 52 p2,.frame 3 vals ft,.ro 52 15 ((bD aQ (bT bJ)):List aa),.ro 64 31 bW,.w 52 ((aV aM bQ (⟨0,0,0,(⟨0,0,0,0,0,(⟨0,0⟩:Rat),(⟨0,0⟩:Rat),(⟨0,0,0⟩:az)⟩:ae)⟩:aa)):aa),.w 52 ((aV bc bQ (⟨0,0,0,(⟨0,0,0,0,0,(⟨0,0⟩:Rat),(⟨0,0⟩:Rat),(⟨0,0,0⟩:az)⟩:ae)⟩:aa)):aa)] (fun _ zP=>?_) ?_
    ·rcases ay gR with ⟨wQ,gR⟩ | ⟨wQ,gR⟩
     ·have qg:=wQ;try simp at qg
      exact rJ hV (some [60,61,62,63,64,65,66,67,68,69,70,71]) zP fun K k=>by simp[qg];cases gR;exact k _ (Sub.rm [0,1,2,3,4,5,6,7])
     have qg:=wQ;try simp at qg
     rcases ay gR with ⟨DV,gR⟩ | ⟨DV,gR⟩
     ·have Az:=eq_true (of_decide_eq_true DV)
      exact rJ hV (some []) zP fun K k=>by simp[qg,Az];cases gR;exact k _ (Sub.rm [0,1,2,3,4,5,6,7])
     have Az:=DV;try simp at Az
     exact rJ hV (some [66,67,68,69,70]) zP fun K k=>by simp[qg,Az];cases gR;exact k _ (Sub.rm [0,1,2,3,4,5,6,7])
    refine cN hg ?_ ?_<;>(clear hg;intro Ev hg)
    ·exact ab.exit (Fe _ ⟨_,hg,Sub.rm [0,1,2,3,4,5]⟩)
    refine sk YW ?_
    refine ab.sm (fun s'=>∃ sD:aa,∃ sE:aa,Sn bW bH bQ sD sE=some OR∧Sub s' ⟨[(8,.row 4),(9,.row 5),se 10 aM,se 11 bc,se 13 bQ,pt 14 6,pt 15 7,se 42 ((aE (aA aM)):(List Int)),se 43 (((aE (aA aM)).length:Int):Int),se 44 bH],[.w 26 p0,.w 52 p1,.w 52 p2,.frame 3 vals ft,.ro 52 15 ((bD aQ (bT bJ)):List aa),.ro 64 31 bW,.w 52 sD,.w 52 sE]⟩) (fun _ Mr=>?_) ?_
    ·obtain⟨Gd,WA,hg⟩:=ah hg
     refine rG hV [(8,.row 4),(9,.row 5),se 10 aM,se 11 bc,se 13 bQ,pt 14 6,pt 15 7,se 42 ((aE (aA aM)):(List Int)),se 43 (((aE (aA aM)).length:Int):Int),se 44 bH,se 76 (decide (0 < Gd))] [.w 26 p0,.w 52 p1,.w 52 p2,.frame 3 vals ft,.ro 52 15 ((bD aQ (bT bJ)):List aa),.ro 64 31 bW,.w 52 ((aV aM bQ (⟨0,0,0,(⟨0,0,0,0,0,(⟨0,0⟩:Rat),(⟨0,0⟩:Rat),(⟨0,0,0⟩:az)⟩:ae)⟩:aa)):aa),.w 52 ((aV bc bQ (⟨0,0,0,(⟨0,0,0,0,0,(⟨0,0⟩:Rat),(⟨0,0⟩:Rat),(⟨0,0,0⟩:az)⟩:ae)⟩:aa)):aa)] ?_ fun K k=>by simp[F2,WA];exact kx k
     refine cN hg ?_ ?_<;>(clear hg;intro apJ hg)
     ·refine rH hV [(8,.row 4),(9,.row 5),se 10 aM,se 11 bc,se 13 bQ,pt 14 6,pt 15 7,se 42 ((aE (aA aM)):(List Int)),se 43 (((aE (aA aM)).length:Int):Int),se 44 bH] [.w 26 p0,.w 52 p1,.w 52 p2,.frame 3 vals ft,.ro 52 15 ((bD aQ (bT bJ)):List aa),.ro 64 31 bW,.w 52 ((aV bc bQ (⟨0,0,0,(⟨0,0,0,0,0,(⟨0,0⟩:Rat),(⟨0,0⟩:Rat),(⟨0,0,0⟩:az)⟩:ae)⟩:aa)):aa),.w 52 ((aV aM bQ (⟨0,0,0,(⟨0,0,0,0,0,(⟨0,0⟩:Rat),(⟨0,0⟩:Rat),(⟨0,0,0⟩:az)⟩:ae)⟩:aa)):aa)] ?_
      exact Mr _ ⟨_,_,hg,Sub.rm [0,1,2,3,4,5,6,7]⟩
     exact ab.skip (Mr _ ⟨_,_,hg,Sub.rm [0,1,2,3,4,5,6,7]⟩)
    rintro s' ⟨sD,sE,hg,hs⟩
    unfold Sn at hg
    refine ab.sub hs ?_
    obtain⟨aoU,hg⟩:=aK hg
    refine rH hV [(8,.row 4),(9,.row 8),se 10 aM,se 11 bc,se 42 ((aE (aA aM)):(List Int)),se 43 (((aE (aA aM)).length:Int):Int),se 44 bH] [.w 26 p0,.w 52 p1,.w 52 p2,.frame 3 vals ft,.ro 52 15 ((bD aQ (bT bJ)):List aa),.dead,.w 52 sD,.w 52 sE,.ro 64 31 ((bW++[(⟨bQ,sD,sE⟩:aJ)]):List aJ)] ?_
    exact Fe _ ⟨_,hg,Sub.rm [0,1,2,3,4,8]⟩
   unfold Sm at hg
   obtain⟨Wf,hg⟩:=aK hg
   unfold ax at Wf
   refine rH hV [(8,.row 4),(9,.row 5),se 10 aM,se 11 bc,se 42 ((aE (aA aM)):(List Int)),se 43 (((aE (aA aM)).length:Int):Int),se 44 ((bH+1):Int)] [.w 26 p0,.w 52 p1,.w 52 p2,.frame 3 vals ft,.ro 52 15 ((bD aQ (bT bJ)):List aa),.ro 64 31 ur] ?_
   exact tp _ _ (aF hg).symm (Sub.rm [0,1,2,3,4,5])
  refine ab.exit ?_
  cases Yy _ (aF hg).symm;have hg:=X8;try dsimp only at hg
  exact Bn _ ⟨_,hg,Sub.rm [0,1,2,3,4,5]⟩
 unfold Z1 at hg
 refine rG hV [(4,.row 4),(5,.row 5),se 6 (0:Int)] [.w 26 p0,.w 52 p1,.w 52 p2,.frame 3 vals ft,.ro 52 15 ((bD aQ (bT bJ)):List aa),.ro 64 31 sF] ?_
 refine ab.ret ?_
 replace hg:=Option.some.inj hg;obtain⟨gD,dy⟩:=Prod.mk.inj hg;clear hg;subst gD;have hg:=dy;clear dy;obtain⟨gD,dy⟩:=Prod.mk.inj hg;clear hg;subst gD;have hg:=dy;clear dy;subst hg;exact hQ _ _ (.inl rfl) ⟨⟨[(4,.row 4),(5,.row 5),se 6 (0:Int)],[.w 26 p0,.w 52 p1,.w 52 p2,.frame 3 vals ft,.ro 52 15 ((bD aQ (bT bJ)):List aa),.ro 64 31 sF]⟩,Sub.rm [0,1,2,3,4,5],by simp[dN],rfl,by simp[dN,sw],_,_,rfl⟩
theorem auX {p0:Score} {p1:aa} {p2:aa} {p3:(List aJ)} {p4:(List aa)} {p5:Score} {p6:Score} {p7:Score} {p8:(List aa)} {p9:(List aa)} {v0:Nat→Value} {f0:Tm} {wx:(List aa)} {BK:(List aJ)} {BL:Int} (hg:Sp p0 p1 p2 p3 p4 p5 p6 p7 p8 p9=some (wx,BK,BL)):gZ Tryz.prog 16 [.d (enc (p8:(List aa))),.d (enc (p9:(List aa)))] [.w 26 p0,.w 52 p1,.w 52 p2,.frame 3 v0 f0,.dead,.ro 64 31 p3,.bz 52 15 p4,.w 26 p5,.w 26 p6,.w 26 p7] fun u l'=>u = .bn [.row 11,.row 12,.d (enc (BL:Int))]∧∃ v f,l'=[.w 26 p0,.w 52 p1,.w 52 p2,.frame 3 v0 f0,.dead,.ro 64 31 p3,.bz 52 15 p4,.w 26 p5,.w 26 p6,.w 26 p7,.frame 10 v f,.ro 52 15 wx,.ro 64 31 BK]:=by
 have hV:=AJ (cs aaR (cs aaT (cs aaV (cs aaU (cs aaW (cs SR (cs M5 (cs aaS cn))))))))
 refine gZ.of hV (Enters.of Tryz.func16 (by decide)) Tryz.func16 rfl (by rw[Tryz.ntmps16];simp) fun R hR w0 I0 vals ft Q hQ=>?_
 rw[Tryz.ntmps16]
 show ab _ _ _ _ _ ⟨[se 0 p8,se 1 p9],[.w 26 p0,.w 52 p1,.w 52 p2,.frame 3 v0 f0,.dead,.ro 64 31 p3,.bz 52 15 p4,.w 26 p5,.w 26 p6,.w 26 p7,.frame 10 vals ft]⟩ _
 unfold Sp at hg
 refine rG hV [se 0 p8,se 1 p9] [.w 26 p0,.w 52 p1,.w 52 p2,.frame 3 v0 f0,.dead,.ro 64 31 p3,.bz 52 15 p4,.w 26 p5,.w 26 p6,.w 26 p7,.frame 10 vals ft] ?_
 obtain⟨x3,h4,hg⟩:=ah hg
 have EF:=h4;try simp at EF
 refine rG hV [se 0 p8,se 1 p9,se 7 x3] [.w 26 p0,.w 52 p1,.w 52 p2,.frame 3 v0 f0,.dead,.ro 64 31 p3,.bz 52 15 p4,.w 26 p5,.w 26 p6,.w 26 p7,.frame 10 vals ft] ?_ fun K k=>by simp[Uw,h4];exact kx k
 refine ch (Z3 p8 p9 x3=some (wx,BK,BL)) [se 0 p8,se 1 p9,se 7 x3] [.w 26 p0,.w 52 p1,.w 52 p2,.frame 3 v0 f0,.dead,.ro 64 31 p3,.bz 52 15 p4,.w 26 p5,.w 26 p6,.w 26 p7,.frame 10 vals ft] (fun _ k7=>?_) fun hg=>?_
 ·refine ab.block ?_
  refine rG hV [se 0 p8,se 1 p9,se 7 x3,se 21 (decide (1000 < (x3.length:Int)))] [.w 26 p0,.w 52 p1,.w 52 p2,.frame 3 v0 f0,.dead,.ro 64 31 p3,.bz 52 15 p4,.w 26 p5,.w 26 p6,.w 26 p7,.frame 10 vals ft] ?_
  refine cN hg ?_ ?_<;>(clear hg;intro h9 hg)
  ·refine rG hV [(4,.ao 15),(5,.ao 31),se 6 (2:Int)] [.w 26 p0,.w 52 p1,.w 52 p2,.frame 3 v0 f0,.dead,.ro 64 31 p3,.bz 52 15 p4,.w 26 p5,.w 26 p6,.w 26 p7,.frame 10 vals ft] ?_
   refine ab.ret ?_
   replace hg:=Option.some.inj hg;obtain⟨gD,dy⟩:=Prod.mk.inj hg;clear hg;subst gD;have hg:=dy;clear dy;obtain⟨gD,dy⟩:=Prod.mk.inj hg;clear hg;subst gD;have hg:=dy;clear dy;subst hg;exact hQ _ _ (.inl rfl) ⟨⟨[(4,.row 11),(5,.row 12),se 6 (2:Int)],[.w 26 p0,.w 52 p1,.w 52 p2,.frame 3 v0 f0,.dead,.ro 64 31 p3,.bz 52 15 p4,.w 26 p5,.w 26 p6,.w 26 p7,.frame 10 vals ft,.ro 52 15 ([]:List aa),.ro 64 31 ([]:List aJ)]⟩,Sub.trans (Sub.pb 4 52 15 rfl) (Sub.trans (Sub.pb 5 64 31 rfl) (Sub.rm [0,1,2,3,4,5,6,7,8,9,10,11,12])),by simp[dN],rfl,by simp[dN,sw],_,_,rfl⟩
  obtain⟨cb,pg,hg⟩:=ah hg
  refine rG hV [se 0 p8,se 1 p9,se 7 x3,se 25 cb] [.w 26 p0,.w 52 p1,.w 52 p2,.frame 3 v0 f0,.dead,.ro 64 31 p3,.bz 52 15 p4,.w 26 p5,.w 26 p6,.w 26 p7,.frame 10 vals ft] ?_ fun K k=>by simp[Ux,pg];exact kx k
  refine cN hg ?_ ?_<;>(clear hg;intro AP hg)
  ·refine rG hV [(4,.ao 15),(5,.ao 31),se 6 (1:Int)] [.w 26 p0,.w 52 p1,.w 52 p2,.frame 3 v0 f0,.dead,.ro 64 31 p3,.bz 52 15 p4,.w 26 p5,.w 26 p6,.w 26 p7,.frame 10 vals ft] ?_
   refine ab.ret ?_
   replace hg:=Option.some.inj hg;obtain⟨gD,dy⟩:=Prod.mk.inj hg;clear hg;subst gD;have hg:=dy;clear dy;obtain⟨gD,dy⟩:=Prod.mk.inj hg;clear hg;subst gD;have hg:=dy;clear dy;subst hg;exact hQ _ _ (.inl rfl) ⟨⟨[(4,.row 11),(5,.row 12),se 6 (1:Int)],[.w 26 p0,.w 52 p1,.w 52 p2,.frame 3 v0 f0,.dead,.ro 64 31 p3,.bz 52 15 p4,.w 26 p5,.w 26 p6,.w 26 p7,.frame 10 vals ft,.ro 52 15 ([]:List aa),.ro 64 31 ([]:List aJ)]⟩,Sub.trans (Sub.pb 4 52 15 rfl) (Sub.trans (Sub.pb 5 64 31 rfl) (Sub.rm [0,1,2,3,4,5,6,7,8,9,10,11,12])),by simp[dN],rfl,by simp[dN,sw],_,_,rfl⟩
  obtain⟨cL,sU,hg⟩:=ah hg
  refine rG hV [se 0 p8,se 1 p9,se 7 x3,se 28 (!cL)] [.w 26 p0,.w 52 p1,.w 52 p2,.frame 3 v0 f0,.dead,.ro 64 31 p3,.bz 52 15 p4,.w 26 p5,.w 26 p6,.w 26 p7,.frame 10 vals ft] ?_ fun K k=>by simp[Uy,sU];exact kx k
  refine cN hg ?_ ?_<;>(clear hg;intro Lj hg)
  ·refine rG hV [(4,.ao 15),(5,.ao 31),se 6 (61:Int)] [.w 26 p0,.w 52 p1,.w 52 p2,.frame 3 v0 f0,.dead,.ro 64 31 p3,.bz 52 15 p4,.w 26 p5,.w 26 p6,.w 26 p7,.frame 10 vals ft] ?_
   refine ab.ret ?_
   replace hg:=Option.some.inj hg;obtain⟨gD,dy⟩:=Prod.mk.inj hg;clear hg;subst gD;have hg:=dy;clear dy;obtain⟨gD,dy⟩:=Prod.mk.inj hg;clear hg;subst gD;have hg:=dy;clear dy;subst hg;exact hQ _ _ (.inl rfl) ⟨⟨[(4,.row 11),(5,.row 12),se 6 (61:Int)],[.w 26 p0,.w 52 p1,.w 52 p2,.frame 3 v0 f0,.dead,.ro 64 31 p3,.bz 52 15 p4,.w 26 p5,.w 26 p6,.w 26 p7,.frame 10 vals ft,.ro 52 15 ([]:List aa),.ro 64 31 ([]:List aJ)]⟩,Sub.trans (Sub.pb 4 52 15 rfl) (Sub.trans (Sub.pb 5 64 31 rfl) (Sub.rm [0,1,2,3,4,5,6,7,8,9,10,11,12])),by simp[dN],rfl,by simp[dN,sw],_,_,rfl⟩
  exact ab.skip (k7 _ ⟨hg,Sub.rm [0,1,2,3,4,5,6,7,8,9,10]⟩)
 unfold Z3 at hg
 obtain⟨bJ,zu,hg⟩:=ah hg
 obtain⟨g23,hg⟩:=aK hg
 have Wi:=aa0 g23
 refine rG hV [se 0 p8,se 1 p9,(8,.row 11)] [.w 26 p0,.w 52 p1,.w 52 p2,.frame 3 v0 f0,.dead,.ro 64 31 p3,.bz 52 15 p4,.w 26 p5,.w 26 p6,.w 26 p7,.frame 10 vals ft,.ro 52 15 ((bD aQ (bT bJ)):List aa)] ?_ fun K k=>by simp[FZ,OC,zu,Wi];exact kx k
 refine rG hV [se 0 p8,se 1 p9,(8,.row 11),(9,.ao 31)] [.w 26 p0,.w 52 p1,.w 52 p2,.frame 3 v0 f0,.dead,.ro 64 31 p3,.bz 52 15 p4,.w 26 p5,.w 26 p6,.w 26 p7,.frame 10 vals ft,.ro 52 15 ((bD aQ (bT bJ)):List aa)] ?_
 obtain⟨aM,QE,hg⟩:=ah hg
 obtain⟨bc,zw,hg⟩:=ah hg
 refine rG hV [(8,.row 11),(9,.ao 31),se 10 aM,se 11 bc] [.w 26 p0,.w 52 p1,.w 52 p2,.frame 3 v0 f0,.dead,.ro 64 31 p3,.bz 52 15 p4,.w 26 p5,.w 26 p6,.w 26 p7,.frame 10 vals ft,.ro 52 15 ((bD aQ (bT bJ)):List aa)] ?_ fun K k=>by simp[FZ,QE,zw];exact kx k
 refine cH (fun sF:(List aJ)=>Z4 bJ sF=some (wx,BK,BL)) (fun sF=>⟨[(8,.row 11),(9,.row 12)],[.w 26 p0,.w 52 p1,.w 52 p2,.frame 3 v0 f0,.dead,.ro 64 31 p3,.bz 52 15 p4,.w 26 p5,.w 26 p6,.w 26 p7,.frame 10 vals ft,.ro 52 15 ((bD aQ (bT bJ)):List aa),.ro 64 31 sF]⟩) (fun _ Bn=>?_) fun sF hg=>?_
 ·obtain⟨g33,hg⟩:=aK hg
  refine rG hV [(8,.row 11),(9,.ao 31),se 10 aM,se 11 bc,se 42 ((aE (aA aM)):(List Int)),se 43 (((aE (aA aM)).length:Int):Int),se 44 (0:Int)] [.w 26 p0,.w 52 p1,.w 52 p2,.frame 3 v0 f0,.dead,.ro 64 31 p3,.bz 52 15 p4,.w 26 p5,.w 26 p6,.w 26 p7,.frame 10 vals ft,.ro 52 15 ((bD aQ (bT bJ)):List aa)] ?_ fun K k=>by simp[OD,F3];(repeat refine ai ?_);exact kx k
  obtain⟨o98,XS,X8⟩:=ah hg;clear hg
  refine ab.block <| ab.aH (fun((bW,bH):(List aJ)×Int)=>⟨[(8,.row 11),(9,.row 12),se 10 aM,se 11 bc,se 42 ((aE (aA aM)):(List Int)),se 43 (((aE (aA aM)).length:Int):Int),se 44 bH],[.w 26 p0,.w 52 p1,.w 52 p2,.frame 3 v0 f0,.dead,.ro 64 31 p3,.bz 52 15 p4,.w 26 p5,.w 26 p6,.w 26 p7,.frame 10 vals ft,.ro 52 15 ((bD aQ (bT bJ)):List aa),.ro 64 31 bW]⟩) (Z5 aM bc) ([],0) XS (Sub.trans (Sub.pb 9 64 31 rfl) (Sub.rm [0,1,2,3,4,5,6,7,8,9,10,11,12])) fun aeK OR _ hg Yy tp=>?_
  obtain⟨bW,bH⟩:=aeK
  unfold Z5 at hg;try dsimp only at hg
  refine rG hV [(8,.row 11),(9,.row 12),se 10 aM,se 11 bc,se 42 ((aE (aA aM)):(List Int)),se 43 (((aE (aA aM)).length:Int):Int),se 44 bH,se 45 (decide (bH < ((aE (aA aM)).length:Int)))] [.w 26 p0,.w 52 p1,.w 52 p2,.frame 3 v0 f0,.dead,.ro 64 31 p3,.bz 52 15 p4,.w 26 p5,.w 26 p6,.w 26 p7,.frame 10 vals ft,.ro 52 15 ((bD aQ (bT bJ)):List aa),.ro 64 31 bW] ?_
  refine sG fun _ Mp=>?_
  refine cN hg ?_ ?_<;>(clear hg;intro Qy hg)
  ·refine sk Mp ?_
   refine cH (fun ur:(List aJ)=>Sq bH ur=some OR) (fun ur=>⟨[(8,.row 11),(9,.row 12),se 10 aM,se 11 bc,se 42 ((aE (aA aM)):(List Int)),se 43 (((aE (aA aM)).length:Int):Int),se 44 bH],[.w 26 p0,.w 52 p1,.w 52 p2,.frame 3 v0 f0,.dead,.ro 64 31 p3,.bz 52 15 p4,.w 26 p5,.w 26 p6,.w 26 p7,.frame 10 vals ft,.ro 52 15 ((bD aQ (bT bJ)):List aa),.ro 64 31 ur]⟩) (fun _ Fe=>?_) fun ur hg=>?_
   ·refine ab.block ?_
    obtain⟨bQ,Wt,hg⟩:=ah hg
    obtain⟨apw,apx,Lb⟩:=aY Wt;have Wu:=Lb;try simp at Wu
    refine rG hV [(8,.row 11),(9,.row 12),se 10 aM,se 11 bc,se 13 bQ,se 42 ((aE (aA aM)):(List Int)),se 43 (((aE (aA aM)).length:Int):Int),se 44 bH] [.w 26 p0,.w 52 p1,.w 52 p2,.frame 3 v0 f0,.dead,.ro 64 31 p3,.bz 52 15 p4,.w 26 p5,.w 26 p6,.w 26 p7,.frame 10 vals ft,.ro 52 15 ((bD aQ (bT bJ)):List aa),.ro 64 31 bW] ?_ fun K k=>by simp[Lb];(repeat refine ai ?_);exact kx k
    refine rG hV [(8,.row 11),(9,.row 12),se 10 aM,se 11 bc,se 13 bQ,pt 14 13,se 42 ((aE (aA aM)):(List Int)),se 43 (((aE (aA aM)).length:Int):Int),se 44 bH] [.w 26 p0,.w 52 p1,.w 52 p2,.frame 3 v0 f0,.dead,.ro 64 31 p3,.bz 52 15 p4,.w 26 p5,.w 26 p6,.w 26 p7,.frame 10 vals ft,.ro 52 15 ((bD aQ (bT bJ)):List aa),.ro 64 31 bW,.w 52 ((aV aM bQ (⟨0,0,0,(⟨0,0,0,0,0,(⟨0,0⟩:Rat),(⟨0,0⟩:Rat),(⟨0,0,0⟩:az)⟩:ae)⟩:aa)):aa)] ?_
    refine rG hV [(8,.row 11),(9,.row 12),se 10 aM,se 11 bc,se 13 bQ,pt 14 13,pt 15 14,se 16 ((eu bc bQ):Bool),se 42 ((aE (aA aM)):(List Int)),se 43 (((aE (aA aM)).length:Int):Int),se 44 bH] [.w 26 p0,.w 52 p1,.w 52 p2,.frame 3 v0 f0,.dead,.ro 64 31 p3,.bz 52 15 p4,.w 26 p5,.w 26 p6,.w 26 p7,.frame 10 vals ft,.ro 52 15 ((bD aQ (bT bJ)):List aa),.ro 64 31 bW,.w 52 ((aV aM bQ (⟨0,0,0,(⟨0,0,0,0,0,(⟨0,0⟩:Rat),(⟨0,0⟩:Rat),(⟨0,0,0⟩:az)⟩:ae)⟩:aa)):aa),.w 52 ((aV bc bQ (⟨0,0,0,(⟨0,0,0,0,0,(⟨0,0⟩:Rat),(⟨0,0⟩:Rat),(⟨0,0,0⟩:az)⟩:ae)⟩:aa)):aa)] ?_
    refine sG fun _ YW=>?_
    obtain⟨Gf,gR,hg⟩:=ah hg
    unfold aiM at gR
    refine sq [(8,.row 11),(9,.row 12),se 10 aM,se 11 bc,se 13 bQ,pt 14 13,pt 15 14,se 42 ((aE (aA aM)):(List Int)),se 43 (((aE (aA aM)).length:Int):Int),se 44 bH,se 72 Gf] [.w 26 p0,.w 52 p1,.w 52 p2,.frame 3 v0 f0,.dead,.ro 64 31 p3,.bz 52 15 p4,.w 26 p5,.w 26 p6,.w 26 p7,.frame 10 vals ft,.ro 52 15 ((bD aQ (bT bJ)):List aa),.ro 64 31 bW,.w 52 ((aV aM bQ (⟨0,0,0,(⟨0,0,0,0,0,(⟨0,0⟩:Rat),(⟨0,0⟩:Rat),(⟨0,0,0⟩:az)⟩:ae)⟩:aa)):aa),.w 52 ((aV bc bQ (⟨0,0,0,(⟨0,0,0,0,0,(⟨0,0⟩:Rat),(⟨0,0⟩:Rat),(⟨0,0,0⟩:az)⟩:ae)⟩:aa)):aa)] (fun _ zP=>?_) ?_
    ·rcases ay gR with ⟨wQ,gR⟩ | ⟨wQ,gR⟩
     ·have qg:=wQ;try simp at qg
      exact rJ hV (some [60,61,62,63,64,65,66,67,68,69,70,71]) zP fun K k=>by simp[qg];cases gR;exact k _ (Sub.rm [0,1,2,3,4,5,6,7,8,9,10,11,12,13,14])
     have qg:=wQ;try simp at qg
     rcases ay gR with ⟨DV,gR⟩ | ⟨DV,gR⟩
     ·have Az:=eq_true (of_decide_eq_true DV)
      exact rJ hV (some []) zP fun K k=>by simp[qg,Az];cases gR;exact k _ (Sub.rm [0,1,2,3,4,5,6,7,8,9,10,11,12,13,14])
     have Az:=DV;try simp at Az
     exact rJ hV (some [66,67,68,69,70]) zP fun K k=>by simp[qg,Az];cases gR;exact k _ (Sub.rm [0,1,2,3,4,5,6,7,8,9,10,11,12,13,14])
    refine cN hg ?_ ?_<;>(clear hg;intro Ev hg)
    ·exact ab.exit (Fe _ ⟨_,hg,Sub.rm [0,1,2,3,4,5,6,7,8,9,10,11,12]⟩)
    refine sk YW ?_
    refine ab.sm (fun s'=>∃ sD:aa,∃ sE:aa,Sr bW bH bQ sD sE=some OR∧Sub s' ⟨[(8,.row 11),(9,.row 12),se 10 aM,se 11 bc,se 13 bQ,pt 14 13,pt 15 14,se 42 ((aE (aA aM)):(List Int)),se 43 (((aE (aA aM)).length:Int):Int),se 44 bH],[.w 26 p0,.w 52 p1,.w 52 p2,.frame 3 v0 f0,.dead,.ro 64 31 p3,.bz 52 15 p4,.w 26 p5,.w 26 p6,.w 26 p7,.frame 10 vals ft,.ro 52 15 ((bD aQ (bT bJ)):List aa),.ro 64 31 bW,.w 52 sD,.w 52 sE]⟩) (fun _ Mr=>?_) ?_
    ·obtain⟨Gd,WA,hg⟩:=ah hg
     refine rG hV [(8,.row 11),(9,.row 12),se 10 aM,se 11 bc,se 13 bQ,pt 14 13,pt 15 14,se 42 ((aE (aA aM)):(List Int)),se 43 (((aE (aA aM)).length:Int):Int),se 44 bH,se 76 (decide (0 < Gd))] [.w 26 p0,.w 52 p1,.w 52 p2,.frame 3 v0 f0,.dead,.ro 64 31 p3,.bz 52 15 p4,.w 26 p5,.w 26 p6,.w 26 p7,.frame 10 vals ft,.ro 52 15 ((bD aQ (bT bJ)):List aa),.ro 64 31 bW,.w 52 ((aV aM bQ (⟨0,0,0,(⟨0,0,0,0,0,(⟨0,0⟩:Rat),(⟨0,0⟩:Rat),(⟨0,0,0⟩:az)⟩:ae)⟩:aa)):aa),.w 52 ((aV bc bQ (⟨0,0,0,(⟨0,0,0,0,0,(⟨0,0⟩:Rat),(⟨0,0⟩:Rat),(⟨0,0,0⟩:az)⟩:ae)⟩:aa)):aa)] ?_ fun K k=>by simp[F2,WA];exact kx k
     refine cN hg ?_ ?_<;>(clear hg;intro apJ hg)
     ·refine rH hV [(8,.row 11),(9,.row 12),se 10 aM,se 11 bc,se 13 bQ,pt 14 13,pt 15 14,se 42 ((aE (aA aM)):(List Int)),se 43 (((aE (aA aM)).length:Int):Int),se 44 bH] [.w 26 p0,.w 52 p1,.w 52 p2,.frame 3 v0 f0,.dead,.ro 64 31 p3,.bz 52 15 p4,.w 26 p5,.w 26 p6,.w 26 p7,.frame 10 vals ft,.ro 52 15 ((bD aQ (bT bJ)):List aa),.ro 64 31 bW,.w 52 ((aV bc bQ (⟨0,0,0,(⟨0,0,0,0,0,(⟨0,0⟩:Rat),(⟨0,0⟩:Rat),(⟨0,0,0⟩:az)⟩:ae)⟩:aa)):aa),.w 52 ((aV aM bQ (⟨0,0,0,(⟨0,0,0,0,0,(⟨0,0⟩:Rat),(⟨0,0⟩:Rat),(⟨0,0,0⟩:az)⟩:ae)⟩:aa)):aa)] ?_
      exact Mr _ ⟨_,_,hg,Sub.rm [0,1,2,3,4,5,6,7,8,9,10,11,12,13,14]⟩
     exact ab.skip (Mr _ ⟨_,_,hg,Sub.rm [0,1,2,3,4,5,6,7,8,9,10,11,12,13,14]⟩)
    rintro s' ⟨sD,sE,hg,hs⟩
    unfold Sr at hg
    refine ab.sub hs ?_
    obtain⟨aoU,hg⟩:=aK hg
    refine rH hV [(8,.row 11),(9,.row 15),se 10 aM,se 11 bc,se 42 ((aE (aA aM)):(List Int)),se 43 (((aE (aA aM)).length:Int):Int),se 44 bH] [.w 26 p0,.w 52 p1,.w 52 p2,.frame 3 v0 f0,.dead,.ro 64 31 p3,.bz 52 15 p4,.w 26 p5,.w 26 p6,.w 26 p7,.frame 10 vals ft,.ro 52 15 ((bD aQ (bT bJ)):List aa),.dead,.w 52 sD,.w 52 sE,.ro 64 31 ((bW++[(⟨bQ,sD,sE⟩:aJ)]):List aJ)] ?_
    exact Fe _ ⟨_,hg,Sub.rm [0,1,2,3,4,5,6,7,8,9,10,11,15]⟩
   unfold Sq at hg
   obtain⟨Wf,hg⟩:=aK hg
   unfold ax at Wf
   refine rH hV [(8,.row 11),(9,.row 12),se 10 aM,se 11 bc,se 42 ((aE (aA aM)):(List Int)),se 43 (((aE (aA aM)).length:Int):Int),se 44 ((bH+1):Int)] [.w 26 p0,.w 52 p1,.w 52 p2,.frame 3 v0 f0,.dead,.ro 64 31 p3,.bz 52 15 p4,.w 26 p5,.w 26 p6,.w 26 p7,.frame 10 vals ft,.ro 52 15 ((bD aQ (bT bJ)):List aa),.ro 64 31 ur] ?_
   exact tp _ _ (aF hg).symm (Sub.rm [0,1,2,3,4,5,6,7,8,9,10,11,12])
  refine ab.exit ?_
  cases Yy _ (aF hg).symm;have hg:=X8;try dsimp only at hg
  exact Bn _ ⟨_,hg,Sub.rm [0,1,2,3,4,5,6,7,8,9,10,11,12]⟩
 unfold Z4 at hg
 refine rG hV [(4,.row 11),(5,.row 12),se 6 (0:Int)] [.w 26 p0,.w 52 p1,.w 52 p2,.frame 3 v0 f0,.dead,.ro 64 31 p3,.bz 52 15 p4,.w 26 p5,.w 26 p6,.w 26 p7,.frame 10 vals ft,.ro 52 15 ((bD aQ (bT bJ)):List aa),.ro 64 31 sF] ?_
 refine ab.ret ?_
 replace hg:=Option.some.inj hg;obtain⟨gD,dy⟩:=Prod.mk.inj hg;clear hg;subst gD;have hg:=dy;clear dy;obtain⟨gD,dy⟩:=Prod.mk.inj hg;clear hg;subst gD;have hg:=dy;clear dy;subst hg;exact hQ _ _ (.inl rfl) ⟨⟨[(4,.row 11),(5,.row 12),se 6 (0:Int)],[.w 26 p0,.w 52 p1,.w 52 p2,.frame 3 v0 f0,.dead,.ro 64 31 p3,.bz 52 15 p4,.w 26 p5,.w 26 p6,.w 26 p7,.frame 10 vals ft,.ro 52 15 ((bD aQ (bT bJ)):List aa),.ro 64 31 sF]⟩,Sub.rm [0,1,2,3,4,5,6,7,8,9,10,11,12],by simp[dN],rfl,by simp[dN,sw],_,_,rfl⟩
noncomputable def wD:an.Spec:=jh (zW.map fun r=>enc r)
set_option maxHeartbeats 80000000 in
theorem IH:aL Tryz.prog 9 wD:=by
 have hV:=AJ (cs ajQ (cs awz (cs IG (cs aaO (cs aaM (cs aaN (cs ajK (cs M3 cn))))))))
 refine aL.avQ (Enters.of Tryz.func9 (by decide)) fun rr hr=>?_
 obtain⟨r,hg,rfl⟩:=C4 hr;clear hr
 refine ee.Dc hV Tryz.func9 rfl Tryz.ntmps9 fun R hR w0 I0 Q hQ=>?_
 unfold zW at hg
 refine rG hV [] [] ?_
 obtain⟨x2,h3,hg⟩:=ah hg
 have WZ:=h3;try simp at WZ
 obtain⟨x4,h5,hg⟩:=ah hg
 have Lo:=h5;try simp at Lo
 refine rG hV [pt 1 0] [.w 26 ((⟨1,[(⟨1,x2,0⟩:aT)],[(⟨1,0,0,0,1,(⟨0,0⟩:Interval),(⟨0,0,0⟩:az),(⟨0,0,8⟩:az)⟩:Part)],[x4]⟩:Score):Score)] ?_ fun K k=>by simp[acK,BZ,h3,h5];exact kx k
 refine rG hV [pt 1 0,pt 2 1] [.w 26 ((⟨1,[(⟨1,x2,0⟩:aT)],[(⟨1,0,0,0,1,(⟨0,0⟩:Interval),(⟨0,0,0⟩:az),(⟨0,0,8⟩:az)⟩:Part)],[x4]⟩:Score):Score),.w 52 ((⟨2,5,1,(⟨7,0,0,0,0,(⟨0,0⟩:Rat),(⟨0,0⟩:Rat),(⟨0,0,0⟩:az)⟩:ae)⟩:aa):aa)] ?_
 obtain⟨x8,h9,hg⟩:=ah hg
 have Xo:=h9;try simp at Xo
 refine rG hV [pt 1 0,pt 2 1,pt 3 2] [.w 26 ((⟨1,[(⟨1,x2,0⟩:aT)],[(⟨1,0,0,0,1,(⟨0,0⟩:Interval),(⟨0,0,0⟩:az),(⟨0,0,8⟩:az)⟩:Part)],[x4]⟩:Score):Score),.w 52 ((⟨2,5,1,(⟨7,0,0,0,0,(⟨0,0⟩:Rat),(⟨0,0⟩:Rat),(⟨0,0,0⟩:az)⟩:ae)⟩:aa):aa),.w 52 (⟨1,6,2,x8⟩:aa)] ?_ fun K k=>by simp[BZ,h9];exact kx k
 refine ab.rC hV [1,2,3,4,5,6] fun K gS=>?_
 refine cm.seq hV none 4 [1,2,3,40,42] (by decide) (by decide) fun K1 gF=>?_
 simp;repeat refine ai ?_
 refine kd [pt 1 0,pt 2 1,pt 3 2,se 40 ([(⟨2,5,1,(⟨7,0,0,0,0,(⟨0,0⟩:Rat),(⟨0,0⟩:Rat),(⟨0,0,0⟩:az)⟩:ae)⟩:aa)]:(List aa)),se 42 ([(⟨1,6,2,x8⟩:aa)]:(List aa))] [.w 26 ((⟨1,[(⟨1,x2,0⟩:aT)],[(⟨1,0,0,0,1,(⟨0,0⟩:Interval),(⟨0,0,0⟩:az),(⟨0,0,8⟩:az)⟩:Part)],[x4]⟩:Score):Score),.w 52 ((⟨2,5,1,(⟨7,0,0,0,0,(⟨0,0⟩:Rat),(⟨0,0⟩:Rat),(⟨0,0,0⟩:az)⟩:ae)⟩:aa):aa),.w 52 (⟨1,6,2,x8⟩:aa)] (by first | rfl | (simp[pD]<;>grind)) (gF _ ?_)
 obtain⟨⟨aU,aX,cL⟩,sU,hg⟩:=ah hg;try dsimp only at hg
 refine cm.call hV 16 [.d (enc ([(⟨2,5,1,(⟨7,0,0,0,0,(⟨0,0⟩:Rat),(⟨0,0⟩:Rat),(⟨0,0,0⟩:az)⟩:ae)⟩:aa)]:(List aa))),.d (enc ([(⟨1,6,2,x8⟩:aa)]:(List aa)))] rfl rfl trivial (by decide) (by simp[kN]) fun K2 o0=>?_
 refine(auW sU).mono ?_
 rintro _ _ ⟨rfl,yU,f19,rfl⟩
 refine o0 _ _ ?_
 refine cm.fin hV none ?_
 simp;repeat refine ai ?_
 refine kd [pt 1 0,pt 2 1,pt 3 2,(4,.row 4),(5,.row 5),se 6 cL] [.w 26 ((⟨1,[(⟨1,x2,0⟩:aT)],[(⟨1,0,0,0,1,(⟨0,0⟩:Interval),(⟨0,0,0⟩:az),(⟨0,0,8⟩:az)⟩:Part)],[x4]⟩:Score):Score),.w 52 ((⟨2,5,1,(⟨7,0,0,0,0,(⟨0,0⟩:Rat),(⟨0,0⟩:Rat),(⟨0,0,0⟩:az)⟩:ae)⟩:aa):aa),.w 52 (⟨1,6,2,x8⟩:aa),.frame 3 yU f19,.ro 52 15 aU,.ro 64 31 aX] (by first | rfl | (simp[pD]<;>grind)) (gS _ ?_)
 refine ab.sub (s':=⟨[pt 1 0,pt 2 1,pt 3 2,(4,.fQ 4 (enc (aU:(List aa)))),(5,.row 5),se 6 cL],[.w 26 ((⟨1,[(⟨1,x2,0⟩:aT)],[(⟨1,0,0,0,1,(⟨0,0⟩:Interval),(⟨0,0,0⟩:az),(⟨0,0,8⟩:az)⟩:Part)],[x4]⟩:Score):Score),.w 52 ((⟨2,5,1,(⟨7,0,0,0,0,(⟨0,0⟩:Rat),(⟨0,0⟩:Rat),(⟨0,0,0⟩:az)⟩:ae)⟩:aa):aa),.w 52 (⟨1,6,2,x8⟩:aa),.frame 3 yU f19,.bz 52 15 aU,.ro 64 31 aX]⟩) ((Sub.aAm (e:=52) (size:=15) (els:=(aU:(List aa)).map enc) 4 4 rfl (by first | exact .inl rfl | exact .inr rfl)).trans (Sub.acu (by simp[zp]))) ?_
 obtain⟨Wj,hg⟩:=aK hg
 obtain⟨⟨aM,br,bc⟩,zw,hg⟩:=ah hg;try dsimp only at hg
 have WW:=zw;try simp at WW
 refine sq [pt 1 0,pt 2 1,pt 3 2,se 4 aU,(5,.row 5),se 6 cL,pt 7 7,se 8 br,se 9 bc] [.w 26 ((⟨1,[(⟨1,x2,0⟩:aT)],[(⟨1,0,0,0,1,(⟨0,0⟩:Interval),(⟨0,0,0⟩:az),(⟨0,0,8⟩:az)⟩:Part)],[x4]⟩:Score):Score),.w 52 ((⟨2,5,1,(⟨7,0,0,0,0,(⟨0,0⟩:Rat),(⟨0,0⟩:Rat),(⟨0,0,0⟩:az)⟩:ae)⟩:aa):aa),.w 52 (⟨1,6,2,x8⟩:aa),.frame 3 yU f19,.dead,.ro 64 31 aX,.bz 52 15 ((aU++[(⟨2,7,2,(⟨9,0,0,0,0,(⟨0,0⟩:Rat),(⟨0,0⟩:Rat),(⟨0,0,0⟩:az)⟩:ae)⟩:aa)]):List aa),.w 26 aM] (fun _ Ih=>?_) ?_
 ·refine ab.Ub hV mixed none [0,1,2,3,4,5,6,7,8,9,10,11,12,13,14] 5 [0,1,2,3,4] [[5,6,7,8,9,10,11,12,13,14],[5,6,7,8,9,11,10,12,13,14],[5,6,7,8,9,11,12,10,13,14],[5,6,7,8,9,11,12,13,10,14],[5,6,7,8,10,9,11,12,13,14],[5,6,7,8,10,11,9,12,13,14],[5,6,7,8,10,11,12,9,13,14],[5,6,7,8,11,9,10,12,13,14],[5,6,7,8,11,9,12,10,13,14],[5,6,7,8,11,9,12,13,10,14],[5,6,7,8,11,10,9,12,13,14],[5,6,7,8,11,10,12,9,13,14],[5,6,7,8,11,12,9,10,13,14],[5,6,7,8,11,12,9,13,10,14],[5,6,7,8,11,12,10,9,13,14],[5,6,7,9,8,10,11,12,13,14],[5,6,7,9,8,11,10,12,13,14],[5,6,7,9,8,11,12,10,13,14],[5,6,7,9,8,11,12,13,10,14],[5,6,7,9,10,8,11,12,13,14],[5,6,7,9,10,11,8,12,13,14],[5,6,7,9,11,8,10,12,13,14],[5,6,7,9,11,8,12,10,13,14],[5,6,7,9,11,8,12,13,10,14],[5,6,7,9,11,10,8,12,13,14],[5,6,7,10,8,9,11,12,13,14],[5,6,7,10,8,11,9,12,13,14],[5,6,7,10,8,11,12,9,13,14],[5,6,7,10,9,8,11,12,13,14],[5,6,7,10,9,11,8,12,13,14],[5,6,7,10,11,8,9,12,13,14],[5,6,7,10,11,8,12,9,13,14],[5,6,7,10,11,9,8,12,13,14],[5,6,7,11,8,9,10,12,13,14],[5,6,7,11,8,9,12,10,13,14],[5,6,7,11,8,9,12,13,10,14],[5,6,7,11,8,10,9,12,13,14],[5,6,7,11,8,10,12,9,13,14],[5,6,7,11,8,12,9,10,13,14],[5,6,7,11,8,12,9,13,10,14],[5,6,7,11,8,12,10,9,13,14],[5,6,7,11,9,8,10,12,13,14],[5,6,7,11,9,8,12,10,13,14],[5,6,7,11,9,8,12,13,10,14],[5,6,7,11,9,10,8,12,13,14],[5,6,7,11,10,8,9,12,13,14],[5,6,7,11,10,8,12,9,13,14],[5,6,7,11,10,9,8,12,13,14],[5,6,11,7,8,9,10,12,13,14],[5,6,11,7,8,9,12,10,13,14],[5,6,11,7,8,9,12,13,10,14],[5,6,11,7,8,10,9,12,13,14],[5,6,11,7,8,10,12,9,13,14],[5,6,11,7,8,12,9,10,13,14],[5,6,11,7,8,12,9,13,10,14],[5,6,11,7,8,12,10,9,13,14],[5,6,11,7,9,8,10,12,13,14],[5,6,11,7,9,8,12,10,13,14],[5,6,11,7,9,8,12,13,10,14],[5,6,11,7,9,10,8,12,13,14],[5,6,11,7,10,8,9,12,13,14],[5,6,11,7,10,8,12,9,13,14],[5,6,11,7,10,9,8,12,13,14],[5,11,6,7,8,9,10,12,13,14],[5,11,6,7,8,9,12,10,13,14],[5,11,6,7,8,9,12,13,10,14],[5,11,6,7,8,10,9,12,13,14],[5,11,6,7,8,10,12,9,13,14],[5,11,6,7,8,12,9,10,13,14],[5,11,6,7,8,12,9,13,10,14],[5,11,6,7,8,12,10,9,13,14],[5,11,6,7,9,8,10,12,13,14],[5,11,6,7,9,8,12,10,13,14],[5,11,6,7,9,8,12,13,10,14],[5,11,6,7,9,10,8,12,13,14],[5,11,6,7,10,8,9,12,13,14],[5,11,6,7,10,8,12,9,13,14],[5,11,6,7,10,9,8,12,13,14],[11,5,6,7,8,9,10,12,13,14],[11,5,6,7,8,9,12,10,13,14],[11,5,6,7,8,9,12,13,10,14],[11,5,6,7,8,10,9,12,13,14],[11,5,6,7,8,10,12,9,13,14],[11,5,6,7,8,12,9,10,13,14],[11,5,6,7,8,12,9,13,10,14],[11,5,6,7,8,12,10,9,13,14],[11,5,6,7,9,8,10,12,13,14],[11,5,6,7,9,8,12,10,13,14],[11,5,6,7,9,8,12,13,10,14],[11,5,6,7,9,10,8,12,13,14],[11,5,6,7,10,8,9,12,13,14],[11,5,6,7,10,8,12,9,13,14],[11,5,6,7,10,9,8,12,13,14]] [1,2,3,4,5,6,7,8,9] (by decide) (by decide) (by decide) (by first | rfl | decide | simp[AL,BE]) fun K we K1 Bn=>?_
  simp only[dJ,pX,fP,List.filterMap_cons,List.filterMap_nil,List.getElem?_cons_zero,List.getElem?_cons_succ,Option.map_some,Option.map_none,List.map_cons,List.map_nil,List.findIdx_cons]
  simp[pB];repeat refine ai ?_
  refine Bn _ ?_;clear Bn
  have sf:=we ⟨[pt 1 0,pt 2 1,pt 3 2,(4,.fQ 4 (enc (aU:(List aa)))),(5,.row 5),se 6 cL,pt 7 7,se 8 br,se 9 bc],[.w 26 ((⟨1,[(⟨1,x2,0⟩:aT)],[(⟨1,0,0,0,1,(⟨0,0⟩:Interval),(⟨0,0,0⟩:az),(⟨0,0,8⟩:az)⟩:Part)],[x4]⟩:Score):Score),.w 52 ((⟨2,5,1,(⟨7,0,0,0,0,(⟨0,0⟩:Rat),(⟨0,0⟩:Rat),(⟨0,0,0⟩:az)⟩:ae)⟩:aa):aa),.w 52 (⟨1,6,2,x8⟩:aa),.frame 3 yU f19,.dead,.ro 64 31 aX,.bz 52 15 ((aU++[(⟨2,7,2,(⟨9,0,0,0,0,(⟨0,0⟩:Rat),(⟨0,0⟩:Rat),(⟨0,0,0⟩:az)⟩:ae)⟩:aa)]):List aa),.w 26 aM]⟩ (Ih _ (Sub.plain.trans (Sub.rm [0,1,2,3,4,5,6,7])))
  have aiv:=sf;try simp at aiv
  have zR:=we ⟨[pt 1 0,pt 2 1,pt 3 2,(4,.fQ 4 (enc (aU:(List aa)))),(5,.row 5),se 6 cL,pt 7 6,se 8 br,se 9 bc],[.w 26 ((⟨1,[(⟨1,x2,0⟩:aT)],[(⟨1,0,0,0,1,(⟨0,0⟩:Interval),(⟨0,0,0⟩:az),(⟨0,0,8⟩:az)⟩:Part)],[x4]⟩:Score):Score),.w 52 ((⟨2,5,1,(⟨7,0,0,0,0,(⟨0,0⟩:Rat),(⟨0,0⟩:Rat),(⟨0,0,0⟩:az)⟩:ae)⟩:aa):aa),.w 52 (⟨1,6,2,x8⟩:aa),.frame 3 yU f19,.dead,.ro 64 31 aX,.w 26 aM,.bz 52 15 ((aU++[(⟨2,7,2,(⟨9,0,0,0,0,(⟨0,0⟩:Rat),(⟨0,0⟩:Rat),(⟨0,0,0⟩:az)⟩:ae)⟩:aa)]):List aa)]⟩ (Ih _ (Sub.plain.trans (Sub.rm [0,1,2,3,4,5,7,6])))
  have aiw:=zR;try simp at aiw
  refine⟨?_,?_,?_,?_,?_,?_,?_,?_,?_,?_,?_,?_,?_,?_,?_,?_,?_,?_,?_,?_,?_,?_,?_,?_,?_,?_,?_,?_,?_,?_,?_,?_,?_,?_,?_,?_,?_,?_,?_,?_,?_,?_,?_,?_,?_,?_,?_,?_,?_,?_,?_,?_,?_,?_,?_,?_,?_,?_,?_,?_,?_,?_,?_,?_,?_,?_,?_,?_,?_,?_,?_,?_,?_,?_,?_,?_,?_,?_,?_,?_,?_,?_,?_,?_,?_,?_,?_,?_,?_,?_,?_,?_,?_,trivial⟩
  all_goals simp only[dJ,pX,fP,List.filterMap_cons,List.filterMap_nil,List.getElem?_cons_zero,List.getElem?_cons_succ,Option.map_some,Option.map_none,List.map_cons,List.map_nil,List.findIdx_cons,wq]
  all_goals simp[pB,zw]
  all_goals repeat refine ai ?_
  all_goals first | exact aiv | exact aiw | exact cO rfl sf | exact cO rfl zR | exact cO (by simp[pB,zw,WW]<;>grind) sf | exact cO (by simp[pB,zw,WW]<;>grind) zR
 obtain⟨⟨x35,o7⟩,EB,hg⟩:=ah hg;try dsimp only at hg
 have aqF:=EB;try simp at aqF
 refine rG hV [pt 1 0,pt 2 1,pt 3 2,se 4 aU,(5,.row 5),se 6 cL,pt 7 7,se 8 br,se 9 bc,se 10 x35,se 11 o7] [.w 26 ((⟨1,[(⟨1,x2,0⟩:aT)],[(⟨1,0,0,0,1,(⟨0,0⟩:Interval),(⟨0,0,0⟩:az),(⟨0,0,8⟩:az)⟩:Part)],[x4]⟩:Score):Score),.w 52 ((⟨2,5,1,(⟨7,0,0,0,0,(⟨0,0⟩:Rat),(⟨0,0⟩:Rat),(⟨0,0,0⟩:az)⟩:ae)⟩:aa):aa),.w 52 (⟨1,6,2,x8⟩:aa),.frame 3 yU f19,.dead,.ro 64 31 aX,.bz 52 15 ((aU++[(⟨2,7,2,(⟨9,0,0,0,0,(⟨0,0⟩:Rat),(⟨0,0⟩:Rat),(⟨0,0,0⟩:az)⟩:ae)⟩:aa)]):List aa),.w 26 aM] ?_ fun K k=>by simp[Jn,EB];exact ky k (by first | rfl | (simp<;>grind))
 obtain⟨⟨xK,ry,iE⟩,AS,hg⟩:=ah hg;try dsimp only at hg
 have EC:=AS;try simp at EC
 refine rG hV [pt 1 0,pt 2 1,pt 3 2,se 4 aU,(5,.row 5),se 6 cL,pt 7 7,se 8 br,se 9 bc,se 11 o7,pt 12 8,se 14 iE] [.w 26 ((⟨1,[(⟨1,x2,0⟩:aT)],[(⟨1,0,0,0,1,(⟨0,0⟩:Interval),(⟨0,0,0⟩:az),(⟨0,0,8⟩:az)⟩:Part)],[x4]⟩:Score):Score),.w 52 ((⟨2,5,1,(⟨7,0,0,0,0,(⟨0,0⟩:Rat),(⟨0,0⟩:Rat),(⟨0,0,0⟩:az)⟩:ae)⟩:aa):aa),.w 52 (⟨1,6,2,x8⟩:aa),.frame 3 yU f19,.dead,.ro 64 31 aX,.bz 52 15 ((aU++[(⟨2,7,2,(⟨9,0,0,0,0,(⟨0,0⟩:Rat),(⟨0,0⟩:Rat),(⟨0,0,0⟩:az)⟩:ae)⟩:aa)]):List aa),.w 26 aM,.w 26 xK] ?_ fun K k=>by simp[pB,AS];exact ky k (by first | rfl | (simp<;>grind))
 obtain⟨ig,uP,hg⟩:=ah hg
 have yg:=uP;try simp at yg
 obtain⟨⟨nV,iR,gY⟩,sX,hg⟩:=ah hg;try dsimp only at hg
 have yh:=sX;try simp at yh
 refine ic hV mixed [pt 1 0,pt 2 1,pt 3 2,se 4 aU,(5,.row 5),se 6 cL,pt 7 7,se 8 br,se 9 bc,se 11 o7,pt 12 8,se 14 iE,se 16 iR,se 17 gY] [.w 26 ((⟨1,[(⟨1,x2,0⟩:aT)],[(⟨1,0,0,0,1,(⟨0,0⟩:Interval),(⟨0,0,0⟩:az),(⟨0,0,8⟩:az)⟩:Part)],[x4]⟩:Score):Score),.w 52 ((⟨2,5,1,(⟨7,0,0,0,0,(⟨0,0⟩:Rat),(⟨0,0⟩:Rat),(⟨0,0,0⟩:az)⟩:ae)⟩:aa):aa),.w 52 (⟨1,6,2,x8⟩:aa),.frame 3 yU f19,.dead,.ro 64 31 aX,.bz 52 15 ((aU++[(⟨2,7,2,(⟨9,0,0,0,0,(⟨0,0⟩:Rat),(⟨0,0⟩:Rat),(⟨0,0,0⟩:az)⟩:ae)⟩:aa)]):List aa),.w 26 aM,.w 26 xK,.w 26 nV] 11 [8,9] ?_ fun K k=>by simp[BZ,pB,uP,sX];exact ky k (by first | rfl | (simp<;>grind))
 refine ab.rC hV [1,2,3,4,5,6,7,8,9,11,12,14,16,17,20] fun K k51=>?_
 refine cm.seq hV none 5 [1,2,3,4,5,6,7,8,9,11,12,14,16,17,83,86] (by decide) (by decide) fun K1 k52=>?_
 simp;repeat refine ai ?_
 refine kd [pt 1 0,pt 2 1,pt 3 2,se 4 aU,(5,.row 5),se 6 cL,pt 7 7,se 8 br,se 9 bc,se 11 o7,pt 12 8,se 14 iE,se 16 iR,se 17 gY,se 83 ([(⟨2,5,1,(⟨7,0,0,0,0,(⟨0,0⟩:Rat),(⟨0,0⟩:Rat),(⟨0,0,0⟩:az)⟩:ae)⟩:aa)]:(List aa)),se 86 ([(⟨2,5,1,(⟨8,0,0,0,0,(⟨0,0⟩:Rat),(⟨0,0⟩:Rat),(⟨0,0,0⟩:az)⟩:ae)⟩:aa)]:(List aa))] [.w 26 ((⟨1,[(⟨1,x2,0⟩:aT)],[(⟨1,0,0,0,1,(⟨0,0⟩:Interval),(⟨0,0,0⟩:az),(⟨0,0,8⟩:az)⟩:Part)],[x4]⟩:Score):Score),.w 52 ((⟨2,5,1,(⟨7,0,0,0,0,(⟨0,0⟩:Rat),(⟨0,0⟩:Rat),(⟨0,0,0⟩:az)⟩:ae)⟩:aa):aa),.w 52 (⟨1,6,2,x8⟩:aa),.frame 3 yU f19,.dead,.ro 64 31 aX,.bz 52 15 ((aU++[(⟨2,7,2,(⟨9,0,0,0,0,(⟨0,0⟩:Rat),(⟨0,0⟩:Rat),(⟨0,0,0⟩:az)⟩:ae)⟩:aa)]):List aa),.w 26 aM,.w 26 xK,.w 26 nV] (by first | rfl | (simp<;>grind)) (k52 _ ?_)
 obtain⟨⟨An,JG,wJ⟩,zA,hg⟩:=ah hg;try dsimp only at hg
 refine cm.call hV 16 [.d (enc ([(⟨2,5,1,(⟨7,0,0,0,0,(⟨0,0⟩:Rat),(⟨0,0⟩:Rat),(⟨0,0,0⟩:az)⟩:ae)⟩:aa)]:(List aa))),.d (enc ([(⟨2,5,1,(⟨8,0,0,0,0,(⟨0,0⟩:Rat),(⟨0,0⟩:Rat),(⟨0,0,0⟩:az)⟩:ae)⟩:aa)]:(List aa)))] rfl rfl trivial (by decide) (by simp[kN]) fun K2 Bo=>?_
 refine(auX zA).mono ?_
 rintro _ _ ⟨rfl,v58,f59,rfl⟩
 refine Bo _ _ ?_
 refine cm.fin hV none ?_
 simp;repeat refine ai ?_
 refine kd [pt 1 0,pt 2 1,pt 3 2,se 4 aU,(5,.row 5),se 6 cL,pt 7 7,se 8 br,se 9 bc,se 11 o7,pt 12 8,se 14 iE,se 16 iR,se 17 gY,se 20 wJ] [.w 26 ((⟨1,[(⟨1,x2,0⟩:aT)],[(⟨1,0,0,0,1,(⟨0,0⟩:Interval),(⟨0,0,0⟩:az),(⟨0,0,8⟩:az)⟩:Part)],[x4]⟩:Score):Score),.w 52 ((⟨2,5,1,(⟨7,0,0,0,0,(⟨0,0⟩:Rat),(⟨0,0⟩:Rat),(⟨0,0,0⟩:az)⟩:ae)⟩:aa):aa),.w 52 (⟨1,6,2,x8⟩:aa),.frame 3 yU f19,.dead,.ro 64 31 aX,.bz 52 15 ((aU++[(⟨2,7,2,(⟨9,0,0,0,0,(⟨0,0⟩:Rat),(⟨0,0⟩:Rat),(⟨0,0,0⟩:az)⟩:ae)⟩:aa)]):List aa),.w 26 aM,.w 26 xK,.w 26 nV,.frame 10 v58 f59,.ro 52 15 An,.ro 64 31 JG] (by first | rfl | (simp<;>grind)) (k51 _ ?_)
 obtain⟨⟨oM,OY,B4⟩,EI,hg⟩:=ah hg;try dsimp only at hg
 have ara:=EI;try simp at ara
 refine rG hV [pt 1 0,pt 2 1,pt 3 2,se 4 aU,(5,.row 5),se 6 cL,pt 7 7,se 8 br,se 9 bc,se 11 o7,pt 12 8,se 14 iE,se 16 iR,se 17 gY,se 20 wJ,se 23 B4] [.w 26 ((⟨1,[(⟨1,x2,0⟩:aT)],[(⟨1,0,0,0,1,(⟨0,0⟩:Interval),(⟨0,0,0⟩:az),(⟨0,0,8⟩:az)⟩:Part)],[x4]⟩:Score):Score),.w 52 ((⟨2,5,1,(⟨7,0,0,0,0,(⟨0,0⟩:Rat),(⟨0,0⟩:Rat),(⟨0,0,0⟩:az)⟩:ae)⟩:aa):aa),.w 52 (⟨1,6,2,x8⟩:aa),.frame 3 yU f19,.dead,.ro 64 31 aX,.bz 52 15 ((aU++[(⟨2,7,2,(⟨9,0,0,0,0,(⟨0,0⟩:Rat),(⟨0,0⟩:Rat),(⟨0,0,0⟩:az)⟩:ae)⟩:aa)]):List aa),.w 26 aM,.w 26 xK,.w 26 nV,.frame 10 v58 f59,.ro 52 15 An,.ro 64 31 JG,.w 26 oM] ?_ fun K k=>by simp[pB,EI];exact ky k (by first | rfl | (simp<;>grind))
 obtain⟨O2,ki,hg⟩:=ah hg
 unfold Z6 at ki
 refine sq [pt 1 0,pt 2 1,pt 3 2,se 4 aU,(5,.row 3),pt 7 4,se 8 br,pt 12 5,se 16 iR,se 24 O2] [.w 26 ((⟨1,[(⟨1,x2,0⟩:aT)],[(⟨1,0,0,0,1,(⟨0,0⟩:Interval),(⟨0,0,0⟩:az),(⟨0,0,8⟩:az)⟩:Part)],[x4]⟩:Score):Score),.w 52 ((⟨2,5,1,(⟨7,0,0,0,0,(⟨0,0⟩:Rat),(⟨0,0⟩:Rat),(⟨0,0,0⟩:az)⟩:ae)⟩:aa):aa),.w 52 (⟨1,6,2,x8⟩:aa),.ro 64 31 aX,.w 26 aM,.w 26 xK] (fun _ wh=>?_) ?_
 ·rcases ay ki with ⟨Vn,ki⟩ | ⟨Vn,ki⟩
  ·have AF:=eq_true (of_decide_eq_true Vn)
   rcases ay ki with ⟨Ea,ki⟩ | ⟨Ea,ki⟩
   ·have uI:=eq_true (of_decide_eq_true Ea)
    rcases ay ki with ⟨Vo,ki⟩ | ⟨Vo,ki⟩
    ·have Eb:=eq_true (of_decide_eq_true Vo)
     rcases ay ki with ⟨Vp,ki⟩ | ⟨Vp,ki⟩
     ·have Hn:=eq_true (of_decide_eq_true Vp)
      rcases ay ki with ⟨Vq,ki⟩ | ⟨Vq,ki⟩
      ·have Kx:=eq_true (of_decide_eq_true Vq)
       rcases ay ki with ⟨Ec,ki⟩ | ⟨Ec,ki⟩
       ·have ze:=eq_true (of_decide_eq_true Ec)
        exact rJ hV (some []) wh fun K k=>by simp[AF,uI,Eb,Hn,Kx,ze];cases ki;exact k _ (Sub.rm [0,1,2,5,7,8])
       have ze:=Ec;try simp at ze
       exact rJ hV (some [120,121]) wh fun K k=>by simp[AF,uI,Eb,Hn,Kx,ze];cases ki;exact k _ (Sub.rm [0,1,2,5,7,8])
      have Kx:=Vq;try simp at Kx
      exact rJ hV (some [116,117,120,121]) wh fun K k=>by simp[AF,uI,Eb,Hn,Kx];cases ki;exact k _ (Sub.rm [0,1,2,5,7,8])
     have Hn:=Vp;try simp at Hn
     exact rJ hV (some [112,113,116,117,120,121]) wh fun K k=>by simp[AF,uI,Eb,Hn];cases ki;exact k _ (Sub.rm [0,1,2,5,7,8])
    have Eb:=Vo;try simp at Eb
    exact rJ hV (some [108,109,112,113,116,117,120,121]) wh fun K k=>by simp[AF,uI,Eb];cases ki;exact k _ (Sub.rm [0,1,2,5,7,8])
   have uI:=Ea;try simp at uI
   exact rJ hV (some [104,105,108,109,112,113,116,117,120,121]) wh fun K k=>by simp[AF,uI];cases ki;exact k _ (Sub.rm [0,1,2,5,7,8])
  have AF:=Vn;try simp at AF
  exact rJ hV (some [100,101,104,105,108,109,112,113,116,117,120,121]) wh fun K k=>by simp[AF];cases ki;exact k _ (Sub.rm [0,1,2,5,7,8])
 obtain⟨O3,kl,hg⟩:=ah hg
 unfold Z7 at kl
 refine sq [pt 1 0,pt 7 1,pt 12 2,se 24 O3] [.w 26 ((⟨1,[(⟨1,x2,0⟩:aT)],[(⟨1,0,0,0,1,(⟨0,0⟩:Interval),(⟨0,0,0⟩:az),(⟨0,0,8⟩:az)⟩:Part)],[x4]⟩:Score):Score),.w 26 aM,.w 26 xK] (fun _ Bp=>?_) ?_
 ·rcases ay kl with ⟨Ho,kl⟩ | ⟨Ho,kl⟩
  ·obtain⟨B7,Lw,kl⟩:=ah kl
   rcases ay kl with ⟨KA,kl⟩ | ⟨KA,kl⟩
   ·obtain⟨xM,CG,kl⟩:=ah kl
    rcases ay kl with ⟨P1,kl⟩ | ⟨P1,kl⟩
    ·obtain⟨x85,h86,kl⟩:=ah kl
     rcases ay kl with ⟨Vw,kl⟩ | ⟨Vw,kl⟩
     ·obtain⟨vA,h88,kl⟩:=ah kl
      exact rJ hV (some []) Bp fun K k=>by simp[oL,xE,BY,Ho,Lw,KA,CG,P1,h86,Vw,h88];cases kl;exact k _ (Sub.rm [0,4,5])
     exact rJ hV (some [144,145,146]) Bp fun K k=>by simp[oL,xE,BY,Ho,Lw,KA,CG,P1,h86,Vw];cases kl;exact k _ (Sub.rm [0,4,5])
    exact rJ hV (some [139,140,141,144,145,146]) Bp fun K k=>by simp[oL,xE,BY,Ho,Lw,KA,CG,P1];cases kl;exact k _ (Sub.rm [0,4,5])
   exact rJ hV (some [131,132,133,134,135,136,139,140,141,144,145,146]) Bp fun K k=>by simp[oL,xE,BY,Ho,Lw,KA];cases kl;exact k _ (Sub.rm [0,4,5])
  exact rJ hV (some [125,126,127,128,131,132,133,134,135,136,139,140,141,144,145,146]) Bp fun K k=>by simp[Ho];cases kl;exact k _ (Sub.rm [0,4,5])
 obtain⟨adB,oe,hg⟩:=ah hg
 unfold Z8 at oe
 refine sq [se 0 adB] [] (fun _ Ff=>?_) ?_
 ·rcases ay oe with ⟨G6,oe⟩ | ⟨G6,oe⟩
  ·rcases ay oe with ⟨Cg,oe⟩ | ⟨Cg,oe⟩
   ·have G7:=eq_true (of_decide_eq_true Cg)
    rcases ay oe with ⟨U3,oe⟩ | ⟨U3,oe⟩
    ·have J3:=eq_true (of_decide_eq_true U3)
     obtain⟨vw,Wp,oe⟩:=ah oe
     obtain⟨aBv,aBw,apo⟩:=aY Wp;have Wq:=apo;try simp at Wq
     obtain⟨amD,Wr,oe⟩:=ah oe
     have apq:=Wr;try simp at apq
     rcases ay oe with ⟨DT,oe⟩ | ⟨DT,oe⟩
     ·have DU:=eq_true (of_decide_eq_true DT)
      obtain⟨amE,Qy,oe⟩:=ah oe
      have apr:=Qy;try simp at apr
      exact cU hV mixed (some []) 23 [] Ff fun K k=>by simp[BZ,pC,G6,G7,J3,Wq,Wr,DU,Qy];(repeat refine ai ?_);cases oe;exact k _ (Sub.rm [])
     have DU:=DT;try simp at DU
     exact cU hV mixed (some [169,170,171]) 23 [] Ff fun K k=>by simp[BZ,pC,G6,G7,J3,Wq,Wr,DU];(repeat refine ai ?_);cases oe;exact k _ (Sub.rm [])
    have J3:=U3;try simp at J3
    exact cU hV mixed (some [161,162,163,164,165,166,169,170,171]) 23 [] Ff fun K k=>by simp[BZ,pC,G6,G7,J3];cases oe;exact k _ (Sub.rm [])
   have G7:=Cg;try simp at G7
   exact cU hV mixed (some [155,156,157,158,161,162,163,164,165,166,169,170,171]) 23 [] Ff fun K k=>by simp[BZ,pC,G6,G7];cases oe;exact k _ (Sub.rm [])
  exact cU hV mixed (some [150,151,152,155,156,157,158,161,162,163,164,165,166,169,170,171]) 23 [] Ff fun K k=>by simp[BZ,pC,G6];cases oe;exact k _ (Sub.rm [])
 cases hg;exact rz hQ
end
end Go.Proofs.YtjigeffmmcmlnaaGreatDoor
