import Derived.Test.YtjigeffmmcmlnaaGreatDoorX15
set_option linter.all false
set_option linter.unnecessarySimpa false
set_option linter.deprecated false
set_option linter.unusedVariables false
set_option linter.unusedSimpArgs false
set_option linter.unusedSectionVars false
namespace Go.Proofs.YtjigeffmmcmlnaaGreatDoor
open Go Go.an au
set_option maxRecDepth 4000
attribute [local instance] cJ
attribute [local congr] ab.kO
attribute [local simp] bu dz dU evalOp bd an.get fk strip bq an.after iI typed gr holds cR R.ok R.bad gI iU jk gW ku ji Op.operands Call.operands dY dA dQ dR iH il fm im gK fg nj nk nm np fK lH lL lJ fL jq lg lp lk ln ng ni jv mD bf D.cells T.eT D.one gH fV gb fo setAt eI fC jC fa gN bw cX iy fU iA gv jV arith et iM jf dG gC iN TD.agg env bR List.map fe iD ff gn gT mapOf iz iq dr mH mI mJ mK mL mM mN mO lK nh ll me mC my mB mr mG lq mi ml jw mE ko jh fh du fj iP gJ jB gone unbox iW fE gB gG lI lh nf jg jS List.contains_cons List.contains_nil lr iO iC iB gm ib gX lC kY mW l6 mw mu mz kr mF mh mj P2.list mA lB kW mU lF lb mZ l9 jQ kM lu kR mP lW jI kC lA kV mT l4 jM kH lE la mY l8 jP kL lD kZ mX l7 jO kJ jX kX mV l5 jN kI lG lf nc ma jW kT mR lY jK kF lv kS mQ lX jJ kD lz kU mS lZ jL kG kQ km lN lO lT lU lP lV lQ lR lS lM nD nH kv kz iQ nB nC nE nF nG nI nJ jD jE nL nM nN nO nP nQ nR nS nq nr nu nv nw nx ny nz nA
section
set_option maxRecDepth 10000
attribute [local simp] eJ qO qL rl qR qP qM rp qS qQ qN rq qT rT rP su rW rQ rN so rU rR rO sr rV tU tR ui tV BV BA
noncomputable def pD:an.Spec:=du fun(a0:(List aa)) (a1:(List aa))=>(tT a0 a1).map fun r=> .bn [enc r.1,enc r.2.1,enc r.2.2]
theorem aaL:aL Tryz.prog 16 pD:=by
 have hV:=aW (cs aaR (cs aaT (cs aaV (cs aaU (cs awE (cs aaW (cs SR (cs M5 (cs aaS cn)))))))))
 refine go2 hV Tryz.func16 rfl Tryz.ntmps16 fun a0 a1 r hg _ _ _ _ _ hQ=>?_
 unfold tT at hg
 refine rG hV [se 0 a0,se 1 a1] [] ?_
 obtain⟨x2,h3,hg⟩:=ah hg
 have WZ:=h3;try simp at WZ
 refine rG hV [se 0 a0,se 1 a1,se 7 x2] [] ?_ fun K k=>by simp[Uw,h3];exact kx k
 refine ch (Qf a0 a1 x2=some r) [se 0 a0,se 1 a1,se 7 x2] [] (fun _ k6=>?_) fun hg=>?_
 ·refine ab.block ?_
  refine rG hV [se 0 a0,se 1 a1,se 7 x2,se 21 (decide (1000 < (x2.length:Int)))] [] ?_
  refine cN hg ?_ ?_<;>(clear hg;intro h8 hg)
  ·refine rG hV [(4,.ao 15),(5,.ao 31),se 6 (2:Int)] [] ?_
   cases hg;exact rz hQ
  obtain⟨dw,wZ,hg⟩:=ah hg
  refine rG hV [se 0 a0,se 1 a1,se 7 x2,se 25 dw] [] ?_ fun K k=>by simp[Ux,wZ];exact kx k
  refine cN hg ?_ ?_<;>(clear hg;intro QA hg)
  ·refine rG hV [(4,.ao 15),(5,.ao 31),se 6 (1:Int)] [] ?_
   cases hg;exact rz hQ
  obtain⟨aX,sT,hg⟩:=ah hg
  refine rG hV [se 0 a0,se 1 a1,se 7 x2,se 28 (!aX)] [] ?_ fun K k=>by simp[Uy,sT];exact kx k
  refine cN hg ?_ ?_<;>(clear hg;intro zt hg)
  ·refine rG hV [(4,.ao 15),(5,.ao 31),se 6 (61:Int)] [] ?_
   cases hg;exact rz hQ
  exact ab.skip (k6 _ ⟨hg,Sub.rm []⟩)
 unfold Qf at hg
 obtain⟨bN,qn,hg⟩:=ah hg
 obtain⟨g22,hg⟩:=aK hg
 have ao4:=aa0 g22
 refine rG hV [se 0 a0,se 1 a1,se 8 ((bD aQ (bT bN)):(List aa))] [] ?_ fun K k=>by simp[FZ,OC,acN,qn,ao4];exact kx k
 refine rG hV [se 0 a0,se 1 a1,se 8 ((bD aQ (bT bN)):(List aa)),(9,.ao 31)] [] ?_
 obtain⟨bK,Ey,hg⟩:=ah hg
 obtain⟨br,sW,hg⟩:=ah hg
 refine rG hV [se 8 ((bD aQ (bT bN)):(List aa)),(9,.ao 31),se 10 bK,se 11 br] [] ?_ fun K k=>by simp[FZ,Ey,sW];exact kx k
 refine cH (fun Gs:(List aJ)=>VC bN Gs=some r) (fun Gs=>⟨[se 8 ((bD aQ (bT bN)):(List aa)),(9,.row 0)],[.ro 64 31 Gs]⟩) (fun _ we=>?_) fun Gs hg=>?_
 ·obtain⟨g32,hg⟩:=aK hg
  refine rG hV [se 8 ((bD aQ (bT bN)):(List aa)),(9,.ao 31),se 10 bK,se 11 br,se 42 ((aE (aA bK)):(List Int)),se 43 (((aE (aA bK)).length:Int):Int),se 44 (0:Int)] [] ?_ fun K k=>by simp[OD,F3];(repeat refine ai ?_);exact kx k
  obtain⟨o97,asz,as2⟩:=ah hg;clear hg
  refine ab.block <| ab.aH (fun((bW,bH):(List aJ)×Int)=>⟨[se 8 ((bD aQ (bT bN)):(List aa)),(9,.row 0),se 10 bK,se 11 br,se 42 ((aE (aA bK)):(List Int)),se 43 (((aE (aA bK)).length:Int):Int),se 44 bH],[.ro 64 31 bW]⟩) (KP bK br) ([],0) asz (Sub.trans (Sub.pb 9 64 31 rfl) (Sub.rm [0])) fun aA3 amA _ hg ati zR=>?_
  obtain⟨bW,bH⟩:=aA3
  unfold KP at hg;try dsimp only at hg
  refine rG hV [se 8 ((bD aQ (bT bN)):(List aa)),(9,.row 0),se 10 bK,se 11 br,se 42 ((aE (aA bK)):(List Int)),se 43 (((aE (aA bK)).length:Int):Int),se 44 bH,se 45 (decide (bH < ((aE (aA bK)).length:Int)))] [.ro 64 31 bW] ?_
  refine sG fun _ atN=>?_
  refine cN hg ?_ ?_<;>(clear hg;intro age hg)
  ·refine sk atN ?_
   refine cH (fun Ge:(List aJ)=>Eh bH Ge=some amA) (fun Ge=>⟨[se 8 ((bD aQ (bT bN)):(List aa)),(9,.row 0),se 10 bK,se 11 br,se 42 ((aE (aA bK)):(List Int)),se 43 (((aE (aA bK)).length:Int):Int),se 44 bH],[.ro 64 31 Ge]⟩) (fun _ aim=>?_) fun Ge hg=>?_
   ·refine ab.block ?_
    obtain⟨fq,apt,hg⟩:=ah hg
    obtain⟨aBy,aBz,agf⟩:=aY apt;have apu:=agf;try simp at apu
    refine rG hV [se 8 ((bD aQ (bT bN)):(List aa)),(9,.row 0),se 10 bK,se 11 br,se 13 fq,se 42 ((aE (aA bK)):(List Int)),se 43 (((aE (aA bK)).length:Int):Int),se 44 bH] [.ro 64 31 bW] ?_ fun K k=>by simp[agf];(repeat refine ai ?_);exact kx k
    refine rG hV [se 8 ((bD aQ (bT bN)):(List aa)),(9,.row 0),se 10 bK,se 11 br,se 13 fq,pt 14 1,se 42 ((aE (aA bK)):(List Int)),se 43 (((aE (aA bK)).length:Int):Int),se 44 bH] [.ro 64 31 bW,.w 52 ((aV bK fq (⟨0,0,0,(⟨0,0,0,0,0,(⟨0,0⟩:Rat),(⟨0,0⟩:Rat),(⟨0,0,0⟩:az)⟩:ae)⟩:aa)):aa)] ?_
    refine rG hV [se 8 ((bD aQ (bT bN)):(List aa)),(9,.row 0),se 10 bK,se 11 br,se 13 fq,pt 14 1,pt 15 2,se 16 ((eu br fq):Bool),se 42 ((aE (aA bK)):(List Int)),se 43 (((aE (aA bK)).length:Int):Int),se 44 bH] [.ro 64 31 bW,.w 52 ((aV bK fq (⟨0,0,0,(⟨0,0,0,0,0,(⟨0,0⟩:Rat),(⟨0,0⟩:Rat),(⟨0,0,0⟩:az)⟩:ae)⟩:aa)):aa),.w 52 ((aV br fq (⟨0,0,0,(⟨0,0,0,0,0,(⟨0,0⟩:Rat),(⟨0,0⟩:Rat),(⟨0,0,0⟩:az)⟩:ae)⟩:aa)):aa)] ?_
    refine sG fun _ Ib=>?_
    obtain⟨adG,zH,hg⟩:=ah hg
    unfold VD at zH
    refine sq [se 8 ((bD aQ (bT bN)):(List aa)),(9,.row 0),se 10 bK,se 11 br,se 13 fq,pt 14 1,pt 15 2,se 42 ((aE (aA bK)):(List Int)),se 43 (((aE (aA bK)).length:Int):Int),se 44 bH,se 72 adG] [.ro 64 31 bW,.w 52 ((aV bK fq (⟨0,0,0,(⟨0,0,0,0,0,(⟨0,0⟩:Rat),(⟨0,0⟩:Rat),(⟨0,0,0⟩:az)⟩:ae)⟩:aa)):aa),.w 52 ((aV br fq (⟨0,0,0,(⟨0,0,0,0,0,(⟨0,0⟩:Rat),(⟨0,0⟩:Rat),(⟨0,0,0⟩:az)⟩:ae)⟩:aa)):aa)] (fun _ Mq=>?_) ?_
    ·rcases ay zH with ⟨U4,zH⟩ | ⟨U4,zH⟩
     ·have G8:=U4;try simp at G8
      exact rJ hV (some [60,61,62,63,64,65,66,67,68,69,70,71]) Mq fun K k=>by simp[G8];cases zH;exact k _ (Sub.rm [0,1,2])
     have G8:=U4;try simp at G8
     rcases ay zH with ⟨U5,zH⟩ | ⟨U5,zH⟩
     ·have Pw:=eq_true (of_decide_eq_true U5)
      exact rJ hV (some []) Mq fun K k=>by simp[G8,Pw];cases zH;exact k _ (Sub.rm [0,1,2])
     have Pw:=U5;try simp at Pw
     exact rJ hV (some [66,67,68,69,70]) Mq fun K k=>by simp[G8,Pw];cases zH;exact k _ (Sub.rm [0,1,2])
    refine cN hg ?_ ?_<;>(clear hg;intro aBP hg)
    ·exact ab.exit (aim _ ⟨_,hg,Sub.rm [0]⟩)
    refine sk Ib ?_
    refine ab.sm (fun s'=>∃ DB:aa,∃ DC:aa,KO bW bH fq DB DC=some amA∧Sub s' ⟨[se 8 ((bD aQ (bT bN)):(List aa)),(9,.row 0),se 10 bK,se 11 br,se 13 fq,pt 14 1,pt 15 2,se 42 ((aE (aA bK)):(List Int)),se 43 (((aE (aA bK)).length:Int):Int),se 44 bH],[.ro 64 31 bW,.w 52 DB,.w 52 DC]⟩) (fun _ ain=>?_) ?_
    ·obtain⟨adl,apI,hg⟩:=ah hg
     refine rG hV [se 8 ((bD aQ (bT bN)):(List aa)),(9,.row 0),se 10 bK,se 11 br,se 13 fq,pt 14 1,pt 15 2,se 42 ((aE (aA bK)):(List Int)),se 43 (((aE (aA bK)).length:Int):Int),se 44 bH,se 76 (decide (0 < adl))] [.ro 64 31 bW,.w 52 ((aV bK fq (⟨0,0,0,(⟨0,0,0,0,0,(⟨0,0⟩:Rat),(⟨0,0⟩:Rat),(⟨0,0,0⟩:az)⟩:ae)⟩:aa)):aa),.w 52 ((aV br fq (⟨0,0,0,(⟨0,0,0,0,0,(⟨0,0⟩:Rat),(⟨0,0⟩:Rat),(⟨0,0,0⟩:az)⟩:ae)⟩:aa)):aa)] ?_ fun K k=>by simp[F2,apI];exact kx k
     refine cN hg ?_ ?_<;>(clear hg;intro aBU hg)
     ·refine rH hV [se 8 ((bD aQ (bT bN)):(List aa)),(9,.row 0),se 10 bK,se 11 br,se 13 fq,pt 14 1,pt 15 2,se 42 ((aE (aA bK)):(List Int)),se 43 (((aE (aA bK)).length:Int):Int),se 44 bH] [.ro 64 31 bW,.w 52 ((aV br fq (⟨0,0,0,(⟨0,0,0,0,0,(⟨0,0⟩:Rat),(⟨0,0⟩:Rat),(⟨0,0,0⟩:az)⟩:ae)⟩:aa)):aa),.w 52 ((aV bK fq (⟨0,0,0,(⟨0,0,0,0,0,(⟨0,0⟩:Rat),(⟨0,0⟩:Rat),(⟨0,0,0⟩:az)⟩:ae)⟩:aa)):aa)] ?_
      exact ain _ ⟨_,_,hg,Sub.rm [0,1,2]⟩
     exact ab.skip (ain _ ⟨_,_,hg,Sub.rm [0,1,2]⟩)
    rintro s' ⟨DB,DC,hg,hs⟩
    unfold KO at hg
    refine ab.sub hs ?_
    obtain⟨aBl,hg⟩:=aK hg
    refine rH hV [se 8 ((bD aQ (bT bN)):(List aa)),(9,.row 3),se 10 bK,se 11 br,se 42 ((aE (aA bK)):(List Int)),se 43 (((aE (aA bK)).length:Int):Int),se 44 bH] [.dead,.w 52 DB,.w 52 DC,.ro 64 31 ((bW++[(⟨fq,DB,DC⟩:aJ)]):List aJ)] ?_
    exact aim _ ⟨_,hg,Sub.rm [3]⟩
   unfold Eh at hg
   obtain⟨aoV,hg⟩:=aK hg
   unfold ax at aoV
   refine rH hV [se 8 ((bD aQ (bT bN)):(List aa)),(9,.row 0),se 10 bK,se 11 br,se 42 ((aE (aA bK)):(List Int)),se 43 (((aE (aA bK)).length:Int):Int),se 44 ((bH+1):Int)] [.ro 64 31 Ge] ?_
   exact zR _ _ (aF hg).symm (Sub.rm [0])
  refine ab.exit ?_
  cases ati _ (aF hg).symm;have hg:=as2;try dsimp only at hg
  exact we _ ⟨_,hg,Sub.rm [0]⟩
 unfold VC at hg
 refine rG hV [se 4 ((bD aQ (bT bN)):(List aa)),(5,.row 0),se 6 (0:Int)] [.ro 64 31 Gs] ?_
 cases hg;exact rz hQ
end
section
set_option maxRecDepth 10000
attribute [local simp] eJ qO qL rl qR qP qM rp qS qQ qN rq qT rT rP su rW rQ rN so rU rR rO sr rV tU tR ui tV BA
theorem aok {p0:(List (Int×ae))} {p1:(List (Int×ae))} {p2:(List aa)} {p3:ae} {p4:Int} {p5:ae} (hg:Qg p0 p1 p2 p3 p4 p5=some ()):gZ Tryz.prog 53 [.d (enc (p4:Int)),.d (enc (p5:ae)),.ptr 2 0] [.mp (p0:(List (Int×ae))),.fp (p1:(List (Int×ae))),.var 27 [.row 3],.ro 52 15 p2,.w 50 p3] fun u l'=>u = .bn []∧∃ v f,l'=[.mp (p0:(List (Int×ae))),.fp (p1:(List (Int×ae))),.var 27 [.row 6],.dead,.w 50 p3,.frame 5 v f,.ro 52 15 ((p2++[(⟨p4,((p2.length:Int)+1),1,p5⟩:aa)]):List aa)]:=by
 have hV:=aW cn
 refine gZ.of hV (Enters.of Tryz.func53 (by decide)) Tryz.func53 rfl (by rw[Tryz.ntmps53];simp) fun R hR w0 I0 vals ft Q hQ=>?_
 rw[Tryz.ntmps53]
 show ab _ _ _ _ _ ⟨[se 0 p4,se 1 p5,pt 2 2],[.mp (p0:(List (Int×ae))),.fp (p1:(List (Int×ae))),.var 27 [.row 3],.ro 52 15 p2,.w 50 p3,.frame 5 vals ft]⟩ _
 unfold Qg at hg
 refine rG hV [se 0 p4,pt 2 2,pt 4 6] [.mp (p0:(List (Int×ae))),.fp (p1:(List (Int×ae))),.var 27 [.row 3],.ro 52 15 p2,.w 50 p3,.frame 5 vals ft,.w 50 p5] ?_
 obtain⟨g3,hg⟩:=aK hg
 unfold ax at g3
 obtain⟨g4,hg⟩:=aK hg
 refine rH hV [] [.mp (p0:(List (Int×ae))),.fp (p1:(List (Int×ae))),.var 27 [.row 7],.dead,.w 50 p3,.frame 5 vals ft,.w 50 p5,.ro 52 15 ((p2++[(⟨p4,((p2.length:Int)+1),1,p5⟩:aa)]):List aa)] ?_
 clear hg;exact hQ _ _ (.inr rfl) ⟨⟨[],[.mp (p0:(List (Int×ae))),.fp (p1:(List (Int×ae))),.var 27 [.row 6],.dead,.w 50 p3,.frame 5 vals ft,.ro 52 15 ((p2++[(⟨p4,((p2.length:Int)+1),1,p5⟩:aa)]):List aa)]⟩,Sub.rm [0,1,2,3,4,5,7],by simp[dN],rfl,by simp[dN,sw],_,_,rfl⟩
theorem aol {p0:(List (Int×ae))} {p1:(List (Int×ae))} {p2:(List aa)} {p3:Int} {p4:ae} (hg:Qh p0 p1 p2 p3 p4=some ()):gZ Tryz.prog 53 [.d (enc (p3:Int)),.d (enc (p4:ae)),.ptr 2 0] [.fp (p0:(List (Int×ae))),.fp (p1:(List (Int×ae))),.var 27 [.row 3],.ro 52 15 p2] fun u l'=>u = .bn []∧∃ v f,l'=[.fp (p0:(List (Int×ae))),.fp (p1:(List (Int×ae))),.var 27 [.row 5],.dead,.frame 4 v f,.ro 52 15 ((p2++[(⟨p3,((p2.length:Int)+1),1,p4⟩:aa)]):List aa)]:=by
 have hV:=aW cn
 refine gZ.of hV (Enters.of Tryz.func53 (by decide)) Tryz.func53 rfl (by rw[Tryz.ntmps53];simp) fun R hR w0 I0 vals ft Q hQ=>?_
 rw[Tryz.ntmps53]
 show ab _ _ _ _ _ ⟨[se 0 p3,se 1 p4,pt 2 2],[.fp (p0:(List (Int×ae))),.fp (p1:(List (Int×ae))),.var 27 [.row 3],.ro 52 15 p2,.frame 4 vals ft]⟩ _
 unfold Qh at hg
 refine rG hV [se 0 p3,pt 2 2,pt 4 5] [.fp (p0:(List (Int×ae))),.fp (p1:(List (Int×ae))),.var 27 [.row 3],.ro 52 15 p2,.frame 4 vals ft,.w 50 p4] ?_
 obtain⟨g3,hg⟩:=aK hg
 unfold ax at g3
 obtain⟨g4,hg⟩:=aK hg
 refine rH hV [] [.fp (p0:(List (Int×ae))),.fp (p1:(List (Int×ae))),.var 27 [.row 6],.dead,.frame 4 vals ft,.w 50 p4,.ro 52 15 ((p2++[(⟨p3,((p2.length:Int)+1),1,p4⟩:aa)]):List aa)] ?_
 clear hg;exact hQ _ _ (.inr rfl) ⟨⟨[],[.fp (p0:(List (Int×ae))),.fp (p1:(List (Int×ae))),.var 27 [.row 5],.dead,.frame 4 vals ft,.ro 52 15 ((p2++[(⟨p3,((p2.length:Int)+1),1,p4⟩:aa)]):List aa)]⟩,Sub.rm [0,1,2,3,4,6],by simp[dN],rfl,by simp[dN,sw],_,_,rfl⟩
noncomputable def Jn:an.Spec:=du fun(a0:Score) (a1:(List aa))=>(Ei a0 a1).map fun r=> .bn [enc r.1,enc r.2]
theorem aaO:aL Tryz.prog 20 Jn:=by
 have hV:=aW (cs IG (cs awH (cs SR cn)))
 refine go2 hV Tryz.func20 rfl Tryz.ntmps20 fun a0 a1 r hg R hR w0 I0 Q hQ=>?_
 unfold Ei at hg
 refine rG hV [se 1 a1,pt 2 0] [.w 26 a0] ?_
 obtain⟨⟨x2,x3,x4⟩,h5,hg⟩:=ah hg;try dsimp only at hg
 have Lo:=h5;try simp at Lo
 refine rG hV [pt 2 0,pt 6 1,se 8 x4] [.w 26 a0,.w 26 x2] ?_ fun K k=>by simp[pB,h5];exact kx k
 refine sG fun _ k7=>?_
 refine rG hV [pt 2 0,pt 6 1,se 8 x4,se 33 (!decide (x4=0))] [.w 26 a0,.w 26 x2] ?_
 refine cN hg ?_ ?_<;>(clear hg;intro h9 hg)
 ·refine rG hV [(4,.ao 15),se 5 x4] [.w 26 a0,.w 26 x2] ?_
  cases hg;exact rz hQ
 refine sk k7 ?_
 refine rG hV [pt 2 0,pt 6 1,(9,.map 2),(10,.map 3)] [.w 26 a0,.w 26 x2,.mp ([]:(List (Int×ae))),.mp ([]:(List (Int×ae)))] ?_
 refine cH (fun bA:(List (Int×ae))=>Qi x2 bA=some r) (fun bA=>⟨[pt 6 0,(9,.map 1),(10,.map 2)],[.w 26 x2,.mp (bA:(List (Int×ae))),.mp ([]:(List (Int×ae)))]⟩) (fun _ o0=>?_) fun bA hg=>?_
 ·refine rG hV [pt 6 1,(9,.map 2),(10,.map 3),se 38 a0.notes,se 39 (a0.notes.length:Int),se 40 (0:Int)] [.w 26 a0,.w 26 x2,.mp ([]:(List (Int×ae))),.mp ([]:(List (Int×ae)))] ?_
  obtain⟨qB,ua,pk⟩:=ah hg;clear hg
  refine ab.block <| ab.aH (fun((bE,tI):(List (Int×ae))×Int)=>⟨[pt 6 0,(9,.map 1),(10,.map 2),se 38 a0.notes,se 39 (a0.notes.length:Int),se 40 tI],[.w 26 x2,.mp (bE:(List (Int×ae))),.mp ([]:(List (Int×ae)))]⟩) (Em a0) ([],0) ua (Sub.rm [1,2,3]) fun z41 uq _ hg pq rj=>?_
  obtain⟨bE,tI⟩:=z41
  unfold Em at hg;try dsimp only at hg
  refine rG hV [pt 6 0,(9,.map 1),(10,.map 2),se 38 a0.notes,se 39 (a0.notes.length:Int),se 40 tI,se 41 (decide (tI < (a0.notes.length:Int)))] [.w 26 x2,.mp (bE:(List (Int×ae))),.mp ([]:(List (Int×ae)))] ?_
  refine sG fun _ Zb=>?_
  refine cN hg ?_ ?_<;>(clear hg;intro uQ hg)
  ·refine sk Zb ?_
   refine cH (fun GD:(List (Int×ae))=>Ql tI GD=some uq) (fun GD=>⟨[pt 6 0,(9,.map 1),(10,.map 2),se 38 a0.notes,se 39 (a0.notes.length:Int),se 40 tI],[.w 26 x2,.mp (GD:(List (Int×ae))),.mp ([]:(List (Int×ae)))]⟩) (fun _ pw=>?_) fun GD hg=>?_
   ·refine ab.block ?_
    obtain⟨ej,oS,hg⟩:=ah hg
    obtain⟨CD,CE,jY⟩:=aY oS;have qW:=jY;try simp at qW
    refine rG hV [pt 6 0,(9,.map 1),(10,.map 2),pt 12 3,se 38 a0.notes,se 39 (a0.notes.length:Int),se 40 tI] [.w 26 x2,.mp (bE:(List (Int×ae))),.mp ([]:(List (Int×ae))),.w 50 ej] ?_ fun K k=>by simp[jY];(repeat refine ai ?_);exact kx k
    refine rH hV [pt 6 0,(9,.map 1),(10,.map 2),se 38 a0.notes,se 39 (a0.notes.length:Int),se 40 tI] [.w 26 x2,.mp ((cq bE ej.id ej):(List (Int×ae))),.mp ([]:(List (Int×ae))),.w 50 ej] ?_
    exact pw _ ⟨_,hg,Sub.rm [0,1,2]⟩
   unfold Ql at hg
   obtain⟨K9,hg⟩:=aK hg
   unfold ax at K9
   refine rH hV [pt 6 0,(9,.map 1),(10,.map 2),se 38 a0.notes,se 39 (a0.notes.length:Int),se 40 ((tI+1):Int)] [.w 26 x2,.mp (GD:(List (Int×ae))),.mp ([]:(List (Int×ae)))] ?_
   exact rj _ _ (aF hg).symm (Sub.rm [0,1,2])
  refine ab.exit ?_
  cases pq _ (aF hg).symm;have hg:=pk;try dsimp only at hg
  exact o0 _ ⟨_,hg,Sub.rm [0,1,2]⟩
 unfold Qi at hg
 refine cH (fun cd:(List (Int×ae))=>Qm bA cd=some r) (fun cd=>⟨[(9,.map 0),(10,.map 1)],[.mp (bA:(List (Int×ae))),.mp (cd:(List (Int×ae)))]⟩) (fun _ Zf=>?_) fun cd hg=>?_
 ·refine rG hV [(9,.map 1),(10,.map 2),se 50 x2.notes,se 51 (x2.notes.length:Int),se 52 (0:Int)] [.w 26 x2,.mp (bA:(List (Int×ae))),.mp ([]:(List (Int×ae)))] ?_
  obtain⟨o83,asv,as0⟩:=ah hg;clear hg
  refine ab.block <| ab.aH (fun((eB,tN):(List (Int×ae))×Int)=>⟨[(9,.map 0),(10,.map 1),se 50 x2.notes,se 51 (x2.notes.length:Int),se 52 tN],[.mp (bA:(List (Int×ae))),.mp (eB:(List (Int×ae)))]⟩) (Ej x2) ([],0) asv (Sub.rm [1,2]) fun z86 w88 _ hg atz Zg=>?_
  obtain⟨eB,tN⟩:=z86
  unfold Ej at hg;try dsimp only at hg
  refine rG hV [(9,.map 0),(10,.map 1),se 50 x2.notes,se 51 (x2.notes.length:Int),se 52 tN,se 53 (decide (tN < (x2.notes.length:Int)))] [.mp (bA:(List (Int×ae))),.mp (eB:(List (Int×ae)))] ?_
  refine sG fun _ Zn=>?_
  refine cN hg ?_ ?_<;>(clear hg;intro Xl hg)
  ·refine sk Zn ?_
   refine cH (fun GU:(List (Int×ae))=>Qj tN GU=some w88) (fun GU=>⟨[(9,.map 0),(10,.map 1),se 50 x2.notes,se 51 (x2.notes.length:Int),se 52 tN],[.mp (bA:(List (Int×ae))),.mp (GU:(List (Int×ae)))]⟩) (fun _ k93=>?_) fun GU hg=>?_
   ·refine ab.block ?_
    obtain⟨jG,QR,hg⟩:=ah hg
    obtain⟨aD3,aD4,ahi⟩:=aY QR;have arp:=ahi;try simp at arp
    refine rG hV [(9,.map 0),(10,.map 1),pt 14 2,se 50 x2.notes,se 51 (x2.notes.length:Int),se 52 tN] [.mp (bA:(List (Int×ae))),.mp (eB:(List (Int×ae))),.w 50 jG] ?_ fun K k=>by simp[ahi];(repeat refine ai ?_);exact kx k
    refine rH hV [(9,.map 0),(10,.map 1),se 50 x2.notes,se 51 (x2.notes.length:Int),se 52 tN] [.mp (bA:(List (Int×ae))),.mp ((cq eB jG.id jG):(List (Int×ae))),.w 50 jG] ?_
    exact k93 _ ⟨_,hg,Sub.rm [0,1]⟩
   unfold Qj at hg
   obtain⟨g98,hg⟩:=aK hg
   unfold ax at g98
   refine rH hV [(9,.map 0),(10,.map 1),se 50 x2.notes,se 51 (x2.notes.length:Int),se 52 ((tN+1):Int)] [.mp (bA:(List (Int×ae))),.mp (GU:(List (Int×ae)))] ?_
   exact Zg _ _ (aF hg).symm (Sub.rm [0,1])
  refine ab.exit ?_
  cases atz _ (aF hg).symm;have hg:=as0;try dsimp only at hg
  exact Zf _ ⟨_,hg,Sub.rm [0,1]⟩
 unfold Qm at hg
 refine rG hV [(9,.map 0),(10,.map 1),pt 15 2] [.mp (bA:(List (Int×ae))),.mp (cd:(List (Int×ae))),.var 27 [.ao 15]] ?_
 refine rG hV [(9,.map 0),(10,.map 1),pt 15 2,(16,.aR 53 [.ptr 2 0])] [.mp (bA:(List (Int×ae))),.mp (cd:(List (Int×ae))),.var 27 [.ao 15]] ?_
 refine cH (fun DA:(List aa)=>Qk bA cd DA=some r) (fun DA=>⟨[(9,.map 0),(10,.map 1),pt 15 2,(16,.aR 53 [.ptr 2 0])],[.mp (bA:(List (Int×ae))),.fp (cd:(List (Int×ae))),.var 27 [.row 3],.ro 52 15 DA]⟩) (fun _ Mp=>?_) fun DA hg=>?_
 ·obtain⟨aBi,hg⟩:=aK hg
  refine rG hV [(9,.map 0),(10,.map 1),pt 15 2,(16,.aR 53 [.ptr 2 0]),se 64 ((aE (aA cd)):(List Int)),se 65 (((aE (aA cd)).length:Int):Int),se 66 (0:Int)] [.mp (bA:(List (Int×ae))),.fp (cd:(List (Int×ae))),.var 27 [.ao 15]] ?_ fun K k=>by simp[Uz,F3];(repeat refine ai ?_);exact kx k
  obtain⟨aEj,arW,asL⟩:=ah hg;clear hg
  refine ab.block <| ab.aH (fun((uu,qa):(List aa)×Int)=>⟨[(9,.map 0),(10,.map 1),pt 15 2,(16,.aR 53 [.ptr 2 0]),se 64 ((aE (aA cd)):(List Int)),se 65 (((aE (aA cd)).length:Int):Int),se 66 qa],[.mp (bA:(List (Int×ae))),.fp (cd:(List (Int×ae))),.var 27 [.row 3],.ro 52 15 uu]⟩) (Ek bA cd) ([],0) arW (Sub.trans (Sub.UW 2 0 52 15 rfl rfl) (Sub.rm [0,1,2,3])) fun aA4 aAI _ hg atk Fe=>?_
  obtain⟨uu,qa⟩:=aA4
  unfold Ek at hg;try dsimp only at hg
  refine rG hV [(9,.map 0),(10,.map 1),pt 15 2,(16,.aR 53 [.ptr 2 0]),se 64 ((aE (aA cd)):(List Int)),se 65 (((aE (aA cd)).length:Int):Int),se 66 qa,se 67 (decide (qa < ((aE (aA cd)).length:Int)))] [.mp (bA:(List (Int×ae))),.fp (cd:(List (Int×ae))),.var 27 [.row 3],.ro 52 15 uu] ?_
  refine sG fun _ atU=>?_
  refine cN hg ?_ ?_<;>(clear hg;intro aCb hg)
  ·refine sk atU ?_
   refine cH (fun Gj:(List aa)=>KQ qa Gj=some aAI) (fun Gj=>⟨[(9,.map 0),(10,.map 1),pt 15 2,(16,.aR 53 [.ptr 2 0]),se 64 ((aE (aA cd)):(List Int)),se 65 (((aE (aA cd)).length:Int):Int),se 66 qa],[.mp (bA:(List (Int×ae))),.fp (cd:(List (Int×ae))),.var 27 [.row 3],.ro 52 15 Gj]⟩) (fun _ aiq=>?_) fun Gj hg=>?_
   ·refine ab.block ?_
    obtain⟨sA,agu,hg⟩:=ah hg
    obtain⟨aCc,aCd,agv⟩:=aY agu;have apY:=agv;try simp at apY
    refine rG hV [(9,.map 0),(10,.map 1),pt 15 2,(16,.aR 53 [.ptr 2 0]),se 18 sA,se 64 ((aE (aA cd)):(List Int)),se 65 (((aE (aA cd)).length:Int):Int),se 66 qa] [.mp (bA:(List (Int×ae))),.fp (cd:(List (Int×ae))),.var 27 [.row 3],.ro 52 15 uu] ?_ fun K k=>by simp[agv];(repeat refine ai ?_);exact kx k
    refine rG hV [(9,.map 0),(10,.map 1),pt 15 2,(16,.aR 53 [.ptr 2 0]),se 18 sA,se 20 ((eu bA sA):Bool),se 64 ((aE (aA cd)):(List Int)),se 65 (((aE (aA cd)).length:Int):Int),se 66 qa] [.mp (bA:(List (Int×ae))),.fp (cd:(List (Int×ae))),.var 27 [.row 3],.ro 52 15 uu,.w 50 ((aV bA sA (⟨0,0,0,0,0,(⟨0,0⟩:Rat),(⟨0,0⟩:Rat),(⟨0,0,0⟩:az)⟩:ae)):ae)] ?_
    refine rG hV [(9,.map 0),(10,.map 1),pt 15 2,(16,.aR 53 [.ptr 2 0]),se 18 sA,se 64 ((aE (aA cd)):(List Int)),se 65 (((aE (aA cd)).length:Int):Int),se 66 qa,se 77 (!(eu bA sA))] [.mp (bA:(List (Int×ae))),.fp (cd:(List (Int×ae))),.var 27 [.row 3],.ro 52 15 uu,.w 50 ((aV bA sA (⟨0,0,0,0,0,(⟨0,0⟩:Rat),(⟨0,0⟩:Rat),(⟨0,0,0⟩:az)⟩:ae)):ae)] ?_
    refine cN hg ?_ ?_<;>(clear hg;intro agw hg)
    ·refine ab.Ua hV [9,10,15,16,64,65,66] fun K atX=>?_
     refine cm.seq hV none 3 [9,10,15,16,64,65,66,78,80] (by decide) (by decide) fun K1 atY=>?_
     simp;repeat refine ai ?_
     refine kc [(9,.map 0),(10,.map 1),pt 15 2,(16,.aR 53 [.ptr 2 0]),se 64 ((aE (aA cd)):(List Int)),se 65 (((aE (aA cd)).length:Int):Int),se 66 qa,(78,.aR 53 [.ptr 2 0]),se 80 ((⟨sA,0,0,0,0,(⟨0,0⟩:Rat),(⟨0,0⟩:Rat),(⟨0,0,0⟩:az)⟩:ae):ae)] [.mp (bA:(List (Int×ae))),.fp (cd:(List (Int×ae))),.var 27 [.row 3],.ro 52 15 uu,.w 50 ((aV bA sA (⟨0,0,0,0,0,(⟨0,0⟩:Rat),(⟨0,0⟩:Rat),(⟨0,0,0⟩:az)⟩:ae)):ae)] (atY _ ?_)
     obtain⟨⟨⟩,ap1,hg⟩:=ah hg;try dsimp only at hg
     refine cm.call hV 53 [.d (enc (2:Int)),.d (enc ((⟨sA,0,0,0,0,(⟨0,0⟩:Rat),(⟨0,0⟩:Rat),(⟨0,0,0⟩:az)⟩:ae):ae)),.ptr 2 0] rfl rfl trivial (by decide) (by simp[kN]) fun K2 atZ=>?_
     refine(aok ap1).mono ?_
     rintro _ _ ⟨rfl,v168,f169,rfl⟩
     refine atZ _ _ ?_
     refine cm.fin hV none ?_
     simp;repeat refine ai ?_
     refine kc [(9,.map 0),(10,.map 1),pt 15 2,(16,.aR 53 [.ptr 2 0]),se 64 ((aE (aA cd)):(List Int)),se 65 (((aE (aA cd)).length:Int):Int),se 66 qa] [.mp (bA:(List (Int×ae))),.fp (cd:(List (Int×ae))),.var 27 [.row 6],.dead,.w 50 ((aV bA sA (⟨0,0,0,0,0,(⟨0,0⟩:Rat),(⟨0,0⟩:Rat),(⟨0,0,0⟩:az)⟩:ae)):ae),.frame 5 v168 f169,.ro 52 15 ((uu++[(⟨2,((uu.length:Int)+1),1,(⟨sA,0,0,0,0,(⟨0,0⟩:Rat),(⟨0,0⟩:Rat),(⟨0,0,0⟩:az)⟩:ae)⟩:aa)]):List aa)] (atX _ ?_)
     exact aiq _ ⟨_,hg,Sub.rm [0,1,2,6]⟩
    exact ab.skip (aiq _ ⟨_,hg,Sub.rm [0,1,2,3]⟩)
   unfold KQ at hg
   obtain⟨Wh,hg⟩:=aK hg
   unfold ax at Wh
   refine rH hV [(9,.map 0),(10,.map 1),pt 15 2,(16,.aR 53 [.ptr 2 0]),se 64 ((aE (aA cd)):(List Int)),se 65 (((aE (aA cd)).length:Int):Int),se 66 ((qa+1):Int)] [.mp (bA:(List (Int×ae))),.fp (cd:(List (Int×ae))),.var 27 [.row 3],.ro 52 15 Gj] ?_
   exact Fe _ _ (aF hg).symm (Sub.rm [0,1,2,3])
  refine ab.exit ?_
  cases atk _ (aF hg).symm;have hg:=asL;try dsimp only at hg
  exact Mp _ ⟨_,hg,Sub.rm [0,1,2,3]⟩
 unfold Qk at hg
 refine cH (fun Gl:(List aa)=>VF Gl=some r) (fun Gl=>⟨[pt 15 0],[.var 27 [.row 1],.ro 52 15 Gl]⟩) (fun _ at2=>?_) fun Gl hg=>?_
 ·obtain⟨aBm,hg⟩:=aK hg
  refine rG hV [(9,.map 0),(10,.map 1),pt 15 2,(16,.aR 53 [.ptr 2 0]),se 85 ((aE (aA bA)):(List Int)),se 86 (((aE (aA bA)).length:Int):Int),se 87 (0:Int)] [.fp (bA:(List (Int×ae))),.fp (cd:(List (Int×ae))),.var 27 [.row 3],.ro 52 15 DA] ?_ fun K k=>by simp[Uz,F3];(repeat refine ai ?_);exact kx k
  obtain⟨aEl,ar6,asO⟩:=ah hg;clear hg
  refine ab.block <| ab.aH (fun((uw,qb):(List aa)×Int)=>⟨[(9,.map 0),(10,.map 1),pt 15 2,(16,.aR 53 [.ptr 2 0]),se 85 ((aE (aA bA)):(List Int)),se 86 (((aE (aA bA)).length:Int):Int),se 87 qb],[.fp (bA:(List (Int×ae))),.fp (cd:(List (Int×ae))),.var 27 [.row 3],.ro 52 15 uw]⟩) (El bA cd) (DA,0) ar6 (Sub.rm [0,1,2,3]) fun aA6 aAR _ hg atm at4=>?_
  obtain⟨uw,qb⟩:=aA6
  unfold El at hg;try dsimp only at hg
  refine rG hV [(9,.map 0),(10,.map 1),pt 15 2,(16,.aR 53 [.ptr 2 0]),se 85 ((aE (aA bA)):(List Int)),se 86 (((aE (aA bA)).length:Int):Int),se 87 qb,se 88 (decide (qb < ((aE (aA bA)).length:Int)))] [.fp (bA:(List (Int×ae))),.fp (cd:(List (Int×ae))),.var 27 [.row 3],.ro 52 15 uw] ?_
  refine sG fun _ aug=>?_
  refine cN hg ?_ ?_<;>(clear hg;intro WQ hg)
  ·refine sk aug ?_
   refine cH (fun Gp:(List aa)=>KS qb Gp=some aAR) (fun Gp=>⟨[(9,.map 0),(10,.map 1),pt 15 2,(16,.aR 53 [.ptr 2 0]),se 85 ((aE (aA bA)):(List Int)),se 86 (((aE (aA bA)).length:Int):Int),se 87 qb],[.fp (bA:(List (Int×ae))),.fp (cd:(List (Int×ae))),.var 27 [.row 3],.ro 52 15 Gp]⟩) (fun _ ais=>?_) fun Gp hg=>?_
   ·refine ab.block ?_
    obtain⟨tD,aqq,hg⟩:=ah hg
    obtain⟨aCK,aCL,agI⟩:=aY aqq;have aqr:=agI;try simp at aqr
    refine rG hV [(9,.map 0),(10,.map 1),pt 15 2,(16,.aR 53 [.ptr 2 0]),se 22 tD,se 85 ((aE (aA bA)):(List Int)),se 86 (((aE (aA bA)).length:Int):Int),se 87 qb] [.fp (bA:(List (Int×ae))),.fp (cd:(List (Int×ae))),.var 27 [.row 3],.ro 52 15 uw] ?_ fun K k=>by simp[agI];(repeat refine ai ?_);exact kx k
    refine rG hV [(9,.map 0),(10,.map 1),pt 15 2,(16,.aR 53 [.ptr 2 0]),se 22 tD,pt 23 4,se 24 ((eu cd tD):Bool),se 85 ((aE (aA bA)):(List Int)),se 86 (((aE (aA bA)).length:Int):Int),se 87 qb] [.fp (bA:(List (Int×ae))),.fp (cd:(List (Int×ae))),.var 27 [.row 3],.ro 52 15 uw,.w 50 ((aV cd tD (⟨0,0,0,0,0,(⟨0,0⟩:Rat),(⟨0,0⟩:Rat),(⟨0,0,0⟩:az)⟩:ae)):ae)] ?_
    obtain⟨ad2,H3,hg⟩:=ah hg
    unfold VG at H3
    refine sq [(9,.map 0),(10,.map 1),pt 15 2,(16,.aR 53 [.ptr 2 0]),se 22 tD,se 85 ((aE (aA bA)):(List Int)),se 86 (((aE (aA bA)).length:Int):Int),se 87 qb,se 105 ad2] [.fp (bA:(List (Int×ae))),.fp (cd:(List (Int×ae))),.var 27 [.row 3],.ro 52 15 uw] (fun _ aiu=>?_) ?_
    ·rcases ay H3 with ⟨U9,H3⟩ | ⟨U9,H3⟩
     ·have Ke:=U9;try simp at Ke
      exact rJ hV (some [100,101,102,103,104]) aiu fun K k=>by simp[Ke];cases H3;exact k _ (Sub.rm [0,1,2,3])
     have Ke:=U9;try simp at Ke
     exact rJ hV (some []) aiu fun K k=>by simp[Ke];cases H3;exact k _ (Sub.rm [0,1,2,3])
    refine cN hg ?_ ?_<;>(clear hg;intro aCN hg)
    ·refine ab.Ua hV [9,10,15,16,85,86,87] fun K auh=>?_
     refine cm.seq hV none 4 [9,10,15,16,85,86,87,106,109] (by decide) (by decide) fun K1 aui=>?_
     simp;repeat refine ai ?_
     refine kc [(9,.map 0),(10,.map 1),pt 15 2,(16,.aR 53 [.ptr 2 0]),se 85 ((aE (aA bA)):(List Int)),se 86 (((aE (aA bA)).length:Int):Int),se 87 qb,(106,.aR 53 [.ptr 2 0]),se 109 ((aV bA tD (⟨0,0,0,0,0,(⟨0,0⟩:Rat),(⟨0,0⟩:Rat),(⟨0,0,0⟩:az)⟩:ae)):ae)] [.fp (bA:(List (Int×ae))),.fp (cd:(List (Int×ae))),.var 27 [.row 3],.ro 52 15 uw] (aui _ ?_)
     obtain⟨⟨⟩,aqs,hg⟩:=ah hg;try dsimp only at hg
     refine cm.call hV 53 [.d (enc (1:Int)),.d (enc ((aV bA tD (⟨0,0,0,0,0,(⟨0,0⟩:Rat),(⟨0,0⟩:Rat),(⟨0,0,0⟩:az)⟩:ae)):ae)),.ptr 2 0] rfl rfl trivial (by decide) (by simp[kN]) fun K2 Y7=>?_
     refine(aol aqs).mono ?_
     rintro _ _ ⟨rfl,aAA,f254,rfl⟩
     refine Y7 _ _ ?_
     refine cm.fin hV none ?_
     simp;repeat refine ai ?_
     refine kc [(9,.map 0),(10,.map 1),pt 15 2,(16,.aR 53 [.ptr 2 0]),se 85 ((aE (aA bA)):(List Int)),se 86 (((aE (aA bA)).length:Int):Int),se 87 qb] [.fp (bA:(List (Int×ae))),.fp (cd:(List (Int×ae))),.var 27 [.row 5],.dead,.frame 4 aAA f254,.ro 52 15 ((uw++[(⟨1,((uw.length:Int)+1),1,(aV bA tD (⟨0,0,0,0,0,(⟨0,0⟩:Rat),(⟨0,0⟩:Rat),(⟨0,0,0⟩:az)⟩:ae))⟩:aa)]):List aa)] (auh _ ?_)
     exact ais _ ⟨_,hg,Sub.rm [0,1,2,5]⟩
    exact ab.skip (ais _ ⟨_,hg,Sub.rm [0,1,2,3]⟩)
   unfold KS at hg
   obtain⟨ao7,hg⟩:=aK hg
   unfold ax at ao7
   refine rH hV [(9,.map 0),(10,.map 1),pt 15 2,(16,.aR 53 [.ptr 2 0]),se 85 ((aE (aA bA)):(List Int)),se 86 (((aE (aA bA)).length:Int):Int),se 87 ((qb+1):Int)] [.fp (bA:(List (Int×ae))),.fp (cd:(List (Int×ae))),.var 27 [.row 3],.ro 52 15 Gp] ?_
   exact at4 _ _ (aF hg).symm (Sub.rm [0,1,2,3])
  refine ab.exit ?_
  cases atm _ (aF hg).symm;have hg:=asO;try dsimp only at hg
  exact at2 _ ⟨_,hg,Sub.rm [2,3]⟩
 unfold VF at hg
 refine rG hV [(4,.row 1),se 5 (0:Int)] [.var 27 [.row 1],.ro 52 15 Gl] ?_
 cases hg;exact rz hQ
end
end Go.Proofs.YtjigeffmmcmlnaaGreatDoor
