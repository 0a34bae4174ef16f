import Derived.Test.YtjigeffmmcmlnaaGreatDoorYb2
set_option linter.all false
set_option linter.unnecessarySimpa false
set_option linter.deprecated false
set_option linter.unusedVariables false
set_option linter.unusedSimpArgs false
set_option linter.unusedSectionVars false
namespace Go.Proofs.YtjigeffmmcmlnaaGreatDoor
open Go Go.an au
set_option maxRecDepth 4000
attribute [local instance] cJ
attribute [local congr] ab.kO
attribute [local simp] bu dz dU evalOp bd an.get fk strip bq an.after iI typed gr holds cR R.ok R.bad gI iU jk gW ku ji Op.operands Call.operands dY dA dQ dR iH il fm im gK fg nj nk nm np fK lH lL lJ fL jq lg lp lk ln ng ni jv mD bf D.cells T.eT D.one gH fV gb fo setAt eI fC jC fa gN bw cX iy fU iA gv jV arith et iM jf dG gC iN TD.agg env bR List.map fe iD ff gn gT mapOf iz iq dr mH mI mJ mK mL mM mN mO lK nh ll me mC my mB mr mG lq mi ml jw mE ko jh fh du fj iP gJ jB gone unbox iW fE gB gG lI lh nf jg jS List.contains_cons List.contains_nil lr iO iC iB gm ib gX lC kY mW l6 mw mu mz kr mF mh mj P2.list mA lB kW mU lF lb mZ l9 jQ kM lu kR mP lW jI kC lA kV mT l4 jM kH lE la mY l8 jP kL lD kZ mX l7 jO kJ jX kX mV l5 jN kI lG lf nc ma jW kT mR lY jK kF lv kS mQ lX jJ kD lz kU mS lZ jL kG kQ km lN lO lT lU lP lV lQ lR lS lM nD nH kv kz iQ nB nC nE nF nG nI nJ jD jE nL nM nN nO nP nQ nR nS nq nr nu nv nw nx ny nz nA
section
variable [e8]
set_option maxRecDepth 10000
attribute [local simp] eJ qO qL rl qR qP qM rp qS qQ qN rq qT rT rP su rW rQ rN so rU rR rO sr rV
theorem azk {p0:Score} {p1:aa} {p2:Int} {p3:(List ae)} {p4:Int} {wx:(List ae)} (hg:Ob p0 p1 p2 p3 p4=some wx):gZ Tryz.prog 75 [.d (enc (p3:(List ae))),.d (enc (p4:Int))] [.w 26 p0,.w 52 p1,.var 26 [.d (enc (p2:Int)),.ao 4,.ao 13,.ao 12]] fun u l'=>u = .row 4∧∃ v f,l'=[.w 26 p0,.w 52 p1,.var 26 [.d (enc (p2:Int)),.ao 4,.ao 13,.ao 12],.frame 3 v f,.ro 50 12 wx]:=by
 have hV:=aW cn
 refine gZ.of hV (Enters.of Tryz.func75 (by decide)) Tryz.func75 rfl (by rw[Tryz.ntmps75];simp) fun R hR w0 I0 vals ft Q hQ=>?_
 rw[Tryz.ntmps75]
 show ab _ _ _ _ _ ⟨[se 0 p3,se 1 p4],[.w 26 p0,.w 52 p1,.var 26 [.d (enc (p2:Int)),.ao 4,.ao 13,.ao 12],.frame 3 vals ft]⟩ _
 unfold Ob at hg
 refine rG hV [se 0 p3,se 1 p4] [.w 26 p0,.w 52 p1,.var 26 [.d (enc (p2:Int)),.ao 4,.ao 13,.ao 12],.frame 3 vals ft] ?_
 refine rG hV [se 0 p3,se 1 p4,(5,.ao 12)] [.w 26 p0,.w 52 p1,.var 26 [.d (enc (p2:Int)),.ao 4,.ao 13,.ao 12],.frame 3 vals ft] ?_
 refine cH (fun DG:(List ae)=>ab4 DG=some wx) (fun DG=>⟨[(5,.row 4)],[.w 26 p0,.w 52 p1,.var 26 [.d (enc (p2:Int)),.ao 4,.ao 13,.ao 12],.frame 3 vals ft,.ro 50 12 DG]⟩) (fun _ k5=>?_) fun DG hg=>?_
 ·refine rG hV [se 0 p3,se 1 p4,(5,.ao 12),se 6 (0:Int)] [.w 26 p0,.w 52 p1,.var 26 [.d (enc (p2:Int)),.ao 4,.ao 13,.ao 12],.frame 3 vals ft] ?_
  obtain⟨qB,ua,pk⟩:=ah hg;clear hg
  refine ab.block <| ab.aH (fun((aD,ct):(List ae)×Int)=>⟨[se 0 p3,se 1 p4,(5,.row 4),se 6 ct],[.w 26 p0,.w 52 p1,.var 26 [.d (enc (p2:Int)),.ao 4,.ao 13,.ao 12],.frame 3 vals ft,.ro 50 12 aD]⟩) (Od p3 p4) ([],0) ua (Sub.trans (Sub.pb 5 50 12 rfl) (Sub.rm [0,1,2,3,4])) fun z41 uq _ hg pq k7=>?_
  obtain⟨aD,ct⟩:=z41
  unfold Od at hg;try dsimp only at hg
  refine sG fun _ sg=>?_
  refine rG hV [se 0 p3,se 1 p4,(5,.row 4),se 6 ct,se 10 (decide (ct < (p3.length:Int)))] [.w 26 p0,.w 52 p1,.var 26 [.d (enc (p2:Int)),.ao 4,.ao 13,.ao 12],.frame 3 vals ft,.ro 50 12 aD] ?_
  refine cN hg ?_ ?_<;>(clear hg;intro uQ hg)
  ·refine sk sg ?_
   refine cH (fun GC:(List ae)=>Oc ct GC=some uq) (fun GC=>⟨[se 0 p3,se 1 p4,(5,.row 4),se 6 ct],[.w 26 p0,.w 52 p1,.var 26 [.d (enc (p2:Int)),.ao 4,.ao 13,.ao 12],.frame 3 vals ft,.ro 50 12 GC]⟩) (fun _ pw=>?_) fun GC hg=>?_
   ·refine ab.block ?_
    obtain⟨ej,oS,hg⟩:=ah hg
    obtain⟨CD,CE,jY⟩:=aY oS;have qW:=jY;try simp at qW
    refine rG hV [se 0 p3,se 1 p4,(5,.row 4),se 6 ct,se 19 (!decide (ej.id=p4))] [.w 26 p0,.w 52 p1,.var 26 [.d (enc (p2:Int)),.ao 4,.ao 13,.ao 12],.frame 3 vals ft,.ro 50 12 aD] ?_ fun K k=>by simp[jY];(repeat refine ai ?_);exact kx k
    refine cN hg ?_ ?_<;>(clear hg;intro rX hg)
    ·obtain⟨wI,vS,hg⟩:=ah hg
     obtain⟨aDB,aDC,ag4⟩:=aY vS;have aq2:=ag4;try simp at aq2
     obtain⟨g55,hg⟩:=aK hg
     refine rH hV [se 0 p3,se 1 p4,(5,.row 5),se 6 ct] [.w 26 p0,.w 52 p1,.var 26 [.d (enc (p2:Int)),.ao 4,.ao 13,.ao 12],.frame 3 vals ft,.dead,.ro 50 12 ((aD++[wI]):List ae)] ?_ fun K k=>by simp[ag4];(repeat refine ai ?_);exact ky k (by first | rfl | (simp<;>grind))
     exact pw _ ⟨_,hg,Sub.rm [0,1,2,3,5]⟩
    exact ab.skip (pw _ ⟨_,hg,Sub.rm [0,1,2,3,4]⟩)
   unfold Oc at hg
   obtain⟨uM,hg⟩:=aK hg
   unfold ax at uM
   refine rH hV [se 0 p3,se 1 p4,(5,.row 4),se 6 ((ct+1):Int)] [.w 26 p0,.w 52 p1,.var 26 [.d (enc (p2:Int)),.ao 4,.ao 13,.ao 12],.frame 3 vals ft,.ro 50 12 GC] ?_
   exact k7 _ _ (aF hg).symm (Sub.rm [0,1,2,3,4])
  refine ab.exit ?_
  cases pq _ (aF hg).symm;have hg:=pk;try dsimp only at hg
  exact k5 _ ⟨_,hg,Sub.rm [0,1,2,3,4]⟩
 unfold ab4 at hg
 refine rG hV [(4,.row 4)] [.w 26 p0,.w 52 p1,.var 26 [.d (enc (p2:Int)),.ao 4,.ao 13,.ao 12],.frame 3 vals ft,.ro 50 12 DG] ?_
 refine ab.ret ?_
 replace hg:=Option.some.inj hg;subst hg;exact hQ _ _ (.inl rfl) ⟨⟨[(4,.row 4)],[.w 26 p0,.w 52 p1,.var 26 [.d (enc (p2:Int)),.ao 4,.ao 13,.ao 12],.frame 3 vals ft,.ro 50 12 DG]⟩,Sub.rm [0,1,2,3,4],by simp[dN],rfl,by simp[dN,sw],_,_,rfl⟩
noncomputable def alW:an.Spec:=du fun(a0:Score) (a1:aa)=>(Oa a0 a1).map fun r=> .bn [enc r.1,enc r.2]
theorem awB:aL Tryz.prog 37 alW:=by
 have hV:=aW (cs ajW (cs awQ cn))
 refine go2 hV Tryz.func37 rfl Tryz.ntmps37 fun a0 a1 r hg R hR w0 I0 Q hQ=>?_
 unfold Oa at hg
 refine rG hV [pt 2 0,pt 3 1,pt 4 2] [.w 26 a0,.w 52 a1,.var 26 [.d (enc (0:Int)),.ao 4,.ao 13,.ao 12]] ?_
 refine sG fun _ k2=>?_
 obtain⟨x3,h4,hg⟩:=ah hg
 refine rG hV [pt 2 0,pt 3 1,pt 4 2,se 11 (!x3)] [.w 26 a0,.w 52 a1,.var 26 [.d (enc (0:Int)),.ao 4,.ao 13,.ao 12]] ?_ fun K k=>by simp[acO,h4];exact kx k
 refine cN hg ?_ ?_<;>(clear hg;intro h6 hg)
 ·refine rG hV [pt 4 2,se 5 (1:Int)] [.w 26 a0,.w 52 a1,.w 26 a0] ?_
  cases hg;exact rz hQ
 refine sk k2 ?_
 refine ab.rC hV [2,3,4,6] fun K k8=>?_
 refine cm.seq hV none 5 [2,3,4,14,17] (by decide) (by decide) fun K1 k9=>?_
 simp;repeat refine ai ?_
 refine kd [pt 2 0,pt 3 1,pt 4 2,se 14 a0.notes,se 17 a1.note.id] [.w 26 a0,.w 52 a1,.var 26 [.d (enc (0:Int)),.ao 4,.ao 13,.ao 12]] (by first | rfl | (simp[al8]<;>grind)) (k9 _ ?_)
 obtain⟨cb,pg,hg⟩:=ah hg
 refine cm.call hV 75 [.d (enc (a0.notes:(List ae))),.d (enc (a1.note.id:Int))] rfl rfl trivial (by decide) (by simp[kN]) fun K2 oj=>?_
 refine(azk pg).mono ?_
 rintro _ _ ⟨rfl,xH,f14,rfl⟩
 refine oj _ _ ?_
 refine cm.fin hV none ?_
 simp;repeat refine ai ?_
 refine kd [pt 2 0,pt 3 1,pt 4 2,(6,.row 4)] [.w 26 a0,.w 52 a1,.var 26 [.d (enc (0:Int)),.ao 4,.ao 13,.ao 12],.frame 3 xH f14,.ro 50 12 cb] (by first | rfl | (simp[al8]<;>grind)) (k8 _ ?_)
 refine sG fun _ rj=>?_
 refine rG hV [pt 2 0,pt 3 1,pt 4 2,(6,.row 4),se 21 (decide (a1.kind=2))] [.w 26 a0,.w 52 a1,.var 26 [.d (enc (0:Int)),.ao 4,.ao 13,.ao 12],.frame 3 xH f14,.ro 50 12 cb] ?_
 refine cN hg ?_ ?_<;>(clear hg;intro sU hg)
 ·refine sG fun _ Mt=>?_
  refine rG hV [pt 2 0,pt 4 2,(6,.row 4),se 27 (decide ((cb.length:Int)=(a0.notes.length:Int)))] [.w 26 a0,.w 52 a1,.var 26 [.d (enc (0:Int)),.ao 4,.ao 13,.ao 12],.frame 3 xH f14,.ro 50 12 cb] ?_
  refine cN hg ?_ ?_<;>(clear hg;intro AQ hg)
  ·refine rG hV [pt 4 2,se 5 (23:Int)] [.w 26 a0,.w 52 a1,.w 26 a0,.frame 3 xH f14,.ro 50 12 cb] ?_
   cases hg;exact rz hQ
  refine sk Mt ?_
  refine rG hV [pt 2 0,pt 4 2] [.var 26 [.d (enc (a0.version:Int)),.d (enc (a0.bars:(List aT))),.d (enc (a0.parts:(List Part))),.row 4],.w 52 a1,.var 26 [.d (enc (0:Int)),.ao 4,.ao 13,.ao 12],.frame 3 xH f14,.ro 50 12 cb] ?_
  refine rG hV [pt 4 2,se 5 (0:Int)] [.var 26 [.d (enc (a0.version:Int)),.d (enc (a0.bars:(List aT))),.d (enc (a0.parts:(List Part))),.row 4],.w 52 a1,.var 26 [.d (enc (a0.version:Int)),.d (enc (a0.bars:(List aT))),.d (enc (a0.parts:(List Part))),.row 4],.frame 3 xH f14,.ro 50 12 cb] ?_
  cases hg;exact rz hQ
 refine sk rj ?_
 obtain⟨g28,hg⟩:=aK hg
 obtain⟨⟨ei,kA⟩,Ez,hg⟩:=ah hg;try dsimp only at hg
 have WX:=Ez;try simp at WX
 refine sq [pt 2 0,pt 4 2,pt 7 6,se 8 kA] [.w 26 a0,.w 52 a1,.var 26 [.d (enc (0:Int)),.ao 4,.ao 13,.ao 12],.frame 3 xH f14,.dead,.bz 50 12 ((cb++[a1.note]):List ae),.w 26 ei] (fun _ Bn=>?_) ?_
 ·refine ab.Ub hV mixed none [0,1,2,3,4,5,6,7,8,9,10,11,12,13,14] 7 [0,1,2,3,4,5,6] [[7,8,9,10,11,12,13,14],[7,8,9,10,12,11,13,14],[7,8,9,10,12,13,11,14],[7,8,9,11,10,12,13,14],[7,8,9,11,12,10,13,14],[7,8,9,12,10,11,13,14],[7,8,9,12,10,13,11,14],[7,8,9,12,11,10,13,14],[7,8,12,9,10,11,13,14],[7,8,12,9,10,13,11,14],[7,8,12,9,11,10,13,14],[7,12,8,9,10,11,13,14],[7,12,8,9,10,13,11,14],[7,12,8,9,11,10,13,14],[12,7,8,9,10,11,13,14],[12,7,8,9,10,13,11,14],[12,7,8,9,11,10,13,14]] [2,4,7,8] (by decide) (by decide) (by decide) (by first | rfl | decide | simp[AL,BE]) fun K sf K1 zR=>?_
  simp only[dJ,pX,fP,List.filterMap_cons,List.filterMap_nil,List.getElem?_cons_zero,List.getElem?_cons_succ,Option.map_some,Option.map_none,List.map_cons,List.map_nil,List.findIdx_cons]
  simp[OE];repeat refine ai ?_
  refine zR _ ?_;clear zR
  have tp:=sf ⟨[pt 2 0,pt 4 2,pt 7 6,se 8 kA],[.w 26 a0,.w 52 a1,.var 26 [.d (enc (0:Int)),.ao 4,.ao 13,.ao 12],.frame 3 xH f14,.dead,.bz 50 12 ((cb++[a1.note]):List ae),.w 26 ei]⟩ (Bn _ (Sub.rm [0,1,2,3,4,5,6]))
  have aix:=tp;try simp at aix
  have yL:=sf ⟨[pt 2 0,pt 4 2,pt 7 5,se 8 kA],[.w 26 a0,.w 52 a1,.var 26 [.d (enc (0:Int)),.ao 4,.ao 13,.ao 12],.frame 3 xH f14,.dead,.w 26 ei,.bz 50 12 ((cb++[a1.note]):List ae)]⟩ (Bn _ (Sub.rm [0,1,2,3,4,6,5]))
  have aiz:=yL;try simp at aiz
  refine⟨?_,?_,?_,?_,?_,?_,?_,?_,?_,?_,?_,?_,?_,?_,?_,?_,?_,trivial⟩
  all_goals simp only[dJ,pX,fP,List.filterMap_cons,List.filterMap_nil,List.getElem?_cons_zero,List.getElem?_cons_succ,Option.map_some,Option.map_none,List.map_cons,List.map_nil,List.findIdx_cons,wq]
  all_goals simp[OE,Ez]
  all_goals repeat refine ai ?_
  all_goals first | exact aix | exact aiz | exact cO rfl tp | exact cO rfl yL | exact cO (by simp[OE,Ez,WX]<;>grind) tp | exact cO (by simp[OE,Ez,WX]<;>grind) yL
 refine sG fun _ Fh=>?_
 refine rG hV [pt 2 0,pt 4 2,pt 7 6,se 8 kA,se 45 (!decide (kA=0))] [.w 26 a0,.w 52 a1,.var 26 [.d (enc (0:Int)),.ao 4,.ao 13,.ao 12],.frame 3 xH f14,.dead,.bz 50 12 ((cb++[a1.note]):List ae),.w 26 ei] ?_
 refine cN hg ?_ ?_<;>(clear hg;intro WY hg)
 ·refine rG hV [pt 4 2,se 5 kA] [.w 26 a0,.w 52 a1,.w 26 a0,.frame 3 xH f14,.dead,.bz 50 12 ((cb++[a1.note]):List ae),.w 26 ei] ?_
  cases hg;exact rz hQ
 refine sk Fh ?_
 refine rG hV [pt 4 2,se 5 (0:Int)] [.w 26 a0,.w 52 a1,.w 26 ei,.frame 3 xH f14,.dead,.bz 50 12 ((cb++[a1.note]):List ae),.w 26 ei] ?_
 cases hg;exact rz hQ
noncomputable def Uu:an.Spec:=fj fun(a0:Score) (a1:Int) (a2:(List aa))=>(IY a0 a1 a2).map fun r=> .bn [enc r.1,enc r.2.1,enc r.2.2]
theorem ajH:aL Tryz.prog 13 Uu:=by
 have hV:=aW (cs M4 (cs ajU (cs awB cn)))
 refine pL hV Tryz.func13 rfl Tryz.ntmps13 fun a0 a1 a2 r hg R hR w0 I0 Q hQ=>?_
 unfold IY at hg
 refine rG hV [se 1 a1,se 2 a2,pt 3 0,pt 6 1] [.w 26 a0,.var 26 [.d (enc (0:Int)),.ao 4,.ao 13,.ao 12]] ?_
 refine sG fun _ k2=>?_
 refine rG hV [se 1 a1,se 2 a2,pt 3 0,pt 6 1,se 15 (decide (1000 < (a2.length:Int)))] [.w 26 a0,.var 26 [.d (enc (0:Int)),.ao 4,.ao 13,.ao 12]] ?_
 refine cN hg ?_ ?_<;>(clear hg;intro h4 hg)
 ·refine rG hV [pt 6 1,(7,.ao 1),se 8 (2:Int)] [.w 26 a0,.var 26 [.d (enc (0:Int)),.ao 4,.ao 13,.ao 12]] ?_
  cases hg;exact rz hQ
 refine sk k2 ?_
 refine sG fun _ k6=>?_
 obtain⟨adI,dF,hg⟩:=ah hg
 unfold abO at dF
 refine sq [se 1 a1,se 2 a2,pt 3 0,pt 6 1,se 24 adI] [.w 26 a0,.var 26 [.d (enc (0:Int)),.ao 4,.ao 13,.ao 12]] (fun _ o0=>?_) ?_
 ·obtain⟨x7,h8,dF⟩:=ah dF
  rcases ay dF with ⟨hG,dF⟩ | ⟨hG,dF⟩
  ·have eo:=hG;try simp at eo
   exact rJ hV (some [21,22,23]) o0 fun K k=>by simp[uk,Jq,h8,eo];cases dF;exact k _ (Sub.rm [0,1])
  have eo:=hG;try simp at eo
  obtain⟨x9,pM,dF⟩:=ah dF
  exact rJ hV (some []) o0 fun K k=>by simp[uk,Jq,h8,eo,pM];cases dF;exact k _ (Sub.rm [0,1])
 refine cN hg ?_ ?_<;>(clear hg;intro sU hg)
 ·refine rG hV [pt 6 1,(7,.ao 1),se 8 (1:Int)] [.w 26 a0,.var 26 [.d (enc (0:Int)),.ao 4,.ao 13,.ao 12]] ?_
  cases hg;exact rz hQ
 refine sk k6 ?_
 refine rG hV [se 1 a1,se 2 a2,pt 3 0,pt 6 1,(9,.ao 1)] [.w 26 a0,.var 26 [.d (enc (0:Int)),.ao 4,.ao 13,.ao 12]] ?_
 refine ab.sm (fun s'=>∃ DD:Score,∃ Gn:(List Int),abN a1 DD Gn=some r∧Sub s' ⟨[se 1 a1,pt 3 0,pt 6 1,(9,.row 2)],[.w 26 DD,.var 26 [.d (enc (0:Int)),.ao 4,.ao 13,.ao 12],.ro 32 1 Gn]⟩) (fun _ yJ=>?_) ?_
 ·refine rG hV [se 1 a1,se 2 a2,pt 3 0,pt 6 1,(9,.ao 1),se 10 (0:Int)] [.w 26 a0,.var 26 [.d (enc (0:Int)),.ao 4,.ao 13,.ao 12]] ?_
  obtain⟨o56,asp,asW⟩:=ah hg;clear hg
  refine ab.block <| ab.aH (fun((tJ,bW,sK):Score×(List Int)×Int)=>⟨[se 1 a1,se 2 a2,pt 3 0,pt 6 1,(9,.row 2),se 10 sK],[.w 26 tJ,.var 26 [.d (enc (0:Int)),.ao 4,.ao 13,.ao 12],.ro 32 1 bW]⟩) (NS a2) (a0,[],0) asp (Sub.trans (Sub.pb 9 32 1 rfl) (Sub.rm [0,1,2])) fun z59 w61 _ hg atv Mw=>?_
  obtain⟨tJ,bW,sK⟩:=z59
  unfold NS at hg;try dsimp only at hg
  refine sG fun _ zS=>?_
  refine rG hV [se 1 a1,se 2 a2,pt 3 0,pt 6 1,(9,.row 2),se 10 sK,se 29 (decide (sK < (a2.length:Int)))] [.w 26 tJ,.var 26 [.d (enc (0:Int)),.ao 4,.ao 13,.ao 12],.ro 32 1 bW] ?_
  refine cN hg ?_ ?_<;>(clear hg;intro Lq hg)
  ·refine sk zS ?_
   refine ab.sm (fun s'=>∃ JL:Score,∃ JM:(List Int),TO sK JL JM=some w61∧Sub s' ⟨[se 1 a1,se 2 a2,pt 3 0,pt 6 1,(9,.row 2),se 10 sK],[.w 26 JL,.var 26 [.d (enc (0:Int)),.ao 4,.ao 13,.ao 12],.ro 32 1 JM]⟩) (fun _ Mz=>?_) ?_
   ·refine ab.block ?_
    obtain⟨xL,Ls,hg⟩:=ah hg
    obtain⟨arf,arh,Lt⟩:=aY Ls;have Xc:=Lt;try simp at Xc
    obtain⟨⟨wK,wL⟩,h71,hg⟩:=ah hg;try dsimp only at hg
    refine ic hV mixed [se 1 a1,se 2 a2,pt 3 0,pt 6 1,(9,.row 2),se 10 sK,pt 11 3,se 12 wL] [.w 26 tJ,.var 26 [.d (enc (0:Int)),.ao 4,.ao 13,.ao 12],.ro 32 1 bW,.w 26 wK] 10 [8] ?_ fun K k=>by simp[alW,Lt,h71];(repeat refine ai ?_);exact kx k
    refine rG hV [se 1 a1,se 2 a2,pt 3 0,pt 6 1,(9,.row 2),se 10 sK,se 12 wL] [.w 26 wK,.var 26 [.d (enc (0:Int)),.ao 4,.ao 13,.ao 12],.ro 32 1 bW,.w 26 wK] ?_
    obtain⟨Qv,hg⟩:=aK hg
    refine rH hV [se 1 a1,se 2 a2,pt 3 0,pt 6 1,(9,.row 4),se 10 sK] [.w 26 wK,.var 26 [.d (enc (0:Int)),.ao 4,.ao 13,.ao 12],.dead,.w 26 wK,.ro 32 1 ((bW++[wL]):List Int)] ?_
    exact Mz _ ⟨_,_,hg,Sub.rm [0,1,4]⟩
   rintro s' ⟨JL,JM,hg,hs⟩
   unfold TO at hg
   refine ab.sub hs ?_
   obtain⟨g76,hg⟩:=aK hg
   unfold ax at g76
   refine rH hV [se 1 a1,se 2 a2,pt 3 0,pt 6 1,(9,.row 2),se 10 ((sK+1):Int)] [.w 26 JL,.var 26 [.d (enc (0:Int)),.ao 4,.ao 13,.ao 12],.ro 32 1 JM] ?_
   exact Mw _ _ (aF hg).symm (Sub.rm [0,1,2])
  refine ab.exit ?_
  cases atv _ (aF hg).symm;have hg:=asW;try dsimp only at hg
  exact yJ _ ⟨_,_,hg,Sub.rm [0,1,2]⟩
 rintro s' ⟨DD,Gn,hg,hs⟩
 unfold abN at hg
 refine ab.sub hs ?_
 refine rG hV [pt 3 0,pt 6 1,(9,.row 2)] [.w 26 (({ DD with version:=a1 }):Score),.var 26 [.d (enc (0:Int)),.ao 4,.ao 13,.ao 12],.ro 32 1 Gn] ?_
 refine rG hV [pt 6 1,(7,.row 2),se 8 (0:Int)] [.w 26 (({ DD with version:=a1 }):Score),.w 26 (({ DD with version:=a1 }):Score),.ro 32 1 Gn] ?_
 cases hg;exact rz hQ
end
end Go.Proofs.YtjigeffmmcmlnaaGreatDoor
