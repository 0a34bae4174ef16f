import Derived.Test.YtjigeffmmcmlnaaGreatDoorX8
set_option linter.all false
set_option linter.unnecessarySimpa false
set_option linter.deprecated false
set_option linter.unusedVariables false
set_option linter.unusedSimpArgs false
set_option linter.unusedSectionVars false
namespace Go.Proofs.YtjigeffmmcmlnaaGreatDoor
open Go Go.an au
set_option maxRecDepth 4000
attribute [local instance] cJ
attribute [local congr] ab.kO
attribute [local simp] bu dz dU evalOp bd an.get fk strip bq an.after iI typed gr holds cR R.ok R.bad gI iU jk gW ku ji Op.operands Call.operands dY dA dQ dR iH il fm im gK fg nj nk nm np fK lH lL lJ fL jq lg lp lk ln ng ni jv mD bf D.cells T.eT D.one gH fV gb fo setAt eI fC jC fa gN bw cX iy fU iA gv jV arith et iM jf dG gC iN TD.agg env bR List.map fe iD ff gn gT mapOf iz iq dr mH mI mJ mK mL mM mN mO lK nh ll me mC my mB mr mG lq mi ml jw mE ko jh fh du fj iP gJ jB gone unbox iW fE gB gG lI lh nf jg jS List.contains_cons List.contains_nil lr iO iC iB gm ib gX lC kY mW l6 mw mu mz kr mF mh mj P2.list mA lB kW mU lF lb mZ l9 jQ kM lu kR mP lW jI kC lA kV mT l4 jM kH lE la mY l8 jP kL lD kZ mX l7 jO kJ jX kX mV l5 jN kI lG lf nc ma jW kT mR lY jK kF lv kS mQ lX jJ kD lz kU mS lZ jL kG kQ km lN lO lT lU lP lV lQ lR lS lM nD nH kv kz iQ nB nC nE nF nG nI nJ jD jE nL nM nN nO nP nQ nR nS nq nr nu nv nw nx ny nz nA
section
variable [e8]
set_option maxRecDepth 10000
def pT (a b:Int):Int:=if h:b=0 then a else pT b (a.tmod b)
termination_by b.natAbs
decreasing_by
 rw[Int.natAbs_tmod]
 exact Nat.mod_lt _ (by omega)
theorem S6 (a:Int):pT a 0=a:=by rw[pT];simp
theorem abe {a b:Int} (h:b≠0):pT a b=pT b (a.tmod b):=by rw[pT];simp[h]
theorem ala:∀ (k:Nat) (a b:Int) {LL:List AO} {id:Nat},b.natAbs≤k→LL[id]?=some (.var 152 [.aR 176 [.ptr id 0]])→xQ LL →
  gZ Tryz.prog 176 [.d (.int .i64 a),.d (.int .i64 b),.ptr id 0] LL fun u l'=>u = .d (.int .i64 (pT a b))∧∃ vals ft,l'=LL++[.frame LL.length vals ft]
 | k,a,b,LL,id,hk,aB,XV=>by
  have hV:bO Tryz.prog (env []):=aW trivial
  refine gZ.of hV (Enters.of Tryz.func176 (by decide)) Tryz.func176 rfl (by rw[Tryz.ntmps176];simp) fun R hR w0 I0 vals ft Q hQ=>?_
  rw[Tryz.ntmps176]
  have A6:=af9 aB [.frame LL.length vals ft]
  have LY:=XV.frame vals ft
  have vW:(LL++[AO.frame LL.length vals ft])[LL.length]?=some (.frame LL.length vals ft):=by simp
  have HQ:∀ (n:Int) (t:Tm),an.get t 5 = .d (.int .i64 n)→n=pT a b→∀ st,an.Sub st ⟨t,LL++[AO.frame LL.length vals ft]⟩→Q .ret st:=by
   intro n t ht hn st gQ
   refine hQ _ _ (.inl rfl) ⟨_,gQ,by simp[dN],vW,?_,vals,ft,rfl⟩
   simp[dN,sw,ht,hn]
  have hY:id < LL.length:=(List.getElem?_eq_some_iff.1 aB).1
  obtain⟨L,hL⟩:∃ L,L=LL++[AO.frame LL.length vals ft]:=⟨_,rfl⟩
  rw[←hL] at A6 LY HQ ⊢
  simp only[yS]
  refine ab.rS hV none [0,1,2] fun K k1=>?_
  simp
  refine cO (s':=⟨[(0,.d (.int .i64 a)),(1,.d (.int .i64 b)),(2,.ptr id 0)],L⟩) (by first | rfl | simp) (k1 _ ?_)
  refine ab.sm (fun s'=>b≠0∧Sub s' ⟨[(0,.d (.int .i64 a)),(1,.d (.int .i64 b)),(2,.ptr id 0)],L⟩) (fun _ k2=>?_) ?_
  ·refine ab.rS hV none [0,1,2,7] fun K k3=>?_
   simp
   refine cO (s':=⟨[(0,.d (.int .i64 a)),(1,.d (.int .i64 b)),(2,.ptr id 0),(7,.d (.bool (decide (b=0))))],L⟩) (by first | rfl | simp) (k3 _ ?_)
   refine ab.cond (b:=decide (b=0)) rfl (fun h=>?_) fun h=>?_
   ·have hb:b=0:=by simpa using h
    refine ab.rS hV none [5] fun K k4=>?_
    simp
    refine cO (s':=⟨[(5,.d (.int .i64 a))],L⟩) (by first | rfl | simp) (k4 _ ?_)
    refine ab.ret ?_
    exact HQ a _ rfl (by rw[hb,S6]) _ (Sub.refl _)
   refine ab.skip (k2 _ ⟨by simpa using h,Sub.acu (by simp[zp])⟩)
  rintro s' ⟨hb,hs⟩
  refine ab.sub hs ?_
  refine ab.rDC hV mixed none 5 [] [9,10,13] [5] (by decide) (by decide) fun K k3 K1 h1=>?_
  simp[A6,hb]
  refine cO (s':=⟨[(9,.aR 176 [.ptr id 0]),(10,.d (.int .i64 b)),(13,.d (.int .i64 (a.tmod b)))],L⟩) (by first | rfl | simp) (h1 _ ?_)
  refine cm.call hV 176 [.d (.int .i64 b),.d (.int .i64 (a.tmod b)),.ptr id 0] rfl rfl trivial (by decide) (by simp[kN]) fun K2 h2=>?_
  have aN:(a.tmod b).natAbs < b.natAbs:=by rw[Int.natAbs_tmod];exact Nat.mod_lt _ (by omega)
  match k,hk with
  | 0,hk=>omega
  | k+1,hk=>
   refine(ala k b (a.tmod b) (by omega) A6 LY).mono ?_
   rintro _ _ ⟨rfl,adh,We,rfl⟩
   refine h2 _ _ (cm.fin hV none ?_)
   simp
   refine cO (s':=⟨[(5,.d (.int .i64 (pT b (a.tmod b))))],L++[.frame L.length adh We]⟩) (by first | rfl | simp) (k3 _ ?_)
   refine ab.ret ?_
   exact HQ _ [(5,.d (.int .i64 (pT b (a.tmod b))))] rfl (abe hb).symm _ (Sub.drop LY (by simp[T.fD]) (by simp[zp]))
noncomputable def Nb (f:Fraction) (g:Int):Option Fraction:=aG (g≠0) (aG (ax (f.n.tdiv g)) (aG (ax (f.d.tdiv g)) (some ⟨f.n.tdiv g,f.d.tdiv g⟩)))
noncomputable def Nc (f:Fraction):Option Fraction:=
 ag (Ja f.n) fun a=>ag (Ja f.d) fun b=>
 ak (decide (f.d < 0)) (aG (ax (0 - pT a b)) (Nb f (0 - pT a b))) (Nb f (pT a b))
noncomputable def alO:an.Spec:=fh fun(f:Fraction)=>(Nc f).map fun r=>enc r
theorem awo:aL Tryz.prog 162 alO:=by
 have hV:bO Tryz.prog (env [(177,acH)]):=aW ⟨awt,trivial⟩
 refine aL.SO (Enters.of Tryz.func162 (by decide)) ?_
 intro f rr hr
 obtain⟨r,hg,rfl⟩:=Option.map_eq_some_iff.1 hr
 clear hr
 refine ee.SP hV Tryz.func162 rfl (by rw[Tryz.ntmps162];simp) fun R hR w0 I0 Q hQ=>?_
 rw[Tryz.ntmps162]
 unfold Nc at hg
 obtain⟨a,ha,hg⟩:=ah hg
 obtain⟨b,hb,hg⟩:=ah hg
 refine ab.rS hV none [1,2] fun K k1=>?_
 simp
 refine cO (s':=⟨[(1,.ptr 0 0),(2,.ptr 1 0)],[.var 186 (bf (.d (enc f))),.var 186 [.d (.int .i64 0),.d (.int .i64 0)]]⟩) (by first | rfl | simp) (k1 _ ?_)
 refine ab.rS hV none [1,2,3] fun K k1=>?_
 simp
 refine cO (s':=⟨[(1,.ptr 0 0),(2,.ptr 1 0),(3,.ptr 2 0)],[.var 186 (bf (.d (enc f))),.var 186 [.d (.int .i64 0),.d (.int .i64 0)],.var 152 [.d .wm]]⟩) (by first | rfl | simp) (k1 _ ?_)
 refine ab.rS hV none [1,2,3] fun K k1=>?_
 simp
 refine cO (s':=⟨[(1,.ptr 0 0),(2,.ptr 1 0),(3,.ptr 2 0)],[.var 186 (bf (.d (enc f))),.var 186 [.d (.int .i64 0),.d (.int .i64 0)],.var 152 [.aR 176 [.ptr 2 0]]]⟩) (by first | rfl | simp) (k1 _ ?_)
 refine ab.rDC hV mixed none 7 [] [1,2,6,9,12] [1,2,4] (by decide) (by decide) fun K k3 K1 h1=>?_
 simp[acH,ha,hb]
 refine cO (s':=⟨[(1,.ptr 0 0),(2,.ptr 1 0),(6,.aR 176 [.ptr 2 0]),(9,.d (.int .i64 a)),(12,.d (.int .i64 b))],[.var 186 (bf (.d (enc f))),.var 186 [.d (.int .i64 0),.d (.int .i64 0)],.var 152 [.aR 176 [.ptr 2 0]]]⟩) (by first | rfl | simp) (h1 _ ?_)
 refine cm.call hV 176 [.d (.int .i64 a),.d (.int .i64 b),.ptr 2 0] rfl rfl trivial (by decide) (by simp[kN]) fun K2 h2=>?_
 refine(ala b.natAbs a b (Nat.le_refl _) rfl (by simp[xQ,AO.fD,T.fD,T.By])).mono ?_
 rintro _ _ ⟨rfl,adh,We,rfl⟩
 refine h2 _ _ (cm.fin hV none ?_)
 simp
 refine cO (s':=⟨[(1,.ptr 0 0),(2,.ptr 1 0),(4,.d (.int .i64 (pT a b)))],[.var 186 (bf (.d (enc f))),.var 186 [.d (.int .i64 0),.d (.int .i64 0)],.var 152 [.aR 176 [.ptr 2 0]]]++[.frame 3 adh We]⟩) (by first | rfl | simp) (k3 _ ?_)
 refine ab.sub (s':=⟨[(1,.ptr 0 0),(2,.ptr 1 0),(4,.d (.int .i64 (pT a b)))],[.var 186 (bf (.d (enc f))),.var 186 [.d (.int .i64 0),.d (.int .i64 0)]]⟩) (Sub.bY [0,1] (by decide) (by simp[mg]) (by simp[ez,AO.bY,T.bY,T.eU]) (by simp[mf,T.bY,T.eU,idx])) ?_
 refine ab.sm (fun s'=>∃ g,Nb f g=some r∧Sub s' ⟨[(1,.ptr 0 0),(2,.ptr 1 0),(4,.d (.int .i64 g))],[.var 186 (bf (.d (enc f))),.var 186 [.d (.int .i64 0),.d (.int .i64 0)]]⟩) (fun _ k2=>?_) ?_
 ·refine ab.rS hV none [1,2,4,16] fun K k4=>?_
  simp
  refine cO (s':=⟨[(1,.ptr 0 0),(2,.ptr 1 0),(4,.d (.int .i64 (pT a b))),(16,.d (.bool (decide (f.d < 0))))],[.var 186 (bf (.d (enc f))),.var 186 [.d (.int .i64 0),.d (.int .i64 0)]]⟩) (by first | rfl | simp) (k4 _ ?_)
  refine ab.cond (b:=decide (f.d < 0)) rfl (fun h=>?_) fun h=>?_
  ·replace hg:=aij h hg
   obtain⟨g1,hg⟩:=aK hg
   unfold ax at g1
   refine ab.vp hV none [1,2,4] fun K k5=>?_
   simp
   refine And.intro (by omega) ?_
   refine cO (s':=⟨[(1,.ptr 0 0),(2,.ptr 1 0),(4,.d (.int .i64 (0 - pT a b)))],[.var 186 (bf (.d (enc f))),.var 186 [.d (.int .i64 0),.d (.int .i64 0)]]⟩) (by first | rfl | simp) (k5 _ ?_)
   exact k2 _ ⟨_,hg,Sub.refl _⟩
  replace hg:=aii h hg
  exact ab.skip (k2 _ ⟨_,hg,Sub.acu (by simp[zp])⟩)
 rintro s' ⟨g,hg,hs⟩
 refine ab.sub hs ?_
 unfold Nb at hg
 obtain⟨g1,hg⟩:=aK hg
 obtain⟨g2,hg⟩:=aK hg
 obtain⟨g3,hg⟩:=aK hg
 unfold ax at g2 g3
 have hg:=Option.some.inj hg
 subst hg
 refine ab.rDF hV mixed none 9 [] [2] (by decide) fun K k5=>?_
 simp
 repeat refine And.intro (by first | omega | exact g1) ?_
 refine cO (s':=⟨[(2,.ptr 1 0)],[.var 186 (bf (.d (enc f))),.var 186 (bf (.d (enc (⟨f.n.tdiv g,f.d.tdiv g⟩:Fraction))))]⟩) (by first | rfl | simp) (k5 _ ?_)
 refine ab.ret ?_
 refine hQ _ _ (.inl rfl) ?_
 simp[uh,dN,eI]
end
end Go.Proofs.YtjigeffmmcmlnaaGreatDoor
namespace Go.Proofs.YtjigeffmmcmlnaaGreatDoor
open Go Go.an au
noncomputable def ab7 (a0:Rat):Option Bool:=
 (ak (decide (a0.d < 1)) (some true) (ak (decide (1000000 < a0.d)) (some true) (ak (decide (a0.n < (-1000000000))) (some true) (some (decide (1000000000 < a0.n))))))
noncomputable def Dl (a0:Rat):Option Bool:=
 ag (ab7 a0) fun aeb=>
 ak aeb (some false)
 (ag (Nc (⟨a0.n,a0.d⟩:Fraction)) fun aX=>
 some (decide (aX=(⟨a0.n,a0.d⟩:Fraction))))
noncomputable def ab5 (a0:Rat) (a1:Rat):Option Bool:=
 (ag (Dl a0) fun x3=>
 ak (!x3) (some true) (ag (Dl a1) fun x5=>
 some (!x5)))
noncomputable def T7:Option (Int×Int):=
 some (0,0)
noncomputable def Oe (a0:Rat) (a1:Rat):Option (Int×Int):=
 ag (ab5 a0 a1) fun aeA=>
 ak aeA (some (0,1))
 (aG (ax (a0.n*a1.d)) (aG (ax (a1.n*a0.d)) (ak (decide ((a0.n*a1.d) < (a1.n*a0.d))) (some ((-1),0))
 (ak (decide ((a1.n*a0.d) < (a0.n*a1.d))) (some (1,0))
 (T7)))))
noncomputable def aap (a0:Rat):Option Bool:=
 (ag (Dl a0) fun x2=>
 ak x2 (ak (decide (0≤a0.n)) (aG (a0.d≠0) (some (decide ((Int.tmod 1680 a0.d)=0)))) (some false)) (some false))
noncomputable def MS (a0:Rat):Option Bool:=
 ag (aap a0) fun aeq=>
 some aeq
noncomputable def MT (a0:Rat) (a1:Rat):Option Bool:=
 ag (Oe a0 a1) fun(x2,x3)=>
 some (decide (x2 < 0))
noncomputable def Sy (bj:(List (Int×Bool))) (pG:aT):Option Bool:=
 (ak (decide (pG.id < 1)) (some true) (ak (decide (1000000 < pG.id)) (some true) (ak (aV bj pG.id false) (some true) (ak (decide (pG.key < (-7))) (some true) (some (decide (7 < pG.key)))))))
noncomputable def Sz (pG:aT):Option Bool:=
 (ag (MS pG.length) fun xI=>
 ak (!xI) (some true) (ak (decide (pG.length.n=0)) (some true) (ag (MT (⟨24,1⟩:Rat) pG.length) fun Ai=>
 some Ai)))
noncomputable def Sx (bE:Int) (GW:(List (Int×Bool))):Option (((List (Int×Bool))×Int)⊕((Bool)⊕(Unit))):=
 aG (ax (bE+1)) (some (.inl (GW,(bE+1))))
noncomputable def MN (a0:(List aT)):((List (Int×Bool))×Int)→Option (((List (Int×Bool))×Int)⊕((Bool)⊕(Unit))):=fun(bj,bE)=>
 ak (decide (bE < (a0.length:Int))) (ag (aP a0 bE) fun pG=>
 ag (Sy bj pG) fun adA=>
 ak adA (some (.inr (.inl false)))
 (ag (Sz pG) fun adN=>
 ak adN (some (.inr (.inl false)))
 (Sx bE (cq bj pG.id true))))
 (some (.inr (.inr ())))
noncomputable def aah (a0:(List aT)):Option Bool:=
 (ak (decide (1≤(a0.length:Int))) (some (decide ((a0.length:Int)≤4000))) (some false))
noncomputable def Sw (a0:(List aT)):Option Bool:=
 ag (aah a0) fun adT=>
 some adT
noncomputable def Ix (a0:(List aT)):Option Bool:=
 ag (aH (MN a0) ([],0)) fun o89=>
 match o89 with
 | .inl abl=>some abl
 | .inr ()=>Sw a0
noncomputable def aay (a0:az):Option Bool:=
 (ag (De a0) fun x2=>
 ak x2 (ag (Da a0.alter (-2) 2) fun x4=>
 ak x4 (ag (Da a0.bU 0 9) fun x6=>
 some x6) (some false)) (some false))
noncomputable def M0 (a0:az):Option Bool:=
 ag (aay a0) fun GS=>
 some GS
noncomputable def aaB (a0:Rat):Option Bool:=
 (ag (Dl a0) fun x3=>
 ak (!x3) (some true) (ak (decide (a0.n < 0)) (some true) (aG (a0.d≠0) (some (!decide ((Int.tmod 1680 a0.d)=0))))))
noncomputable def Bz (a0:Rat):Option (Int×Bool):=
 ag (aaB a0) fun GN=>
 ak GN (some (0,false))
 (aG (a0.d≠0) (aG (ax (Int.tdiv 1680 a0.d)) (aG (ax (a0.n*(Int.tdiv 1680 a0.d))) (some ((a0.n*(Int.tdiv 1680 a0.d)),true)))))
noncomputable def MZ (a1:ae) (x2:Int) (x3:Bool) (x6:Int) (x7:Bool) (dw:Int):Option Bool:=
 (ak x3 (ak x7 (ak (decide (0 < x6)) (aG (ax (x2+x6)) (ak (decide ((x2+x6)≤dw)) (ag (IE a1.id) fun aX=>
 ak aX (ag (IE a1.part) fun o6=>
 ak o6 (ag (Da a1.fR 0 9) fun ru=>
 ak ru (ag (Da a1.jy 0 20) fun bJ=>
 ak bJ (ag (M0 a1.bM) fun fu=>
 some fu) (some false)) (some false)) (some false)) (some false)) (some false))) (some false)) (some false)) (some false))
noncomputable def MY (a0:aT) (a1:ae):Option Bool:=
 ag (Bz a1.start) fun(x2,x3)=>
 ag (Bz a1.length) fun(x6,x7)=>
 ag (Bz a0.length) fun(dw,cb)=>
 ag (MZ a1 x2 x3 x6 x7 dw) fun ad3=>
 some ad3
noncomputable def aas (a0:(List aT)) (a1:(List ae)):Option Bool:=
 (ag (Ix a0) fun x3=>
 ak (!x3) (some true) (some (decide (20000 < (a1.length:Int)))))
noncomputable def aat (a0:(List aT)) (gw:(List (Int×Int))) (cx:(List (Int×Bool))) (nX:ae):Option Bool:=
 (ak (!(eu gw nX.dC)) (some true) (ak (aV cx nX.id false) (some true) (ag (aP a0 (aV gw nX.dC 0)) fun OZ=>
 ag (MY OZ nX) fun x93=>
 some (!x93))))
noncomputable def SH (rE:Int) (GR:(List (Int×Bool))):Option (((List (Int×Bool))×Int)⊕((Bool)⊕(Unit))):=
 aG (ax (rE+1)) (some (.inl (GR,(rE+1))))
noncomputable def MX (a0:(List aT)) (a1:(List ae)) (gw:(List (Int×Int))):((List (Int×Bool))×Int)→Option (((List (Int×Bool))×Int)⊕((Bool)⊕(Unit))):=fun(cx,rE)=>
 ak (decide (rE < (a1.length:Int))) (ag (aP a1 rE) fun nX=>
 ag (aat a0 gw cx nX) fun aeH=>
 ak aeH (some (.inr (.inl false)))
 (SH rE (cq cx nX.id true)))
 (some (.inr (.inr ())))
noncomputable def SG:Option Bool:=
 some true
noncomputable def Fw (a0:(List aT)) (a1:(List ae)):Option Bool:=
 ag (aas a0 a1) fun aep=>
 ak aep (some false)
 (ag (IC a0) fun gw=>
 ag (aH (MX a0 a1 gw) ([],0)) fun o75=>
 match o75 with
 | .inl ax6=>some ax6
 | .inr ()=>SG)
noncomputable def BU (a0:az):Option Int:=
 ag (FA a0) fun(x2,x3)=>
 some x2
noncomputable def acW (a0:Interval) (x2:Int) (x3:Int):Option Bool:=
 (ak (decide (x3=0)) (ag (wE a0.steps (-21) 21) fun x6=>
 ak x6 (ag (wE a0.gu (-36) 36) fun x8=>
 ak x8 (ag (wE x2 (-12) 12) fun dw=>
 some dw) (some false)) (some false)) (some false))
noncomputable def Jt (a0:Interval):Option Bool:=
 ag (MD a0) fun(x2,x3)=>
 ag (acW a0 x2 x3) fun Gg=>
 some Gg
noncomputable def Ui (a0:Part):Option Bool:=
 (ag (FT a0.id) fun x2=>
 ak x2 (ag (wE a0.xC 0 99) fun x4=>
 ak x4 (ag (wE a0.of 0 1000000) fun x6=>
 ak x6 (ag (wE a0.bU (-2) 2) fun x8=>
 ak x8 (ag (wE a0.wW 1 40) fun dw=>
 some dw) (some false)) (some false)) (some false)) (some false))
noncomputable def Uj (a0:Part) (O1:Bool):Option Bool:=
 (ak (!O1) (some true) (ak (decide (a0.of=a0.id)) (some true) (ak (decide (a0.of=0)) (ak (!decide (a0.bU=0)) (some true) (ag (Jt a0.shift) fun bK=>
 some (!bK))) (ag (Jt a0.shift) fun br=>
 some (!br)))))
noncomputable def Uk (a0:Part):Option Bool:=
 (ag (De a0.low) fun Am=>
 ak Am (ag (De a0.high) fun Dx=>
 ak Dx (ag (BU a0.low) fun iR=>
 ag (BU a0.high) fun ej=>
 some (decide (iR≤ej))) (some false)) (some false))
noncomputable def Oq (a0:Part):Option Bool:=
 ag (Ui a0) fun O1=>
 ag (Uj a0 O1) fun ad7=>
 ak ad7 (some false)
 (ag (Uk a0) fun ael=>
 some ael)
@[reducible] def aw2:e8:=⟨False⟩
attribute [local instance] cJ aw2
theorem ar {β:Type} {c:Bool} {a b:Option β} (h:c=true):ak c a b=a:=by subst h;rfl
theorem av {β:Type} {c:Bool} {a b:Option β} (h:c=false):ak c a b=b:=by subst h;rfl
theorem bm {α:Type} {l:List α} {k:Nat} {x:α} (h:l[k]?=some x):aP l (k:Int)=some x:=by unfold aP;rw[if_pos (by omega)];simpa using h
theorem abd:∀ (k:Nat) (a b:Int),b.natAbs≤k→0≤a→0≤b→pT a b=(Int.gcd a b:Int)
 | k,a,b,hk,ha,hb=>by
  by_cases h:b=0
  ·subst h;rw[S6];simp[Int.gcd];omega
  rw[abe h,Int.tmod_eq_emod_of_nonneg ha]
  have h1:0≤a % b:=Int.emod_nonneg _ h
  have h2:a % b < b:=Int.emod_lt_of_pos _ (by omega)
  match k,hk with
  | 0,hk=>omega
  | k+1,hk=>
   rw[abd k b (a % b) (by omega) hb h1]
   congr 1
   unfold Int.gcd
   have e:(a % b).natAbs=a.natAbs % b.natAbs:=by
    obtain⟨x,rfl⟩:=Int.eq_ofNat_of_zero_le ha
    obtain⟨y,rfl⟩:=Int.eq_ofNat_of_zero_le hb
    rw[←Int.natCast_emod];rfl
   rw[e,Nat.gcd_comm,←Nat.gcd_rec,Nat.gcd_comm]
theorem akU {n:Int} (h:ax (0 - n)):Ja n=some (n.natAbs:Int):=by
 unfold Ja
 rw[cu h]
 congr 1
 omega
def wy (q:Rat):Prop:=1≤q.d∧q.d≤1000000 ∧ -1000000000≤q.n∧q.n≤1000000000∧Int.gcd q.n q.d=1
instance (q:Rat):Decidable (wy q):=inferInstanceAs (Decidable (_∧_∧_∧_∧_))
theorem axL {n d:Int} (h1:1≤d) (h2:d≤1000000) (h3 : -1000000000≤n) (h4:n≤1000000000):Nc ⟨n,d⟩=some ⟨n.tdiv (Int.gcd n d),d.tdiv (Int.gcd n d)⟩:=by
 unfold Nc
 rw[akU (by unfold ax;dsimp only;omega),aj,akU (by unfold ax;dsimp only;omega),aj,av (by simp;omega),abd _ _ _ (Nat.le_refl _) (by omega) (by omega)]
 have hg:((Int.gcd (n.natAbs:Int) (d.natAbs:Int):Nat):Int)=(Int.gcd n d:Int):=by simp[Int.gcd]
 dsimp only
 rw[hg]
 have cC:0 < Int.gcd n d:=Int.gcd_pos_of_ne_zero_right n (by omega)
 have b1:((n.tdiv (Int.gcd n d)).natAbs)≤n.natAbs:=by rw[Int.natAbs_tdiv];exact Nat.div_le_self _ _
 have b2:((d.tdiv (Int.gcd n d)).natAbs)≤d.natAbs:=by rw[Int.natAbs_tdiv];exact Nat.div_le_self _ _
 unfold Nb
 rw[cu (by omega),cu (by unfold ax;dsimp only;omega),cu (by unfold ax;dsimp only;omega)]
theorem ab6 (q:Rat):Dl q=some (decide (wy q)):=by
 obtain⟨n,d⟩:=q
 have no:¬ (1≤d∧d≤1000000 ∧ -1000000000≤n∧n≤1000000000)→decide (wy ⟨n,d⟩)=false:=fun h=>decide_eq_false fun h'=>h ⟨h'.1,h'.2.1,h'.2.2.1,h'.2.2.2.1⟩
 unfold Dl ab7
 dsimp only
 by_cases h1:d < 1
 ·rw[ar (by simp[h1]),aj,ar rfl,no (by omega)]
 by_cases h2:1000000 < d
 ·rw[av (by simp[h1]),ar (by simp[h2]),aj,ar rfl,no (by omega)]
 by_cases h3:n < -1000000000
 ·rw[av (by simp[h1]),av (by simp[h2]),ar (by simp[h3]),aj,ar rfl,no (by omega)]
 rw[av (by simp[h1]),av (by simp[h2]),av (by simp[h3]),aj]
 by_cases h:1000000000 < n
 ·rw[ar (by simp[h]),no (by omega)]
 rw[av (by simp[h]),axL (by omega) (by omega) (by omega) (by omega),aj]
 congr 1
 rw[Bool.eq_iff_iff,decide_eq_true_eq,decide_eq_true_eq,Fraction.mk.injEq]
 have cC:0 < Int.gcd n d:=Int.gcd_pos_of_ne_zero_right n (by omega)
 constructor
 ·rintro⟨_,h2⟩
  refine⟨by dsimp only;omega,by dsimp only;omega,by dsimp only;omega,by dsimp only;omega,?_⟩
  by_cases hg:Int.gcd n d=1
  ·exact hg
  exfalso
  have h3:(d.tdiv (Int.gcd n d)).natAbs=d.natAbs / Int.gcd n d:=by rw[Int.natAbs_tdiv];rfl
  rw[h2] at h3
  have:d.natAbs / Int.gcd n d < d.natAbs:=Nat.div_lt_self (by omega) (by omega)
  omega
 rintro⟨_,_,_,_,h5⟩
 dsimp only at h5
 rw[h5];simp
def fO (p:az):Prop:=(0≤p.step∧p.step≤6)∧(-4≤p.alter∧p.alter≤4)∧(-8≤p.bU∧p.bU≤20)
instance (p:az):Decidable (fO p):=inferInstanceAs (Decidable (_∧_∧_))
theorem akc (n lo hi:Int):BD n lo hi=some (decide (lo≤n∧n≤hi)):=by
 unfold BD aa9
 simp only[zN,decide_eq_true_eq]
 by_cases h:lo≤n<;>simp[h,aj]
theorem aa7 (p:az):De p=some (decide (fO p)):=by
 unfold De aa8 fO
 simp only[akc,aj,zN,decide_eq_true_eq]
 by_cases h1:0≤p.step∧p.step≤6
 ·by_cases h2 : -4≤p.alter∧p.alter≤4
  ·simp[h1,h2,aj]
  rw[if_pos h1,if_neg h2,aj]
  simp only[h1,h2,false_and,and_false,and_true,true_and,decide_false]
 rw[if_neg h1,aj]
 simp only[h1,false_and,decide_false]
def Fy (n:Int):Int:=(wk[n.toNat]?).getD 0
def num (p:az):Int:=12*p.bU+Fy p.step+p.alter
theorem aaw (n:Int):0≤Fy n∧Fy n≤11:=by
 unfold Fy wk
 generalize n.toNat=k
 rcases k with _ | _ | _ | _ | _ | _ | _ | k<;>simp
theorem aa6 (p:az):FA p=some (if fO p then(num p,0) else(0,1)):=by
 unfold FA
 rw[aa7,aj]
 by_cases h:fO p
 ·have hp:=h
  obtain⟨⟨h1,h2⟩,⟨h3,h4⟩,h5,h6⟩:=h
  have hn:=aaw p.step
  rw[av (by simp[hp]),if_pos hp]
  unfold S7
  have ha:aP wk p.step=some (Fy p.step):=by
   unfold aP Fy
   rw[if_pos h1]
   have:p.step.toNat < wk.length:=by rw[km];omega
   rw[List.getElem?_eq_getElem this];rfl
  rw[cu (by unfold ax;omega),bl ha,cu (by unfold ax;omega),cu (by unfold ax;omega),aj]
  rfl
 rw[ar (by simp[h]),if_neg h]
def jT (x y:Int):Int:=if x < y then -1 else if y < x then 1 else 0
theorem KE (x y:Int):KD x y=some (jT x y):=by
 unfold KD isNaN jT
 rw[aj,aj,av rfl,av rfl]
 simp only[zN,decide_eq_true_eq]
 split
 ·rfl
 split<;>rfl
theorem azx {a b:Rat} (ha:wy a) (hb:wy b):Oe a b=some (jT (a.n*b.d) (b.n*a.d),0):=by
 unfold Oe ab5 T7
 simp only[ab6,aj,zN,ha,hb,decide_true,Bool.not_true,Bool.false_eq_true,if_false]
 have key:∀ {x y:Rat},wy x→wy y→ax (x.n*y.d):=by
  intro x y ⟨_,_,h3,h4,_⟩ ⟨h1,h2,_⟩
  unfold ax
  have e1:x.n*y.d≤1000000000*y.d:=Int.mul_le_mul_of_nonneg_right h4 (by omega)
  have e2 : -1000000000*y.d≤x.n*y.d:=Int.mul_le_mul_of_nonneg_right h3 (by omega)
  omega
 rw[cu (key ha hb),cu (key hb ha)]
 unfold jT
 simp only[decide_eq_true_eq]
 split
 ·rfl
 split<;>rfl
def pK {α σ ρ:Type} (f:σ→α→σ⊕ρ) (fin:σ→ρ):List α→σ→ρ
 | [],z=>fin z
 | x::xs,z=>match f z x with
  | .inl z'=>pK f fin xs z'
  | .inr r=>r
theorem kn {α σ τ ρ:Type} (st:σ→Int→τ) {step:τ→Option (τ⊕ρ)} {l:List α} (f:σ→α→σ⊕ρ) (fin:σ→ρ) (Inv:Nat→σ→Prop)
  (h:∀ (k:Nat) x z,l[k]?=some x→Inv k z→step (st z (k:Int))=some (match f z x with | .inl z'=> .inl (st z' ((k+1:Nat):Int)) | .inr r=> .inr r))
  (hinv:∀ (k:Nat) x z z',l[k]?=some x→Inv k z→f z x = .inl z'→Inv (k+1) z')
  (cM:∀ z,Inv l.length z→step (st z (l.length:Int))=some (.inr (fin z))) (z0:σ) (h0:Inv 0 z0):aH step (st z0 0)=some (pK f fin l z0):=by
 have key:∀ (n k:Nat) (z:σ),k+n=l.length→Inv k z→aH step (st z (k:Int))=some (pK f fin (l.drop k) z):=by
  intro n
  induction n with
  | zero=>
   intro k z hk hi
   have:k=l.length:=by omega
   subst this
   rw[List.drop_length]
   exact si (cM z hi)
  | succ n ih=>
   intro k z hk hi
   have aN:k < l.length:=by omega
   have hx:l[k]?=some l[k]:=List.getElem?_eq_getElem aN
   rw[List.drop_eq_getElem_cons aN]
   have hs:=h k _ z hx hi
   simp only[pK]
   cases hf:f z l[k] with
   | inl z'=>
    rw[hf] at hs
    rw[vl hs]
    exact ih (k+1) z' (by omega) (hinv k _ z z' hx hi hf)
   | inr r=>
    rw[hf] at hs
    rw[si hs]
 simpa using key l.length 0 z0 (by omega) h0
theorem qm {α σ ρ:Type} {f:σ→α→σ⊕ρ} {fin:σ→ρ} (g:σ→α→σ):∀ (l:List α) (z:σ),(∀ z x,x∈l→f z x = .inl (g z x))→pK f fin l z=fin (l.foldl g z)
 | [],z,_=>rfl
 | x::l,z,h=>by
  simp only[pK,h z x (by simp),List.foldl_cons]
  exact qm g l _ fun z y hy=>h z y (by simp[hy])
theorem zX {α ρ:Type} {step:Int→Option (Int⊕(ρ⊕Unit))} {l:List α} (p:α→Bool) (r:ρ)
  (h:∀ (k:Nat) x,l[k]?=some x→step (k:Int)=some (if p x=true then .inr (.inl r) else .inl ((k+1:Nat):Int))) (cM:step (l.length:Int)=some (.inr (.inr ()))) :
  aH step 0=some (if l.any p=true then .inl r else .inr ()):=by
 have:=kn (σ:=Unit) (st:=fun _ k=>k) (step:=step) (l:=l) (fun _ x=>if p x=true then .inr (.inl r) else .inl ()) (fun _=> .inr ()) (fun _ _=>True) (fun k x z hx _=>by
  rw[h k x hx];split<;>rename_i hp<;>simp[hp]) (fun _ _ _ _ _ _ _=>trivial) (fun z _=>cM) () trivial
 rw[this]
 congr 1
 clear this h cM
 induction l with
 | nil=>rfl
 | cons x l ih=>
  simp only[pK,List.any_cons]
  by_cases hp:p x=true
  ·simp[hp]
  simp only[hp,Bool.false_or]
  simpa using ih
theorem aZ {β:Type} {n:Int} {o:Option β} (h : -9223372036854775808≤n∧n≤9223372036854775807):aG (ax n) o=o:=cu h
theorem de {α:Type} {l:List α} {k:Nat} {x:α} (h:l[k]?=some x):k < l.length:=(List.getElem?_eq_some_iff.1 h).1
end Go.Proofs.YtjigeffmmcmlnaaGreatDoor
namespace Go.Proofs.YtjigeffmmcmlnaaGreatDoor
open Go Go.an au
noncomputable def abv (a1:ae) (x2:Int) (x5:Bool):Option Bool:=
 (ak (decide (x2 < 0)) (some true) (ak (!x5) (some true) (ag (FF a1.id 1 1000000) fun x9=>
 ak (!x9) (some true) (ag (FF a1.part 1 1000000) fun cb=>
 ak (!cb) (some true) (ag (FF a1.fR 0 9) fun gw=>
 ak (!gw) (some true) (ag (FF a1.jy 0 20) fun aX=>
 some (!aX)))))))
noncomputable def abw (a0:(List aT)) (x2:Int) (Dw:Int) (o7:Int):Option Bool:=
 (ak (decide (0≤Dw)) (ak (decide (0 < o7)) (aG (ax (Dw+o7)) (ag (aP a0 x2) fun ry=>
 ag (BI ry.length) fun sB=>
 some (decide ((Dw+o7)≤sB)))) (some false)) (some false))
noncomputable def Nr (a0:(List aT)) (a1:ae):Option Bool:=
 ag (IN a0 a1.dC) fun x2=>
 ag (Ni a1.bM) fun x5=>
 ag (abv a1 x2 x5) fun adV=>
 ak adV (some false)
 (ag (BI a1.start) fun Dw=>
 ag (BI a1.length) fun o7=>
 ag (abw a0 x2 Dw o7) fun aee=>
 some aee)
noncomputable def abx (a1:(List ae)) (x2:Bool):Option Bool:=
 (ak (!x2) (some true) (some (decide (20000 < (a1.length:Int)))))
noncomputable def Ts (uv:Int):Option ((Int)⊕((Bool)⊕(Unit))):=
 aG (ax (uv+1)) (some (.inl (uv+1)))
noncomputable def Nx (a1:(List ae)) (cx:Int):Int→Option ((Int)⊕((Bool)⊕(Unit))):=fun(uv:Int)=>
 ak (decide (uv < cx)) (ag (aP a1 uv) fun adr=>
 ag (aP a1 cx) fun ads=>
 ak (decide (adr.id=ads.id)) (some (.inr (.inl false)))
 (Ts uv))
 (some (.inr (.inr ())))
noncomputable def Tq (cx:Int):Option ((Int)⊕((Bool)⊕(Unit))):=
 aG (ax (cx+1)) (some (.inl (cx+1)))
noncomputable def Nw (a0:(List aT)) (a1:(List ae)):Int→Option ((Int)⊕((Bool)⊕(Unit))):=fun(cx:Int)=>
 ak (decide (cx < (a1.length:Int))) (ag (aP a1 cx) fun amJ=>
 ag (Nr a0 amJ) fun yV=>
 ak (!yV) (some (.inr (.inl false)))
 (ag (aH (Nx a1 cx) 0) fun ajt=>
 match ajt with
 | .inl ayh=>some (.inr (.inl ayh))
 | .inr ()=>Tq cx))
 (some (.inr (.inr ())))
noncomputable def Tr:Option Bool:=
 some true
noncomputable def IQ (a0:(List aT)) (a1:(List ae)):Option Bool:=
 ag (IM a0) fun x2=>
 ag (abx a1 x2) fun GN=>
 ak GN (some false)
 (ag (aH (Nw a0 a1) 0) fun ajp=>
 match ajp with
 | .inl ayi=>some ayi
 | .inr ()=>Tr)
noncomputable def IS (a0:(List aT)) (a1:ae):Option (List Int):=
 ag (IN a0 a1.dC) fun x2=>
 ag (BI a1.start) fun x4=>
 ag (xA a1.bM) fun x6=>
 some ([x2,a1.part,x4,a1.fR,x6,a1.id])
noncomputable def Tk (bE:Int):Option ((Int)⊕((Bool)⊕(Unit))):=
 aG (ax (bE+1)) (some (.inl (bE+1)))
noncomputable def BJ (x2:(List Int)) (x5:(List Int)):Int→Option ((Int)⊕((Bool)⊕(Unit))):=fun(bE:Int)=>
 ak (decide (bE < (x2.length:Int))) (ag (aP x2 bE) fun x59=>
 ag (aP x5 bE) fun OY=>
 ak (!decide (x59=OY)) (ag (aP x2 bE) fun x65=>
 ag (aP x5 bE) fun xL=>
 some (.inr (.inl (decide (x65 < xL)))))
 (Tk bE))
 (some (.inr (.inr ())))
noncomputable def abu:Option Bool:=
 some false
noncomputable def IP (a0:(List aT)) (a1:ae) (a2:ae):Option Bool:=
 ag (IS a0 a1) fun x2=>
 ag (IS a0 a2) fun x5=>
 ag (aH (BJ x2 x5) 0) fun o48=>
 match o48 with
 | .inl ayL=>some ayL
 | .inr ()=>abu
noncomputable def Tu (a0:(List aT)) (a1:(List ae)) (a2:ae) (n3:Int):Option Bool:=
 (ak (decide (0 < n3)) (aG (ax (n3 - 1)) (ag (aP a1 (n3 - 1)) fun ig=>
 ag (IP a0 a2 ig) fun nV=>
 some nV)) (some false))
noncomputable def Nz (a0:(List aT)) (a1:(List ae)) (a2:ae):Int→Option ((Int)⊕((Int))):=fun(n3:Int)=>
 ag (Tu a0 a1 a2 n3) fun aej=>
 ak aej (aG (ax (n3 - 1)) (some (.inl (n3 - 1))))
 (some (.inr n3))
noncomputable def Tt (a1:(List ae)) (a2:ae) (ik:Int):Option (List ae):=
 aG (0≤ik∧ik≤(a1.length:Int)) (aG (((a1.take ik.toNat):List ae).length*96≤140737488355328) (aG ((((a1.take ik.toNat)++[a2]):List ae).length*96≤140737488355328) (aG (0≤ik∧ik≤(a1.length:Int)) (aG (((((a1.take ik.toNat)++[a2])++(a1.drop ik.toNat)):List ae).length*96≤140737488355328) (some (((a1.take ik.toNat)++[a2])++(a1.drop ik.toNat)))))))
noncomputable def Ny (a0:(List aT)) (a1:(List ae)) (a2:ae):Option (List ae):=
 ag (aH (Nz a0 a1 a2) (a1.length:Int)) fun ayC=>
 Tt a1 a2 ayC
noncomputable def Tp (ct:Int) (Gy:(List ae)):Option (((List ae)×Int)⊕(((List ae)))):=
 aG (ax (ct+1)) (some (.inl (Gy,(ct+1))))
noncomputable def Nv (a0:(List aT)) (a1:(List ae)):((List ae)×Int)→Option (((List ae)×Int)⊕(((List ae)))):=fun(aD,ct)=>
 ak (decide (ct < (a1.length:Int))) (ag (aP a1 ct) fun sB=>
 ag (Ny a0 aD sB) fun ig=>
 Tp ct ig)
 (some (.inr aD))
noncomputable def To (sH:(List ae)):Option (List ae):=
 some sH
noncomputable def Nu (a0:(List aT)) (a1:(List ae)):Option (List ae):=
 ag (aH (Nv a0 a1) ([],0)) fun ayw=>
 To ayw
noncomputable def abG (a0:Interval) (x2:Int) (x3:Int):Option Bool:=
 (ak (decide (x3=0)) (ag (vo a0.steps (-21) 21) fun x6=>
 ak x6 (ag (vo a0.gu (-36) 36) fun x8=>
 ak x8 (ag (vo x2 (-12) 12) fun dw=>
 some dw) (some false)) (some false)) (some false))
noncomputable def NJ (a0:Interval):Option Bool:=
 ag (Nj a0) fun(x2,x3)=>
 ag (abG a0 x2 x3) fun Gg=>
 some Gg
noncomputable def abz (x2:Bool) (x5:Bool) (x8:Bool) (cb:Bool) (aU:Bool) (o6:Bool) (bN:Bool) (fu:Bool):Option Bool:=
 (ak (!x2) (some true) (ak (!x5) (some true) (ak (!x8) (some true) (ak (!cb) (some true) (ak (!aU) (some true) (ak (!o6) (some true) (ak (!bN) (some true) (some (!fu)))))))))
noncomputable def abA (a0:Part):Option Bool:=
 (ak (!decide (a0.of=a0.id)) (ak (!decide (a0.of=0)) (ag (xA a0.low) fun iR=>
 ag (xA a0.high) fun ej=>
 some (decide (iR≤ej))) (ak (decide (a0.bU=0)) (ag (xA a0.low) fun fH=>
 ag (xA a0.high) fun wI=>
 some (decide (fH≤wI))) (some false))) (some false))
noncomputable def NC (a0:Part):Option Bool:=
 ag (vo a0.id 1 1000000) fun x2=>
 ag (vo a0.xC 0 99) fun x5=>
 ag (vo a0.of 0 1000000) fun x8=>
 ag (vo a0.bU (-2) 2) fun cb=>
 ag (vo a0.wW 1 40) fun aU=>
 ag (NJ a0.shift) fun o6=>
 ag (FE a0.low) fun bN=>
 ag (FE a0.high) fun fu=>
 ag (abz x2 x5 x8 cb aU o6 bN fu) fun ad6=>
 ak ad6 (some false)
 (ag (abA a0) fun aen=>
 some aen)
noncomputable def abC (a0:(List Part)):Option Bool:=
 (ak (decide ((a0.length:Int) < 1)) (some true) (some (decide (60 < (a0.length:Int)))))
noncomputable def abD (a0:(List Part)) (cI:Int) (OV:Bool):Option Bool:=
 (ak (!OV) (some true) (ag (aP a0 cI) fun xI=>
 ag (FH a0 xI.id) fun Ai=>
 some (!decide (Ai=cI))))
noncomputable def IU (cI:Int):Option ((Int)⊕((Bool)⊕(Unit))):=
 aG (ax (cI+1)) (some (.inl (cI+1)))
noncomputable def NG (a0:(List Part)):Int→Option ((Int)⊕((Bool)⊕(Unit))):=fun(cI:Int)=>
 ak (decide (cI < (a0.length:Int))) (ag (aP a0 cI) fun amF=>
 ag (NC amF) fun OV=>
 ag (abD a0 cI OV) fun adM=>
 ak adM (some (.inr (.inl false)))
 (ag (aP a0 cI) fun adm=>
 ak (decide (adm.of=0)) (IU cI)
 (ag (aP a0 cI) fun amI=>
 ag (FH a0 amI.of) fun JB=>
 ak (decide (JB < 0)) (some (.inr (.inl false)))
 (ag (aP a0 JB) fun adp=>
 ak (!decide (adp.of=0)) (some (.inr (.inl false)))
 (IU cI)))))
 (some (.inr (.inr ())))
noncomputable def Ty:Option Bool:=
 some true
noncomputable def NF (a0:(List Part)):Option Bool:=
 ag (abC a0) fun Gw=>
 ak Gw (some false)
 (ag (aH (NG a0) 0) fun ajm=>
 match ajm with
 | .inl ayc=>some ayc
 | .inr ()=>Ty)
noncomputable def FG (a0:(List Part)) (a1:ae):Option Int:=
 ag (FH a0 a1.part) fun x2=>
 ak (decide (x2 < 0)) (some (-1))
 (ag (aP a0 x2) fun dw=>
 ak (!decide (dw.of=0)) (some (-1))
 (some x2))
noncomputable def Tz (a0:Part) (a1:az):Option Bool:=
 ag (xA a1) fun x2=>
 ag (xA a0.low) fun x4=>
 ag (xA a0.high) fun x6=>
 ag (vo x2 x4 x6) fun x8=>
 some x8
noncomputable def TL (aD:Int):Option ((Int)⊕((Int)⊕(Unit))):=
 aG (ax (aD+1)) (some (.inl (aD+1)))
noncomputable def NN (a0:(List Part)) (a1:(List ae)):Int→Option ((Int)⊕((Int)⊕(Unit))):=fun(aD:Int)=>
 ak (decide (aD < (a1.length:Int))) (ag (aP a1 aD) fun Dx=>
 ag (FG a0 Dx) fun iR=>
 ak (decide (iR < 0)) (some (.inr (.inl 22)))
 (TL aD))
 (some (.inr (.inr ())))
noncomputable def TK (kB:Int):Option ((Int)⊕((Int)⊕(Unit))):=
 aG (ax (kB+1)) (some (.inl (kB+1)))
noncomputable def NM (a0:(List Part)) (a1:(List ae)):Int→Option ((Int)⊕((Int)⊕(Unit))):=fun(kB:Int)=>
 ak (decide (kB < (a1.length:Int))) (ag (aP a1 kB) fun JA=>
 ag (FG a0 JA) fun OU=>
 ag (aP a0 OU) fun amG=>
 ag (Tz amG JA.bM) fun wH=>
 ak (!wH) (some (.inr (.inl 20)))
 (TK kB))
 (some (.inr (.inr ())))
noncomputable def abK:Option Int:=
 some 0
noncomputable def TJ (a0:(List Part)) (a1:(List ae)):Option Int:=
 ag (aH (NM a0 a1) 0) fun ajl=>
 match ajl with
 | .inl ax7=>some ax7
 | .inr ()=>abK
noncomputable def FI (a0:(List Part)) (a1:(List ae)):Option Int:=
 ag (aH (NN a0 a1) 0) fun o34=>
 match o34 with
 | .inl ayz=>some ayz
 | .inr ()=>TJ a0 a1
noncomputable def abI (a0:Score) (x2:Bool) (x5:Bool):Option Bool:=
 (ag (vo a0.version 1 1000000) fun x9=>
 ak (!x9) (some true) (ak (!x2) (some true) (some (!x5))))
noncomputable def TH (cx:Int):Option ((Int)⊕((Bool)⊕(Unit))):=
 aG (ax (cx+1)) (some (.inl (cx+1)))
noncomputable def NK (a0:Score):Int→Option ((Int)⊕((Bool)⊕(Unit))):=fun(cx:Int)=>
 ak (decide (cx < (a0.notes.length:Int))) (aG (ax (cx - 1)) (ag (aP a0.notes (cx - 1)) fun nX=>
 ag (aP a0.notes cx) fun tG=>
 ag (IP a0.bars nX tG) fun UU=>
 ak (!UU) (some (.inr (.inl false)))
 (TH cx)))
 (some (.inr (.inr ())))
noncomputable def abH:Option Bool:=
 some true
noncomputable def z8 (a0:Score):Option Bool:=
 ag (IM a0.bars) fun x2=>
 ag (NF a0.parts) fun x5=>
 ag (abI a0 x2 x5) fun adJ=>
 ak adJ (some false)
 (ag (IQ a0.bars a0.notes) fun bJ=>
 ak (!bJ) (some false)
 (ag (FI a0.parts a0.notes) fun ei=>
 ak (!decide (ei=0)) (some false)
 (ag (aH (NK a0) 1) fun o74=>
 match o74 with
 | .inl ax3=>some ax3
 | .inr ()=>abH)))
noncomputable def abJ (a1:Int) (x2:Bool):Option Bool:=
 (ak (!x2) (some true) (ag (vo a1 1 1000000) fun x6=>
 some (!x6)))
noncomputable def NL (a0:Score) (a1:Int) (a2:(List ae)):Option (Score×Int):=
 ag (z8 a0) fun x2=>
 ag (abJ a1 x2) fun aeE=>
 ak aeE (some ((⟨0,[],[],[]⟩:Score),1))
 (ag (IQ a0.bars a2) fun cL=>
 ak (!cL) (some ((⟨0,[],[],[]⟩:Score),1))
 (ag (FI a0.parts a2) fun fu=>
 ak (!decide (fu=0)) (some ((⟨0,[],[],[]⟩:Score),fu))
 (ag (Nu (({ a0 with version:=a1 }).bars) a2) fun tE=>
 some (({ ({ a0 with version:=a1 }) with notes:=tE }),0))))
structure uA where
 v0:(Bx (List (Int×Part)))
instance:au uA:=⟨fun c=> .aR 100 [enc c.v0],fun d=>match d with | .aR _ [a0]=>⟨dec a0⟩ | _=>⟨dec D.qA⟩,1,fun c=>by simp only[lj],fun _=>rfl,by simp[D.cells,D.one]⟩
theorem qO (c:uA):(enc c:D) = .aR 100 [enc c.v0]:=rfl
theorem qL (g:FuncId) (a0:D):(dec (.aR g [a0]):uA)=⟨dec a0⟩:=rfl
theorem rl:size uA=1:=rfl
theorem qR (c:uA):(⟨c.v0⟩:uA)=c:=rfl
structure sO where
 v0:(Bx (List (Int×Part)))
instance:au sO:=⟨fun c=> .aR 104 [enc c.v0],fun d=>match d with | .aR _ [a0]=>⟨dec a0⟩ | _=>⟨dec D.qA⟩,1,fun c=>by simp only[lj],fun _=>rfl,by simp[D.cells,D.one]⟩
theorem qP (c:sO):(enc c:D) = .aR 104 [enc c.v0]:=rfl
theorem qM (g:FuncId) (a0:D):(dec (.aR g [a0]):sO)=⟨dec a0⟩:=rfl
theorem rp:size sO=1:=rfl
theorem qS (c:sO):(⟨c.v0⟩:sO)=c:=rfl
structure sP where
 v0:(Bx (List (Int×Part)))
instance:au sP:=⟨fun c=> .aR 105 [enc c.v0],fun d=>match d with | .aR _ [a0]=>⟨dec a0⟩ | _=>⟨dec D.qA⟩,1,fun c=>by simp only[lj],fun _=>rfl,by simp[D.cells,D.one]⟩
theorem qQ (c:sP):(enc c:D) = .aR 105 [enc c.v0]:=rfl
theorem qN (g:FuncId) (a0:D):(dec (.aR g [a0]):sP)=⟨dec a0⟩:=rfl
theorem rq:size sP=1:=rfl
theorem qT (c:sP):(⟨c.v0⟩:sP)=c:=rfl
noncomputable def aag (a0:Part) (a1:(Bx (List (Int×Part)))):Option Bool:=
 (ak (!decide (a0.of=0)) (ak (!(eu a1.v a0.of)) (some true) (some (!decide ((aV a1.v a0.of (⟨0,0,0,0,0,(⟨0,0⟩:Interval),(⟨0,0,0⟩:az),(⟨0,0,0⟩:az)⟩:Part)).of=0)))) (some false))
noncomputable def MM (a0:Part) (a1:(Bx (List (Int×Part)))):Option Bool:=
 ag (aag a0 a1) fun jH=>
 some jH
noncomputable def RD (aO:Int):Option ((Int)⊕((Int)⊕(Unit))):=
 aG (ax (aO+1)) (some (.inl (aO+1)))
noncomputable def Ml (a0:(List Part)) (a1:uA):Int→Option ((Int)⊕((Int)⊕(Unit))):=fun(aO:Int)=>
 ak (decide (aO < (a0.length:Int))) (ag (aP a0 aO) fun gY=>
 ag (MM gY a1.v0) fun nW=>
 ak nW (some (.inr (.inl aO)))
 (RD aO))
 (some (.inr (.inr ())))
noncomputable def YO:Option Int:=
 some (-1)
noncomputable def Mk (a0:(List Part)) (a1:uA):Option Int:=
 ag (aH (Ml a0 a1) 0) fun uf=>
 match uf with
 | .inl BF=>some BF
 | .inr ()=>YO
noncomputable def KK (a0:(List Part)) (a1:uA):Option Bool:=
 ag (Mk a0 a1) fun x2=>
 some (decide (0≤x2))
noncomputable def Ug (sJ:Int) (GG:(List (Int×Part))):Option (((List (Int×Part))×Int)⊕((Bool)⊕((List (Int×Part))))):=
 aG (ax (sJ+1)) (some (.inl (GG,(sJ+1))))
noncomputable def Ol (a0:(List Part)):((List (Int×Part))×Int)→Option (((List (Int×Part))×Int)⊕((Bool)⊕((List (Int×Part))))):=fun(Aq,sJ)=>
 ak (decide (sJ < (a0.length:Int))) (ag (aP a0 sJ) fun sC=>
 ag (Oq sC) fun B4=>
 ak (!B4) (some (.inr (.inl false)))
 (Ug sJ (cq Aq sC.id sC)))
 (some (.inr (.inr Aq)))
noncomputable def aco (a0:(List Part)) (qE:(List (Int×Part))):Option Bool:=
 (ak (decide ((qE.length:Int)=(a0.length:Int))) (ag (KK a0 (⟨(⟨qE⟩:(Bx (List (Int×Part))))⟩:uA)) fun Dz=>
 some (!Dz)) (some false))
noncomputable def Uf (a0:(List Part)) (qE:(List (Int×Part))):Option Bool:=
 ag (aco a0 qE) fun aez=>
 some aez
noncomputable def Oj (a0:(List Part)):Option Bool:=
 ag (wE (a0.length:Int) 1 60) fun x3=>
 ak (!x3) (some false)
 (ag (aH (Ol a0) ([],0)) fun o47=>
 match o47 with
 | .inl ayJ=>some ayJ
 | .inr ayK=>Uf a0 ayK)
noncomputable def OH (a0:ae) (a1:(Bx (List (Int×Part)))):Option Bool:=
 some (!(eu a1.v a0.part))
noncomputable def K3 (a0:ae) (a1:(Bx (List (Int×Part)))):Option Bool:=
 ag (BU a0.bM) fun x3=>
 ag (BU ((aV a1.v a0.part (⟨0,0,0,0,0,(⟨0,0⟩:Interval),(⟨0,0,0⟩:az),(⟨0,0,0⟩:az)⟩:Part)).low)) fun x5=>
 ag (BU ((aV a1.v a0.part (⟨0,0,0,0,0,(⟨0,0⟩:Interval),(⟨0,0,0⟩:az),(⟨0,0,0⟩:az)⟩:Part)).high)) fun x7=>
 ag (wE x3 x5 x7) fun x9=>
 some (!x9)
noncomputable def RF (aO:Int):Option ((Int)⊕((Int)⊕(Unit))):=
 aG (ax (aO+1)) (some (.inl (aO+1)))
noncomputable def Mm (a0:(List ae)) (a1:sO):Int→Option ((Int)⊕((Int)⊕(Unit))):=fun(aO:Int)=>
 ak (decide (aO < (a0.length:Int))) (ag (aP a0 aO) fun gY=>
 ag (OH gY a1.v0) fun nW=>
 ak nW (some (.inr (.inl aO)))
 (RF aO))
 (some (.inr (.inr ())))
noncomputable def YP:Option Int:=
 some (-1)
noncomputable def RE (a0:(List ae)) (a1:sO):Option Int:=
 ag (aH (Mm a0 a1) 0) fun uf=>
 match uf with
 | .inl BF=>some BF
 | .inr ()=>YP
noncomputable def KL (a0:(List ae)) (a1:sO):Option Bool:=
 ag (RE a0 a1) fun x2=>
 some (decide (0≤x2))
noncomputable def RA (aO:Int):Option ((Int)⊕((Int)⊕(Unit))):=
 aG (ax (aO+1)) (some (.inl (aO+1)))
noncomputable def Mi (a0:(List ae)) (a1:sP):Int→Option ((Int)⊕((Int)⊕(Unit))):=fun(aO:Int)=>
 ak (decide (aO < (a0.length:Int))) (ag (aP a0 aO) fun gY=>
 ag (K3 gY a1.v0) fun nW=>
 ak nW (some (.inr (.inl aO)))
 (RA aO))
 (some (.inr (.inr ())))
noncomputable def YM:Option Int:=
 some (-1)
noncomputable def Rz (a0:(List ae)) (a1:sP):Option Int:=
 ag (aH (Mi a0 a1) 0) fun uf=>
 match uf with
 | .inl BF=>some BF
 | .inr ()=>YM
noncomputable def KJ (a0:(List ae)) (a1:sP):Option Bool:=
 ag (Rz a0 a1) fun x2=>
 some (decide (0≤x2))
noncomputable def OK (fI:Int) (GA:(List (Int×Part))):Option (((List (Int×Part))×Int)⊕(((List (Int×Part))))):=
 aG (ax (fI+1)) (some (.inl (GA,(fI+1))))
noncomputable def OL (a0:(List Part)):((List (Int×Part))×Int)→Option (((List (Int×Part))×Int)⊕(((List (Int×Part))))):=fun(Ar,fI)=>
 ak (decide (fI < (a0.length:Int))) (ag (aP a0 fI) fun ig=>
 ak (decide (ig.of=0)) (OK fI (cq Ar ig.id ig))
 (OK fI Ar))
 (some (.inr Ar))
noncomputable def ac0:Option Int:=
 some 0
noncomputable def UG (a1:(List ae)) (nY:(List (Int×Part))):Option Int:=
 ag (KL a1 (⟨(⟨nY⟩:(Bx (List (Int×Part))))⟩:sO)) fun sC=>
 ak sC (some 22)
 (ag (KJ a1 (⟨(⟨nY⟩:(Bx (List (Int×Part))))⟩:sP)) fun B5=>
 ak B5 (some 20)
 (ac0))
noncomputable def F6 (a0:(List Part)) (a1:(List ae)):Option Int:=
 ag (aH (OL a0) ([],0)) fun ayx=>
 UG a1 ayx
structure qF where
instance:au qF:=⟨fun _=> .fn 70,fun _=>⟨⟩,1,fun _=>rfl,fun _=>rfl,by simp[D.cells,D.one]⟩
theorem rT (c:qF):(enc c:D) = .fn 70:=rfl
theorem rP (d:D):(dec d:qF)=⟨⟩:=rfl
theorem su:size qF=1:=rfl
theorem rW (c:qF):(⟨⟩:qF)=c:=rfl
structure y5 where
 v0:(Bx qF)
 v1:(Bx Int)
instance:au y5:=⟨fun c=> .aR 110 [enc c.v0,enc c.v1],fun d=>match d with | .aR _ [a0,a1]=>⟨dec a0,dec a1⟩ | _=>⟨dec D.qA,dec D.qA⟩,1,fun c=>by simp only[lj],fun _=>rfl,by simp[D.cells,D.one]⟩
theorem rQ (c:y5):(enc c:D) = .aR 110 [enc c.v0,enc c.v1]:=rfl
theorem rN (g:FuncId) (a0:D) (a1:D):(dec (.aR g [a0,a1]):y5)=⟨dec a0,dec a1⟩:=rfl
theorem so:size y5=1:=rfl
theorem rU (c:y5):(⟨c.v0,c.v1⟩:y5)=c:=rfl
structure uB where
instance:au uB:=⟨fun _=> .fn 41,fun _=>⟨⟩,1,fun _=>rfl,fun _=>rfl,by simp[D.cells,D.one]⟩
theorem rR (c:uB):(enc c:D) = .fn 41:=rfl
theorem rO (d:D):(dec d:uB)=⟨⟩:=rfl
theorem sr:size uB=1:=rfl
theorem rV (c:uB):(⟨⟩:uB)=c:=rfl
noncomputable def RL (a0:ae) (a1:(Bx qF)) (a2:(Bx Int)):Option Bool:=
 ag (Qo a0) fun x2=>
 some (decide (x2=a2.v))
noncomputable def RC (aO:Int):Option ((Int)⊕((Int)⊕(Unit))):=
 aG (ax (aO+1)) (some (.inl (aO+1)))
noncomputable def Mj (a0:(List ae)) (a1:y5):Int→Option ((Int)⊕((Int)⊕(Unit))):=fun(aO:Int)=>
 ak (decide (aO < (a0.length:Int))) (ag (aP a0 aO) fun gY=>
 ag (RL gY a1.v0 a1.v1) fun nW=>
 ak nW (some (.inr (.inl aO)))
 (RC aO))
 (some (.inr (.inr ())))
noncomputable def YN:Option Int:=
 some (-1)
noncomputable def RB (a0:(List ae)) (a1:y5):Option Int:=
 ag (aH (Mj a0 a1) 0) fun uf=>
 match uf with
 | .inl BF=>some BF
 | .inr ()=>YN
noncomputable def K5 (a0:(List ae)) (a1:qF) (a2:Int):Option Int:=
 ag (RB a0 (⟨(⟨a1⟩:(Bx qF)),(⟨a2⟩:(Bx Int))⟩:y5)) fun x2=>
 some x2
noncomputable def SK (a0:aa):Option Bool:=
 ag (Hu a0) fun x2=>
 some (!x2)
noncomputable def Ry (aO:Int):Option ((Int)⊕((Int)⊕(Unit))):=
 aG (ax (aO+1)) (some (.inl (aO+1)))
noncomputable def Mh (a0:(List aa)):Int→Option ((Int)⊕((Int)⊕(Unit))):=fun(aO:Int)=>
 ak (decide (aO < (a0.length:Int))) (ag (aP a0 aO) fun gY=>
 ag (SK gY) fun nW=>
 ak nW (some (.inr (.inl aO)))
 (Ry aO))
 (some (.inr (.inr ())))
noncomputable def YL:Option Int:=
 some (-1)
noncomputable def Rx (a0:(List aa)) (a1:uB):Option Int:=
 ag (aH (Mh a0) 0) fun uf=>
 match uf with
 | .inl BF=>some BF
 | .inr ()=>YL
noncomputable def Eg (a0:(List aa)) (a1:uB):Option Bool:=
 ag (Rx a0 a1) fun x2=>
 some (decide (0≤x2))
noncomputable def Un (fI:Int):Option ((Int)⊕((Bool)⊕(Unit))):=
 aG (ax (fI+1)) (some (.inl (fI+1)))
noncomputable def Ow (a0:(List ae)) (a1:(List ae)):Int→Option ((Int)⊕((Bool)⊕(Unit))):=fun(fI:Int)=>
 ak (decide (fI < (a0.length:Int))) (ag (aP a0 fI) fun rA=>
 ag (aP a1 fI) fun An=>
 ak (!decide (rA=An)) (some (.inr (.inl false)))
 (Un fI))
 (some (.inr (.inr ())))
noncomputable def Um:Option Bool:=
 some true
noncomputable def Ov (a0:(List ae)) (a1:(List ae)):Option Bool:=
 ak (!decide ((a0.length:Int)=(a1.length:Int))) (some false)
 (ag (aH (Ow a0 a1) 0) fun o40=>
 match o40 with
 | .inl ayF=>some ayF
 | .inr ()=>Um)
structure y6 where
 v0:(Bx (List (Int×Int)))
instance:au y6:=⟨fun c=> .aR 136 [enc c.v0],fun d=>match d with | .aR _ [a0]=>⟨dec a0⟩ | _=>⟨dec D.qA⟩,1,fun c=>by simp only[lj],fun _=>rfl,by simp[D.cells,D.one]⟩
theorem tU (c:y6):(enc c:D) = .aR 136 [enc c.v0]:=rfl
theorem tR (g:FuncId) (a0:D):(dec (.aR g [a0]):y6)=⟨dec a0⟩:=rfl
theorem ui:size y6=1:=rfl
theorem tV (c:y6):(⟨c.v0⟩:y6)=c:=rfl
noncomputable def SF (a:ae) (b:ae) (at_:(Bx (List (Int×Int)))):Option Int:=
 ag (Bz a.start) fun(x2,x3)=>
 ag (Bz b.start) fun(x6,x7)=>
 ag (FA a.bM) fun(dw,cb)=>
 ag (FA b.bM) fun(aU,aX)=>
 aG (ax ((aV at_.v a.dC 0) - (aV at_.v b.dC 0))) (aG (ax (a.part - b.part)) (aG (ax (x2 - x6)) (aG (ax (a.fR - b.fR)) (aG (ax (dw - aU)) (aG (ax (a.id - b.id)) (ag (KF ([((aV at_.v a.dC 0) - (aV at_.v b.dC 0)),(a.part - b.part),(x2 - x6),(a.fR - b.fR),(dw - aU),(a.id - b.id)])) fun fT=>
 some fT))))))
@[reducible] def aw5:e8:=⟨False⟩
attribute [local instance] cJ aw5
def iX:List Int→Int
 | []=>0
 | x::l=>if x=0 then iX l else x
def S0 (z:Int):Int⊕Unit:=if z=0 then .inr () else .inl z
theorem anx:∀ (l:List Int),l.length≤1000→KF l=some (iX l):=by
 intro l hl
 have key:∀ (n k:Nat),k+n=l.length→aH (Cq l) (k:Int)=some (S0 (iX (l.drop k))):=by
  intro n
  induction n with
  | zero=>
   intro k hk
   rw[List.drop_eq_nil_of_le (by omega)]
   refine si ?_
   unfold Cq
   rw[av (by simp;omega)];rfl
  | succ n ih=>
   intro k hk
   have aN:k < l.length:=by omega
   have hx:l[k]?=some l[k]:=List.getElem?_eq_getElem aN
   rw[List.drop_eq_getElem_cons aN]
   simp only[iX]
   by_cases h0:l[k]=0
   ·rw[if_pos h0]
    have hs:Cq l (k:Int)=some (.inl ((k+1:Nat):Int)):=by
     unfold Cq P4
     rw[ar (by simpa using aN),bl (bm hx)]
     simp only[h0,decide_true,Bool.not_true,ak]
     rw[aZ (by omega)];rfl
    rw[vl hs]
    exact ih (k+1) (by omega)
   rw[if_neg h0]
   refine si ?_
   unfold Cq
   rw[ar (by simpa using aN),bl (bm hx)]
   simp[h0,ak,S0]
 unfold KF
 rw[show(0:Int)=((0:Nat):Int) by rfl,key l.length 0 (by omega),aj,List.drop_zero]
 by_cases h:iX l=0
 ·simp[h,P3,S0]
 simp[h,S0]
def dK {α:Type} (K:α→List Int) (a b:α):Int:=iX ((K a).zipWith (· - ·) (K b))
theorem afX:∀ l:List Int,iX (l.zipWith (· - ·) l)=0
 | []=>rfl
 | x::l=>by
  simp only[List.zipWith_cons_cons,iX]
  rw[if_pos (by omega)];exact afX l
theorem V9:∀ (a b c:List Int),a.length=b.length→b.length=c.length→iX (a.zipWith (· - ·) b) < 0→iX (b.zipWith (· - ·) c) < 0→iX (a.zipWith (· - ·) c) < 0
 | [],[],[],_,_,h,_=>by simp[iX] at h
 | x::a,y::b,z::c,h1,h2,h3,h4=>by
  simp only[List.zipWith_cons_cons,iX] at h3 h4 ⊢
  have ih:=V9 a b c (by simpa using h1) (by simpa using h2)
  split at h3<;>split at h4<;>split<;>first | omega | exact ih h3 h4
 | [],_::_,_,h,_,_,_=>by simp at h
 | _::_,[],_,h,_,_,_=>by simp at h
 | _::_,_::_,[],_,h,_,_=>by simp at h
 | [],[],_::_,_,h,_,_=>by simp at h
theorem V8:∀ (a b c:List Int),a.length=b.length→b.length=c.length→¬ iX (a.zipWith (· - ·) b) < 0→¬ iX (b.zipWith (· - ·) c) < 0→¬ iX (a.zipWith (· - ·) c) < 0
 | [],[],[],_,_,h,_=>by simp[iX]
 | x::a,y::b,z::c,h1,h2,h3,h4=>by
  simp only[List.zipWith_cons_cons,iX] at h3 h4 ⊢
  have ih:=V8 a b c (by simpa using h1) (by simpa using h2)
  split at h3<;>split at h4<;>split<;>first | omega | exact ih h3 h4
 | [],_::_,_,h,_,_,_=>by simp at h
 | _::_,[],_,h,_,_,_=>by simp at h
 | _::_,_::_,[],_,h,_,_=>by simp at h
 | [],[],_::_,_,h,_,_=>by simp at h
theorem afY:∀ (a b:List Int),a.length=b.length→iX (a.zipWith (· - ·) b)=0→a=b
 | [],[],_,_=>rfl
 | x::a,y::b,h1,h2=>by
  simp only[List.zipWith_cons_cons,iX] at h2
  split at h2
  ·rename_i h;rw[afY a b (by simpa using h1) h2];congr 1;omega
  rename_i h;exact absurd h2 h
 | [],_::_,h,_=>by simp at h
 | _::_,[],h,_=>by simp at h
theorem V7:∀ (a b:List Int),a.length=b.length→iX (b.zipWith (· - ·) a) = - iX (a.zipWith (· - ·) b)
 | [],[],_=>rfl
 | x::a,y::b,h=>by
  have ih:=V7 a b (by simpa using h)
  simp only[List.zipWith_cons_cons,iX]
  split<;>split<;>omega
 | [],_::_,h=>by simp at h
 | _::_,[],h=>by simp at h
theorem UF {α:Type} {K:α→List Int} {n:Nat} (hK:∀ a,(K a).length=n):Go.Sort.SWO (Go.Proofs.ltOf (dK K)) where
 irrefl x:=by
  unfold Go.Proofs.ltOf dK
  rw[afX];rfl
 trans x y z h1 h2:=by
  have h1:=of_decide_eq_true h1
  have h2:=of_decide_eq_true h2
  exact decide_eq_true (V9 (K x) (K y) (K z) (by rw[hK,hK]) (by rw[hK,hK]) h1 h2)
 ntrans x y z h1 h2:=by
  have h1:=of_decide_eq_false h1
  have h2:=of_decide_eq_false h2
  exact decide_eq_false (V8 (K x) (K y) (K z) (by rw[hK,hK]) (by rw[hK,hK]) h1 h2)
theorem anF {α:Type} {K:α→List Int} {n:Nat} (hK:∀ a,(K a).length=n) {a b:α} (h1:¬ dK K a b < 0) (h2:¬ dK K b a < 0):K a=K b:=by
 have h3:=V7 (K a) (K b) (by rw[hK,hK])
 unfold dK at h1 h2
 rw[h3] at h2
 exact afY _ _ (by rw[hK,hK]) (by omega)
def fx (q:Rat):Prop:=wy q∧0≤q.n∧Int.tmod 1680 q.d=0
instance (q:Rat):Decidable (fx q):=inferInstanceAs (Decidable (_∧_∧_))
def gM (q:Rat):Int:=q.n*Int.tdiv 1680 q.d
theorem UJ {q:Rat} (h:wy q):0≤Int.tdiv 1680 q.d∧Int.tdiv 1680 q.d≤1680:=by
 have h1:=h.1
 obtain⟨k,hk⟩:∃ k:Nat,q.d=k:=⟨q.d.toNat,by omega⟩
 rw[hk]
 exact⟨Int.tdiv_nonneg (by omega) (by omega),by
  have:=Int.tdiv_le_self (a:=1680) (k:Int) (by omega);exact this⟩
theorem B1 {q:Rat} (h:fx q):0≤gM q∧gM q≤1680000000000:=by
 obtain⟨h1,h2,_⟩:=h
 obtain⟨h3,h4⟩:=UJ h1
 have h5:=h1.2.2.2.1
 unfold gM
 refine⟨Int.mul_nonneg h2 h3,?_⟩
 calc q.n*Int.tdiv 1680 q.d≤1000000000*1680:=Int.mul_le_mul h5 h4 h3 (by omega)
  _=1680000000000:=by decide
theorem C9 (q:Rat):Bz q=some (if fx q then(gM q,true) else(0,false)):=by
 unfold Bz aaB
 rw[ab6,aj]
 by_cases h1:wy q
 ·have hd:q.d≠0:=by have:=h1.1;omega
  rw[av (by simp[h1])]
  by_cases h2:q.n < 0
  ·rw[ar (by simp[h2]),aj,ar rfl,if_neg (by unfold fx;omega)]
  rw[av (by simp[h2]),cu hd,aj]
  by_cases h3:Int.tmod 1680 q.d=0
  ·have fB:fx q:=⟨h1,by omega,h3⟩
   have:=B1 fB
   have:=UJ h1
   unfold gM at *
   rw[av (by simp[h3]),cu hd,aZ (by omega),aZ (by omega),if_pos fB]
  rw[ar (by simp[h3]),if_neg (by unfold fx;simp[h3])]
 rw[ar (by simp[h1]),aj,ar rfl,if_neg (fun h=>h1 h.1)]
def nK (at_:List (Int×Int)) (a:ae):List Int:=[aV at_ a.dC 0,a.part,gM a.start,a.fR,num a.bM,a.id]
theorem MW (at_:List (Int×Int)) (a:ae):(nK at_ a).length=6:=rfl
def xw (at_:List (Int×Int)) (a:ae):Prop:=(0≤aV at_ a.dC 0∧aV at_ a.dC 0≤1000000)∧(0≤a.part∧a.part≤1000000)∧fx a.start∧(0≤a.fR∧a.fR≤1000000)∧fO a.bM∧(0≤a.id∧a.id≤1000000)
instance (at_:List (Int×Int)) (a:ae):Decidable (xw at_ a):=inferInstanceAs (Decidable (_∧_∧_∧_∧_∧_))
theorem ajj {p:az} (h:fO p) : -1000≤num p∧num p≤1000:=by
 have:=aaw p.step
 unfold fO at h
 unfold num
 omega
theorem avD {at_:List (Int×Int)} {a b:ae} (ha:xw at_ a) (hb:xw at_ b):SF a b ⟨at_⟩=some (dK (nK at_) a b):=by
 obtain⟨a1,a2,a3,a4,a5,a6⟩:=ha
 obtain⟨b1,b2,b3,b4,b5,b6⟩:=hb
 have ta:=B1 a3
 have tb:=B1 b3
 have na:=ajj a5
 have nb:=ajj b5
 unfold SF
 rw[C9,if_pos a3,aj]
 dsimp only
 rw[C9,if_pos b3,aj]
 dsimp only
 rw[aa6,if_pos a5,aj]
 dsimp only
 rw[aa6,if_pos b5,aj]
 dsimp only
 rw[aZ (by omega),aZ (by omega),aZ (by omega),aZ (by omega),aZ (by omega),aZ (by omega),anx _ (by simp),aj]
 rfl
end Go.Proofs.YtjigeffmmcmlnaaGreatDoor
namespace Go.Proofs.YtjigeffmmcmlnaaGreatDoor
open Go Go.an au
noncomputable def Oc (ct:Int) (GC:(List ae)):Option (((List ae)×Int)⊕(((List ae)))):=
 aG (ax (ct+1)) (some (.inl (GC,(ct+1))))
noncomputable def Od (p3:(List ae)) (p4:Int):((List ae)×Int)→Option (((List ae)×Int)⊕(((List ae)))):=fun(aD,ct)=>
 ak (decide (ct < (p3.length:Int))) (ag (aP p3 ct) fun ej=>
 ak (!decide (ej.id=p4)) (ag (aP p3 ct) fun wI=>
 aG (((aD++[wI]):List ae).length*96≤140737488355328) (Oc ct (aD++[wI])))
 (Oc ct aD))
 (some (.inr aD))
noncomputable def ab4 (DG:(List ae)):Option (List ae):=
 some DG
noncomputable def Ob (p0:Score) (p1:aa) (p2:Int) (p3:(List ae)) (p4:Int):Option (List ae):=
 ag (aH (Od p3 p4) ([],0)) fun ayE=>
 ab4 ayE
noncomputable def Oa (a0:Score) (a1:aa):Option (Score×Int):=
 ag (I4 a1) fun x3=>
 ak (!x3) (some (a0,1))
 (ag (Ob a0 a1 0 a0.notes a1.note.id) fun cb=>
 ak (decide (a1.kind=2)) (ak (decide ((cb.length:Int)=(a0.notes.length:Int))) (some (a0,23))
 (some ((⟨a0.version,a0.bars,a0.parts,cb⟩:Score),0)))
 (aG (((cb++[a1.note]):List ae).length*96≤140737488355328) (ag (NL a0 a0.version (cb++[a1.note])) fun(ei,kA)=>
 ak (!decide (kA=0)) (some (a0,kA))
 (some (ei,0)))))
noncomputable def abO (a0:Score) (a1:Int):Option Bool:=
 (ag (z8 a0) fun x7=>
 ak (!x7) (some true) (ag (FP a1 1 1000000) fun x9=>
 some (!x9)))
noncomputable def TO (sK:Int) (JL:Score) (JM:(List Int)):Option ((Score×(List Int)×Int)⊕((Score×(List Int)))):=
 aG (ax (sK+1)) (some (.inl (JL,JM,(sK+1))))
noncomputable def NS (a2:(List aa)):(Score×(List Int)×Int)→Option ((Score×(List Int)×Int)⊕((Score×(List Int)))):=fun(tJ,bW,sK)=>
 ak (decide (sK < (a2.length:Int))) (ag (aP a2 sK) fun xL=>
 ag (Oa tJ xL) fun(wK,wL)=>
 aG (((bW++[wL]):List Int).length*8≤140737488355328) (TO sK wK (bW++[wL])))
 (some (.inr (tJ,bW)))
noncomputable def abN (a1:Int) (DD:Score) (Gn:(List Int)):Option (Score×(List Int)×Int):=
 some (({ DD with version:=a1 }),Gn,0)
noncomputable def IY (a0:Score) (a1:Int) (a2:(List aa)):Option (Score×(List Int)×Int):=
 ak (decide (1000 < (a2.length:Int))) (some ((⟨0,[],[],[]⟩:Score),[],2))
 (ag (abO a0 a1) fun adI=>
 ak adI (some ((⟨0,[],[],[]⟩:Score),[],1))
 (ag (aH (NS a2) (a0,[],0)) fun o56=>
 match o56 with
 | (ayP,ayQ)=>abN a1 ayP ayQ))
@[reducible] def aw3:e8:=⟨False⟩
attribute [local instance] cJ aw3
def eK (e:aa):List Int:=[e.clock,e.ev]
theorem aoj (e:aa):(eK e).length=2:=rfl
def aQ (x y:aa):Int:=if jT x.clock y.clock=0 then jT x.ev y.ev else jT x.clock y.clock
theorem azJ (a b c d:Int):Ou [a,b] [c,d]=some (if jT a c=0 then jT b d else jT a c):=by
 have e0:jT a c=0→wB [a,b] [c,d] 0=some (.inl 1):=by
  intro h;simp[wB,Dp,ak,ag,aP,KE,h,aG,ax]
 have e0':jT a c≠0→wB [a,b] [c,d] 0=some (.inr (.inl (jT a c))):=by
  intro h;simp[wB,Dp,ak,ag,aP,KE,h,aG,ax]
 have e1:jT b d=0→wB [a,b] [c,d] 1=some (.inl 2):=by
  intro h;simp[wB,Dp,ak,ag,aP,KE,h,aG,ax]
 have e1':jT b d≠0→wB [a,b] [c,d] 1=some (.inr (.inl (jT b d))):=by
  intro h;simp[wB,Dp,ak,ag,aP,KE,h,aG,ax]
 have e2:wB [a,b] [c,d] 2=some (.inr (.inr ())):=by
  simp[wB,Dp,ak,ag,aP,KE,aG,ax]
 unfold Ou
 by_cases h0:jT a c=0
 ·by_cases h1:jT b d=0
  ·rw[vl (e0 h0),vl (e1 h1),si e2]
   simp[ag,Ul,ak,h0,h1]
  rw[vl (e0 h0),si (e1' h1)]
  simp[ag,h0]
 rw[si (e0' h0)]
 simp[ag,h0]
theorem VJ (x y:aa):Cw x y=some (aQ x y):=by
 unfold Cw Cy
 simp[ag,azJ,aQ]
theorem ava:Go.Proofs.ltOf aQ=Go.Proofs.ltOf (dK eK):=by
 funext x y
 unfold Go.Proofs.ltOf aQ dK eK jT
 simp only[List.zipWith_cons_cons,List.zipWith_nil_left,iX]
 rw[decide_eq_decide]
 repeat' split
 all_goals omega
theorem OJ:Go.Sort.SWO (Go.Proofs.ltOf aQ):=by
 rw[ava];exact UF aoj
end Go.Proofs.YtjigeffmmcmlnaaGreatDoor
