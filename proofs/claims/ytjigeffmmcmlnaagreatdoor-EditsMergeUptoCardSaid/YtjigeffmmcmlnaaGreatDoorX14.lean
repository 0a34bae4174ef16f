import Derived.Test.YtjigeffmmcmlnaaGreatDoorX13
set_option linter.all false
set_option linter.unnecessarySimpa false
set_option linter.deprecated false
set_option linter.unusedVariables false
set_option linter.unusedSimpArgs false
set_option linter.unusedSectionVars false
namespace Go.Proofs.YtjigeffmmcmlnaaGreatDoor
open Go Go.an au
set_option maxRecDepth 4000
attribute [local instance] cJ
attribute [local congr] ab.kO
attribute [local simp] bu dz dU evalOp bd an.get fk strip bq an.after iI typed gr holds cR R.ok R.bad gI iU jk gW ku ji Op.operands Call.operands dY dA dQ dR iH il fm im gK fg nj nk nm np fK lH lL lJ fL jq lg lp lk ln ng ni jv mD bf D.cells T.eT D.one gH fV gb fo setAt eI fC jC fa gN bw cX iy fU iA gv jV arith et iM jf dG gC iN TD.agg env bR List.map fe iD ff gn gT mapOf iz iq dr mH mI mJ mK mL mM mN mO lK nh ll me mC my mB mr mG lq mi ml jw mE ko jh fh du fj iP gJ jB gone unbox iW fE gB gG lI lh nf jg jS List.contains_cons List.contains_nil lr iO iC iB gm ib gX lC kY mW l6 mw mu mz kr mF mh mj P2.list mA lB kW mU lF lb mZ l9 jQ kM lu kR mP lW jI kC lA kV mT l4 jM kH lE la mY l8 jP kL lD kZ mX l7 jO kJ jX kX mV l5 jN kI lG lf nc ma jW kT mR lY jK kF lv kS mQ lX jJ kD lz kU mS lZ jL kG kQ km lN lO lT lU lP lV lQ lR lS lM nD nH kv kz iQ nB nC nE nF nG nI nJ jD jE nL nM nN nO nP nQ nR nS nq nr nu nv nw nx ny nz nA
section
set_option maxRecDepth 10000
open Go.RowKit
attribute [local simp] eJ
theorem V2:Flat ae 12:=⟨fun x=>rfl,fun x=>rfl,fun x y hy=>by
 rw[jX] at hy
 simp only[D.cells,List.mem_cons,List.not_mem_nil,or_false] at hy
 rcases hy with rfl | rfl | rfl | rfl | rfl | rfl | rfl | rfl | rfl | rfl | rfl | rfl<;>rfl⟩
theorem V1:Flat aa 15:=⟨fun x=>rfl,fun x=>rfl,fun x y hy=>by
 rw[jW] at hy
 simp only[D.cells,List.mem_cons,List.not_mem_nil,or_false] at hy
 rcases hy with rfl | rfl | rfl | rfl | rfl | rfl | rfl | rfl | rfl | rfl | rfl | rfl | rfl | rfl | rfl<;>rfl⟩
theorem aeS:∀ (x:List (Int×Int)),∃ n:Int,∀ p∈x,p.1 < n
 | []=>⟨0,by simp⟩
 | p::x=>by
  obtain⟨n,hn⟩:=aeS x
  refine⟨max n (p.1+1),fun q hq=>?_⟩
  rcases List.mem_cons.1 hq with rfl | hq
  ·omega
  have:=hn q hq;omega
theorem avC (at_:List (Int×Int)):∃ a,xw at_ a:=by
 obtain⟨n,hn⟩:=aeS at_
 refine⟨⟨1,1,n,0,0,⟨0,1⟩,⟨1,1⟩,⟨0,0,4⟩⟩,?_,by dsimp only;omega,show fx ⟨0,1⟩ by decide,by dsimp only;omega,show fO ⟨0,0,4⟩ by decide,by dsimp only;omega⟩
 have:aV at_ n 0=0:=by
  have h:gU n at_=none:=by
   unfold gU
   rw[List.findIdx?_eq_none_iff]
   intro p hp
   have:=hn p hp
   simp;omega
  simp[aV,h]
 simp only[this]
 decide
theorem anX (at_:List (Int×Int)) (x y:ae) (hx:xw at_ x) (hy:xw at_ y):@ee (@Cv ⟨True⟩) Tryz.prog 136 ([enc x,enc y]++[.box (.map (at_.map kE) (at_.map vE))]) (.int .i64 (dK (nK at_) x y)):=by
 have h0:acE [enc x,enc y,enc (⟨at_⟩:Bx (List (Int×Int)))]=some (.int .i64 (dK (nK at_) x y),enc x=enc x∧enc y=enc y∧enc (⟨at_⟩:Bx (List (Int×Int)))=enc (⟨at_⟩:Bx (List (Int×Int)))∧True):=by
  simp only[acE,fj,lj,avD hx hy,Option.map_some,gJ,Option.getD_some,Option.isSome_some]
  rfl
 exact @aL.AH (@Cv ⟨True⟩) _ _ _ (@awi ⟨True⟩) _ _ _ h0 ⟨rfl,rfl,rfl,trivial⟩
theorem aoK {at_:List (Int×Int)} {l:List AO} {id:Nat} {xs:List ae} (ho:l[id]?=some (.row 50 12 (xs.map enc))) (hx:xs.length < 4611686018427387904) (fB:∀ x∈xs,xw at_ x) (ha:oO (dK (nK at_)) xs) :
  qG Tryz.prog 135 [.row id,.d (.aR 136 [.box (.map (at_.map kE) (at_.map vE))])] l (.d (.bn [])) (l.set id (.row 50 12 ((bD (dK (nK at_)) xs).map enc))):=by
 haveI:Inhabited {x:ae // xw at_ x}:=⟨Classical.choice (by obtain⟨a,h⟩:=avC at_;exact⟨⟨a,h⟩⟩)⟩
 refine @aoL ae _ (@Cv ⟨True⟩) (@Cv aj8) trivial rfl _ _ _ _ _ _ _ _ _ V2 (UF (MW at_)) (anX at_) (fun b c d w vs Xz hH hb hd=>?_) (fun p c fv w=>AnyF.slices_SortFunc_none { Tryz.aln with } p c fv w) _ _ _ ho hx fB ha
 exact AnyQ.slices_SortFunc_eq Tryz.aln 12 Tryz.isAgg50 Tryz.sizeOf50 _ (fun x=>by simp[pF,V2.len]) (fun x v hv=>by
  simp only[pF,List.mem_map] at hv
  obtain⟨y,hy,rfl⟩:=hv
  have:=V2.sc _ y hy
  cases y<;>simp[BT] at this<;>rfl) _ (acZ (UF (MW at_))) 136 vs b 0 c d w (Enters.of Tryz.func136 (by decide)) Xz hH hb hd
end
section
set_option maxRecDepth 10000
open Go.RowKit
attribute [local simp] eJ
theorem axG (els:List D) (hlen:els.length*96≤140737488355328):DM Tryz.prog 71 [.slice 12 els] (.row 0) [.row 50 12 els]:=by
 haveI:=cJ
 have hV:bO Tryz.prog (env []):=aW trivial
 refine DM.of Tryz.func71 rfl (by rw[Tryz.ntmps71];simp) rfl fun R hR w0 I0 Q hQ=>?_
 rw[Tryz.ntmps71]
 refine ab.rS hV none [0] fun K k1=>?_
 simp
 refine k1 _ ?_
 refine ab.wA fun _ k2=>?_
 refine ab.wA fun _ k3=>ab.nilCheck (t:=24) (k:=4) hV rfl rfl rfl rfl rfl rfl (by decide) (by decide) iQ rfl fun b hb=>k3 _ ?_
 refine ab.cond (b:=b) rfl (fun h=>?_) fun h=>?_
 ·have he:=hb h
  subst he
  refine ab.rS hV none [2] fun K k4=>?_
  simp
  refine k4 _ ?_
  refine ab.ret ?_
  refine hQ _ _ (.inl rfl) ?_
  exact Sub.trans (Sub.pb 2 50 12 rfl) (Sub.bY [0] (by decide) rfl rfl ⟨rfl,trivial⟩)
 refine ab.skip (k2 _ ?_)
 refine ab.rS hV none [2] fun K k4=>?_
 simp
 repeat refine And.intro (by omega) ?_
 refine k4 _ ?_
 refine ab.ret ?_
 refine hQ _ _ (.inl rfl) ?_
 exact Sub.bY [1] (by decide) (by simp[mg]) (by simp[ez,AO.bY]) ⟨rfl,trivial⟩
def Ee (ts:List T) (l:List AO):Option FR:=match dQ l ts with
 | some ([.slice 12 els],l1)=>some ⟨.row l1.length,l1++[.row 50 12 els],els.length*96≤140737488355328⟩
 | _=>none
theorem anO {ts:List T} {l:List AO} {r:FR} (h:Ee ts l=some r) (af:r.ob):qG Tryz.prog 71 ts l r.t r.l:=by
 unfold Ee at h
 split at h
 ·rename_i els l1 hd
  cases h
  have:=qG.ajA hd (axG els af) (fun o ho=>by simp at ho;subst ho;exact .inl rfl)
  simpa [T.shift] using this
 cases h
def FU (ks vs:List D):List (Int×Int):=(dec (.box (.map ks vs)):Bx (List (Int×Int))).v
def Dr (els:List D):List ae:=els.map dec
noncomputable def acx (ks vs els:List D):List D:=(bD (dK (nK (FU ks vs))) (Dr els)).map enc
def acw (ks vs els:List D):Prop:=(Dr els).map enc=els∧(FU ks vs).map kE=ks∧(FU ks vs).map vE=vs∧els.length < 4611686018427387904∧(∀ x∈Dr els,xw (FU ks vs) x)∧oO (dK (nK (FU ks vs))) (Dr els)
theorem ali (at_:List (Int×Int)):FU (at_.map kE) (at_.map vE)=at_:=by
 show(dec (enc (⟨at_⟩:Bx (List (Int×Int)))):Bx (List (Int×Int))).v=at_
 rw[lj]
theorem alo (xs:List ae):Dr (xs.map enc)=xs:=by
 simp[Dr,Function.comp_def]
def Uo (at_:List (Int×Int)) (xs:List ae):Prop:=xs.length < 4611686018427387904∧(∀ x∈xs,xw at_ x)∧oO (dK (nK at_)) xs
noncomputable instance (at_:List (Int×Int)) (xs:List ae):Decidable (Uo at_ xs):=Classical.propDecidable _
noncomputable def oK (at_:List (Int×Int)) (xs:List ae):List ae:=bD (dK (nK at_)) xs
theorem Uq (at_:List (Int×Int)) (xs:List ae):acx (at_.map kE) (at_.map vE) (xs.map enc)=(oK at_ xs).map enc:=by
 rw[acx,ali,alo];rfl
theorem Up (at_:List (Int×Int)) (xs:List ae):acw (at_.map kE) (at_.map vE) (xs.map enc)=Uo at_ xs:=by
 unfold acw Uo
 rw[ali,alo]
 simp
noncomputable def FV (ts:List T) (l:List AO):Option FR:=match ts with
 | [.row id,.d (.aR g [.box (.map ks vs)])]=>if g=136 then(match l[id]? with
  | some (.row 50 12 els)=>some ⟨.d (.bn []),l.set id (.row 50 12 (acx ks vs els)),acw ks vs els⟩
  | _=>none) else none
 | _=>none
theorem az3 {ts:List T} {l:List AO} {r:FR} (h:FV ts l=some r) (af:r.ob):qG Tryz.prog 135 ts l r.t r.l:=by
 unfold FV at h
 split at h
 ·rename_i id g ks vs
  split at h
  ·rename_i hg
   subst hg
   split at h
   ·rename_i els hl
    cases h
    obtain⟨h1,h2,h3,h4,h5,h6⟩:=af
    have:=aoK (at_:=FU ks vs) (l:=l) (id:=id) (xs:=Dr els) (by rw[h1];exact hl) (by simpa [Dr] using h4) h5 h6
    rw[h2,h3] at this
    exact this
   cases h
  cases h
 cases h
noncomputable def CB:DL:=fun g ts l=>if g=71 then Ee ts l else if g=135 then FV ts l else none
theorem afQ:G0 Tryz.prog CB:=by
 intro g ts l r hr af
 unfold CB at hr
 split at hr
 ·rename_i hg;subst hg;exact⟨Enters.of Tryz.func71 (by decide),anO hr af⟩
 split at hr
 ·rename_i hg;subst hg;exact⟨Enters.of Tryz.func135 (by decide),az3 hr af⟩
 cases hr
noncomputable def KX (l:List (FuncId×an.Spec)):Env:={ env l with F:=CB }
theorem zj {l:List (FuncId×an.Spec)} (h:vF Tryz.prog l):bO Tryz.prog (KX l):=
 haveI:=cJ
 have h0:=aW h
 ⟨h0.E,h0.C,h0.eq,afQ,h0.prog⟩
noncomputable def P7 (xs:List aT):Option (List aT):=aG (xs.length*32≤140737488355328) (some xs)
noncomputable def al6:an.Spec:=fh fun(a0:List aT)=>(P7 a0).map fun r=>enc r
theorem awO:aL Tryz.prog 73 al6:=by
 haveI:=cJ
 have hV:bO Tryz.prog (env []):=aW trivial
 refine aL.SO (Enters.of Tryz.func73 (by decide)) fun a0 rr hr=>?_
 obtain⟨r,hg,rfl⟩:=C4 hr;clear hr
 refine ee.Dc hV Tryz.func73 rfl Tryz.ntmps73 fun R hR w0 I0 Q hQ=>?_
 unfold P7 at hg
 obtain⟨g1,hg⟩:=aK hg
 cases hg
 have hlen:(a0.map (enc:aT→D)).length*32≤140737488355328:=by simpa using g1
 have e:(enc a0:D) = .slice 4 (a0.map enc):=by simp
 rw[e] at hQ ⊢
 generalize a0.map (enc:aT→D)=els at *
 refine ab.rS hV none [0] fun K k1=>?_
 simp
 refine k1 _ ?_
 refine ab.wA fun _ k2=>?_
 refine ab.wA fun _ k3=>ab.nilCheck (t:=22) (k:=4) hV rfl rfl rfl rfl rfl rfl (by decide) (by decide) kv rfl fun b hb=>k3 _ ?_
 refine ab.cond (b:=b) rfl (fun h=>?_) fun h=>?_
 ·have he:=hb h
  subst he
  refine ab.rS hV none [2] fun K k4=>?_
  simp
  refine k4 _ ?_
  refine ab.ret ?_
  exact hQ _ _ (.inl rfl) rt
 refine ab.skip (k2 _ ?_)
 refine ab.rS hV none [2] fun K k4=>?_
 simp
 repeat refine And.intro (by omega) ?_
 refine k4 _ ?_
 refine ab.ret ?_
 exact hQ _ _ (.inl rfl) rt
noncomputable def P8 (xs:List Part):Option (List Part):=aG (xs.length*104≤140737488355328) (some xs)
noncomputable def al7:an.Spec:=fh fun(a0:List Part)=>(P8 a0).map fun r=>enc r
theorem awP:aL Tryz.prog 74 al7:=by
 haveI:=cJ
 have hV:bO Tryz.prog (env []):=aW trivial
 refine aL.SO (Enters.of Tryz.func74 (by decide)) fun a0 rr hr=>?_
 obtain⟨r,hg,rfl⟩:=C4 hr;clear hr
 refine ee.Dc hV Tryz.func74 rfl Tryz.ntmps74 fun R hR w0 I0 Q hQ=>?_
 unfold P8 at hg
 obtain⟨g1,hg⟩:=aK hg
 cases hg
 have hlen:(a0.map (enc:Part→D)).length*104≤140737488355328:=by simpa using g1
 have e:(enc a0:D) = .slice 13 (a0.map enc):=by simp
 rw[e] at hQ ⊢
 generalize a0.map (enc:Part→D)=els at *
 refine ab.rS hV none [0] fun K k1=>?_
 simp
 refine k1 _ ?_
 refine ab.wA fun _ k2=>?_
 refine ab.wA fun _ k3=>ab.nilCheck (t:=23) (k:=4) hV rfl rfl rfl rfl rfl rfl (by decide) (by decide) kz rfl fun b hb=>k3 _ ?_
 refine ab.cond (b:=b) rfl (fun h=>?_) fun h=>?_
 ·have he:=hb h
  subst he
  refine ab.rS hV none [2] fun K k4=>?_
  simp
  refine k4 _ ?_
  refine ab.ret ?_
  exact hQ _ _ (.inl rfl) rt
 refine ab.skip (k2 _ ?_)
 refine ab.rS hV none [2] fun K k4=>?_
 simp
 repeat refine And.intro (by omega) ?_
 refine k4 _ ?_
 refine ab.ret ?_
 exact hQ _ _ (.inl rfl) rt
end
end Go.Proofs.YtjigeffmmcmlnaaGreatDoor
namespace Go.Proofs.YtjigeffmmcmlnaaGreatDoor
open Go Go.an au
noncomputable def M1 (a0:(List aT)) (a1:(List ae)):Option (List ae):=
 ag (IC a0) fun x2=>
 aG ((a1:List ae).length*96≤140737488355328) (aG (Uo ((⟨(⟨x2⟩:(Bx (List (Int×Int))))⟩:y6).v0.v) a1) (some (oK ((⟨(⟨x2⟩:(Bx (List (Int×Int))))⟩:y6).v0.v) a1)))
noncomputable def IA (a0:(List aT)) (a1:(List ae)):Option ((List ae)×Int):=
 ag (Fw a0 a1) fun x3=>
 ak (!x3) (some ([],1))
 (ag (M1 a0 a1) fun x8=>
 some (x8,0))
noncomputable def acj (a0:Score):Option Bool:=
 (ag (FT a0.version) fun x3=>
 ak (!x3) (some true) (ag (Ix a0.bars) fun x5=>
 ak (!x5) (some true) (ag (Oj a0.parts) fun x7=>
 ak (!x7) (some true) (ag (Fw a0.bars a0.notes) fun x9=>
 ak (!x9) (some true) (ag (F6 a0.parts a0.notes) fun cb=>
 some (!decide (cb=0)))))))
noncomputable def ack (a0:Score) (br:(List ae)) (bc:Int):Option Bool:=
 (ak (decide (bc=0)) (ag (Ov br a0.notes) fun tE=>
 some tE) (some false))
noncomputable def Jc (a0:Score):Option Bool:=
 ag (acj a0) fun adR=>
 ak adR (some false)
 (ag (IA a0.bars a0.notes) fun(br,bc)=>
 ag (ack a0 br bc) fun aea=>
 some aea)
noncomputable def acn (a0:Score) (a1:Int) (a2:(List ae)):Option Bool:=
 (ag (Jc a0) fun x3=>
 ak (!x3) (some true) (ag (FT a1) fun x5=>
 ak (!x5) (some true) (ag (Fw a0.bars a2) fun x7=>
 some (!x7))))
noncomputable def Jd (a0:Score) (a1:Int) (a2:(List ae)):Option (Score×Int):=
 ag (acn a0 a1 a2) fun aeJ=>
 ak aeJ (some ((⟨0,[],[],[]⟩:Score),1))
 (ag (F6 a0.parts a2) fun bN=>
 ak (!decide (bN=0)) (some ((⟨0,[],[],[]⟩:Score),bN))
 (ag (IA a0.bars a2) fun(aM,br)=>
 ag (P7 a0.bars) fun kA=>
 ag (P8 a0.parts) fun B2=>
 some ((⟨a1,kA,B2,aM⟩:Score),0)))
end Go.Proofs.YtjigeffmmcmlnaaGreatDoor
namespace Go.Proofs.YtjigeffmmcmlnaaGreatDoor
open Go Go.an au
set_option maxRecDepth 4000
attribute [local instance] cJ
attribute [local congr] ab.kO
attribute [local simp] bu dz dU evalOp bd an.get fk strip bq an.after iI typed gr holds cR R.ok R.bad gI iU jk gW ku ji Op.operands Call.operands dY dA dQ dR iH il fm im gK fg nj nk nm np fK lH lL lJ fL jq lg lp lk ln ng ni jv mD bf D.cells T.eT D.one gH fV gb fo setAt eI fC jC fa gN bw cX iy fU iA gv jV arith et iM jf dG gC iN TD.agg env bR List.map fe iD ff gn gT mapOf iz iq dr mH mI mJ mK mL mM mN mO lK nh ll me mC my mB mr mG lq mi ml jw mE ko jh fh du fj iP gJ jB gone unbox iW fE gB gG lI lh nf jg jS List.contains_cons List.contains_nil lr iO iC iB gm ib gX lC kY mW l6 mw mu mz kr mF mh mj P2.list mA lB kW mU lF lb mZ l9 jQ kM lu kR mP lW jI kC lA kV mT l4 jM kH lE la mY l8 jP kL lD kZ mX l7 jO kJ jX kX mV l5 jN kI lG lf nc ma jW kT mR lY jK kF lv kS mQ lX jJ kD lz kU mS lZ jL kG kQ km lN lO lT lU lP lV lQ lR lS lM nD nH kv kz iQ nB nC nE nF nG nI nJ jD jE nL nM nN nO nP nQ nR nS nq nr nu nv nw nx ny nz nA
section
set_option maxRecDepth 10000
open Go.RowKit
attribute [local simp] eJ
theorem azP {LL:List AO} {id i j:Nat} {xs:List ae} (aB:LL[id]?=some (.row 50 12 (xs.map enc))) (XV:xQ LL) (cj:i < j) (hj:j≤xs.length) (fc:xs.length≤9223372036854775807) :
  gZ Tryz.prog 72 [.row id,.d (.int .i64 i),.d (.int .i64 j)] LL fun u l2=>u = .row (LL.length+1)∧∃ base vals ft,l2[LL.length]?=some (.frame base vals ft)∧l2.set LL.length .dead=LL.set id .dead++[.dead,.row 50 12 ((xs.take i++xs.drop j).map enc)]:=by
 have Ly:bO Tryz.prog (env []):=aW trivial
 have hV:bO Tryz.prog { env [] with sub:=true }:=⟨Ly.E,Ly.C,Ly.eq,Ly.F,Ly.prog⟩
 refine gZ.of hV (Enters.of Tryz.func72 (by decide)) Tryz.func72 rfl (by rw[Tryz.ntmps72];simp) fun R hR w0 I0 vals ft Q hQ=>?_
 rw[Tryz.ntmps72]
 have hY:id < LL.length:=(List.getElem?_eq_some_iff.1 aB).1
 have A6:=af9 aB [.frame LL.length vals ft]
 have LY:=XV.frame vals ft
 have HQ:∀ (els:List D) (k:Nat) (t:Tm),an.get t 6 = .sub id 0 k→els.take k=(xs.take i++xs.drop j).map enc→∀ st,an.Sub st ⟨t,(LL++[AO.frame LL.length vals ft]).set id (.row 50 12 els)⟩→Q .ret st:=by
  intro els k t ht qY st gQ
  have hg:((LL++[AO.frame LL.length vals ft]).set id (.row 50 12 els))[id]?=some (.row 50 12 els):=by rw[List.getElem?_set_self (by simp;omega)]
  refine hQ _ _ (.inl rfl) ⟨_,gQ.trans (Sub.aAf 6 id k ht hg),by simp[dN],?_,?_⟩
  ·rw[On hY,On (by simpa using hY)]
   simp
  refine⟨by simp[dN,sw,an.get],LL.length,vals,ft,?_,?_⟩
  ·rw[On hY,On (by simpa using hY)]
   simp
  show((((LL++[AO.frame LL.length vals ft]).set id (.row 50 12 els)).set id .dead)++[AO.row 50 12 (els.take k)]).set LL.length .dead=_
  rw[List.set_set,On hY,qY]
  simp[List.set_append]
 obtain⟨L,hL⟩:∃ L,L=LL++[AO.frame LL.length vals ft]:=⟨_,rfl⟩
 rw[←hL] at A6 LY HQ ⊢
 have arN:id < L.length:=(List.getElem?_eq_some_iff.1 A6).1
 simp only[yS]
 refine ab.rS hV none [0,1,2] fun K k1=>?_
 simp
 refine cO (s':=⟨[(0,.row id),(1,.d (.int .i64 i)),(2,.d (.int .i64 j))],L⟩) (by first | rfl | simp) (k1 _ ?_)
 refine ab.rS hV none [0,1,2] fun K k1=>?_
 simp[A6]
 repeat refine And.intro (by omega) ?_
 refine cO (s':=⟨[(0,.row id),(1,.d (.int .i64 i)),(2,.d (.int .i64 j))],L⟩) (by first | rfl | simp) (k1 _ ?_)
 refine ab.wA fun _ k2=>?_
 refine ab.rS hV none [0,1,2,16] fun K k1=>?_
 simp
 refine cO (s':=⟨[(0,.row id),(1,.d (.int .i64 i)),(2,.d (.int .i64 j)),(16,.d (.bool (decide ((i:Int)=j))))],L⟩) (by first | rfl | simp) (k1 _ ?_)
 refine ab.cond (b:=decide ((i:Int)=j)) rfl (fun h=>?_) fun h=>?_
 ·exfalso;have:=of_decide_eq_true h;omega
 refine ab.skip (k2 _ ?_)
 refine ab.rS hV none [0,1,2,7] fun K k1=>?_
 simp[A6]
 refine cO (s':=⟨[(0,.row id),(1,.d (.int .i64 i)),(2,.d (.int .i64 j)),(7,.d (.int .i64 xs.length))],L⟩) (by first | rfl | simp) (k1 _ ?_)
 obtain⟨els,HP⟩:∃ els:List D,els=(xs.map (enc:ae→D)):=⟨_,rfl⟩
 have hlen:els.length=xs.length:=by rw[HP];simp
 obtain⟨e2,Q2⟩:∃ e2,e2=els.take i++els.drop j++els.drop (i+(els.length - j)):=⟨_,rfl⟩
 refine ab.sm (fun s'=>s'=⟨[(0,.sub id 0 (i+(els.length - j))),(7,.d (.int .i64 xs.length))],L.set id (.row 50 12 e2)⟩) (fun _ kj=>?_) ?_
 ·refine ab.azC hV mixed none [0,1,3,4,2,5,6,7] 4 [0,1,2,3] 8 [0,7] (by decide) (by decide) (by first | rfl | decide | simp[AL,BE]) fun K kK K1 kP=>?_
  simp only[dJ,pX,fP,List.filterMap_cons,List.getElem?_cons_zero,List.getElem?_cons_succ,Option.map_some,Option.map_none,List.map_cons,List.map_nil,List.findIdx_cons]
  simp
  refine kP _ ?_;clear kP
  simp only[dJ,pX,fP,List.filterMap_cons,List.getElem?_cons_zero,List.getElem?_cons_succ,Option.map_some,Option.map_none,List.map_cons,List.map_nil,List.findIdx_cons]
  refine RunT.del (t:=24) (e:=50) (id:=id) (i:=i) (j:=j) (els:=els) hV rfl rfl rfl rfl rfl rfl rfl rfl rfl rfl rfl rfl rfl (by decide) (by decide) (by decide) (by decide) (by decide) (by decide) (by decide) (by decide) iQ jD (by decide) rfl rfl rfl rfl (by rw[HP];exact A6) cj (by rw[hlen];exact hj) fun s' h1 h2 h3=>kK _ (kj _ ?_)
  simp only[bR,List.map_cons,List.map_nil,h1,h2,h3 7 (by decide) (by decide) (by decide) (by decide),an.get,Q2]
  rfl
 rintro s' rfl
 have hm:i+(els.length - j)≤e2.length:=by rw[Q2];simp;omega
 have arC:e2.length=els.length:=by rw[Q2];simp;omega
 have jc:e2.take (i+(els.length - j))=(xs.take i++xs.drop j).map enc:=by
  have w8:(els.take i++els.drop j).length=i+(els.length - j):=by simp;omega
  rw[Q2,List.take_append_of_le_length (by omega),List.take_of_length_le (by omega),HP];simp
 obtain⟨m,XZ⟩:∃ m,m=i+(els.length - j):=⟨_,rfl⟩
 rw[←XZ] at hm jc ⊢
 obtain⟨L2,Xs⟩:∃ L2,L2=L.set id (.row 50 12 e2):=⟨_,rfl⟩
 have iZ:L2[id]?=some (.row 50 12 e2):=by rw[Xs,List.getElem?_set_self arN]
 rw[←Xs]
 refine ab.rC hV [0] fun K k1=>?_
 refine cm.seq hV none 2 [0,7,28,27] (by decide) (by decide) fun K1 h1=>?_
 simp
 refine cO (s':=⟨[(0,.sub id 0 m),(7,.d (.int .i64 xs.length)),(28,.sub id 0 m),(27,.sub id 0 m)],L2⟩) (by first | rfl | simp) (h1 _ ?_)
 refine cm.zg (.d (.int .i64 ((m - 0:Nat):Int))) L2 rfl rfl (by simp) (by decide) (eM.refl _) (an9 rfl hV.E iQ rfl iZ (by omega)) ?_
 refine cm.seq hV none 4 [0,7,29,30,27] (by decide) (by decide) fun K1 h1=>?_
 simp
 refine cO (s':=⟨[(0,.sub id 0 m),(7,.d (.int .i64 xs.length)),(29,.d (.int .i64 m)),(30,.d (.int .i64 xs.length)),(27,.sub id 0 m)],L2⟩) (by first | rfl | simp) (h1 _ ?_)
 refine cm.zg (.sub id (m:Int).toNat (xs.length:Int).toNat) L2 rfl rfl (by simp) (by decide) (eM.refl _) (aoa rfl hV.E iQ jD rfl iZ rfl rfl (by omega) (by omega) (by omega)) ?_
 refine cm.fin hV none ?_
 simp[iZ,arC,hlen]
 generalize A4:e2.take m++List.replicate (xs.length - m) _=fin
 have LN:fin.take m=(xs.take i++xs.drop j).map enc:=by
  rw[←A4,List.take_append_of_le_length (by simp;omega),List.take_take,Nat.min_self,jc]
 refine cO (s':=⟨[(0,.sub id 0 m)],L2.set id (.row 50 12 fin)⟩) (by first | rfl | simp) (k1 _ ?_)
 refine ab.rS hV none [6] fun K k1=>?_
 simp
 refine cO (s':=⟨[(6,.sub id 0 m)],L2.set id (.row 50 12 fin)⟩) (by first | rfl | simp) (k1 _ ?_)
 refine ab.ret ?_
 exact HQ fin m [(6,.sub id 0 m)] rfl LN _ (by rw[Xs,List.set_set];exact Sub.refl _)
def Qa (ts:List T) (l:List AO):Option FR:=match ts with
 | [.row id,.d (.int .i64 a),.d (.int .i64 b)]=>(match l[id]? with
  | some (.row 50 12 els)=>some ⟨.row (l.length+1),l.set id .dead++[.dead,.row 50 12 (els.take a.toNat++els.drop b.toNat)],(els.map (dec:D→ae)).map enc=els∧(0≤a∧a < b∧b≤els.length)∧els.length≤9223372036854775807∧xQ l∧l.all (fun o=> !o.RK)=true⟩
  | _=>none)
 | _=>none
theorem an6 {ts:List T} {l:List AO} {r:FR} (h:Qa ts l=some r) (af:r.ob):qG Tryz.prog 72 ts l r.t r.l:=by
 unfold Qa at h
 split at h
 ·rename_i id a b
  split at h
  ·rename_i els ho
   cases h
   obtain⟨h1,⟨h2,uO,aCt⟩,h3,h4,h5⟩:=af
   have hY:id < l.length:=(List.getElem?_eq_some_iff.1 ho).1
   have ea:((a.toNat:Nat):Int)=a:=by omega
   have eb:((b.toNat:Nat):Int)=b:=by omega
   have ahW:=azP (xs:=els.map dec) (i:=a.toNat) (j:=b.toNat) (by rw[h1];exact ho) h4 (by omega) (by simp;omega) (by simpa using h3)
   rw[List.map_append,List.map_take,List.map_drop,h1,ea,eb] at ahW
   refine qG.avT (k:=l.length) (ahW.mono ?_) h5 (by simp) (fun k hk hv=>?_) (fun k hk hr=>?_)
   ·rintro u l2 ⟨rfl,base,vals,ft,q1,q2⟩
    exact⟨rfl,base,vals,ft,q1,q2⟩
   ·have ba:k≠id:=fun e=>by subst e;unfold an.isVar at hv;rw[ho] at hv;cases hv
    unfold an.isVar at hv ⊢
    rw[List.getElem?_append_left (by simpa using hk),List.getElem?_set_ne (Ne.symm ba)];exact hv
   left
   have ba:k≠id:=fun e=>by
    subst e;unfold an.isRow at hr
    rw[List.getElem?_append_left (by simpa using hk),List.getElem?_set_self hk] at hr;cases hr
   rw[List.getElem?_append_left (by simpa using hk),List.getElem?_set_ne (Ne.symm ba)]
  cases h
 cases h
noncomputable def Qr:DL:=fun g ts l=>if g=72 then Qa ts l else CB g ts l
theorem aoD:G0 Tryz.prog Qr:=by
 intro g ts l r hr af
 unfold Qr at hr
 split at hr
 ·rename_i hg;subst hg;exact⟨Enters.of Tryz.func72 (by decide),an6 hr af⟩
 exact afQ g ts l r hr af
noncomputable def afG (l:List (FuncId×an.Spec)):Env:={ env l with F:=Qr }
theorem VQ {l:List (FuncId×an.Spec)} (h:vF Tryz.prog l):bO Tryz.prog (afG l):=
 haveI:=cJ
 have h0:=aW h
 ⟨h0.E,h0.C,h0.eq,aoD,h0.prog⟩
end
end Go.Proofs.YtjigeffmmcmlnaaGreatDoor
namespace Go.Proofs.YtjigeffmmcmlnaaGreatDoor
open Go Go.an au
noncomputable def Eo (a0:Score) (Ao:(List ae)):Option (Score×Int):=
 ag (Jd a0 a0.version Ao) fun(kA,tE)=>
 ak (!decide (tE=0)) (some (a0,tE))
 (some (kA,0))
noncomputable def Ht (a0:Score) (a1:aa) (x8:Int) (xN:(List ae)):Option (Score×Int):=
 ak (decide (a1.kind=1)) (aG (((xN++[a1.note]):List ae).length*96≤140737488355328) (Eo a0 (xN++[a1.note])))
 (ak (decide (x8 < 0)) (some (a0,23))
 (Eo a0 xN))
noncomputable def KU (a0:Score) (a1:aa):Option (Score×Int):=
 ag (Hu a1) fun x3=>
 ak (!x3) (some (a0,1))
 (ag (K5 a0.notes (⟨⟩:qF) a1.note.id) fun x8=>
 aG ((a0.notes:List ae).length*96≤140737488355328) (ak (decide (0≤x8)) (aG (ax (x8+1)) (aG (0≤x8∧x8 < (x8+1)∧(x8+1)≤((a0.notes:(List ae)).length:Int)) (aG ((a0.notes:(List ae)).length≤9223372036854775807) (Ht a0 a1 x8 (a0.notes.take x8.toNat++a0.notes.drop (x8+1).toNat)))))
 (Ht a0 a1 x8 a0.notes)))
noncomputable def Qc (p0:Score) (p1:Int) (p2:(List Int)) (p3:aa) (p4:aa):Option (Score×(List Int)):=
 ag (KU p0 p4) fun(x3,x4)=>
 aG (((p2++[x4]):List Int).length*8≤140737488355328) (some (x3,(p2++[x4])))
noncomputable def VB (a0:Score) (a1:Int):Option Bool:=
 (ag (Ep a1 1000000) fun x7=>
 ak (!x7) (some true) (ag (Jc a0) fun x9=>
 some (!x9)))
noncomputable def Qe (sL:Int) (JN:Score) (JO:(List Int)):Option ((Score×(List Int)×Int)⊕((Score×(List Int)))):=
 aG (ax (sL+1)) (some (.inl (JN,JO,(sL+1))))
noncomputable def KN (a2:(List aa)):(Score×(List Int)×Int)→Option ((Score×(List Int)×Int)⊕((Score×(List Int)))):=fun(tJ,DH,sL)=>
 ak (decide (sL < (a2.length:Int))) (ag (aP a2 sL) fun tF=>
 ag (Qc tJ 0 DH tF tF) fun(JI,B6)=>
 Qe sL JI B6)
 (some (.inr (tJ,DH)))
noncomputable def Qd (a1:Int) (yX:Score) (Ap:(List Int)):Option (Score×(List Int)×Int):=
 ag (Jd yX a1 yX.notes) fun(vA,tG)=>
 ak (!decide (tG=0)) (some ((⟨0,[],[],[]⟩:Score),[],tG))
 (some (vA,Ap,0))
noncomputable def tS (a0:Score) (a1:Int) (a2:(List aa)):Option (Score×(List Int)×Int):=
 ak (decide (1000 < (a2.length:Int))) (some ((⟨0,[],[],[]⟩:Score),[],2))
 (ag (VB a0 a1) fun adK=>
 ak adK (some ((⟨0,[],[],[]⟩:Score),[],1))
 (ag (aH (KN a2) (a0,[],0)) fun o61=>
 match o61 with
 | (ayT,ayU)=>Qd a1 ayT ayU))
end Go.Proofs.YtjigeffmmcmlnaaGreatDoor
namespace Go.Proofs.YtjigeffmmcmlnaaGreatDoor
open Go Go.an au
set_option maxRecDepth 4000
attribute [local instance] cJ
attribute [local congr] ab.kO
attribute [local simp] bu dz dU evalOp bd an.get fk strip bq an.after iI typed gr holds cR R.ok R.bad gI iU jk gW ku ji Op.operands Call.operands dY dA dQ dR iH il fm im gK fg nj nk nm np fK lH lL lJ fL jq lg lp lk ln ng ni jv mD bf D.cells T.eT D.one gH fV gb fo setAt eI fC jC fa gN bw cX iy fU iA gv jV arith et iM jf dG gC iN TD.agg env bR List.map fe iD ff gn gT mapOf iz iq dr mH mI mJ mK mL mM mN mO lK nh ll me mC my mB mr mG lq mi ml jw mE ko jh fh du fj iP gJ jB gone unbox iW fE gB gG lI lh nf jg jS List.contains_cons List.contains_nil lr iO iC iB gm ib gX lC kY mW l6 mw mu mz kr mF mh mj P2.list mA lB kW mU lF lb mZ l9 jQ kM lu kR mP lW jI kC lA kV mT l4 jM kH lE la mY l8 jP kL lD kZ mX l7 jO kJ jX kX mV l5 jN kI lG lf nc ma jW kT mR lY jK kF lv kS mQ lX jJ kD lz kU mS lZ jL kG kQ km lN lO lT lU lP lV lQ lR lS lM nD nH kv kz iQ nB nC nE nF nG nI nJ jD jE nL nM nN nO nP nQ nR nS nq nr nu nv nw nx ny nz nA
section
set_option maxRecDepth 10000
open Go.RowKit
attribute [local simp] eJ
theorem aoJ {l:List AO} {n:Int} (h0:0≤n) (hb:n*120≤140737488355328):qG Tryz.prog 77 [.ao 15,.d (.int .i64 n)] l (.row l.length) (l++[.row 52 15 []]):=by
 intro w0 I0 w I m args aq aS dV
 obtain⟨xs⟩:=args
 match xs,aS with
 | [x,y],_=>
  have hx:=dV 0 x _ rfl rfl
  have hy:=YS (dV 1 y _ rfl rfl)
  subst hy
  cases hx
  obtain⟨k,rfl⟩:∃ k:Nat,n=k:=⟨n.toNat,by omega⟩
  obtain⟨i0,z,k1,k2,k3,k4,_⟩:=jj (ac3 52 _ jE)
  rcases Nat.eq_zero_or_pos k with rfl | hk
  ·refine(Any8.slices_Grow_room Tryz.agc none 0 0 0 w (by omega) (by omega) (by omega) (by omega)).mono ?_
   rintro e w' ⟨rfl,rfl⟩
   obtain⟨q1,q2,q3⟩:=aq.FC (v:= .slice none 0 0) (row:=none) (lo:=l) (e:=52) (size:=15) (els:=[]) (xs:=[]) rfl (fun k a ha=> .inr ha) (fun _ _ _ h=>h) (World.grownBy.refl w' _) (Nat.le_refl _) (by simp) (by simp) (by simp[own]) (World.ownsRow_nil w' _ _ _) (by simp) (by simp) ⟨_,_,_,rfl⟩
   exact⟨_,rfl,I,_,q1,q2,q3⟩
  refine(Any8.slices_Grow_grow Tryz.agc i0 z k1 k4 (by rw[k2];decide) none 0 0 k [] w (by omega) (by omega) (by rw[k3];show(0+k)*120≤_;omega) (by omega) (by simp) (fun _=>rfl) (by simp)).mono ?_
  rintro e w' ⟨rfl,rfl⟩
  have rY:=grownCap_le_maxLen w (0+k) 0 (Tryz.Qx.t 25) (by unfold maxLen;omega)
  have qZ:=grownCap_ge w (0+k) 0 (Tryz.Qx.t 25)
  generalize grownCap w (0+k) 0 (Tryz.Qx.t 25)=G at rY qZ
  have ri:z.cells.size=i0.size:=by
   obtain⟨x2,z2,j1,j2,_,j4,j5,_,_,j8⟩:=jj (ac3 52 _ jE)
   rw[k1] at j1;injection j1 with j1;subst j1
   rw[k4] at j4;injection j4 with j4;subst j4
   have:=(As I _ _ j5).1
   rw[Array.length_toList] at this;omega
  have r6:∀ b,own (Value.slice (some ⟨w.heap.size,0,none⟩) 0 G)=some b→w0.heap.size≤b∧I.gp b∧∀ k,alive l k=true→own (m k)≠some b:=by
   intro b bP
   have:b=w.heap.size:=by simp[own] at bP;exact bP.symm
   subst this
   refine⟨aq.below.size,aq.sat.gp (Nat.le_refl _),fun k hk he=>?_⟩
   obtain⟨a,ha,qo⟩:=bZ.1 hk
   have:=((aq.obj k a ha).lt qo he).1;omega
  obtain⟨q1,q2,q3⟩:=aq.FC (w':=w.drew.alloc (.cells (#[]++Builtin.zeroCells z.cells (0+k - 0)++Builtin.zeroCells z.cells (G - (0+k))) 52)) (v:= .slice (some ⟨w.heap.size,0,none⟩) 0 G) (row:=none) (lo:=l) (e:=52) (size:=15) (els:=[]) (xs:=[]) rfl (fun k a ha=> .inr ha) (fun _ _ _ h=>h)
   ⟨rfl,rfl,rfl,by simp,fun k hk h=>(World.grownBy_alloc w.drew _ none).block k hk h⟩ (by show w.drawn≤w.drawn+1;omega) (by simp) (by simp) r6
   ⟨by simp,.inr ⟨w.heap.size,G,#[]++Builtin.zeroCells z.cells (0+k - 0)++Builtin.zeroCells z.cells (G - (0+k)),rfl,aq.below.size,Array.getElem?_push_size,Nat.zero_le _,rY,by simp[size_zeroCells,ri,k2];rw[←Nat.add_mul];congr 1;omega,by simp⟩⟩ (by simp) (by simp) ⟨_,_,_,rfl⟩
  exact⟨_,rfl,I,_,q1,q2,q3⟩
def Wn (ts:List T) (l:List AO):Option FR:=match ts with
 | [.ao 15,.d (.int .i64 n)]=>some ⟨.row l.length,l++[.row 52 15 []],0≤n∧n*120≤140737488355328⟩
 | _=>none
noncomputable def Qq:DL:=fun g ts l=>if g=77 then Wn ts l else none
theorem aoC:G0 Tryz.prog Qq:=by
 intro g ts l r hr af
 unfold Qq at hr
 split at hr
 ·rename_i hg;subst hg
  refine⟨Enters.of Tryz.func77 (by decide),?_⟩
  unfold Wn at hr
  split at hr
  ·cases hr;exact aoJ af.1 af.2
  cases hr
 cases hr
noncomputable def afH (l:List (FuncId×an.Spec)):Env:={ env l with F:=Qq }
theorem aos {l:List (FuncId×an.Spec)} (h:vF Tryz.prog l):bO Tryz.prog (afH l):=
 haveI:=cJ
 have h0:=aW h
 ⟨h0.E,h0.C,h0.eq,aoC,h0.prog⟩
theorem BV:au.size (List aa)=1:=rfl
end
end Go.Proofs.YtjigeffmmcmlnaaGreatDoor
namespace Go.Proofs.YtjigeffmmcmlnaaGreatDoor
open Go Go.an au
noncomputable def Oi (bB:Int) (GB:Int):Option ((Int×Int)⊕((Int))):=
 aG (ax (bB+1)) (some (.inl (GB,(bB+1))))
noncomputable def BS (a0:(List (List aa))):(Int×Int)→Option ((Int×Int)⊕((Int))):=fun(bj,bB)=>
 ak (decide (bB < (a0.length:Int))) (ag (aP a0 bB) fun nV=>
 aG (ax (bj+(nV.length:Int))) (ak (decide ((bj+(nV.length:Int)) < 0)) (none)
 (Oi bB (bj+(nV.length:Int)))))
 (some (.inr bj))
noncomputable def Oh (tM:Int) (GV:(List aa)):Option (((List aa)×Int)⊕(((List aa)))):=
 aG (ax (tM+1)) (some (.inl (GV,(tM+1))))
noncomputable def BR (a0:(List (List aa))):((List aa)×Int)→Option (((List aa)×Int)⊕(((List aa)))):=fun(kB,tM)=>
 ak (decide (tM < (a0.length:Int))) (ag (aP a0 tM) fun O0=>
 aG (((kB++O0):List aa).length*120≤140737488355328) (Oh tM (kB++O0)))
 (some (.inr kB))
noncomputable def aci (GJ:(List aa)):Option (List aa):=
 some GJ
noncomputable def Ue (a0:(List (List aa))) (jH:Int):Option (List aa):=
 aG (0≤jH∧jH*120≤140737488355328) (ag (aH (BR a0) ([],0)) fun ax5=>
 aci ax5)
noncomputable def FQ (a0:(List (List aa))):Option (List aa):=
 ag (aH (BS a0) (0,0)) fun ayA=>
 Ue a0 ayA
end Go.Proofs.YtjigeffmmcmlnaaGreatDoor
namespace Go.Proofs.YtjigeffmmcmlnaaGreatDoor
open Go Go.an au
set_option maxRecDepth 4000
attribute [local instance] cJ
attribute [local congr] ab.kO
attribute [local simp] bu dz dU evalOp bd an.get fk strip bq an.after iI typed gr holds cR R.ok R.bad gI iU jk gW ku ji Op.operands Call.operands dY dA dQ dR iH il fm im gK fg nj nk nm np fK lH lL lJ fL jq lg lp lk ln ng ni jv mD bf D.cells T.eT D.one gH fV gb fo setAt eI fC jC fa gN bw cX iy fU iA gv jV arith et iM jf dG gC iN TD.agg env bR List.map fe iD ff gn gT mapOf iz iq dr mH mI mJ mK mL mM mN mO lK nh ll me mC my mB mr mG lq mi ml jw mE ko jh fh du fj iP gJ jB gone unbox iW fE gB gG lI lh nf jg jS List.contains_cons List.contains_nil lr iO iC iB gm ib gX lC kY mW l6 mw mu mz kr mF mh mj P2.list mA lB kW mU lF lb mZ l9 jQ kM lu kR mP lW jI kC lA kV mT l4 jM kH lE la mY l8 jP kL lD kZ mX l7 jO kJ jX kX mV l5 jN kI lG lf nc ma jW kT mR lY jK kF lv kS mQ lX jJ kD lz kU mS lZ jL kG kQ km lN lO lT lU lP lV lQ lR lS lM nD nH kv kz iQ nB nC nE nF nG nI nJ jD jE nL nM nN nO nP nQ nR nS nq nr nu nv nw nx ny nz nA
section
set_option maxRecDepth 10000
section
variable {cQ sR:Code} {tm:Tm} {mm:List (Int×aa)}
def pz (F0 F1 LP F4:AO) (zs:List aa):List AO:=[F0,F1,.var 27 [.row 5],LP,F4,.row 52 15 (zs.map enc)]
theorem azN {v0 v1:Nat→Value} {f0 f1:Tm} {LP LB:AO} (zB:LP = .loop 3 13 #[7] cQ sR tm .ready none) (HK:LB = .loop 3 13 #[7] cQ sR tm .busy none)
  (
   Yh:∀ (x:aa) (zs:List aa) (it:AO) (v4:Nat→Value) (f4:Tm),(zs.length+1)*120≤140737488355328→(∃ ks vs dn,it=AO.iter ks vs dn)→∀ (KR:Option Code→List AO→Prop),(∀ F8,(∃ v f,F8=AO.frame 8 v f)→KR none [.frame 0 v0 f0,.frame 1 v1 f1,.var 27 [.row 9],LP,.frame 4 v4 f4,.dead,it,.var 52 (bf (.d (enc x))),F8,.row 52 15 ((zs++[x]).map enc)]) →
   ∀ (R:dx) (w0:World) (I0:aC) (vals:Nat→Value) (ft:Tm) (Q:Exit→St→Prop),(∀ e jump s2,Mo e=some jump→O7 s2 8 vals ft 3 3 13 #[7] cQ sR tm jump (KR jump)→Q e s2) →
    @ab _ R Tryz.prog w0 I0 13 cQ ⟨BQ [7] [.d (enc x)] tm,pz (.frame 0 v0 f0) (.frame 1 v1 f1) LP (.frame 4 v4 f4) zs++[it,.var 52 (bf (.d (enc x))),.frame 8 vals ft]⟩ (SU fun s1=>∃ s2,an.Sub s1 s2∧s2.l[8]?=some (.frame 8 vals ft)∧s2.l[3]?=some LP∧@ab _ R Tryz.prog w0 I0 13 sR ⟨s2.t,s2.l.set 3 LB⟩ Q))
  (fc:mm.length*120≤140737488355328) :
  gZ Tryz.prog 82 [.cE 3,.d (.box (.map (mm.map kE) (mm.map vE)))] [.frame 0 v0 f0,.frame 1 v1 f1,.var 27 [.ao 15],LP] fun u l'=>∃ zs v4 f4,zs.Perm (mm.map (·.2))∧l'=pz (.frame 0 v0 f0) (.frame 1 v1 f1) LP (.frame 4 v4 f4) zs:=by
 have hV:=aW cn
 refine gZ.of hV (Enters.of Tryz.func82 (by decide)) Tryz.func82 rfl (by rw[Tryz.ntmps82];simp) fun R hR w0 I0 vals ft Q hQ=>?_
 rw[Tryz.ntmps82]
 simp only[List.length_cons,List.length_nil,List.cons_append,List.nil_append] at hQ ⊢
 simp only[yS]
 refine ab.sub (s':=⟨[(0,.cE 3),(1,.d (.box (.map (mm.map kE) (mm.map vE))))],pz (.frame 0 v0 f0) (.frame 1 v1 f1) LP (.frame 4 vals ft) []⟩) (Sub.UW (s:=⟨[(0,.cE 3),(1,.d (.box (.map (mm.map kE) (mm.map vE))))],[.frame 0 v0 f0,.frame 1 v1 f1,.var 27 [.ao 15],LP,.frame 4 vals ft]⟩) 2 0 52 15 rfl rfl) ?_
 refine ab.rS hV none [0,6] fun K k1=>?_
 simp[BM]
 refine cO (s':=⟨[(0,.cE 3),pt 6 6],pz (.frame 0 v0 f0) (.frame 1 v1 f1) LP (.frame 4 vals ft) []++[.iter (mm.map kE) (mm.map vE) []]⟩) (by first | rfl | (simp[pz];done)) (k1 _ ?_)
 refine ab.block ?_
 refine ab.au5 mm (fun done zs=>⟨[(0,.cE 3),pt 6 6],pz (.frame 0 v0 f0) (.frame 1 v1 f1) LP (.frame 4 vals ft) zs++[.iter (mm.map kE) (mm.map vE) done]⟩) (fun zs e=>if zs.length < mm.length then some (.inl (zs++[e.2]):List aa⊕Unit) else none) [] (fun out=>∃ zs,out = .inl zs∧zs.Perm (mm.map (·.2))) ?_ (Sub.refl _) fun done zs K cM Bf=>?_
 ·intro l hl
  refine⟨.inl (l.map (·.2)),?_,_,rfl,hl.map _⟩
  have:∀ (l:List (Int×aa)) (zs:List aa),zs.length+l.length≤mm.length→iterM (fun zs e=>if zs.length < mm.length then some (.inl (zs++[e.2]):List aa⊕Unit) else none) l zs=some (.inl (zs++l.map (·.2))):=by
   intro l
   induction l with
   | nil=>intro zs _;simp[iterM]
   | cons e l ih=>
    intro zs hz
    simp only[List.length_cons] at hz
    simp only[iterM]
    rw[if_pos (by omega)]
    simp only
    rw[ih (zs++[e.2]) (by simp;omega)]
    simp
  simpa using this l [] (by simp[hl.length_eq])
 refine ab.aiT hV rfl rfl rfl rfl rfl rfl (by decide) (by decide) rfl rfl rfl rfl (fun i kd vd hk hv hi=>?_) fun bL=>?_
 ·obtain⟨⟨k,x⟩,he,rfl,rfl⟩:=aiH hk hv
  obtain⟨o,ho,_,EN⟩:=Bf i _ he hi
  have zL:zs.length < mm.length:=by
   by_cases h:zs.length < mm.length
   ·exact h
   simp[h] at ho
  rw[if_pos zL] at ho
  injection ho with ho
  subst ho
  have EN:=fun s'=>EN s' _ rfl
  dsimp only at EN
  show ab _ _ _ _ _ ⟨[(0,.cE 3),pt 6 6],pz (.frame 0 v0 f0) (.frame 1 v1 f1) LP (.frame 4 vals ft) zs++[.iter (mm.map kE) (mm.map vE) (done++[i])]⟩ _
  refine ab.block ?_
  refine ab.rS hV none [0,4,6] fun K k2=>?_
  simp[AI,pz,MC,OQ,he]
  refine cO (s':=⟨[(0,.cE 3),pt 4 7,pt 6 6],pz (.frame 0 v0 f0) (.frame 1 v1 f1) LP (.frame 4 vals ft) zs++[.iter (mm.map kE) (mm.map vE) (done++[i]),.var 52 (bf (.d (enc x)))]⟩) (by first | rfl | (simp[pz];done)) (k2 _ ?_)
  refine ab.rC hV [0,6,14] fun K k3=>?_
  refine cm.seq hV none 2 [0,6,11,12] (by decide) (by decide) fun K1 h1=>?_
  simp[pz]
  refine cO (s':=⟨[(0,.cE 3),pt 6 6,(11,.cE 3),(12,.d (enc x))],pz (.frame 0 v0 f0) (.frame 1 v1 f1) LP (.frame 4 vals ft) zs++[.iter (mm.map kE) (mm.map vE) (done++[i]),.var 52 (bf (.d (enc x)))]⟩) (by first | rfl | (simp[pz];done)) (h1 _ ?_)
  refine cm.cE hV 3 [.d (enc x)] rfl rfl trivial (by decide) (by simp[yZ]) (show _=some (AO.loop 3 13 #[7] cQ sR tm .ready none) by rw[←zB];rfl) rfl (by decide) fun KR QW=>?_
  simp only[←zB,←HK]
  refine Yh x zs (.iter (mm.map kE) (mm.map vE) (done++[i])) vals ft ?_ ⟨_,_,_,rfl⟩ KR fun F8 ⟨v8,f8,hF8⟩=>QW none _ (cm.fin hV none ?_)
  ·have:=Nat.mul_le_mul_right 120 (Nat.succ_le_of_lt zL)
   exact Nat.le_trans this fc
  subst hF8
  simp
  refine cO (s':=⟨[(0,.cE 3),pt 6 6,(14,.d (.bool false))],[.frame 0 v0 f0,.frame 1 v1 f1,.var 27 [.row 9],LP,.frame 4 vals ft,.dead,.iter (mm.map kE) (mm.map vE) (done++[i]),.var 52 (bf (.d (enc x))),.frame 8 v8 f8,.row 52 15 ((zs++[x]).map enc)]⟩) (by first | rfl | (simp;done)) (k3 _ ?_)
  refine ab.cond (b:=false) rfl (fun h=>by cases h) fun h=>ab.skip (EN _ ?_)
  show an.Sub _ ⟨[(0,.cE 3),pt 6 6],pz (.frame 0 v0 f0) (.frame 1 v1 f1) LP (.frame 4 vals ft) (zs++[x])++[.iter (mm.map kE) (mm.map vE) (done++[i])]⟩
  exact Sub.bY [0,1,2,3,4,9,6] (by decide) (by simp[mg,zB]) (by simp[ez,AO.bY,T.bY,T.eU,idx,pz,zB]) (by simp[mf,T.bY,T.eU,idx])
 obtain⟨zs',hz,hp⟩:=cM (fun i hi=>bL i (by simpa using hi))
 injection hz with hz
 subst hz
 refine hQ _ _ (.inr rfl) ⟨⟨[],pz (.frame 0 v0 f0) (.frame 1 v1 f1) LP (.frame 4 vals ft) zs⟩,?_,trivial,rfl,zs,_,_,hp,rfl⟩
 exact Sub.bY [0,1,2,3,4,5] (by decide) (by simp[mg,pz,zB]) (by simp[ez,AO.bY,T.bY,T.eU,idx,pz,zB]) trivial
end
section
variable {mm:List (Int×aa)}
theorem azO {v0:Nat→Value} {f0:Tm} (fc:mm.length*120≤140737488355328) :
  gZ Tryz.prog 112 [.ao 15,.d (.aR 82 [.box (.map (mm.map kE) (mm.map vE))])] [.frame 0 v0 f0] fun u l'=>u = .row 2∧∃ (zs:List aa) (v1:Nat→Value) (f1:Tm),zs.Perm (mm.map (·.2))∧l'=[.frame 0 v0 f0,.frame 1 v1 f1,.row 52 15 (zs.map enc)]:=by
 have hV:=aW cn
 refine gZ.of hV (Enters.of Tryz.func112 (by decide)) Tryz.func112 rfl (by rw[Tryz.ntmps112];simp) fun R hR w0 I0 vals ft Q hQ=>?_
 rw[Tryz.ntmps112]
 simp only[List.length_cons,List.length_nil,List.cons_append,List.nil_append] at hQ ⊢
 simp only[yS]
 refine ab.rS hV none [1,2] fun K k1=>?_
 simp
 refine cO (s':=⟨[(1,.d (.aR 82 [.box (.map (mm.map kE) (mm.map vE))])),pt 2 2],[.frame 0 v0 f0,.frame 1 vals ft,.var 27 [.ao 15]]⟩) (by first | rfl | (simp;done)) (k1 _ ?_)
 refine ab.sm (fun s'=>∃ zs:List aa,zs.Perm (mm.map (·.2))∧Sub s' ⟨[pt 2 2],[.frame 0 v0 f0,.frame 1 vals ft,.var 27 [.row 3],.row 52 15 (zs.map enc)]⟩) (fun _ k2=>?_) ?_
 ·refine ab.rS hV none [2,6] fun K k1=>?_
  simp
  refine cO (s':=⟨[pt 2 2,(6,.d (.aR 82 [.box (.map (mm.map kE) (mm.map vE))]))],[.frame 0 v0 f0,.frame 1 vals ft,.var 27 [.ao 15]]⟩) (by first | rfl | (simp;done)) (k1 _ ?_)
  refine ab.block ?_
  refine ab.azv hR (gf:=82) (caps:=[.d (.box (.map (mm.map kE) (mm.map vE)))]) rfl fun cQ sR ha hb K hK=>?_
  dsimp only[List.length_cons,List.length_nil] at hK ⊢
  refine(azN (LP:= .loop 3 13 #[7] cQ sR [pt 2 2,(6,.d (.aR 82 [.box (.map (mm.map kE) (mm.map vE))]))] .ready none) rfl rfl ?_ fc).mono ?_
  ·rintro x zs it v4 f4 hz ⟨ks,vs,dn,Ra⟩ KR QW R w0 I0 Ga Et Q hQ
   obtain⟨LP,zB⟩:∃ LP,LP=AO.loop 3 13 #[7] cQ sR [pt 2 2,(6,.d (.aR 82 [.box (.map (mm.map kE) (mm.map vE))]))] .ready none:=⟨_,rfl⟩
   obtain⟨LB,HK⟩:∃ LB,LB=AO.loop 3 13 #[7] cQ sR [pt 2 2,(6,.d (.aR 82 [.box (.map (mm.map kE) (mm.map vE))]))] .busy none:=⟨_,rfl⟩
   have HX:∀ s2,(∃ s3,an.Sub s2 s3∧s3.l[8]?=some (.frame 8 Ga Et)∧s3.l[3]?=some LB∧s3.l.set 3 LP=[.frame 0 v0 f0,.frame 1 vals ft,.var 27 [.row 9],LP,.frame 4 v4 f4,.dead,it,.var 52 (bf (.d (enc x))),.frame 8 Ga Et,.row 52 15 ((zs++[x]).map enc)])→Q .normal s2:=by
    rintro s2 ⟨s3,q1,q2,q3,q4⟩
    refine hQ .normal none s2 rfl ⟨s3,q1,q2,by rw[q3,HK],?_⟩
    have h5:=QW (.frame 8 Ga Et) ⟨_,_,rfl⟩
    simp only[Option.isNone_none,if_true]
    rw[←zB,q4]
    rw[←zB] at h5
    exact h5
   simp only[←zB,←HK]
   clear hQ QW hK k2
   subst ha
   subst hb
   refine ab.vp hV none [2,5] fun K k3=>?_
   simp[BQ,pz]
   refine cO (s':=⟨[pt 2 2,pt 5 9],pz (.frame 0 v0 f0) (.frame 1 vals ft) LP (.frame 4 v4 f4) zs++[it,.var 52 (bf (.d (enc x))),.frame 8 Ga Et,.var 52 (bf (.d (enc x)))]⟩) (by first | rfl | (simp[pz];done)) (k3 _ ?_)
   refine⟨_,Sub.refl _,rfl,rfl,?_⟩
   show ab _ _ _ _ _ ⟨[pt 2 2,pt 5 9],[.frame 0 v0 f0,.frame 1 vals ft,.var 27 [.row 5],LB,.frame 4 v4 f4,.row 52 15 (zs.map enc),it,.var 52 (bf (.d (enc x))),.frame 8 Ga Et,.var 52 (bf (.d (enc x)))]⟩ _
   refine ab.block ?_
   refine ab.vp hV none [] fun K k4=>?_
   simp
   refine And.intro (by omega) ?_
   refine cO (s':=⟨[],[.frame 0 v0 f0,.frame 1 vals ft,.var 27 [.row 10],LB,.frame 4 v4 f4,.dead,it,.var 52 (bf (.d (enc x))),.frame 8 Ga Et,.var 52 (bf (.d (enc x))),.row 52 15 ((zs++[x]).map enc)]⟩) (by first | rfl | (simp;done)) (k4 _ ?_)
   refine HX _ ⟨⟨[],[.frame 0 v0 f0,.frame 1 vals ft,.var 27 [.row 9],LB,.frame 4 v4 f4,.dead,it,.var 52 (bf (.d (enc x))),.frame 8 Ga Et,.row 52 15 ((zs++[x]).map enc)]⟩,?_,rfl,rfl,rfl⟩
   exact Sub.bY [0,1,2,3,4,5,6,7,8,10] (by decide) (by simp[mg,HK,Ra]) (by simp[ez,AO.bY,T.bY,T.eU,idx,HK,Ra]) trivial
  rintro u l' ⟨zs,v4,f4,hp,rfl⟩
  refine hK _ _ ⟨3,13,#[7],cQ,sR,_,.ready,none,rfl,by simp,?_⟩
  refine k2 _ ⟨zs,hp,?_⟩
  show an.Sub ⟨[pt 2 2,(6,.d (.aR 82 [.box (.map (mm.map kE) (mm.map vE))]))],[.frame 0 v0 f0,.frame 1 vals ft,.var 27 [.row 5],.loop 3 13 #[7] cQ sR [pt 2 2,(6,.d (.aR 82 [.box (.map (mm.map kE) (mm.map vE))]))] .exhausted none,.frame 4 v4 f4,.row 52 15 (zs.map enc)]⟩ _
  exact Sub.bY [0,1,2,5] (by decide) (by simp[mg]) (by simp[ez,AO.bY,T.bY,T.eU,idx]) (by simp[mf,T.bY,T.eU,idx])
 rintro s' ⟨zs,hp,hs⟩
 refine ab.sub hs ?_
 refine ab.rS hV none [4] fun K k3=>?_
 simp
 refine cO (s':=⟨[(4,.row 3)],[.frame 0 v0 f0,.frame 1 vals ft,.var 27 [.row 3],.row 52 15 (zs.map enc)]⟩) (by first | rfl | simp) (k3 _ ?_)
 refine ab.ret ?_
 refine hQ _ _ (.inl rfl) ⟨⟨[(4,.row 2)],[.frame 0 v0 f0,.frame 1 vals ft,.row 52 15 (zs.map enc)]⟩,Sub.bY [0,1,3] (by decide) (by simp[mg]) (by simp[ez,AO.bY]) (by simp[mf,T.bY,T.eU,idx]),by simp[dN],rfl,by simp[dN,sw],zs,_,_,hp,rfl⟩
theorem alb (fc:mm.length*120≤140737488355328) :
  gZ Tryz.prog 80 [.d (.aR 82 [.box (.map (mm.map kE) (mm.map vE))])] [] fun u l'=>u = .row 1∧∃ (zs:List aa) (v0:Nat→Value) (f0:Tm),zs.Perm (mm.map (·.2))∧l'=[.frame 0 v0 f0,.row 52 15 (zs.map enc)]:=by
 have hV:=aW cn
 refine gZ.of hV (Enters.of Tryz.func80 (by decide)) Tryz.func80 rfl (by rw[Tryz.ntmps80];simp) fun R hR w0 I0 vals ft Q hQ=>?_
 rw[Tryz.ntmps80]
 simp only[List.length_nil,List.nil_append] at hQ ⊢
 simp only[yS]
 refine ab.rS hV none [0] fun K k1=>?_
 simp
 refine cO (s':=⟨[(0,.d (.aR 82 [.box (.map (mm.map kE) (mm.map vE))]))],[.frame 0 vals ft]⟩) (by first | rfl | simp) (k1 _ ?_)
 refine ab.rC hV [2] fun K k1=>?_
 refine cm.seq hV none 1 [3] (by decide) (by decide) fun K1 h1=>?_
 simp
 refine cO (s':=⟨[(3,.d (.aR 82 [.box (.map (mm.map kE) (mm.map vE))]))],[.frame 0 vals ft]⟩) (by first | rfl | simp) (h1 _ ?_)
 refine cm.call hV 112 [.ao 15,.d (.aR 82 [.box (.map (mm.map kE) (mm.map vE))])] rfl rfl trivial (by decide) (by simp[kN]) fun K2 h2=>?_
 refine(azO fc).mono ?_
 rintro _ _ ⟨rfl,zs,v1,f1,hp,rfl⟩
 refine h2 _ _ (cm.fin hV none ?_)
 simp
 refine cO (s':=⟨[(2,.row 2)],[.frame 0 vals ft,.frame 1 v1 f1,.row 52 15 (zs.map enc)]⟩) (by first | rfl | simp) (k1 _ ?_)
 refine ab.ret ?_
 refine hQ _ _ (.inl rfl) ⟨⟨[(2,.row 1)],[.frame 0 vals ft,.row 52 15 (zs.map enc)]⟩,Sub.bY [0,2] (by decide) (by simp[mg]) (by simp[ez,AO.bY]) (by simp[mf,T.bY,T.eU,idx]),by simp[dN],rfl,by simp[dN,sw],zs,_,_,hp,rfl⟩
end
end
section
set_option maxRecDepth 10000
open Go.RowKit
attribute [local simp] eJ
theorem anW (x y:aa):@ee (@Cv ⟨True⟩) Tryz.prog 47 ([enc x,enc y]++[]) (.int .i64 (aQ x y)):=by
 have h0:F2 [enc x,enc y]=some (.int .i64 (aQ x y),enc x=enc x∧enc y=enc y∧True):=by
  simp only[F2,eY,du,lj,VJ,Option.map_some,gJ,Option.getD_some,Option.isSome_some]
  rfl
 exact @aL.AH (@Cv ⟨True⟩) _ _ _ (@M5 ⟨True⟩) _ _ _ h0 ⟨rfl,rfl,trivial⟩
theorem aoI {l:List AO} {id:Nat} {xs:List aa} (ho:l[id]?=some (.row 52 15 (xs.map enc))) (hx:xs.length < 4611686018427387904) (ha:oO aQ xs) :
  qG Tryz.prog 81 [.row id,.d (.fn 47)] l (.d (.bn [])) (l.set id (.row 52 15 ((bD aQ xs).map enc))):=by
 haveI:Inhabited {x:aa // True}:=⟨⟨⟨0,0,0,⟨0,0,0,0,0,⟨0,0⟩,⟨0,0⟩,⟨0,0,0⟩⟩⟩,trivial⟩⟩
 refine @aoM aa _ (@Cv ⟨True⟩) (@Cv aj8) trivial rfl _ _ _ _ _ (fun _=>True) _ _ V1 OJ (fun x y _ _=>anW x y) (fun b c d w vs Xz hH hb hd=>?_) (fun p c fv w=>AnyF.slices_SortFunc_none { Tryz.alk with } p c fv w) _ _ _ ho hx (fun _ _=>trivial) ha
 exact AnyQ.slices_SortFunc_eq Tryz.alk 15 Tryz.isAgg52 Tryz.sizeOf52 _ (fun x=>by simp[pF,V1.len]) (fun x v hv=>by
  simp only[pF,List.mem_map] at hv
  obtain⟨y,hy,rfl⟩:=hv
  have:=V1.sc _ y hy
  cases y<;>simp[BT] at this<;>rfl) _ (acZ OJ) 47 vs b 0 c d w (Enters.of Tryz.func47 (by decide)) Xz hH hb hd
end
section
set_option maxRecDepth 10000
theorem alj {l m:List aa} (hp:l.Perm m) (ha:oO aQ l):bD aQ l=bD aQ m:=acy (Dq OJ l) (Dq OJ m) ((vt aQ l).trans (hp.trans (vt aQ m).symm)) (ha.perm (vt aQ l).symm)
noncomputable def Hw:DL:=fun g ts l=>if g=81 then(match ts with
 | [.row id,.d (.fn 47)]=>(match l[id]? with
  | some (.row 52 15 els)=>some ⟨.d (.bn []),l.set id (.row 52 15 ((bD aQ (els.map dec)).map enc)),(els.map (dec:D→aa)).map enc=els∧oO aQ (els.map (dec:D→aa))∧els.length≤1000000000000⟩
  | _=>none)
 | _=>none) else none
theorem aoE:G0 Tryz.prog Hw:=by
 intro g ts l r hr af
 unfold Hw at hr
 split at hr
 ·rename_i hg
  subst hg
  split at hr
  ·rename_i id
   split at hr
   ·rename_i els ho
    cases hr
    obtain⟨h1,h3,h4⟩:=af
    refine⟨Enters.of Tryz.func81 (by decide),?_⟩
    exact aoI (xs:=els.map dec) (by rw[h1];exact ho) (by simp;omega) h3
   cases hr
  cases hr
 cases hr
noncomputable def Er (l:List (FuncId×an.Spec)):Env:={ env l with F:=Hw }
theorem afI {l:List (FuncId×an.Spec)} (h:vF Tryz.prog l):bO Tryz.prog (Er l):=⟨(aW h).E,(aW h).C,(aW h).eq,aoE,(aW h).prog⟩
theorem anU {mm:List (Int×aa)} (fc:mm.length*120≤140737488355328) (hn:oO aQ (mm.map (·.2))) (hlen:mm.length≤1000000000000) :
  ee Tryz.prog 44 [.aR 82 [.box (.map (mm.map kE) (mm.map vE))],.fn 47] (enc (bD aQ (mm.map (·.2)))):=by
 have hV:=afI cn
 refine ee.SP hV Tryz.func44 rfl (by rw[Tryz.ntmps44];simp) fun R hR w0 I0 Q hQ=>?_
 rw[Tryz.ntmps44]
 refine ab.rS hV none [0,1] fun K k1=>?_
 simp
 refine cO (s':=⟨[(0,.d (.aR 82 [.box (.map (mm.map kE) (mm.map vE))])),(1,.d (.fn 47))],[]⟩) (by first | rfl | simp) (k1 _ ?_)
 refine ab.rC hV [1,5] fun K k1=>?_
 refine cm.seq hV none 1 [1,6] (by decide) (by decide) fun K1 h1=>?_
 simp
 refine cO (s':=⟨[(1,.d (.fn 47)),(6,.d (.aR 82 [.box (.map (mm.map kE) (mm.map vE))]))],[]⟩) (by first | rfl | simp) (h1 _ ?_)
 refine cm.call hV 80 [.d (.aR 82 [.box (.map (mm.map kE) (mm.map vE))])] rfl rfl trivial (by decide) (by simp[kN,Er]) fun K2 h2=>?_
 refine(alb fc).mono ?_
 rintro _ _ ⟨rfl,zs,v0,f0,hp,rfl⟩
 have L5:oO aQ zs:=hn.perm hp.symm
 have XW:zs.length≤1000000000000:=by rw[hp.length_eq];simpa using hlen
 rw[←alj hp L5] at hQ
 refine h2 _ _ (cm.fin hV none ?_)
 simp
 refine cO (s':=⟨[(1,.d (.fn 47)),(5,.row 1)],[.frame 0 v0 f0,.row 52 15 (zs.map enc)]⟩) (by first | rfl | simp) (k1 _ ?_)
 refine ab.sub (s':=⟨[(1,.d (.fn 47)),(5,.row 0)],[.row 52 15 (zs.map enc)]⟩) (Sub.bY [1] (by decide) (by simp[mg]) (by simp[ez,AO.bY]) (by simp[mf,T.bY,T.eU,idx])) ?_
 refine ab.rS hV none [5] fun K k2=>?_
 simp[Er,Hw]
 refine And.intro ⟨by simpa using L5,XW⟩ ?_
 refine cO (s':=⟨[(5,.row 0)],[.row 52 15 ((bD aQ zs).map enc)]⟩) (by first | rfl | simp) (k2 _ ?_)
 refine ab.rS hV none [4] fun K k3=>?_
 simp
 refine cO (s':=⟨[(4,.row 0)],[.row 52 15 ((bD aQ zs).map enc)]⟩) (by first | rfl | simp) (k3 _ ?_)
 refine ab.ret ?_
 refine hQ _ _ (.inl rfl) ?_
 simp[uh,dN]
def aa1 (ks vs:List D):Prop:=∃ mm:List (Int×aa),ks=mm.map kE∧vs=mm.map vE∧oO aQ (mm.map (·.2))∧mm.length≤1000000000000
noncomputable def acN:an.Spec:=fun ds=>match ds with
 | [.aR 82 [.box (.map ks vs)],.fn 47]=>some (enc (bD aQ (vs.map dec)),aa1 ks vs)
 | _=>none
theorem awE:aL Tryz.prog 44 acN:=⟨Enters.of Tryz.func44 (by decide),fun ds r ob hs af=>by
 unfold acN at hs;split at hs
 ·cases hs
  obtain⟨mm,rfl,rfl,h1,h2⟩:=af
  have:=anU (mm:=mm) (by omega) h1 h2
  have e:(mm.map vE).map (dec:D→aa)=mm.map (·.2):=by
   rw[List.map_map]
   exact List.map_congr_left fun p _=>by simp[vE]
  rw[e];exact this
 cases hs⟩
def OC:an.Spec:=fun ds=>match ds with
 | [.map ks vs]=>some (.aR 82 [.box (.map ks vs)],True)
 | _=>none
theorem anV (ks vs:List D):ee Tryz.prog 45 [.map ks vs] (.aR 82 [.box (.map ks vs)]):=by
 have hV:=aW cn
 refine ee.SP hV Tryz.func45 rfl (by rw[Tryz.ntmps45];simp) fun R hR w0 I0 Q hQ=>?_
 rw[Tryz.ntmps45]
 refine ab.rS hV none [1] fun K k1=>?_
 simp
 refine cO (s':=⟨[pt 1 0],[.var 87 [.d (.map ks vs)]]⟩) (by first | rfl | simp) (k1 _ ?_)
 refine ab.sub (s':=⟨[(1,.d (.box (.map ks vs)))],[]⟩) (Sub.frz 1 0 (.map ks vs) [] rfl rfl (by simp[D.cells,D.one]) (by decide) (by decide) rfl rfl trivial) ?_
 refine ab.rS hV none [2] fun K k1=>?_
 simp
 refine cO (s':=⟨[(2,.d (.aR 82 [.box (.map ks vs)]))],[]⟩) (by first | rfl | simp) (k1 _ ?_)
 refine ab.ret ?_
 refine hQ _ _ (.inl rfl) ?_
 simp[uh,dN]
theorem aaU:aL Tryz.prog 45 OC:=⟨Enters.of Tryz.func45 (by decide),fun ds r ob hs af=>by
 unfold OC at hs;split at hs
 ·cases hs;exact anV _ _
 cases hs⟩
def bT {α:Type} (x:List (Int×α)):List α:=x.map (·.2)
theorem C5 (x:List (Int×aa)):(x.map vE).map (dec:D→aa)=bT x:=by
 rw[List.map_map];exact List.map_congr_left fun p _=>by simp[vE]
theorem Fv (x:List (Int×aa)):x.map ((dec:D→aa) ∘ vE)=bT x:=by rw[←C5,List.map_map]
def M8 (x:List (Int×aa)):Prop:=oO aQ (bT x)∧x.length≤1000000000000
noncomputable instance (x:List (Int×aa)):Decidable (M8 x):=Classical.propDecidable _
theorem aa0 {x:List (Int×aa)} (h:M8 x):aa1 (x.map kE) (x.map vE):=⟨x,rfl,rfl,h.1,h.2⟩
end
end Go.Proofs.YtjigeffmmcmlnaaGreatDoor
namespace Go.Proofs.YtjigeffmmcmlnaaGreatDoor
open Go Go.an au
noncomputable def VD (bK:(List (Int×aa))) (br:(List (Int×aa))) (fq:Int):Option Bool:=
 (ak (!(eu br fq)) (some true) (ak (decide ((aV bK fq (⟨0,0,0,(⟨0,0,0,0,0,(⟨0,0⟩:Rat),(⟨0,0⟩:Rat),(⟨0,0,0⟩:az)⟩:ae)⟩:aa)).kind=(aV br fq (⟨0,0,0,(⟨0,0,0,0,0,(⟨0,0⟩:Rat),(⟨0,0⟩:Rat),(⟨0,0,0⟩:az)⟩:ae)⟩:aa)).kind)) (some (decide ((aV bK fq (⟨0,0,0,(⟨0,0,0,0,0,(⟨0,0⟩:Rat),(⟨0,0⟩:Rat),(⟨0,0,0⟩:az)⟩:ae)⟩:aa)).note=(aV br fq (⟨0,0,0,(⟨0,0,0,0,0,(⟨0,0⟩:Rat),(⟨0,0⟩:Rat),(⟨0,0,0⟩:az)⟩:ae)⟩:aa)).note))) (some false)))
noncomputable def Eh (bH:Int) (Ge:(List aJ)):Option (((List aJ)×Int)⊕(((List aJ)))):=
 aG (ax (bH+1)) (some (.inl (Ge,(bH+1))))
noncomputable def KO (bW:(List aJ)) (bH:Int) (fq:Int) (DB:aa) (DC:aa):Option (((List aJ)×Int)⊕(((List aJ)))):=
 aG (((bW++[(⟨fq,DB,DC⟩:aJ)]):List aJ).length*248≤140737488355328) (Eh bH (bW++[(⟨fq,DB,DC⟩:aJ)]))
noncomputable def KP (bK:(List (Int×aa))) (br:(List (Int×aa))):((List aJ)×Int)→Option (((List aJ)×Int)⊕(((List aJ)))):=fun(bW,bH)=>
 ak (decide (bH < ((aE (aA bK)).length:Int))) (ag (aP (aE (aA bK)) bH) fun fq=>
 ag (VD bK br fq) fun adG=>
 ak adG (Eh bH bW)
 (ag (Cw (aV bK fq (⟨0,0,0,(⟨0,0,0,0,0,(⟨0,0⟩:Rat),(⟨0,0⟩:Rat),(⟨0,0,0⟩:az)⟩:ae)⟩:aa)) (aV br fq (⟨0,0,0,(⟨0,0,0,0,0,(⟨0,0⟩:Rat),(⟨0,0⟩:Rat),(⟨0,0,0⟩:az)⟩:ae)⟩:aa))) fun adl=>
 ak (decide (0 < adl)) (KO bW bH fq (aV br fq (⟨0,0,0,(⟨0,0,0,0,0,(⟨0,0⟩:Rat),(⟨0,0⟩:Rat),(⟨0,0,0⟩:az)⟩:ae)⟩:aa)) (aV bK fq (⟨0,0,0,(⟨0,0,0,0,0,(⟨0,0⟩:Rat),(⟨0,0⟩:Rat),(⟨0,0,0⟩:az)⟩:ae)⟩:aa)))
 (KO bW bH fq (aV bK fq (⟨0,0,0,(⟨0,0,0,0,0,(⟨0,0⟩:Rat),(⟨0,0⟩:Rat),(⟨0,0,0⟩:az)⟩:ae)⟩:aa)) (aV br fq (⟨0,0,0,(⟨0,0,0,0,0,(⟨0,0⟩:Rat),(⟨0,0⟩:Rat),(⟨0,0,0⟩:az)⟩:ae)⟩:aa)))))
 (some (.inr bW))
noncomputable def VC (bN:(List (Int×aa))) (Gs:(List aJ)):Option ((List aa)×(List aJ)×Int):=
 some ((bD aQ (bT bN)),Gs,0)
noncomputable def Qf (a0:(List aa)) (a1:(List aa)) (x2:(List aa)):Option ((List aa)×(List aJ)×Int):=
 ag (vM x2) fun bN=>
 aG (M8 bN) (ag (vM a0) fun bK=>
 ag (vM a1) fun br=>
 aG ((∀ x∈aA bK,ax x)∧bK.length≤1000000000) (ag (aH (KP bK br) ([],0)) fun aya=>
 VC bN aya))
noncomputable def tT (a0:(List aa)) (a1:(List aa)):Option ((List aa)×(List aJ)×Int):=
 ag (FQ ([a0,a1])) fun x2=>
 ak (decide (1000 < (x2.length:Int))) (some ([],[],2))
 (ag (Eg x2 (⟨⟩:uB)) fun dw=>
 ak dw (some ([],[],1))
 (ag (En x2) fun aX=>
 ak (!aX) (some ([],[],61))
 (Qf a0 a1 x2)))
noncomputable def ab0 (a1:(List aa)) (a2:(List aa)) (x2:Int) (x5:Int):Option Bool:=
 (ak (decide (x2 < 0)) (some true) (ak (decide (x5 < 0)) (some true) (ag (aP a1 x2) fun x9=>
 ag (aP a2 x5) fun cb=>
 ak (decide (x9.kind=cb.kind)) (some (decide (x9.note=cb.note))) (some false))))
noncomputable def T5 (a0:(List aJ)) (a3:Int) (wN:Int):Option Bool:=
 (ak (decide (0 < wN)) (aG (ax (wN - 1)) (ag (aP a0 (wN - 1)) fun xM=>
 some (decide (a3 < xM.note)))) (some false))
noncomputable def N6 (a0:(List aJ)) (a3:Int):Int→Option ((Int)⊕((Int))):=fun(wN:Int)=>
 ag (T5 a0 a3 wN) fun aeD=>
 ak aeD (aG (ax (wN - 1)) (some (.inl (wN - 1))))
 (some (.inr wN))
noncomputable def T4 (a0:(List aJ)) (o9:aJ) (pa:Int):Option (List aJ):=
 aG (0≤pa∧pa≤(a0.length:Int)) (aG (((a0.take pa.toNat):List aJ).length*248≤140737488355328) (aG ((((a0.take pa.toNat)++[o9]):List aJ).length*248≤140737488355328) (aG (0≤pa∧pa≤(a0.length:Int)) (aG (((((a0.take pa.toNat)++[o9])++(a0.drop pa.toNat)):List aJ).length*248≤140737488355328) (some (((a0.take pa.toNat)++[o9])++(a0.drop pa.toNat)))))))
noncomputable def I5 (a0:(List aJ)) (a3:Int) (o9:aJ):Option (List aJ):=
 ag (aH (N6 a0 a3) (a0.length:Int)) fun ayX=>
 T4 a0 o9 ayX
noncomputable def N5 (a0:(List aJ)) (a1:(List aa)) (a2:(List aa)) (a3:Int):Option (List aJ):=
 ag (tz a1 a3) fun x2=>
 ag (tz a2 a3) fun x5=>
 ag (ab0 a1 a2 x2 x5) fun adS=>
 ak adS (some a0)
 (ag (aP a1 x2) fun bK=>
 ag (aP a2 x5) fun br=>
 ag (aP a1 x2) fun B2=>
 ag (aP a2 x5) fun OX=>
 ag (Aa B2 OX) fun o7=>
 ak o7 (ag (aP a2 x5) fun ry=>
 ag (aP a1 x2) fun sB=>
 I5 a0 a3 (⟨a3,ry,sB⟩:aJ))
 (I5 a0 a3 (⟨a3,bK,br⟩:aJ)))
noncomputable def TS (aO:Int):Option ((Int)⊕(((List aa)×(List aJ)×Int)⊕(Unit))):=
 aG (ax (aO+1)) (some (.inl (aO+1)))
noncomputable def NY (a0:(List aa)) (a1:(List aa)):Int→Option ((Int)⊕(((List aa)×(List aJ)×Int)⊕(Unit))):=fun(aO:Int)=>
 ak (decide (aO < ((a0++a1).length:Int))) (ag (aP (a0++a1) aO) fun An=>
 ag (I4 An) fun wJ=>
 ak (!wJ) (some (.inr (.inl ([],[],1))))
 (TS aO))
 (some (.inr (.inr ())))
noncomputable def abT (a0:(List aa)) (a1:(List aa)) (ga:aa) (DI:Bool) (sM:Int):Option Bool:=
 (ak DI (some true) (ag (aP (a0++a1) sM) fun amU=>
 some (decide (amU.note.id=ga.note.id))))
noncomputable def TQ (sM:Int) (Gx:Bool):Option ((Bool×Int)⊕((Bool))):=
 aG (ax (sM+1)) (some (.inl (Gx,(sM+1))))
noncomputable def FK (a0:(List aa)) (a1:(List aa)) (dP:Int) (ga:aa):(Bool×Int)→Option ((Bool×Int)⊕((Bool))):=fun(DI,sM)=>
 ak (decide (sM < dP)) (ag (abT a0 a1 ga DI sM) fun aec=>
 TQ sM aec)
 (some (.inr DI))
noncomputable def TU (cV:(List aa)) (jF:aa) (wO:Int):Option Bool:=
 (ak (decide (0 < wO)) (aG (ax (wO - 1)) (ag (aP cV (wO - 1)) fun amZ=>
 ag (Aa amZ jF) fun am0=>
 some am0)) (some false))
noncomputable def NZ (cV:(List aa)) (jF:aa):Int→Option ((Int)⊕((Int))):=fun(wO:Int)=>
 ag (TU cV jF wO) fun aeh=>
 ak aeh (aG (ax (wO - 1)) (some (.inl (wO - 1))))
 (some (.inr wO))
noncomputable def IZ (dP:Int) (JK:(List aa)) (JJ:(List aJ)):Option (((List aa)×(List aJ)×Int)⊕(((List aa)×(List aJ)))):=
 aG (ax (dP+1)) (some (.inl (JK,JJ,(dP+1))))
noncomputable def TR (a0:(List aa)) (a1:(List aa)) (cV:(List aa)) (eB:(List aJ)) (dP:Int) (ga:aa) (jF:aa) (ou:Int):Option (((List aa)×(List aJ)×Int)⊕(((List aa)×(List aJ)))):=
 aG (0≤ou∧ou≤(cV.length:Int)) (aG (((cV.take ou.toNat):List aa).length*120≤140737488355328) (aG ((((cV.take ou.toNat)++[jF]):List aa).length*120≤140737488355328) (aG (0≤ou∧ou≤(cV.length:Int)) (aG (((((cV.take ou.toNat)++[jF])++(cV.drop ou.toNat)):List aa).length*120≤140737488355328) (ag (N5 eB a0 a1 ga.note.id) fun adz=>
 IZ dP (((cV.take ou.toNat)++[jF])++(cV.drop ou.toNat)) adz)))))
noncomputable def NX (a0:(List aa)) (a1:(List aa)) (cV:(List aa)) (eB:(List aJ)) (dP:Int) (ga:aa) (Gu:Bool):Option (((List aa)×(List aJ)×Int)⊕(((List aa)×(List aJ)))):=
 ak Gu (IZ dP cV eB)
 (ag (tz (a0++a1) ga.note.id) fun amV=>
 ag (aP (a0++a1) amV) fun jF=>
 ag (aH (NZ cV jF) (cV.length:Int)) fun ayt=>
 TR a0 a1 cV eB dP ga jF ayt)
noncomputable def Dk (a0:(List aa)) (a1:(List aa)):((List aa)×(List aJ)×Int)→Option (((List aa)×(List aJ)×Int)⊕(((List aa)×(List aJ)))):=fun(cV,eB,dP)=>
 ak (decide (dP < ((a0++a1).length:Int))) (ag (aP (a0++a1) dP) fun ga=>
 ag (aH (FK a0 a1 dP ga) (false,0)) fun ayp=>
 NX a0 a1 cV eB dP ga ayp)
 (some (.inr (cV,eB)))
noncomputable def TT (JQ:(List aa)) (JP:(List aJ)):Option ((List aa)×(List aJ)×Int):=
 some (JQ,JP,0)
noncomputable def TP (a0:(List aa)) (a1:(List aa)):Option ((List aa)×(List aJ)×Int):=
 ag (NP (a0++a1)) fun oN=>
 ak (!oN) (some ([],[],61))
 (ag (aH (Dk a0 a1) ([],[],0)) fun ajx=>
 match ajx with
 | (ayv,ayu)=>TT ayv ayu)
noncomputable def NW (a0:(List aa)) (a1:(List aa)):Option ((List aa)×(List aJ)×Int):=
 aG ((a0:List aa).length*120≤140737488355328) (aG (((a0++a1):List aa).length*120≤140737488355328) (ak (decide (1000 < ((a0++a1).length:Int))) (some ([],[],2))
 (ag (aH (NY a0 a1) 0) fun o43=>
 match o43 with
 | .inl (ayG,ayH,ayI)=>some (ayG,ayH,ayI)
 | .inr ()=>TP a0 a1)))
noncomputable def It (a0:Int) (a1:Int):Option Rat:=
 some (⟨a0,a1⟩:Rat)
noncomputable def Bt (a0:Int) (a1:Int):Option ae:=
 ag (It 0 1) fun x2=>
 ag (It 1 1) fun x4=>
 some (⟨a0,1,1,0,0,x2,x4,(⟨0,0,a1⟩:az)⟩:ae)
noncomputable def ZZ (a0:Score) (a1:(List aa)):Option Bool:=
 (ag (IT a0) fun x2=>
 ak x2 (some (decide ((a1.length:Int)≤30))) (some false))
noncomputable def Fp (a0:Score) (a1:(List aa)):Option Bool:=
 ag (ZZ a0 a1) fun aek=>
 some aek
noncomputable def Qg (p0:(List (Int×ae))) (p1:(List (Int×ae))) (p2:(List aa)) (p3:ae) (p4:Int) (p5:ae):Option Unit:=
 aG (ax ((p2.length:Int)+1)) (aG (((p2++[(⟨p4,((p2.length:Int)+1),1,p5⟩:aa)]):List aa).length*120≤140737488355328) (some ()))
noncomputable def Qh (p0:(List (Int×ae))) (p1:(List (Int×ae))) (p2:(List aa)) (p3:Int) (p4:ae):Option Unit:=
 aG (ax ((p2.length:Int)+1)) (aG (((p2++[(⟨p3,((p2.length:Int)+1),1,p4⟩:aa)]):List aa).length*120≤140737488355328) (some ()))
noncomputable def Ql (tI:Int) (GD:(List (Int×ae))):Option (((List (Int×ae))×Int)⊕(((List (Int×ae))))):=
 aG (ax (tI+1)) (some (.inl (GD,(tI+1))))
noncomputable def Em (a0:Score):((List (Int×ae))×Int)→Option (((List (Int×ae))×Int)⊕(((List (Int×ae))))):=fun(bE,tI)=>
 ak (decide (tI < (a0.notes.length:Int))) (ag (aP a0.notes tI) fun ej=>
 Ql tI (cq bE ej.id ej))
 (some (.inr bE))
noncomputable def Qj (tN:Int) (GU:(List (Int×ae))):Option (((List (Int×ae))×Int)⊕(((List (Int×ae))))):=
 aG (ax (tN+1)) (some (.inl (GU,(tN+1))))
noncomputable def Ej (x2:Score):((List (Int×ae))×Int)→Option (((List (Int×ae))×Int)⊕(((List (Int×ae))))):=fun(eB,tN)=>
 ak (decide (tN < (x2.notes.length:Int))) (ag (aP x2.notes tN) fun jG=>
 Qj tN (cq eB jG.id jG))
 (some (.inr eB))
noncomputable def KQ (qa:Int) (Gj:(List aa)):Option (((List aa)×Int)⊕(((List aa)))):=
 aG (ax (qa+1)) (some (.inl (Gj,(qa+1))))
noncomputable def Ek (bA:(List (Int×ae))) (cd:(List (Int×ae))):((List aa)×Int)→Option (((List aa)×Int)⊕(((List aa)))):=fun(uu,qa)=>
 ak (decide (qa < ((aE (aA cd)).length:Int))) (ag (aP (aE (aA cd)) qa) fun sA=>
 ak (!(eu bA sA)) (ag (Qg bA cd uu (aV bA sA (⟨0,0,0,0,0,(⟨0,0⟩:Rat),(⟨0,0⟩:Rat),(⟨0,0,0⟩:az)⟩:ae)) 2 (⟨sA,0,0,0,0,(⟨0,0⟩:Rat),(⟨0,0⟩:Rat),(⟨0,0,0⟩:az)⟩:ae)) fun()=>
 KQ qa (uu++[(⟨2,((uu.length:Int)+1),1,(⟨sA,0,0,0,0,(⟨0,0⟩:Rat),(⟨0,0⟩:Rat),(⟨0,0,0⟩:az)⟩:ae)⟩:aa)]))
 (KQ qa uu))
 (some (.inr uu))
noncomputable def VG (bA:(List (Int×ae))) (cd:(List (Int×ae))) (tD:Int):Option Bool:=
 (ak (!(eu cd tD)) (some true) (some (!decide ((aV cd tD (⟨0,0,0,0,0,(⟨0,0⟩:Rat),(⟨0,0⟩:Rat),(⟨0,0,0⟩:az)⟩:ae))=(aV bA tD (⟨0,0,0,0,0,(⟨0,0⟩:Rat),(⟨0,0⟩:Rat),(⟨0,0,0⟩:az)⟩:ae))))))
noncomputable def KS (qb:Int) (Gp:(List aa)):Option (((List aa)×Int)⊕(((List aa)))):=
 aG (ax (qb+1)) (some (.inl (Gp,(qb+1))))
noncomputable def El (bA:(List (Int×ae))) (cd:(List (Int×ae))):((List aa)×Int)→Option (((List aa)×Int)⊕(((List aa)))):=fun(uw,qb)=>
 ak (decide (qb < ((aE (aA bA)).length:Int))) (ag (aP (aE (aA bA)) qb) fun tD=>
 ag (VG bA cd tD) fun ad2=>
 ak ad2 (ag (Qh bA cd uw 1 (aV bA tD (⟨0,0,0,0,0,(⟨0,0⟩:Rat),(⟨0,0⟩:Rat),(⟨0,0,0⟩:az)⟩:ae))) fun()=>
 KS qb (uw++[(⟨1,((uw.length:Int)+1),1,(aV bA tD (⟨0,0,0,0,0,(⟨0,0⟩:Rat),(⟨0,0⟩:Rat),(⟨0,0,0⟩:az)⟩:ae))⟩:aa)]))
 (KS qb uw))
 (some (.inr uw))
noncomputable def VF (Gl:(List aa)):Option ((List aa)×Int):=
 some (Gl,0)
noncomputable def Qk (bA:(List (Int×ae))) (cd:(List (Int×ae))) (DA:(List aa)):Option ((List aa)×Int):=
 aG ((∀ x∈aA bA,ax x)∧bA.length≤1000000000) (ag (aH (El bA cd) (DA,0)) fun ayl=>
 VF ayl)
noncomputable def Qm (bA:(List (Int×ae))) (cd:(List (Int×ae))):Option ((List aa)×Int):=
 aG ((∀ x∈aA cd,ax x)∧cd.length≤1000000000) (ag (aH (Ek bA cd) ([],0)) fun ayd=>
 Qk bA cd ayd)
noncomputable def Qi (x2:Score) (bA:(List (Int×ae))):Option ((List aa)×Int):=
 ag (aH (Ej x2) ([],0)) fun ax4=>
 Qm bA ax4
noncomputable def Ei (a0:Score) (a1:(List aa)):Option ((List aa)×Int):=
 ag (tS a0 1 a1) fun(x2,x3,x4)=>
 ak (!decide (x4=0)) (some ([],x4))
 (ag (aH (Em a0) ([],0)) fun ayB=>
 Qi x2 ayB)
noncomputable def abX (a0:Score) (x2:Score) (vw:Int) (Gc:Int):Option Bool:=
 (ak (decide (Gc < 0)) (some true) (ag (aP a0.notes vw) fun JA=>
 ag (aP x2.notes Gc) fun OU=>
 some (!decide (JA=OU))))
noncomputable def FO (a0:Score) (x2:Score):((List aa)×(List aa)×Int)→Option (((List aa)×(List aa)×Int)⊕(((List aa)×(List aa)))):=fun(bE,rB,bB)=>
 ak (decide (0≤bB)) (ag (N7 a0.notes x2.notes bB) fun jG=>
 ak (decide (jG < 0)) (some (.inr (bE,rB)))
 (ag (wv a0.notes jG) fun vw=>
 ag (wv x2.notes jG) fun Gc=>
 ak (decide (vw < 0)) (aG (((bE++[(⟨2,0,0,(⟨jG,0,0,0,0,(⟨0,0⟩:Rat),(⟨0,0⟩:Rat),(⟨0,0,0⟩:az)⟩:ae)⟩:aa)]):List aa).length*120≤140737488355328) (some (.inl ((bE++[(⟨2,0,0,(⟨jG,0,0,0,0,(⟨0,0⟩:Rat),(⟨0,0⟩:Rat),(⟨0,0,0⟩:az)⟩:ae)⟩:aa)]),rB,jG))))
 (ag (abX a0 x2 vw Gc) fun adH=>
 ak adH (ag (aP a0.notes vw) fun Ai=>
 aG (((rB++[(⟨1,0,0,Ai⟩:aa)]):List aa).length*120≤140737488355328) (some (.inl (bE,(rB++[(⟨1,0,0,Ai⟩:aa)]),jG))))
 (some (.inl (bE,rB,jG))))))
 (some (.inr (bE,rB)))
noncomputable def T2 (jl:Int) (Gk:(List aa)):Option (((List aa)×Int)⊕(((List aa)))):=
 aG (ax (jl+1)) (some (.inl (Gk,(jl+1))))
noncomputable def FN:((List aa)×Int)→Option (((List aa)×Int)⊕(((List aa)))):=fun(xO,jl)=>
 ak (decide (jl < (xO.length:Int))) (aG (ax (jl+1)) (ag (aP xO jl) fun OW=>
 ag (aP (xO.set jl.toNat ({ OW with clock:=(jl+1) })) jl) fun adq=>
 T2 jl ((xO.set jl.toNat ({ OW with clock:=(jl+1) })).set jl.toNat ({ adq with ev:=1 }))))
 (some (.inr xO))
noncomputable def T3 (Gh:(List aa)):Option ((List aa)×Int):=
 some (Gh,0)
noncomputable def T1 (B8:(List aa)) (yW:(List aa)):Option ((List aa)×Int):=
 aG (((B8++yW):List aa).length*120≤140737488355328) (ag (aH FN ((B8++yW),0)) fun aye=>
 T3 aye)
noncomputable def N4 (a0:Score) (a1:(List aa)):Option ((List aa)×Int):=
 ag (IY a0 1 a1) fun(x2,x3,x4)=>
 ak (!decide (x4=0)) (some ([],x4))
 (ag (aH (FO a0 x2) ([],[],0)) fun o85=>
 match o85 with
 | (ax9,ax8)=>T1 ax9 ax8)
end Go.Proofs.YtjigeffmmcmlnaaGreatDoor
namespace Go.Proofs.YtjigeffmmcmlnaaGreatDoor
open Go Go.an au
set_option maxRecDepth 4000
attribute [local instance] cJ
attribute [local congr] ab.kO
attribute [local simp] bu dz dU evalOp bd an.get fk strip bq an.after iI typed gr holds cR R.ok R.bad gI iU jk gW ku ji Op.operands Call.operands dY dA dQ dR iH il fm im gK fg nj nk nm np fK lH lL lJ fL jq lg lp lk ln ng ni jv mD bf D.cells T.eT D.one gH fV gb fo setAt eI fC jC fa gN bw cX iy fU iA gv jV arith et iM jf dG gC iN TD.agg env bR List.map fe iD ff gn gT mapOf iz iq dr mH mI mJ mK mL mM mN mO lK nh ll me mC my mB mr mG lq mi ml jw mE ko jh fh du fj iP gJ jB gone unbox iW fE gB gG lI lh nf jg jS List.contains_cons List.contains_nil lr iO iC iB gm ib gX lC kY mW l6 mw mu mz kr mF mh mj P2.list mA lB kW mU lF lb mZ l9 jQ kM lu kR mP lW jI kC lA kV mT l4 jM kH lE la mY l8 jP kL lD kZ mX l7 jO kJ jX kX mV l5 jN kI lG lf nc ma jW kT mR lY jK kF lv kS mQ lX jJ kD lz kU mS lZ jL kG kQ km lN lO lT lU lP lV lQ lR lS lM nD nH kv kz iQ nB nC nE nF nG nI nJ jD jE nL nM nN nO nP nQ nR nS nq nr nu nv nw nx ny nz nA
section
set_option maxRecDepth 10000
open Go.RowKit
attribute [local simp] eJ Er Hw
theorem axH {mm:List (Int×aa)} (fc:mm.length*120≤140737488355328) (hn:oO aQ (mm.map (·.2))) (hlen:mm.length≤1000000000000) :
  DM Tryz.prog 44 [.aR 82 [.box (.map (mm.map kE) (mm.map vE))],.fn 47] (.row 0) [.row 52 15 ((bD aQ (mm.map (·.2))).map enc)]:=by
 haveI:=cJ
 have hV:bO Tryz.prog (Er []):=afI trivial
 refine DM.of Tryz.func44 rfl (by rw[Tryz.ntmps44];simp) rfl fun R hR w0 I0 Q hQ=>?_
 rw[Tryz.ntmps44]
 refine ab.rS hV none [0,1] fun K k1=>?_
 simp
 refine cO (s':=⟨[(0,.d (.aR 82 [.box (.map (mm.map kE) (mm.map vE))])),(1,.d (.fn 47))],[]⟩) (by first | rfl | simp) (k1 _ ?_)
 refine ab.rC hV [1,5] fun K k1=>?_
 refine cm.seq hV none 1 [1,6] (by decide) (by decide) fun K1 h1=>?_
 simp
 refine cO (s':=⟨[(1,.d (.fn 47)),(6,.d (.aR 82 [.box (.map (mm.map kE) (mm.map vE))]))],[]⟩) (by first | rfl | simp) (h1 _ ?_)
 refine cm.call hV 80 [.d (.aR 82 [.box (.map (mm.map kE) (mm.map vE))])] rfl rfl trivial (by decide) (by simp[kN,Er]) fun K2 h2=>?_
 refine(alb fc).mono ?_
 rintro _ _ ⟨rfl,zs,v0,f0,hp,rfl⟩
 have L5:oO aQ zs:=hn.perm hp.symm
 have XW:zs.length≤1000000000000:=by rw[hp.length_eq];simpa using hlen
 rw[←alj hp L5] at hQ
 refine h2 _ _ (cm.fin hV none ?_)
 simp
 refine cO (s':=⟨[(1,.d (.fn 47)),(5,.row 1)],[.frame 0 v0 f0,.row 52 15 (zs.map enc)]⟩) (by first | rfl | simp) (k1 _ ?_)
 refine ab.sub (s':=⟨[(1,.d (.fn 47)),(5,.row 0)],[.row 52 15 (zs.map enc)]⟩) (Sub.bY [1] (by decide) (by simp[mg]) (by simp[ez,AO.bY]) (by simp[mf,T.bY,T.eU,idx])) ?_
 refine ab.rS hV none [5] fun K k2=>?_
 simp[Er,Hw]
 refine And.intro ⟨by simpa using L5,XW⟩ ?_
 refine cO (s':=⟨[(5,.row 0)],[.row 52 15 ((bD aQ zs).map enc)]⟩) (by first | rfl | simp) (k2 _ ?_)
 refine ab.rS hV none [4] fun K k3=>?_
 simp
 refine cO (s':=⟨[(4,.row 0)],[.row 52 15 ((bD aQ zs).map enc)]⟩) (by first | rfl | simp) (k3 _ ?_)
 refine ab.ret ?_
 exact hQ _ _ (.inl rfl) (Sub.refl _)
noncomputable def Ac (ts:List T) (l:List AO):Option FR:=match dQ l ts with
 | some ([.aR 82 [.box (.map ks vs)],.fn 47],l1)=>some ⟨.row l1.length,l1++[.row 52 15 ((bD aQ (vs.map dec)).map enc)],aa1 ks vs⟩
 | _=>none
theorem az5 {ts:List T} {l:List AO} {r:FR} (h:Ac ts l=some r) (af:r.ob):qG Tryz.prog 44 ts l r.t r.l:=by
 unfold Ac at h
 split at h
 ·rename_i ks vs l1 hd
  cases h
  obtain⟨mm,rfl,rfl,h1,h2⟩:=af
  have e:(mm.map vE).map (dec:D→aa)=mm.map (·.2):=by
   rw[List.map_map]
   exact List.map_congr_left fun p _=>by simp[vE,lj]
  have:=qG.ajA hd (axH (mm:=mm) (by omega) h1 h2) (fun o ho=>by simp at ho;subst ho;exact .inl rfl)
  rw[e]
  simpa [T.shift] using this
 cases h
noncomputable def zn:DL:=fun g ts l=>if g=44 then Ac ts l else none
theorem aoF:G0 Tryz.prog zn:=by
 intro g ts l r hr af
 unfold zn at hr
 split at hr
 ·rename_i hg;subst hg;exact⟨Enters.of Tryz.func44 (by decide),az5 hr af⟩
 cases hr
noncomputable def Cx (l:List (FuncId×an.Spec)):Env:={ env l with F:=zn }
theorem AJ {l:List (FuncId×an.Spec)} (h:vF Tryz.prog l):bO Tryz.prog (Cx l):=
 haveI:=cJ
 have h0:=aW h
 ⟨h0.E,h0.C,h0.eq,aoF,h0.prog⟩
end
end Go.Proofs.YtjigeffmmcmlnaaGreatDoor
namespace Go.Proofs.YtjigeffmmcmlnaaGreatDoor
open Go Go.an au
noncomputable def aiL (aM:(List (Int×aa))) (bc:(List (Int×aa))) (bQ:Int):Option Bool:=
 (ak (!(eu bc bQ)) (some true) (ak (decide ((aV aM bQ (⟨0,0,0,(⟨0,0,0,0,0,(⟨0,0⟩:Rat),(⟨0,0⟩:Rat),(⟨0,0,0⟩:az)⟩:ae)⟩:aa)).kind=(aV bc bQ (⟨0,0,0,(⟨0,0,0,0,0,(⟨0,0⟩:Rat),(⟨0,0⟩:Rat),(⟨0,0,0⟩:az)⟩:ae)⟩:aa)).kind)) (some (decide ((aV aM bQ (⟨0,0,0,(⟨0,0,0,0,0,(⟨0,0⟩:Rat),(⟨0,0⟩:Rat),(⟨0,0,0⟩:az)⟩:ae)⟩:aa)).note=(aV bc bQ (⟨0,0,0,(⟨0,0,0,0,0,(⟨0,0⟩:Rat),(⟨0,0⟩:Rat),(⟨0,0,0⟩:az)⟩:ae)⟩:aa)).note))) (some false)))
noncomputable def Sm (bH:Int) (ur:(List aJ)):Option (((List aJ)×Int)⊕(((List aJ)))):=
 aG (ax (bH+1)) (some (.inl (ur,(bH+1))))
noncomputable def Sn (bW:(List aJ)) (bH:Int) (bQ:Int) (sD:aa) (sE:aa):Option (((List aJ)×Int)⊕(((List aJ)))):=
 aG (((bW++[(⟨bQ,sD,sE⟩:aJ)]):List aJ).length*248≤140737488355328) (Sm bH (bW++[(⟨bQ,sD,sE⟩:aJ)]))
noncomputable def Z2 (aM:(List (Int×aa))) (bc:(List (Int×aa))):((List aJ)×Int)→Option (((List aJ)×Int)⊕(((List aJ)))):=fun(bW,bH)=>
 ak (decide (bH < ((aE (aA aM)).length:Int))) (ag (aP (aE (aA aM)) bH) fun bQ=>
 ag (aiL aM bc bQ) fun Gf=>
 ak Gf (Sm bH bW)
 (ag (Cw (aV aM bQ (⟨0,0,0,(⟨0,0,0,0,0,(⟨0,0⟩:Rat),(⟨0,0⟩:Rat),(⟨0,0,0⟩:az)⟩:ae)⟩:aa)) (aV bc bQ (⟨0,0,0,(⟨0,0,0,0,0,(⟨0,0⟩:Rat),(⟨0,0⟩:Rat),(⟨0,0,0⟩:az)⟩:ae)⟩:aa))) fun Gd=>
 ak (decide (0 < Gd)) (Sn bW bH bQ (aV bc bQ (⟨0,0,0,(⟨0,0,0,0,0,(⟨0,0⟩:Rat),(⟨0,0⟩:Rat),(⟨0,0,0⟩:az)⟩:ae)⟩:aa)) (aV aM bQ (⟨0,0,0,(⟨0,0,0,0,0,(⟨0,0⟩:Rat),(⟨0,0⟩:Rat),(⟨0,0,0⟩:az)⟩:ae)⟩:aa)))
 (Sn bW bH bQ (aV aM bQ (⟨0,0,0,(⟨0,0,0,0,0,(⟨0,0⟩:Rat),(⟨0,0⟩:Rat),(⟨0,0,0⟩:az)⟩:ae)⟩:aa)) (aV bc bQ (⟨0,0,0,(⟨0,0,0,0,0,(⟨0,0⟩:Rat),(⟨0,0⟩:Rat),(⟨0,0,0⟩:az)⟩:ae)⟩:aa)))))
 (some (.inr bW))
noncomputable def Z1 (bJ:(List (Int×aa))) (sF:(List aJ)):Option ((List aa)×(List aJ)×Int):=
 some ((bD aQ (bT bJ)),sF,0)
noncomputable def Z0 (p3:(List aa)) (p4:(List aa)) (x3:(List aa)):Option ((List aa)×(List aJ)×Int):=
 ag (vM x3) fun bJ=>
 aG (M8 bJ) (ag (vM p3) fun aM=>
 ag (vM p4) fun bc=>
 aG ((∀ x∈aA aM,ax x)∧aM.length≤1000000000) (ag (aH (Z2 aM bc) ([],0)) fun abk=>
 Z1 bJ abk))
noncomputable def Sl (p0:Score) (p1:aa) (p2:aa) (p3:(List aa)) (p4:(List aa)):Option ((List aa)×(List aJ)×Int):=
 ag (FQ ([p3,p4])) fun x3=>
 ak (decide (1000 < (x3.length:Int))) (some ([],[],2))
 (ag (Eg x3 (⟨⟩:uB)) fun cb=>
 ak cb (some ([],[],1))
 (ag (En x3) fun cL=>
 ak (!cL) (some ([],[],61))
 (Z0 p3 p4 x3)))
noncomputable def aiM (aM:(List (Int×aa))) (bc:(List (Int×aa))) (bQ:Int):Option Bool:=
 (ak (!(eu bc bQ)) (some true) (ak (decide ((aV aM bQ (⟨0,0,0,(⟨0,0,0,0,0,(⟨0,0⟩:Rat),(⟨0,0⟩:Rat),(⟨0,0,0⟩:az)⟩:ae)⟩:aa)).kind=(aV bc bQ (⟨0,0,0,(⟨0,0,0,0,0,(⟨0,0⟩:Rat),(⟨0,0⟩:Rat),(⟨0,0,0⟩:az)⟩:ae)⟩:aa)).kind)) (some (decide ((aV aM bQ (⟨0,0,0,(⟨0,0,0,0,0,(⟨0,0⟩:Rat),(⟨0,0⟩:Rat),(⟨0,0,0⟩:az)⟩:ae)⟩:aa)).note=(aV bc bQ (⟨0,0,0,(⟨0,0,0,0,0,(⟨0,0⟩:Rat),(⟨0,0⟩:Rat),(⟨0,0,0⟩:az)⟩:ae)⟩:aa)).note))) (some false)))
noncomputable def Sq (bH:Int) (ur:(List aJ)):Option (((List aJ)×Int)⊕(((List aJ)))):=
 aG (ax (bH+1)) (some (.inl (ur,(bH+1))))
noncomputable def Sr (bW:(List aJ)) (bH:Int) (bQ:Int) (sD:aa) (sE:aa):Option (((List aJ)×Int)⊕(((List aJ)))):=
 aG (((bW++[(⟨bQ,sD,sE⟩:aJ)]):List aJ).length*248≤140737488355328) (Sq bH (bW++[(⟨bQ,sD,sE⟩:aJ)]))
noncomputable def Z5 (aM:(List (Int×aa))) (bc:(List (Int×aa))):((List aJ)×Int)→Option (((List aJ)×Int)⊕(((List aJ)))):=fun(bW,bH)=>
 ak (decide (bH < ((aE (aA aM)).length:Int))) (ag (aP (aE (aA aM)) bH) fun bQ=>
 ag (aiM aM bc bQ) fun Gf=>
 ak Gf (Sq bH bW)
 (ag (Cw (aV aM bQ (⟨0,0,0,(⟨0,0,0,0,0,(⟨0,0⟩:Rat),(⟨0,0⟩:Rat),(⟨0,0,0⟩:az)⟩:ae)⟩:aa)) (aV bc bQ (⟨0,0,0,(⟨0,0,0,0,0,(⟨0,0⟩:Rat),(⟨0,0⟩:Rat),(⟨0,0,0⟩:az)⟩:ae)⟩:aa))) fun Gd=>
 ak (decide (0 < Gd)) (Sr bW bH bQ (aV bc bQ (⟨0,0,0,(⟨0,0,0,0,0,(⟨0,0⟩:Rat),(⟨0,0⟩:Rat),(⟨0,0,0⟩:az)⟩:ae)⟩:aa)) (aV aM bQ (⟨0,0,0,(⟨0,0,0,0,0,(⟨0,0⟩:Rat),(⟨0,0⟩:Rat),(⟨0,0,0⟩:az)⟩:ae)⟩:aa)))
 (Sr bW bH bQ (aV aM bQ (⟨0,0,0,(⟨0,0,0,0,0,(⟨0,0⟩:Rat),(⟨0,0⟩:Rat),(⟨0,0,0⟩:az)⟩:ae)⟩:aa)) (aV bc bQ (⟨0,0,0,(⟨0,0,0,0,0,(⟨0,0⟩:Rat),(⟨0,0⟩:Rat),(⟨0,0,0⟩:az)⟩:ae)⟩:aa)))))
 (some (.inr bW))
noncomputable def Z4 (bJ:(List (Int×aa))) (sF:(List aJ)):Option ((List aa)×(List aJ)×Int):=
 some ((bD aQ (bT bJ)),sF,0)
noncomputable def Z3 (p8:(List aa)) (p9:(List aa)) (x3:(List aa)):Option ((List aa)×(List aJ)×Int):=
 ag (vM x3) fun bJ=>
 aG (M8 bJ) (ag (vM p8) fun aM=>
 ag (vM p9) fun bc=>
 aG ((∀ x∈aA aM,ax x)∧aM.length≤1000000000) (ag (aH (Z5 aM bc) ([],0)) fun abk=>
 Z4 bJ abk))
noncomputable def Sp (p0:Score) (p1:aa) (p2:aa) (p3:(List aJ)) (p4:(List aa)) (p5:Score) (p6:Score) (p7:Score) (p8:(List aa)) (p9:(List aa)):Option ((List aa)×(List aJ)×Int):=
 ag (FQ ([p8,p9])) fun x3=>
 ak (decide (1000 < (x3.length:Int))) (some ([],[],2))
 (ag (Eg x3 (⟨⟩:uB)) fun cb=>
 ak cb (some ([],[],1))
 (ag (En x3) fun cL=>
 ak (!cL) (some ([],[],61))
 (Z3 p8 p9 x3)))
noncomputable def Z6 (cL:Int) (bc:Int) (o7:Int) (iE:Int) (gY:Int) (wJ:Int) (B4:Int):Option Bool:=
 (ak (decide (cL=0)) (ak (decide (bc=0)) (ak (decide (o7=0)) (ak (decide (iE=0)) (ak (decide (gY=0)) (ak (decide (wJ=61)) (some (decide (B4=1))) (some false)) (some false)) (some false)) (some false)) (some false)) (some false))
noncomputable def Z7 (x8:ae) (aU:(List aa)) (aX:(List aJ)) (br:(List Int)) (iR:(List Int)) (O2:Bool):Option Bool:=
 (ak O2 (ag (Ab aU ([(⟨1,6,2,x8⟩:aa)])) fun B7=>
 ak B7 (ag (FL aX ([(⟨7,(⟨2,5,1,(⟨7,0,0,0,0,(⟨0,0⟩:Rat),(⟨0,0⟩:Rat),(⟨0,0,0⟩:az)⟩:ae)⟩:aa),(⟨1,6,2,x8⟩:aa)⟩:aJ)])) fun xM=>
 ak xM (ag (FM br ([0,23])) fun x85=>
 ak x85 (ag (FM iR ([20,1])) fun vA=>
 some vA) (some false)) (some false)) (some false)) (some false))
noncomputable def Z8 (x2:Rat) (x4:ae) (aM:Score) (xK:Score) (O3:Bool):Option Bool:=
 (ak O3 (ak (decide (aM.version=3)) (ak (decide ((aM.notes.length:Int)=1)) (ag (aP aM.notes 0) fun vw=>
 ag (Bt 7 5) fun amD=>
 ak (decide (vw=amD)) (ag (z7 xK (⟨1,[(⟨1,x2,0⟩:aT)],[(⟨1,0,0,0,1,(⟨0,0⟩:Interval),(⟨0,0,0⟩:az),(⟨0,0,8⟩:az)⟩:Part)],[x4]⟩:Score)) fun amE=>
 some amE) (some false)) (some false)) (some false)) (some false))
noncomputable def zW:Option Bool:=
 ag (It 4 1) fun x2=>
 ag (Bt 7 4) fun x4=>
 ag (Bt 7 5) fun x8=>
 ag (Sl (⟨1,[(⟨1,x2,0⟩:aT)],[(⟨1,0,0,0,1,(⟨0,0⟩:Interval),(⟨0,0,0⟩:az),(⟨0,0,8⟩:az)⟩:Part)],[x4]⟩:Score) (⟨2,5,1,(⟨7,0,0,0,0,(⟨0,0⟩:Rat),(⟨0,0⟩:Rat),(⟨0,0,0⟩:az)⟩:ae)⟩:aa) (⟨1,6,2,x8⟩:aa) ([(⟨2,5,1,(⟨7,0,0,0,0,(⟨0,0⟩:Rat),(⟨0,0⟩:Rat),(⟨0,0,0⟩:az)⟩:ae)⟩:aa)]) ([(⟨1,6,2,x8⟩:aa)])) fun(aU,aX,cL)=>
 aG (((aU++[(⟨2,7,2,(⟨9,0,0,0,0,(⟨0,0⟩:Rat),(⟨0,0⟩:Rat),(⟨0,0,0⟩:az)⟩:ae)⟩:aa)]):List aa).length*120≤140737488355328) (ag (tS (⟨1,[(⟨1,x2,0⟩:aT)],[(⟨1,0,0,0,1,(⟨0,0⟩:Interval),(⟨0,0,0⟩:az),(⟨0,0,8⟩:az)⟩:Part)],[x4]⟩:Score) 3 (aU++[(⟨2,7,2,(⟨9,0,0,0,0,(⟨0,0⟩:Rat),(⟨0,0⟩:Rat),(⟨0,0,0⟩:az)⟩:ae)⟩:aa)])) fun(aM,br,bc)=>
 ag (Ei (⟨1,[(⟨1,x2,0⟩:aT)],[(⟨1,0,0,0,1,(⟨0,0⟩:Interval),(⟨0,0,0⟩:az),(⟨0,0,8⟩:az)⟩:Part)],[x4]⟩:Score) aU) fun(x35,o7)=>
 ag (tS aM 1 x35) fun(xK,ry,iE)=>
 ag (Bt 7 9) fun ig=>
 ag (tS (⟨1,[(⟨1,x2,0⟩:aT)],[(⟨1,0,0,0,1,(⟨0,0⟩:Interval),(⟨0,0,0⟩:az),(⟨0,0,8⟩:az)⟩:Part)],[x4]⟩:Score) 3 ([(⟨1,6,2,ig⟩:aa),(⟨0,0,0,(⟨0,0,0,0,0,(⟨0,0⟩:Rat),(⟨0,0⟩:Rat),(⟨0,0,0⟩:az)⟩:ae)⟩:aa)])) fun(nV,iR,gY)=>
 ag (Sp (⟨1,[(⟨1,x2,0⟩:aT)],[(⟨1,0,0,0,1,(⟨0,0⟩:Interval),(⟨0,0,0⟩:az),(⟨0,0,8⟩:az)⟩:Part)],[x4]⟩:Score) (⟨2,5,1,(⟨7,0,0,0,0,(⟨0,0⟩:Rat),(⟨0,0⟩:Rat),(⟨0,0,0⟩:az)⟩:ae)⟩:aa) (⟨1,6,2,x8⟩:aa) aX (aU++[(⟨2,7,2,(⟨9,0,0,0,0,(⟨0,0⟩:Rat),(⟨0,0⟩:Rat),(⟨0,0,0⟩:az)⟩:ae)⟩:aa)]) aM xK nV ([(⟨2,5,1,(⟨7,0,0,0,0,(⟨0,0⟩:Rat),(⟨0,0⟩:Rat),(⟨0,0,0⟩:az)⟩:ae)⟩:aa)]) ([(⟨2,5,1,(⟨8,0,0,0,0,(⟨0,0⟩:Rat),(⟨0,0⟩:Rat),(⟨0,0,0⟩:az)⟩:ae)⟩:aa)])) fun(An,JG,wJ)=>
 ag (tS (⟨1,[(⟨1,x2,0⟩:aT)],[(⟨1,0,0,0,1,(⟨0,0⟩:Interval),(⟨0,0,0⟩:az),(⟨0,0,8⟩:az)⟩:Part)],[x4]⟩:Score) 0 ([])) fun(oM,OY,B4)=>
 ag (Z6 cL bc o7 iE gY wJ B4) fun O2=>
 ag (Z7 x8 aU aX br iR O2) fun O3=>
 ag (Z8 x2 x4 aM xK O3) fun adB=>
 some adB)
noncomputable def Zy (a0:Score):Option Bool:=
 (ag (Fp a0 ([])) fun x6=>
 ak (!x6) (some true) (ag (z8 a0) fun x8=>
 some (!x8)))
noncomputable def ZA (bh:Score) (ru:(List Int)) (bN:Int):Option Bool:=
 (ak (!decide (bN=0)) (some true) (ak (!decide ((ru.length:Int)=1)) (some true) (ag (z8 bh) fun fT=>
 ak (!fT) (some true) (some (!decide (bh.version=5))))))
noncomputable def ZE (a0:Score) (x2:Bool) (bh:Score):Option Bool:=
 (ak x2 (ag (z7 a0 ({ bh with version:=a0.version })) fun ig=>
 some ig) (some false))
noncomputable def Zz (a0:Score) (a1:aa) (bh:Score) (wH:ae) (xI:Int):Option Bool:=
 (ak (!decide (wH.id=a1.note.id)) (ak (decide (xI < 0)) (some true) (ag (aP (({ bh with version:=a0.version }).notes) xI) fun amH=>
 some (!decide (amH=wH)))) (some false))
noncomputable def R2 (sN:Int):Option ((Int)⊕((Bool)⊕(Unit))):=
 aG (ax (sN+1)) (some (.inl (sN+1)))
noncomputable def MF (a0:Score) (a1:aa) (bh:Score):Int→Option ((Int)⊕((Bool)⊕(Unit))):=fun(sN:Int)=>
 ak (decide (sN < (a0.notes.length:Int))) (ag (aP a0.notes sN) fun wH=>
 ag (wv (({ bh with version:=a0.version }).notes) wH.id) fun xI=>
 ag (Zz a0 a1 bh wH xI) fun adO=>
 ak adO (some (.inr (.inl false)))
 (R2 sN))
 (some (.inr (.inr ())))
noncomputable def ZB (a0:Score) (a1:aa) (xJ:ae):Option Bool:=
 (ak (!decide (xJ.id=a1.note.id)) (ag (wv a0.notes xJ.id) fun amO=>
 some (decide (amO < 0))) (some false))
noncomputable def R4 (tH:Int):Option ((Int)⊕((Bool)⊕(Unit))):=
 aG (ax (tH+1)) (some (.inl (tH+1)))
noncomputable def MG (a0:Score) (a1:aa) (bh:Score):Int→Option ((Int)⊕((Bool)⊕(Unit))):=fun(tH:Int)=>
 ak (decide (tH < ((({ bh with version:=a0.version }).notes).length:Int))) (ag (aP (({ bh with version:=a0.version }).notes) tH) fun xJ=>
 ag (ZB a0 a1 xJ) fun adX=>
 ak adX (some (.inr (.inl false)))
 (R4 tH))
 (some (.inr (.inr ())))
noncomputable def ZC (a0:Score) (a1:aa) (x2:Bool) (Ak:Int):Option Bool:=
 (ak x2 (ak (decide (Ak < 0)) (ag (wv a0.notes a1.note.id) fun amP=>
 some (decide (0≤amP))) (some false)) (some false))
noncomputable def ZD (a0:Score) (a1:aa) (x2:Bool) (bh:Score) (Ak:Int):Option Bool:=
 (ak x2 (ak (decide (0≤Ak)) (ag (aP (({ bh with version:=a0.version }).notes) Ak) fun amQ=>
 ak (decide (amQ=a1.note)) (ag (IV a0.bars (({ bh with version:=a0.version }).bars)) fun amR=>
 ak amR (ag (IW a0.parts (({ bh with version:=a0.version }).parts)) fun amT=>
 some amT) (some false)) (some false)) (some false)) (some false))
noncomputable def R3 (a0:Score) (a1:aa) (x2:Bool) (bh:Score):Option Bool:=
 ag (wv (({ bh with version:=a0.version }).notes) a1.note.id) fun Ak=>
 ak (decide (a1.kind=2)) (ag (ZC a0 a1 x2 Ak) fun adY=>
 some adY)
 (ag (ZD a0 a1 x2 bh Ak) fun ad1=>
 some ad1)
noncomputable def R5 (a0:Score) (a1:aa) (x2:Bool) (bh:Score):Option Bool:=
 ag (aH (MG a0 a1 bh) 0) fun ajs=>
 match ajs with
 | .inl ayg=>some ayg
 | .inr ()=>R3 a0 a1 x2 bh
noncomputable def R1 (a0:Score) (a1:aa):Option Bool:=
 ag (zW) fun x2=>
 ag (Zy a0) fun adD=>
 ak adD (some x2)
 (ag (tS a0 5 ([a1])) fun(bh,ru,bN)=>
 ag (ZA bh ru bN) fun ad4=>
 ak ad4 (some false)
 (ag (aP ru 0) fun ry=>
 ak (!decide (ry=0)) (ag (ZE a0 x2 bh) fun aeg=>
 some aeg)
 (ag (aH (MF a0 a1 bh) 0) fun ajn=>
 match ajn with
 | .inl abl=>some abl
 | .inr ()=>R5 a0 a1 x2 bh)))
noncomputable def ZT (a0:Score) (a1:aa) (a2:aa):Option Bool:=
 (ag (Fp a0 ([])) fun x6=>
 ak (!x6) (some true) (ag (z8 a0) fun x8=>
 ak (!x8) (some true) (some (decide (a1.note.id=a2.note.id)))))
noncomputable def ZU (bJ:(List Int)) (ot:Int) (aM:(List Int)) (br:Int):Option Bool:=
 (ak (!decide (ot=0)) (some true) (ak (!decide (br=0)) (some true) (ak (!decide ((bJ.length:Int)=2)) (some true) (some (!decide ((aM.length:Int)=2))))))
noncomputable def ZV (x2:Bool) (bN:Score) (bJ:(List Int)) (bK:Score) (aM:(List Int)):Option Bool:=
 (ak x2 (ag (z7 bN bK) fun Am=>
 ak Am (ag (aP bJ 0) fun Dx=>
 ag (aP aM 1) fun iR=>
 ak (decide (Dx=iR)) (ag (aP bJ 1) fun ej=>
 ag (aP aM 0) fun fH=>
 some (decide (ej=fH))) (some false)) (some false)) (some false))
noncomputable def Sh (a0:Score) (a1:aa) (a2:aa):Option Bool:=
 ag (zW) fun x2=>
 ag (ZT a0 a1 a2) fun adF=>
 ak adF (some x2)
 (ag (tS a0 5 ([a1,a2])) fun(bN,bJ,ot)=>
 ag (tS a0 5 ([a2,a1])) fun(bK,aM,br)=>
 ag (ZU bJ ot aM br) fun ad8=>
 ak ad8 (some false)
 (ag (ZV x2 bN bJ bK aM) fun aem=>
 some aem))
noncomputable def ZO (a0:(List aa)) (a1:(List aa)) (a2:(List aa)):Option Bool:=
 (ak (decide (30 < (a0.length:Int))) (some true) (ak (decide (30 < (a1.length:Int))) (some true) (some (decide (30 < (a2.length:Int))))))
noncomputable def ZP (cL:(List aa)) (o6:(List aJ)) (bh:Int) (bJ:(List aa)) (ot:(List aJ)) (fu:Int):Option Bool:=
 (ak (!decide (bh=fu)) (some true) (ag (Ab cL bJ) fun br=>
 ak (!br) (some true) (ag (FL o6 ot) fun ei=>
 some (!ei))))
noncomputable def ZQ (x2:Bool) (iE:(List aa)) (sB:(List aJ)) (nW:(List aa)) (rA:Int):Option Bool:=
 (ak x2 (ak (decide ((sB.length:Int)=0)) (ak (decide (rA=0)) (ag (Ab iE nW) fun JG=>
 some JG) (some false)) (some false)) (some false))
noncomputable def ZR (bh:Int) (wK:Int):Option Bool:=
 (ak (!decide (bh=0)) (some true) (some (!decide (wK=0))))
noncomputable def ZS (vB:Bool) (B7:(List aa)) (xM:Int) (nX:(List aa)) (tG:Int):Option Bool:=
 (ak vB (ak (!decide (xM=0)) (some true) (ak (!decide (tG=0)) (some true) (ag (Ab B7 nX) fun OZ=>
 some OZ))) (some false))
noncomputable def Ir (a0:(List aa)) (a1:(List aa)) (a2:(List aa)) (cL:(List aa)) (bh:Int) (vB:Bool):Option Bool:=
 ag (tT a1 a2) fun(xL,oN,wK)=>
 ag (ZR bh wK) fun aex=>
 ak aex (some vB)
 (ag (tT cL a2) fun(B7,x82,xM)=>
 ag (tT a0 xL) fun(nX,vA,tG)=>
 ag (ZS vB B7 xM nX tG) fun aeF=>
 some aeF)
noncomputable def Sg (a0:(List aa)) (a1:(List aa)) (a2:(List aa)):Option Bool:=
 ag (zW) fun x2=>
 ag (ZO a0 a1 a2) fun aev=>
 ak aev (some x2)
 (ag (tT a0 a1) fun(cL,o6,bh)=>
 ag (tT a1 a0) fun(bJ,ot,fu)=>
 ag (ZP cL o6 bh bJ ot fu) fun ad9=>
 ak ad9 (some false)
 (ag (tT a0 a0) fun(iE,sB,Am)=>
 ak (decide (Am=0)) (ag (tT iE a0) fun(nW,fH,rA)=>
 ag (ZQ x2 iE sB nW rA) fun aeo=>
 Ir a0 a1 a2 cL bh aeo)
 (Ir a0 a1 a2 cL bh x2)))
noncomputable def ZF (a0:(List aa)) (a1:(List aa)):Option Bool:=
 (ak (decide (30 < (a0.length:Int))) (some true) (some (decide (30 < (a1.length:Int)))))
noncomputable def aiK (x2:Bool) (aU:(List aa)) (aX:(List aJ)):Option Bool:=
 (ak x2 (ak (decide ((aU.length:Int)=0)) (some (decide ((aX.length:Int)=0))) (some false)) (some false))
noncomputable def Sc (tL:Int) (GM:(List (Int×Bool))):Option (((List (Int×Bool))×Int)⊕(((List (Int×Bool))))):=
 aG (ax (tL+1)) (some (.inl (GM,(tL+1))))
noncomputable def Fm (a0:(List aa)) (a1:(List aa)):((List (Int×Bool))×Int)→Option (((List (Int×Bool))×Int)⊕(((List (Int×Bool))))):=fun(DJ,tL)=>
 ak (decide (tL < ((([]++a0)++a1).length:Int))) (ag (aP (([]++a0)++a1) tL) fun pY=>
 Sc tL (cq DJ pY.note.id true))
 (some (.inr DJ))
noncomputable def ZG (a0:(List aa)) (a1:(List aa)) (aU:(List aa)) (bV:(List (Int×Bool))) (ov:Int) (Aj:aa) (yV:Int):Option Bool:=
 (ak (decide (yV < 0)) (some true) (ag (aP (([]++a0)++a1) yV) fun amK=>
 ak (!decide (amK=Aj)) (some true) (ak (decide (0 < ov)) (aG (ax (ov - 1)) (ag (aP aU (ov - 1)) fun amL=>
 ag (Aa Aj amL) fun amM=>
 ak (!amM) (some true) (some (!(aV bV Aj.note.id false))))) (some (!(aV bV Aj.note.id false))))))
noncomputable def R7 (ov:Int):Option ((Int)⊕((Bool)⊕(Unit))):=
 aG (ax (ov+1)) (some (.inl (ov+1)))
noncomputable def MH (a0:(List aa)) (a1:(List aa)) (aU:(List aa)) (bV:(List (Int×Bool))):Int→Option ((Int)⊕((Bool)⊕(Unit))):=fun(ov:Int)=>
 ak (decide (ov < (aU.length:Int))) (ag (aP aU ov) fun Aj=>
 ag (tz (([]++a0)++a1) Aj.note.id) fun yV=>
 ag (ZG a0 a1 aU bV ov Aj yV) fun adU=>
 ak adU (some (.inr (.inl false)))
 (R7 ov))
 (some (.inr (.inr ())))
noncomputable def ZH (a0:(List aa)) (a1:(List aa)) (JD:Int) (JE:Int):Option Bool:=
 (ak (decide (0≤JD)) (ak (decide (0≤JE)) (ag (aP a0 JD) fun adx=>
 ag (aP a1 JE) fun ady=>
 ak (!decide (adx.kind=ady.kind)) (some true) (some (!decide (adx.note=ady.note)))) (some false)) (some false))
noncomputable def Fl (a0:(List aa)) (a1:(List aa)):Int→(Int×Bool)→Option ((Int)⊕(Empty)):=fun(vC) (RO,aAz)=>
 ag (tz a0 RO) fun JD=>
 ag (tz a1 RO) fun JE=>
 ag (ZH a0 a1 JD JE) fun ad5=>
 ak ad5 (aG (ax (vC+1)) (some (.inl (vC+1))))
 (some (.inl vC))
noncomputable def ZI (aX:(List aJ)) (nZ:Int) (o8:aJ) (B3:Int) (Al:Int):Option Bool:=
 (ak (decide (B3 < 0)) (some true) (ak (decide (Al < 0)) (some true) (ak (decide (0 < nZ)) (aG (ax (nZ - 1)) (ag (aP aX (nZ - 1)) fun amW=>
 ak (decide (o8.note≤amW.note)) (some true) (ag (Aa o8.second o8.first) fun amX=>
 some (!amX)))) (ag (Aa o8.second o8.first) fun amY=>
 some (!amY)))))
noncomputable def ZJ (a0:(List aa)) (a1:(List aa)) (y4:Bool) (o8:aJ) (B3:Int) (Al:Int):Option Bool:=
 (ak y4 (ag (aP a0 B3) fun Dy=>
 ak (decide (o8.first=Dy)) (ag (aP a1 Al) fun JF=>
 ak (decide (o8.second=JF)) (some true) (ak (decide (o8.first=JF)) (some (decide (o8.second=Dy))) (some false))) (ag (aP a1 Al) fun US=>
 ak (decide (o8.first=US)) (some (decide (o8.second=Dy))) (some false))) (some false))
noncomputable def Sb (nZ:Int) (Gz:Bool):Option ((Bool×Int)⊕((Bool)⊕(Bool))):=
 aG (ax (nZ+1)) (some (.inl (Gz,(nZ+1))))
noncomputable def Iq (a0:(List aa)) (a1:(List aa)) (aX:(List aJ)):(Bool×Int)→Option ((Bool×Int)⊕((Bool)⊕(Bool))):=fun(y4,nZ)=>
 ak (decide (nZ < (aX.length:Int))) (ag (aP aX nZ) fun o8=>
 ag (tz a0 o8.note) fun B3=>
 ag (tz a1 o8.note) fun Al=>
 ag (ZI aX nZ o8 B3 Al) fun aed=>
 ak aed (some (.inr (.inl false)))
 (ag (ZJ a0 a1 y4 o8 B3 Al) fun aef=>
 Sb nZ aef))
 (some (.inr (.inr y4)))
noncomputable def ZK (aU:(List aa)) (aX:(List aJ)) (bV:(List (Int×Bool))) (pH:Int) (DE:Bool):Option Bool:=
 (ak DE (ak (decide ((aU.length:Int)=(bV.length:Int))) (some (decide ((aX.length:Int)=pH))) (some false)) (some false))
noncomputable def R9 (aU:(List aa)) (aX:(List aJ)) (bV:(List (Int×Bool))) (pH:Int) (DE:Bool):Option Bool:=
 ag (ZK aU aX bV pH DE) fun aei=>
 some aei
noncomputable def R8 (a0:(List aa)) (a1:(List aa)) (x2:Bool) (aU:(List aa)) (aX:(List aJ)) (bV:(List (Int×Bool))) (pH:Int):Option Bool:=
 ag (aH (Iq a0 a1 aX) (x2,0)) fun ajy=>
 match ajy with
 | .inl ayq=>some ayq
 | .inr ayr=>R9 aU aX bV pH ayr
noncomputable def Sd (a0:(List aa)) (a1:(List aa)) (x2:Bool) (aU:(List aa)) (aX:(List aJ)) (bV:(List (Int×Bool))):Option Bool:=
 ag (Bv (Fl a0 a1) bV 0) fun ajw=>
 match ajw with
 | .inl vC=>R8 a0 a1 x2 aU aX bV vC
 | .inr q=>q.elim
noncomputable def Sa (a0:(List aa)) (a1:(List aa)) (x2:Bool) (aU:(List aa)) (aX:(List aJ)) (bV:(List (Int×Bool))):Option Bool:=
 ag (aH (MH a0 a1 aU bV) 0) fun ajo=>
 match ajo with
 | .inl ayf=>some ayf
 | .inr ()=>Sd a0 a1 x2 aU aX bV
noncomputable def R6 (a0:(List aa)) (a1:(List aa)):Option Bool:=
 ag (zW) fun x2=>
 ag (ZF a0 a1) fun aeu=>
 ak aeu (some x2)
 (ag (tT a0 a1) fun(aU,aX,cL)=>
 ak (!decide (cL=0)) (ag (aiK x2 aU aX) fun adZ=>
 some adZ)
 (aG ((([]++a0):List aa).length*120≤140737488355328) (aG (((([]++a0)++a1):List aa).length*120≤140737488355328) (ag (aH (Fm a0 a1) ([],0)) fun ayO=>
 Sa a0 a1 x2 aU aX ayO))))
noncomputable def ZW (a0:Score) (a1:(List aa)):Option Bool:=
 (ag (Fp a0 a1) fun x6=>
 ak (!x6) (some true) (ag (z8 a0) fun x8=>
 some (!x8)))
noncomputable def ZX (Cb:Bool) (B6:Int):Option Bool:=
 (ak Cb (some (decide (B6=0))) (some false))
noncomputable def Sk (tK:Int) (GP:Bool):Option ((Bool×Int)⊕((Bool))):=
 aG (ax (tK+1)) (some (.inl (GP,(tK+1))))
noncomputable def Fo (bc:(List Int)):(Bool×Int)→Option ((Bool×Int)⊕((Bool))):=fun(Cb,tK)=>
 ak (decide (tK < (bc.length:Int))) (ag (aP bc tK) fun B6=>
 ag (ZX Cb B6) fun aeC=>
 Sk tK aeC)
 (some (.inr Cb))
noncomputable def ZY (a0:Score) (bN:Int) (fT:Int) (br:Score) (ei:Int) (DF:Bool):Option Bool:=
 (ak DF (ak (decide (bN=0)) (ak (decide (fT=0)) (ak (decide (ei=0)) (ag (z7 br a0) fun x92=>
 some x92) (some false)) (some false)) (some false)) (some false))
noncomputable def Sj (a0:Score) (bN:Int) (fT:Int) (br:Score) (ei:Int) (DF:Bool):Option Bool:=
 ag (ZY a0 bN fT br ei DF) fun aeG=>
 some aeG
noncomputable def Si (a0:Score) (a1:(List aa)):Option Bool:=
 ag (zW) fun x2=>
 ag (ZW a0 a1) fun adE=>
 ak adE (some x2)
 (ag (tS a0 5 a1) fun(bh,ru,bN)=>
 ag (Ei a0 a1) fun(fu,fT)=>
 ag (tS bh a0.version fu) fun(br,bc,ei)=>
 ag (aH (Fo bc) (x2,0)) fun ayW=>
 Sj a0 bN fT br ei ayW)
noncomputable def Sf (a0:Score) (a2:(List aa)) (a3:(List aa)):Option Bool:=
 (ag (IT a0) fun x6=>
 ak (!x6) (some true) (ag (NT a2) fun x8=>
 ak (!x8) (some true) (ag (NT a3) fun dw=>
 some (!dw))))
noncomputable def ZL (x2:Bool) (ot:Score) (fu:(List Int)) (fT:Int) (br:Score) (bc:(List Int)) (ei:Int):Option Bool:=
 (ak x2 (ag (z7 ot br) fun B2=>
 ak B2 (ag (FM fu bc) fun OX=>
 ak OX (some (decide (fT=ei))) (some false)) (some false)) (some false))
noncomputable def ZM (Gt:Bool) (nV:(List aa)) (iR:(List aJ)) (gY:Int) (fH:(List aa)) (rA:(List aJ)) (wI:Int):Option Bool:=
 (ak Gt (ag (Ab nV fH) fun wJ=>
 ak wJ (ag (FL iR rA) fun sC=>
 ak sC (some (decide (gY=wI))) (some false)) (some false)) (some false))
noncomputable def ZN (GK:Bool) (wL:(List aa)) (pY:Int) (wM:(List aa)) (Dz:Int):Option Bool:=
 (ak GK (ag (Ab wL wM) fun JI=>
 ak JI (some (decide (pY=Dz))) (some false)) (some false))
noncomputable def Se (a0:Score) (a1:Int) (a2:(List aa)) (a3:(List aa)):Option Bool:=
 ag (zW) fun x2=>
 ag (Sf a0 a2 a3) fun adP=>
 ak adP (some x2)
 (ag (tS a0 a1 a2) fun(ot,fu,fT)=>
 ag (IY a0 a1 a2) fun(br,bc,ei)=>
 ag (ZL x2 ot fu fT br bc ei) fun Gt=>
 ag (tT a2 a3) fun(nV,iR,gY)=>
 ag (NW a2 a3) fun(fH,rA,wI)=>
 ag (ZM Gt nV iR gY fH rA wI) fun GK=>
 ag (Ei a0 a2) fun(wL,pY)=>
 ag (N4 a0 a2) fun(wM,Dz)=>
 ag (ZN GK wL pY wM Dz) fun aeB=>
 some aeB)
end Go.Proofs.YtjigeffmmcmlnaaGreatDoor
