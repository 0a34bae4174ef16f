import Derived.Test.YtioaemdeeebgcaaGreatDoorX5
import Derived.Lib.SliceRun
import Derived.ProofKit
import Derived.ChangeArms
import Derived.Deep.Slices
import Derived.Carry
import Derived.Shelf.GgSortFunc.InsertionK
import Derived.Shelf.SlSortCmp.InsertionK
import Derived.Sort.AssemblyPlain
import Derived.Test.YtioaemdeeebgcaaGreatDoorProg
import Derived.Test.YtioaemdeeebgcaaGreatDoorCards
import Derived.Test.YtioaemdeeebgcaaGreatDoorTie
import Derived.OpenShut
import Derived.Deep.DeepHandedRow
import Derived.Lib.LaidTab
import Derived.LaidSub
import Derived.LaidHandle
set_option linter.all false
namespace Go.Sy
open Go Go.af
variable [au][Λ:bK][bB][bV][aL][kO][R0:bu]
def jN(P:Program)(fs:List (Nat×Func)):Prop:=∀g fn,findF g fs=some fn→P.funcs[g]?=some fn∧Enters P g∧fn.body=some (fp fn)
def JC[bK][bu](d j:Nat):Prop:=∃(b:Nat)(vals:Nat→Value)(ft:Tm)(N id:Nat),bu.r=some b∧bK.lam (d-1)=some (.frame j vals ft)∧af.get ft N=.aK id∧vals N=.func (.yield b) #[] #[]
def AD[bK][bu](C:Cx):Prop:=bu.r=none∨(C.fJ=true∧JC C.dep C.rb)
def oj(P:Program)(V:Env)(cs:List Callee)(fs:List (Nat×Func))(run:Runner):Prop:=
 ∀[bK][bu](C:Cx)(L:List dB)(k:Lv)(c:Code)(σ:Sk)(w0:World)(I0:aq),bb P V C→eM P C cs→C.iN=fs→AD C→(∀j,C.dep≤j→bK.lam j=none)→fM P cs C.nt w0 I0 L c σ (run C L k c σ)
omit Λ R0 in
theorem bb.Ar{P:Program}{V:Env}{C:Cx}(h:bb P V C)(a b:Nat)(c:Bool):bb P V {C with nt:=a,dep:=b,fJ:=c}:=⟨h.ok,h.E,h.eq,h.sub,h.ty⟩
omit Λ R0 in
theorem bb.Js{P:Program}{V:Env}{C:Cx}(h:bb P V C)(a b:Nat)(c:Bool)(d:Nat):bb P V {C with nt:=a,dep:=b,fJ:=c,rb:=d}:=⟨h.ok,h.E,h.eq,h.sub,h.ty⟩
theorem vr{ρ:az}:∀{ts:List TX}{j:List T}{k:Nat},F2 (RX ρ) ts j→∀q,RX ρ (aD (jc k ts) q) (af.get (iA k j) q)
 | [],j,k,h=>λq=>.undef _
 |t::ts,j,k,h=>λq=>by
  cases h with
  |cons F G=>
   simp only[jc,iA,aD,af.get]
   by_cases B:k=q
   ·subst B;rw[if_pos rfl,Nat.beq_refl];exact F
   rw[if_neg B,beq_false B];exact vr G q
theorem Ja{ρ:az}{xs:List TX}{k:List T}(h:F2 (RX ρ) xs k):RX ρ (rR xs) (I9 k):=by
 have j:RX ρ (.aw xs) (.aw k):=.aw xs k h.len λi c t B F=>h.get B F
 match xs,k,h,j with
 | [],_,.nil,j=>exact j
 | [x],_,.cons h1 .nil,j=>exact h1
 |_::_::_,_,.cons h1 (.cons G M),j=>exact j
theorem ql{ρ:az}{j b:Nat}{lX:List AX}{l:List AO}(M:RL ρ lX l)(h:fG j b lX=true):∃vals ft,l[b]?=some (.frame b vals ft)∧Λ.lam j=some (.frame b vals ft):=by
 unfold fG at h
 split at h
 ·rename_i aa Y rs G
  rw[Bool.and_eq_true]at h
  have k:=Nat.eq_of_beq_eq_true h.1
  have B:=Nat.eq_of_beq_eq_true h.2
  subst k;subst B
  obtain⟨o,O,U⟩:=F2.left M G
  cases U with
  |cr _ _ _ vals ft F Z=>exact⟨vals,ft,O,F⟩
 cases h
theorem nL{Λ:bK}{j:Nat}{x:LF}:(dc Λ j x).lam j=some x:=if_pos rfl
theorem qX{Λ:bK}{d:Nat}{x:LF}:∀j,j<d→(dc Λ d x).lam j=Λ.lam j:=λj k=>if_neg (by omega)
theorem qW{Λ:bK}{d:Nat}{x:LF}(h:∀j,d≤j→Λ.lam j=none):∀j,d+1≤j→(dc Λ d x).lam j=none:=λj k=>by
 show(if j=d then some x else Λ.lam j)=none
 rw[if_neg (by omega)];exact h j (by omega)
theorem aH.l'{Λ:bK}{ρ:az}{σ:Sk}{s:St}(h:@aH _ Λ ρ σ s):@RL _ Λ ρ σ.l s.l:=@aH.l _ Λ _ _ _ h
theorem aH.t'{Λ:bK}{ρ:az}{σ:Sk}{s:St}(h:@aH _ Λ ρ σ s):∀k,RX ρ (aD σ.t k) (af.get s.t k):=@aH.t _ Λ _ _ _ h
theorem aH.jm{Λ:bK}{ρ:az}{σ:Sk}{s:St}(h:@aH _ Λ ρ σ s):c7 σ.n ρ:=@aH.di _ Λ _ _ _ h
section
variable {P:Program}{V:Env}{C:Cx}{cs:List Callee}{fs:List (Nat×Func)}{run:Runner}{n:Nat}{ops:List Oper}{L:List dB}
theorem KU(aT:oj P V cs fs run)(Z:bb P V C)(ab:eM P C cs)(aG:jN P fs)(aO:C.iN=fs)(ak:∀j,C.dep≤j→Λ.lam j=none){o:Oper}{g:FuncId}{fn:Func}{ts:List TX}{ah:List T}{σ:Sk}{s:St}{ρ:az}{t0:List (Nat×TX)}{ft:Tm}{Q:LQ}{J:LJ}{K:TX→Sk→Tr}{Y:St→Prop}{pc:PC}(aN:findF g fs=some fn)(O:aH ρ σ s)(aJ:gQ ρ L)(aa:dr Q)(aM:eQ n o.dst=true)(aP:ey ops s.t o.guard=some pc)(aQ:holds pc)(aL:dj V.E (cz s.t) o=some (g,ah))(ao:F2 (RX ρ) ts ah)(aA:∀k,af.get ft k=.undef∨af.get ft k=af.get s.t k)(aB:∀k,RX ρ (aD t0 k) (af.get ft k))(aC:gS ft (dm t0))(F:Tr.wp cs (wa run C L fn ts σ t0 K) ρ Q J)(aI:∀x B ae J' u s',Tr.wp cs (K x B) ae Q J'→bS σ.n ρ ae→σ.n≤B.n→aH ae B s'→RX ae x u→Y ⟨ei s'.t o.dst u,s'.l⟩):gq P n ops o s Y:=by
 unfold wa at F
 cases ag:Nat.ble ts.length fn.ntmps with
 |false=>rw[ag]at F;exact F.elim
 |true=>
  rw[ag]at F
  simp only[Bool.not_true,cond_false]at F
  obtain⟨aw,ax,ay⟩:=aG g fn aN
  refine IJ (V:=V) aP aQ aM aL aA (jQ.of Z.ok ax aw ay (by rw[←ao.len];exact Nat.le_of_ble_eq_true ag) λR aK w0 I0 vals bc aj=>?_)
  have an:σ.l.length=s.l.length:=O.l.len
  have al:eN Λ (dc Λ C.dep (.frame s.l.length vals ft)):=eN.push (ak _ (Nat.le_refl _))
  have aV:@aH _ (dc Λ C.dep (.frame s.l.length vals ft)) ρ ⟨σ.n,jc 0 ts,σ.l++[.cr C.dep σ.l.length (dm t0)]⟩ ⟨iA 0 ah,s.l++[.frame s.l.length vals ft]⟩:=by
   refine @aH.mk _ (dc Λ C.dep (.frame s.l.length vals ft)) _ _ _ O.di (vr ao) (F2.app (vk al O.l) (.cons ?_ .nil))
   rw[an]
   exact @bd.cr _ (dc Λ C.dep (.frame s.l.length vals ft)) ρ C.dep s.l.length _ vals ft nL aC
  obtain⟨ba,F⟩:=SZ (Λ:=dc Λ C.dep (.frame s.l.length vals ft)) (R0:=R) O.di aa F
  have F:=fN (pA (Λ:=dc Λ C.dep (.frame s.l.length vals ft)) (R0:=R) aa) F
  have aS:=@aT (dc Λ C.dep (.frame s.l.length vals ft)) R {C with nt:=fn.ntmps,dep:=C.dep+1,fJ:=false} L ⟨fi fn.results.toList,[],fi fn.results.toList⟩ (fp fn) ⟨σ.n,jc 0 ts,σ.l++[.cr C.dep σ.l.length (dm t0)]⟩ w0 I0 (Z.Ar _ _ _) ⟨ab.sigs,ab.turns,ab.ns⟩ aO (.inl aK) (qW ak)
  refine fM.go (Λ:=dc Λ C.dep (.frame s.l.length vals ft)) (R0:=R) aS aV (λx aW=>fL.lam al (aJ x aW)) (bind_mono (pA (Λ:=dc Λ C.dep (.frame s.l.length vals ft)) (R0:=R) aa)) F ?_
  intro e aR ae J' G aE aF s' aU
  have ai:de (Λ:=dc Λ C.dep (.frame s.l.length vals ft)) (R0:=R) cs σ.n ρ (λB=>match kz C B fn.results.toList with
   |some xs=>bif fG C.dep σ.l.length B.l then K (rR xs) ⟨B.n,t0,B.l.map (fj C.dep)⟩else .bad 23
   |none=>.bad 22) Q .normal (aR.ej (fi fn.results.toList)) ae J'→mL V s' fn.results.toList s.l.length vals ft λu l'=>Y ⟨ei ft o.dst u,l'⟩:=by
   intro G
   unfold de at G
   rw[if_pos rfl]at G
   obtain⟨B,a8,au,av,k1,k2,aq,aY,M⟩:=G aE aF s' (nS (Λ:=dc Λ C.dep (.frame s.l.length vals ft)) (R0:=R) _ aU)
   simp only[]at M
   split at M
   ·rename_i xs aX
    cases ad:fG C.dep σ.l.length B.l with
    |false=>rw[ad]at M;exact M.elim
    |true=>
     rw[ad]at M
     simp only[cond_true]at M
     obtain⟨bh,bf,ar,U⟩:=ql (Λ:=dc Λ C.dep (.frame s.l.length vals ft)) k2.l' ad
     rw[nL]at U
     injection U with U;injection U with bg a6 a7
     subst a6;subst a7
     rw[an]at ar
     obtain⟨aZ,a1⟩:=rB (Λ:=dc Λ C.dep (.frame s.l.length vals ft)) Z k2 aX
     refine⟨au,k1,aZ,ar,?_⟩
     exact aI (rR xs) ⟨B.n,t0,B.l.map (fj C.dep)⟩ a8 av _ ⟨ft,au.l⟩ M aq aY ⟨k2.jm,λk=>(aB k).mono (aq.ext O.di),vl qX k2.l'⟩ (Ja a1)
   exact M.elim
  cases e with
  |normal=>exact aj _ _ (.inr rfl) (ai G)
  |ret=>exact aj _ _ (.inl rfl) (ai G)
  |exit i=>exact G.elim
  |dF e=>exact G.elim
theorem H0{ρ:az}:∀{ps:List Nat}{xs:List TX}{B:List T}{t:List (Nat×TX)}{tm:Tm},ps.length=xs.length→F2 (RX ρ) xs B→(∀k,RX ρ (aD t k) (af.get tm k))→∀k,RX ρ (aD (rC ps xs t) k) (af.get (mi ps B tm) k)
 | [],xs,B,t,tm,j,F,h=>by
  cases xs with
  |nil=>cases F;exact h
  |cons=>simp at j
 |p::ps,[],B,t,tm,j,F,h=>by simp at j
 |p::ps,x::xs,B,t,tm,j,F,h=>by
  cases F with
  |cons M O=>
   have:∀k,RX ρ (aD ((p,x)::t) k) (af.get ((p,_)::tm) k):=λk=>by
    simp only[aD,af.get]
    by_cases G:p=k
    ·subst G;rw[if_pos rfl,Nat.beq_refl];exact M
    rw[if_neg G,beq_false G];exact h k
   intro k
   exact H0 (ps:=ps) (xs:=xs) (t:=(p,x)::t) (tm:=(p,_)::tm) (by simpa using j) O this k
theorem qt{ρ:az}{j b id:Nat}{rs:List Nat}{st:Ls}{lX:List AX}{l:List AO}(G:RL ρ lX l)(h:lX[id]?=some (.lp j b rs st)):∃k ps aP body tm,l[id]?=some (.loop b k ps aP body tm (l4 st) (ny st))∧Λ.lam j=some (.loop b k ps aP body tm)∧gS tm rs:=by
 obtain⟨o,M,O⟩:=F2.left G h
 cases O with
 |lp _ _ _ _ k ps aP body tm B F=>exact⟨k,ps,aP,body,tm,M,B,F⟩
theorem UN(bT:oj P V cs fs run)(bD:bb P V C)(aC:eM P C cs)(bL:C.iN=fs)(bJ:∀j,C.dep≤j→Λ.lam j=none){o:Oper}{id:Nat}{ts:List TX}{aX:List T}{σ:Sk}{s:St}{ρ:az}{t0:List (Nat×TX)}{ft:Tm}{Q:LQ}{J:LJ}{K:TX→Sk→Tr}{bB:St→Prop}{pc:PC}(al:aH ρ σ s)(cj:gQ ρ L)(bh:dr Q)(cp:eQ n o.dst=true)(cu:ey ops s.t o.guard=some pc)(cE:holds pc)(cO:mF V.E (cz s.t) o=some (id,aX))(bV:F2 (RX ρ) ts aX)(b8:∀k,af.get ft k=.undef∨af.get ft k=af.get s.t k)(b9:∀k,RX ρ (aD t0 k) (af.get ft k))(ca:gS ft (dm t0))(M:Tr.wp cs (Av run C L id ts σ t0 K) ρ Q J)(ch:∀x B ae J' u s',Tr.wp cs (K x B) ae Q J'→bS σ.n ρ ae→σ.n≤B.n→aH ae B s'→RX ae x u→bB ⟨ei s'.t o.dst u,s'.l⟩):gq P n ops o s bB:=by
 unfold Av at M
 split at M
 ·rename_i c5 j k ps aP body t aV aw b rs ct cv
  obtain⟨cD,c4⟩:=B3 ct
  cases ag:(Nat.beq aw j&&Nat.beq ps.length ts.length&&ps.all (λp=>Nat.blt p k))with
  |false=>rw[ag]at M;exact M.elim
  |true=>
   rw[ag]at M
   simp only[cond_true]at M
   rw[Bool.and_eq_true,Bool.and_eq_true]at ag
   obtain⟨⟨c1,c2⟩,b5⟩:=ag
   have c1:=Nat.eq_of_beq_eq_true c1
   have c2:=Nat.eq_of_beq_eq_true c2
   subst c1
   have cB:=cj _ cD
   cases cB with
   |mk _ _ _ _ _ _ _ _ b0 ah tm bc bf cc cd=>
   obtain⟨cQ,cT,b2,b4,cW,aG,Y,bw⟩:=qt (aH.l' al) cv
   rw[bc]at Y
   injection Y with Y;injection Y with bC aZ a1 a6 a7 a8
   subst bC;subst aZ;subst a1;subst a6;subst a7;subst a8
   have bo:σ.l.length=s.l.length:=(aH.l' al).len
   have cG:ah.size=aX.length:=by rw[←bV.len,←c2,←bf];simp
   refine Ts (V:=V) (tm:=tm) cu cE cp cO b8 aG cG (by rw[bf,List.all_eq_true];intro p cF;have:=List.all_eq_true.1 b5 p cF;exact decide_eq_true (Nat.le_of_ble_eq_true this)) ?_
   intro R w0 I0 N b3 vals b1 cn cM c3 bG
   generalize bM:((N,T.aK id)::ft)=aj at bG⊢
   have cb:gS aj (id::dm t0):=λk r av=>by
    rw[←bM]at av
    simp only[af.get]at av
    by_cases bP:N=k
    ·rw[if_pos bP]at av;simp[bU]at av;subst av;simp
    rw[if_neg bP]at av;exact List.mem_cons_of_mem _ (ca k r av)
   generalize aS:dc Λ C.dep (.frame s.l.length vals aj)=F
   have aR:eN Λ F:=aS▸eN.push (bJ _ (Nat.le_refl _))
   have br:F.lam C.dep=some (.frame s.l.length vals aj):=aS▸nL
   have cC:∀j,j<C.dep→F.lam j=Λ.lam j:=aS▸qX
   have bN:∀j,C.dep+1≤j→F.lam j=none:=aS▸qW bJ
   have cJ:@aH _ F ρ ⟨σ.n,rC ps ts t,σ.l++[.cr C.dep σ.l.length (id::dm t0)]⟩ ⟨mi ah.toList aX tm,s.l++[.frame s.l.length vals aj]⟩:=by
    refine @aH.mk _ F _ _ _ (show c7 σ.n ρ from aH.jm al) (by rw[bf];exact H0 c2 bV cc) (F2.app (vk aR (aH.l' al)) (.cons ?_ .nil))
    rw[bo]
    exact @bd.cr _ F ρ C.dep s.l.length _ vals aj br cb
   have bI:@AD F R {C with nt:=k,dep:=C.dep+1,fJ:=true,rb:=σ.l.length}:=.inr ⟨rfl,b3,vals,aj,N,id,cn,(by show F.lam C.dep=some (.frame σ.l.length vals aj);rw[bo];exact br),(by rw[←bM];simp[af.get]),cM⟩
   have bE:@gQ _ F ρ aV:=λx cN=>fL.lam aR (cd x cN)
   have M:=fN bh M
   obtain⟨ai,bH,M⟩:∃ai:LQ,ai=_∧Tr.wp cs _ ρ ai J:=⟨_,rfl,M⟩
   have bj:dr ai:=by rw[bH];exact bind_mono bh
   obtain⟨cY,M⟩:=zM (Λ:=F) (R0:=R) (aH.jm al) bj M
   have aO:=pA (Λ:=F) (R0:=R) (cs:=cs) (n0:=σ.n) (ρ:=ρ) (f:=λB=>iK C id aw b0 rs σ.l.length t0 K .normal B) bj
   have M:=fN aO M
   have bl:=bind_mono (cs:=cs) (f:=λe B=>match e with |.normal=>Tr.leaf .normal B |.ret=>iK C id aw b0 rs σ.l.length t0 K .ret B |.exit i=>iK C id aw b0 rs σ.l.length t0 K (.exit i) B|_=>.bad 26) aO
   obtain⟨bz,M⟩:=zM (Λ:=F) (R0:=R) (aH.jm al) bl M
   have bF:=pA (Λ:=F) (R0:=R) (cs:=cs) (n0:=σ.n) (ρ:=ρ) (f:=λB=>match B.l[id]? with
       |some (.lp U O Z .ready)=>bif Nat.beq U aw&&Nat.beq O b0&&decide (Z=rs)&&fG C.dep σ.l.length B.l then run {C with nt:=k,dep:=C.dep+1,fJ:=true,rb:=σ.l.length} aV ⟨0,[],0⟩ body ⟨B.n,B.t,B.l.set id (.lp aw b0 rs .busy)⟩else .bad 25
       |_=>.bad 25) bl
   have M:=fN bF M
   have ck:=bind_mono (cs:=cs) (f:=λe B=>match e with |.normal=>Tr.leaf .normal B|_=>.bad 21) bF
   have cH:=@bT F R {C with nt:=k,dep:=C.dep+1,fJ:=true,rb:=σ.l.length} aV ⟨dX body ⟨0,[],0⟩,[],0⟩ aP ⟨σ.n,rC ps ts t,σ.l++[.cr C.dep σ.l.length (id::dm t0)]⟩ w0 I0 (bD.Js _ _ _ _) ⟨aC.sigs,aC.turns,aC.ns⟩ bL bI bN
   refine fM.go (Λ:=F) (R0:=R) cH cJ bE ck M ?_
   intro e σ1 cX bA ak cf cg s1 cK
   cases e with
   |ret=>exact ak.elim
   |exit i=>exact ak.elim
   |dF e=>exact ak.elim
   |normal=>
   show ∃aW,_
   have ak:de (Λ:=F) (R0:=R) _ _ _ _ _ .normal σ1 cX bA:=ak
   unfold de at ak
   rw[if_pos rfl]at ak
   obtain⟨B,bZ,aW,cZ,k1,k2,bX,aT,ao⟩:=ak cf cg s1 cK
   simp only[]at ao
   split at ao
   ·rename_i U O Z cx
    cases ag:(Nat.beq U aw&&Nat.beq O b0&&decide (Z=rs)&&fG C.dep σ.l.length B.l)with
    |false=>rw[ag]at ao;exact ao.elim
    |true=>
     rw[ag]at ao
     simp only[cond_true]at ao
     simp only[Bool.and_eq_true,decide_eq_true_eq]at ag
     obtain⟨⟨⟨ar,au⟩,aY⟩,b6⟩:=ag
     have ar:=Nat.eq_of_beq_eq_true ar
     have au:=Nat.eq_of_beq_eq_true au
     subst ar;subst au;subst aY
     have bK:∀{ρ:az}{lX:List AX}{l:List AO},@RL _ F ρ lX l→fG C.dep σ.l.length lX=true→l[s.l.length]?=some (.frame s.l.length vals aj):=by
      intro ρ lX l bn bm
      obtain⟨c6,c0,aG,Y⟩:=ql (Λ:=F) bn bm
      rw[br]at Y
      injection Y with Y;injection Y with bw cU cV
      subst cU;subst cV
      rw[bo]at aG;exact aG
     have bR:∀{ρ:az}{lX:List AX}{l:List AO}{st:Ls},@RL _ F ρ lX l→lX[id]?=some (.lp U O Z st)→l[id]?=some (.loop O k ah aP body tm (l4 st) (ny st)):=by
      intro ρ lX l st bn bm
      obtain⟨cQ,cT,b2,b4,cW,aG,Y,bw⟩:=qt (Λ:=F) bn bm
      rw[aR _ _ bc]at Y
      injection Y with Y;injection Y with bC aZ a1 a6 a7 a8
      subst aZ;subst a1;subst a6;subst a7;subst a8
      exact aG
     refine⟨aW,k1,bK k2.l' b6,bR k2.l' cx,?_⟩
     have bQ:∀{ρ:az}(st:Ls),@bd _ F ρ (.lp U O Z st) (.loop O k ah aP body tm (l4 st) (ny st)):=λ{ρ} st=>@bd.lp _ F ρ U O Z st k ah aP body tm (aR _ _ bc) bw
     have cL:@aH _ F bZ ⟨B.n,B.t,B.l.set id (.lp U O Z .busy)⟩ ⟨aW.t,aW.l.set id (.loop O k ah aP body tm .busy none)⟩:=
      @aH.mk _ F _ _ _ k2.jm k2.t' (F2.set k2.l' (bQ .busy) id)
     have cI:=@bT F R {C with nt:=k,dep:=C.dep+1,fJ:=true,rb:=σ.l.length} aV ⟨0,[],0⟩ body ⟨B.n,B.t,B.l.set id (.lp U O Z .busy)⟩ w0 I0 (bD.Js _ _ _ _) ⟨aC.sigs,aC.turns,aC.ns⟩ bL bI bN
     refine fM.go (Λ:=F) (R0:=R) cI cL (gQ.mono (Λ:=F) bE (bX.ext (aH.jm al))) bl ao ?_
     intro e aI aA aJ aa bg aM ax bq
     have bg:bS B.n bZ aA:=bg
     have aM:B.n≤aI.n:=aM
     have bx:bS σ.n ρ aA:=bX.trans bg aT
     have bp:∀e B ρ J,ai (.dF e) B ρ J→Q e B ρ J:=λe B ρ J h=>by rw[bH]at h;exact h
     have ba:∀(G:Ex)(ad:Sk)(aq:az)(aB:LJ)(ay:St)(aN:LQ),dr aN→(G=.normal∨G=.ret∨∃i,G=.exit i)→Sub ax ay→@aH _ F aq ad ay→bS σ.n ρ aq→σ.n≤ad.n→(∀e B ρ J,aN (.dF e) B ρ J→Q e B ρ J)→Tr.wp cs (iK C id U O Z σ.l.length t0 K G ad) aq aN aB→b1 (kV G) ax:=by
      intro G ad aq aB ay aN cm cq bt aF aU bu cR ab
      unfold iK at ab
      split at ab
      ·rename_i bW aL bY cw
       cases aQ:(Nat.beq bW U&&Nat.beq aL O&&decide (bY=Z)&&fG C.dep σ.l.length ad.l)with
       |false=>rw[aQ]at ab;exact ab.elim
       |true=>
        rw[aQ]at ab
        simp only[cond_true]at ab
        simp only[Bool.and_eq_true,decide_eq_true_eq]at aQ
        obtain⟨⟨⟨ar,au⟩,aY⟩,b7⟩:=aQ
        have ar:=Nat.eq_of_beq_eq_true ar
        have au:=Nat.eq_of_beq_eq_true au
        subst ar;subst au;subst aY
        have cS:=Tr.wp_mono (J':=aB) (λ_ _ h=>h) (λe B ρ bz bA cy h=>bh _ _ _ _ _ cy (cR e B ρ bz h)) (fN cm ab)
        have cP:∃an,tG (kV G)=some an∧an=(if G=.normal then none else some (Bu G)):=by
         rcases cq with rfl|rfl| ⟨i,rfl⟩
         ·exact⟨_,rfl,rfl⟩
         ·exact⟨_,rfl,rfl⟩
         exact⟨_,rfl,rfl⟩
        obtain⟨an,cA,bO⟩:=cP
        refine bG _ an _ cA ⟨ay,bt,bK aF.l' b7,bR aF.l' cw,?_⟩
        have bs:(if an.isNone then LoopState.ready else .done)=l4 (if G=.normal then Ls.ready else .done G)∧an=ny (if G=.normal then Ls.ready else .done G)∧an.isNone=decide (G=.normal):=by
         by_cases aE:G=.normal
         ·rw[bO,if_pos aE,if_pos aE];exact⟨rfl,rfl,by simp[aE]⟩
         rw[bO,if_neg aE,if_neg aE];exact⟨rfl,rfl,by simp[aE]⟩
        rw[bs.1,bs.2.2]
        rw[show(AO.loop aL k ah aP body tm (l4 (if G=.normal then Ls.ready else .done G)) an)=.loop aL k ah aP body tm (l4 (if G=.normal then Ls.ready else .done G)) (ny (if G=.normal then Ls.ready else .done G)) by rw[←bs.2.1]]
        exact ch _ ⟨ad.n,t0,(ad.l.set id (.lp bW aL bY (if G=.normal then Ls.ready else .done G))).map (fj C.dep)⟩ aq aB _ ⟨ft,ay.l.set id (.loop aL k ah aP body tm (l4 (if G=.normal then Ls.ready else .done G)) (ny (if G=.normal then Ls.ready else .done G)))⟩ cS aU bu
         (@aH.mk _ Λ _ _ _ (show c7 ad.n aq from aH.jm aF) (λq=>(b9 q).mono (aU.ext (aH.jm al))) (vl cC (F2.set aF.l' (bQ _) id))) (dI rfl)
      exact ab.elim
     cases e with
     |normal=>
      have aa:de (Λ:=F) (R0:=R) _ _ _ _ _ .normal aI aA aJ:=aa
      unfold de at aa
      rw[if_pos rfl]at aa
      obtain⟨ad,aq,ay,aB,bt,aF,aU,bu,ab⟩:=aa bx (Nat.le_trans aT aM) ax bq
      exact ba .normal ad aq aB ay ai bj (.inl rfl) bt aF aU bu bp ab
     |ret=>
      have aa:Tr.wp cs (iK C id U O Z σ.l.length t0 K .ret aI) aA (de (Λ:=F) (R0:=R) cs σ.n ρ (λB=>iK C id U O Z σ.l.length t0 K .normal B) ai) aJ:=aa
      exact ba .ret aI aA aJ ax _ aO (.inr (.inl rfl)) (Sub.refl ax) bq bx (Nat.le_trans aT aM) (λe B ρ J h=>bp e B ρ J (by unfold de at h;rw[if_neg (by intro h;cases h)]at h;exact h)) aa
     |exit i=>
      have aa:Tr.wp cs (iK C id U O Z σ.l.length t0 K (.exit i) aI) aA (de (Λ:=F) (R0:=R) cs σ.n ρ (λB=>iK C id U O Z σ.l.length t0 K .normal B) ai) aJ:=aa
      exact ba (.exit i) aI aA aJ ax _ aO (.inr (.inr ⟨i,rfl⟩)) (Sub.refl ax) bq bx (Nat.le_trans aT aM) (λe B ρ J h=>bp e B ρ J (by unfold de at h;rw[if_neg (by intro h;cases h)]at h;exact h)) aa
     |dF e=>exact aa.elim
   exact ao.elim
 exact M.elim
theorem Tq(aa:ga P V){o:Oper}{s:St}{K:St→Prop}{pc:PC}{t t2 e size sz O:Nat}{z els:List D}{x:Operand}(F:o.op=.binOp .eql t x (.const (.slice none 0 0)) t2)(hE:V.E t=some ⟨sz,O,z,.slice e⟩)(al:cz s.t x=.d (.slice size els))(ag:ey ops s.t o.guard=some pc)(ah:holds pc)(ad:eQ n o.dst=true)(Y:∀b,(b=true→els=[])→K ⟨ei s.t o.dst (.d (.bool b)),s.l⟩):gq P n ops o s K:=by
 intro w0 I0 a w Q an ai Z
 obtain⟨G,I,m,M,ae,k⟩:=ai
 rw[if_pos ((rT k ag).2 ah)]
 refine bI.wpIn (by simp[F]) ?_
 have j:=bn (by have:=mT M.sat.c9 k x;rw[al]at this;exact this)
 obtain⟨A,c,B⟩:=Iy j
 have ak:=fV aa.E hE
 have aj:(execOp a.eval o).run P w=.ok (.value (.bool A.isNone)) w:=by
  have af:a.eval (.const (.slice none 0 0))=.slice none 0 0:=rfl
  have U:=Lib.run_eql_slice_nil (P:=P) w t e A els.length c 0 0 ak
  unfold execOp
  simp only[F,B,af,Sem.run_bind,eqGuard]
  simp[U]
 rw[aj]
 simp only[bI]
 refine Z _ _ _ (Y A.isNone ?_) ⟨by cases o.dst<;>simp[Act.put,G],I,m,M,ae.put (.refl I),qZ G ad k (.d _ _ (.bool _))⟩
 intro ab
 rw[B]at j
 cases A with
 |none=>
  generalize ao:els.length=q at j
  cases j
  rfl
 |some a=>cases ab
theorem Ci{ok:Bool}{kk:IntKind}{e:X}{σ:Sk}{K:TX→Sk→Tr}{ρ:az}{n:Int}{Q:LQ}{J:LJ}(O:e.den ρ=some ⟨.int kk,n⟩):∀{ks:List Int}{ts:List TX}(q:Nat),ks.length=ts.length→Tr.wp cs (xa ok kk e σ K ks ts) ρ Q J →
  (∃(j:Nat)(t:TX),bW (.int kk n) (ks.map (.int kk)) q=some (q+j)∧ts[j]?=some t∧Tr.wp cs (K (qp ok t true) σ) ρ Q J)∨(bW (.int kk n) (ks.map (.int kk)) q=none∧Tr.wp cs (K (qp ok .undef false) σ) ρ Q J)
 | [],[],q,_,h=>.inr ⟨rfl,h⟩
 |k::ks,t::ts,q,F,h=>by
  obtain⟨b0,B,aa,ab⟩:=h
  have Z:(X.u2 .aj e (.int kk k)).den ρ=some ⟨.bool,aj n k⟩:=by simp only[X.den,O,bF]
  rw[Z]at B
  injection B with B
  injection B with _ B
  have B:aj n k=b0:=eq_of_heq (heq_of_eq B)
  have U:bW (.int kk n) ((k::ks).map (.int kk)) q=if aj n k=true then some q else bW (.int kk n) (ks.map (.int kk)) (q+1):=rfl
  cases b0 with
  |true=>exact .inl ⟨0,t,by rw[U,if_pos B];rfl,rfl,aa rfl⟩
  |false=>
   rw[U,if_neg (by rw[B];exact Bool.false_ne_true)]
   rcases Ci O (q+1) (by simpa using F) (ab rfl)with ⟨j,t',G,M,Y⟩| ⟨G,M⟩
   ·exact .inl ⟨j+1,t',by rw[G];congr 1;omega,by simpa using M,Y⟩
   exact .inr ⟨G,M⟩
 | [],_::_,_,F,_=>by simp at F
 |_::_,[],_,F,_=>by simp at F
theorem CZ(ag:bb P V C){o:Oper}{ρT:Operand→T}{l:List AO}{t:TypeId}{x k:Operand}{ok:Bool}{kk:IntKind}{an:TI}{n:Int}{id:Nat}{ks:List Int}{ad:List T}(G:o.op=.lookup t x k ok)(aj:eU V.E t=some (.int kk,an))(al:ρT x=.map id)(ah:ρT k=.d (.int kk n))(ai:l[id]?=some (.bD (ks.map (.int kk)) ad))(u:T)(M:match bW (.int kk n) (ks.map (.int kk)) 0 with|some j=>∃B,ad[j]?=some B∧u=(if ok then .aw [B,.d (.bool true)]else B)|none=>u=(if ok then .aw [.undef,.d (.bool false)]else .undef)):br P o ρT l u l:=by
 refine⟨by simp[G],λw0 I0 w I m O Z Y=>?_⟩
 have aa:=Y x (by simp[G,Op.operands])
 have ab:=Y k (by simp[G,Op.operands])
 rw[al]at aa;rw[ah]at ab
 have ak:O k=.int kk n:=by have:=bn ab;generalize O k=ao at this;cases this;rfl
 obtain⟨v,af,F⟩:=TV (P:=P) (ok:=ok) ag.ok.E Z (kd:=.int kk n) aj (by simp[KT.ok,fF]) aa ai (CP ks)
 have hex:(execOp O o).run P w=.ok (.value v) w:=by unfold execOp;simp[G,ak];rw[show(Value.int kk n)=bf (.int kk n)from rfl,af];rfl
 simp only[hex,bI]
 refine⟨I,m,.refl ..,Z,?_⟩
 cases U:bW (.int kk n) (ks.map (.int kk)) 0 with
 |some j=>
  rw[U]at F M
  obtain⟨B,ae,rfl⟩:=M
  exact F B ae
 |none=>
  rw[U]at F M
  subst M
  exact F
theorem Cj{k:IntKind}{e:X}{id:Nat}{σ:Sk}{K:TX→Sk→Tr}{ρ:az}{n:Int}{Q:LQ}{J:LJ}(M:e.den ρ=some ⟨.int k,n⟩):∀(m j:Nat),Tr.wp cs (xb k e id σ K j m) ρ Q J →
  ∃i:Nat,j≤i∧i≤j+m∧n=Int.ofNat i∧Tr.wp cs (K (.ptr id i) σ) ρ Q J
 |0,j,h=>by
  obtain⟨B,G⟩:=h
  have F:(X.u2 .aj e (.int k (Int.ofNat j))).den ρ=some ⟨.bool,aj n (Int.ofNat j)⟩:=by simp only[X.den,M,bF]
  rw[F]at B
  injection B with B
  injection B with _ B
  exact⟨j,Nat.le_refl _,by omega,of_decide_eq_true B,G⟩
 |m+1,j,h=>by
  obtain⟨b0,B,G,O⟩:=h
  have F:(X.u2 .aj e (.int k (Int.ofNat j))).den ρ=some ⟨.bool,aj n (Int.ofNat j)⟩:=by simp only[X.den,M,bF]
  rw[F]at B
  injection B with B
  injection B with _ B
  have B:aj n (Int.ofNat j)=b0:=eq_of_heq (heq_of_eq B)
  cases b0 with
  |true=>exact⟨j,Nat.le_refl _,by omega,of_decide_eq_true B,G rfl⟩
  |false=>
   obtain⟨i,Z,aa,U,Y⟩:=Cj M m (j+1) (O rfl)
   exact⟨i,by omega,by omega,U,Y⟩
theorem MU(aR:oj P V cs fs run)(U:bb P V C)(aL:eM P C cs)(a7:jN P fs)(av:C.iN=fs)(aM:∀j,C.dep≤j→Λ.lam j=none){σ:Sk}{ρ:az}(aH:gQ ρ L):AA P cs n ops (oM run C L) σ ρ:=by
 intro o m F s Q J K aY pc B G aI Y ae af ah aa
 obtain⟨ft,aB,aC,aD⟩:=CN G m
 unfold oM at B
 split at B
 ·rename_i t x i M
  split at B
  ·rename_i s1 bB bC e id len k y hE ao aq
   cases O:((C.E e).isSome&&Nat.beq (aE C.E e) 1)with
   |false=>rw[O]at B;cases B
   |true=>
    rw[O]at B
    simp only[cond_true]at B
    injection B with B;subst B
    rw[Bool.and_eq_true]at O
    have aS:=Nat.eq_of_beq_eq_true O.2
    have ai:=iW G.t x
    have aO:=iW G.t i
    rw[ao]at ai;rw[aq]at aO
    have aj:=zX ai
    obtain⟨bA,n1,an⟩:=eI aO
    obtain⟨j,_,bF,bu,bw⟩:=Cj n1 len 0 ah
    have aG:=hE
    have aK:=O.1
    rw[←U.E]at aG aK aS
    refine pG ae af (⟨by simp[M],λw0 I0 w I bz aA bl aQ=>?_⟩:br P o (cz s.t) s.l (.ptr id j) s.l) Y (aa (.ptr id j) σ ρ J _ s bw (.refl _ _) (Nat.le_refl _) G (.ptr _ _))
    have aU:=aQ x (by simp[M,Op.operands])
    have aV:=aQ i (by simp[M,Op.operands])
    rw[aj]at aU;rw[an,bu]at aV
    have ag:aA i=.int k (Int.ofNat j):=by have:=bn aV;generalize aA i=bJ at this;cases this;rfl
    obtain⟨u,Z,ar⟩:=IP (P:=P) (w:=w) (k:=k) U.ok.E aG ⟨aK,aS⟩ aU (n:=Int.ofNat j) (Int.natCast_nonneg j) (by simp only[Int.ofNat_eq_natCast];omega)
    have hex:(execOp aA o).run P w=.ok (.value u) w:=by simp only[Int.ofNat_eq_natCast]at Z ag;unfold execOp;simp[M,ag,Z]
    simp only[hex,bI]
    exact⟨I,bz,.refl ..,bl,by simpa using ar⟩
  cases B
 ·rename_i op t x y t2 M
  split at B
  ·rename_i s1 bB bC e u xs hE a8
   injection B with B;subst B
   obtain⟨bH,zs,aZ,a1,a6⟩:=ah
   have aT:=iW G.t x
   rw[a8]at aT
   obtain⟨ag,v,k1,k2⟩:=dN aT
   rw[aZ]at k1
   injection k1 with k1;cases k1
   refine Tq (P:=P) U.ok M (by rw[U.E];exact hE) (size:=u.size) (els:=List.map u.enc v) k2 ae af Y λb O=>?_
   cases b with
   |true=>exact aa _ σ ρ J _ s (a1 (List.map_eq_nil_iff.1 (O rfl))) (.refl _ _) (Nat.le_refl _) G (dI rfl)
   |false=>exact aa _ σ ρ J _ s a6 (.refl _ _) (Nat.le_refl _) G (dI rfl)
  cases B
 ·rename_i t x k ok M
  split at B
  ·rename_i kk id k1 e bg ao aq
   split at B
   ·rename_i bx ks ts ax
    cases O:(decide (k1=kk)&&decide (bx=kk)&&Nat.beq ks.length ts.length && !ks.isEmpty)with
    |false=>simp only[O,cond_false]at B;cases B
    |true=>
     simp only[O,cond_true]at B
     injection B with B;subst B
     simp only[Bool.and_eq_true,decide_eq_true_eq]at O
     obtain⟨⟨⟨rfl,rfl⟩,ay⟩,bh⟩:=O
     have ay:=Nat.eq_of_beq_eq_true ay
     have ai:=iW G.t x
     have aP:=iW G.t k
     rw[ao]at ai;rw[aq]at aP
     have aj:=oY ai
     obtain⟨bA,n1,an⟩:=eI aP
     obtain⟨bG,ab⟩:=C6 bg
     rw[←U.E]at ab
     obtain⟨bE,aJ,ba⟩:=F2.left G.l ax
     have aF:∀(u:T)(y:TX),RX ρ y u→br P o (cz s.t) s.l u s.l→Tr.wp cs (K y σ) ρ Q J→gq P n ops o s aY:=λu y bt bj bq=>
      pG ae af bj Y (aa y σ ρ J u s bq (.refl _ _) (Nat.le_refl _) G bt)
     have aW:∀(y:TX)(u:T)(b:Bool),RX ρ y u→RX ρ (qp ok y b) (if ok then .aw [u,.d (.bool b)]else u):=λy u b h=>by
      cases ok with
      |true=>
       refine .aw _ _ rfl λi c d ad Y=>?_
       rcases i with _|_|i
       ·simp at ad Y;subst ad;subst Y;exact h
       ·simp at ad Y;subst ad;subst Y;exact dI rfl
       simp at ad
      |false=>exact h
     cases ba with
     |bD _ _ _ aX bp=>
      rcases Ci n1 0 ay ah with ⟨j,t',Z,ar,au⟩| ⟨Z,au⟩
      ·obtain⟨u,bo,bm⟩:=F2.left bp ar
       exact aF _ _ (aW _ _ true bm) (CZ U M ab aj an aJ _ (by rw[Z,Nat.zero_add];exact⟨u,bo,rfl⟩)) au
      exact aF _ _ (aW _ _ false (.undef _)) (CZ U M ab aj an aJ _ (by rw[Z])) au
     |hZ _=>simp at bh
   cases B
  cases B
 ·rename_i c M
  split at B
  ·rename_i f ak
   have al:=iW G.t f
   have bc:∀x∈c.args.toList,RX ρ (dE σ.t x) (cz s.t x):=λx _=>iW G.t x
   have ab:F2 (RX ρ) (fU C.E c.argTypes.toList (c.args.toList.map (dE σ.t))) (dZ V.E c.argTypes.toList (c.args.toList.map (cz s.t))):=pI U (oE bc)
   split at B
   ·rename_i id ax
    injection B with B;subst B
    rw[ax]at al
    have bs:mF V.E (cz s.t) o=some (id,dZ V.E c.argTypes.toList (c.args.toList.map (cz s.t))):=by
     generalize ag:cz s.t f=v at al
     cases al
     simp only[mF,M,ak,ag]
    exact UN aR U aL av aM G aH aI Y ae af bs ab aB aC aD ah aa
   split at B
   ·rename_i g ts bf
    obtain⟨aX,k1,k2⟩:=sM al bf
    split at B
    ·rename_i fn aN
     injection B with B;subst B
     have bd:dj V.E (cz s.t) o=some (g,dZ V.E c.argTypes.toList (c.args.toList.map (cz s.t))++aX):=by
      rcases k2 with e| ⟨e,rfl⟩| ⟨ds,e,rfl⟩
      ·simp only[dj,M,ak,e]
      ·simp only[dj,M,ak,e,List.append_nil]
      simp only[dj,M,ak,e]
     rw[av]at aN
     exact KU aR U aL a7 av aM aN G aH aI Y ae af bd (ab.app k1) aB aC aD ah aa
    cases B
   cases B
  cases B
 cases B
theorem Na(
         bc:oj P V cs fs run)(U:bb P V C)(ah:eM P C cs)(aT:jN P fs)(aF:C.iN=fs)(aD:∀j,C.dep≤j→Λ.lam j=none){ρ00:az}(aV:gQ ρ00 L):vR P cs n ops ρ00 (nf run C L):=by
 intro o aq an l m q O bD s ft pc K B aQ aB hi aj aY aZ a1 ba aO ag aP aU
 have ag:gS ft (tR l.length (dm aq)):=λk r ab=>List.mem_filter.2 ⟨ag k r ab,by
  have av:=aP k r ab
  rw[←aj.len]at av
  exact(Nat.blt_eq (x:=r) (y:=l.length)).mpr av⟩
 unfold nf at B
 split at B
 ·rename_i c aa
  split at B
  ·rename_i f Z
   have aI:∀x,(x=f∨x∈c.args.toList)→RX O (dE an x) (cz s.t x):=λx hx=>aY x (by
    simp only[aa,Op.operands,Call.operands,Z]
    rcases hx with rfl|hx<;>simp_all)
   split at B
   ·rename_i g ts a6
    split at B
    ·rename_i fn aE
     have bh:F2 (RX O) (fU C.E c.argTypes.toList (c.args.toList.map (dE an))) (dZ V.E c.argTypes.toList (c.args.toList.map (cz s.t))):=pI U (oE λx hx=>aI x (.inr hx))
     obtain⟨aK,k1,k2⟩:=sM (aI f (.inl rfl)) a6
     have aC:dj V.E (cz s.t) o=some (g,dZ V.E c.argTypes.toList (c.args.toList.map (cz s.t))++aK):=by
      rcases k2 with e| ⟨e,rfl⟩| ⟨ds,e,rfl⟩
      ·simp only[dj,aa,Z,e]
      ·simp only[dj,aa,Z,e,List.append_nil]
      simp only[dj,aa,Z,e]
     rw[aF]at aE
     have ad:=bh.app k1
     generalize fU C.E c.argTypes.toList (c.args.toList.map (dE an))++ts=ao at B ad
     generalize dZ V.E c.argTypes.toList (c.args.toList.map (cz s.t))++aK=bt at aC ad
     obtain⟨aL,aM,aN⟩:=aT g fn aE
     unfold nf.CD at B
     simp only at B
     split at B
     ·cases B
     split at B
     ·rename_i M F bA
      cases Y:(Nat.ble ao.length fn.ntmps&&M.bz m F.length)with
      |false=>rw[Y]at B;cases B
      |true=>
      rw[Y]at B
      simp only[cond_true]at B
      rw[Bool.and_eq_true]at Y
      obtain⟨a7,aW⟩:=Y
      split at B
      ·rename_i xs bl
       cases ai:fG C.dep l.length (M.fill (j6 m F.length) (m+1)).l with
       |false=>rw[ai]at B;cases B
       |true=>
       rw[ai]at B
       simp only[cond_true,Option.some.injEq]at B
       subst B
       cases hi with
       |prog _ _ _ _ _ _ z G a8=>
       cases a8
       have ak:l.length=s.l.length:=aj.len
       refine IJ (V:=V) a1 ba aZ aC aO (jQ.of U.ok aM aL aN (by rw[←ad.len];exact Nat.le_of_ble_eq_true a7) λR aX w0 I0 vals bu aA=>?_)
       have aG:eN Λ (dc Λ C.dep (.frame s.l.length vals ft)):=eN.push (aD _ (Nat.le_refl _))
       have bg:@aH _ (dc Λ C.dep (.frame s.l.length vals ft)) O ⟨m,jc 0 ao,l++[.cr C.dep l.length (tR l.length (dm aq))]⟩ ⟨iA 0 bt,s.l++[.frame s.l.length vals ft]⟩:=by
        refine @aH.mk _ (dc Λ C.dep (.frame s.l.length vals ft)) _ _ _ aB (vr ad) (F2.app (vk aG aj) (.cons ?_ .nil))
        rw[ak]
        exact @bd.cr _ (dc Λ C.dep (.frame s.l.length vals ft)) O C.dep s.l.length _ vals ft nL (ak▸ag)
       have aw:dr gH:=λ_ _ _ _ _ _ h=>h
       have G:=zD (p:=λv=>v=⟨ay F,z⟩) aw (λv h=>h.2) G
       have ax:dr (λar σ ae J'=>if Ex.normal=ar then ∃xs v,instS M F.length σ=some xs∧(dJ xs).den ae=some v∧v=⟨ay F,z⟩else gH ar σ ae J'):=HV (e:=.normal) (M:=M) (nh:=F.length) (p:=λv=>v=⟨ay F,z⟩) aw
       have G:=fN ax G
       have ab:=@bc (dc Λ C.dep (.frame s.l.length vals ft)) R {C with nt:=fn.ntmps,dep:=C.dep+1,fJ:=false} L ⟨fi fn.results.toList,[],fi fn.results.toList⟩ (fp fn) ⟨m,jc 0 ao,l++[.cr C.dep l.length (tR l.length (dm aq))]⟩ w0 I0 (U.Ar _ _ _) ⟨ah.sigs,ah.turns,ah.ns⟩ aF (.inl aX) (qW aD)
       refine fM.go (Λ:=dc Λ C.dep (.frame s.l.length vals ft)) (R0:=R) ab bg (λx hx=>fL.lam aG ((aV x hx).mono aQ)) (bind_mono ax) G ?_
       intro e aR ae J' B aS bx s' bf
       have au:(∃xs v,instS M F.length (aR.ej (fi fn.results.toList))=some xs∧(dJ xs).den ae=some v∧v=⟨ay F,z⟩)→mL V s' fn.results.toList s.l.length vals ft λu l'=>K ⟨ei ft o.dst u,l'⟩:=by
        rintro⟨ys,v,bq,br,rfl⟩
        obtain⟨bs,bm,al⟩:=@instS_ok _ (dc Λ C.dep (.frame s.l.length vals ft)) _ _ _ R _ _ _ _ _ _ _ O _ _ (nS (Λ:=dc Λ C.dep (.frame s.l.length vals ft)) (R0:=R) _ bf) bq rfl br aW (λi v hi bj=>by rw[←aS i hi];exact bj) aB
        obtain⟨bC,bw,aJ,af⟩:=ql (Λ:=dc Λ C.dep (.frame s.l.length vals ft)) al.l' ai
        rw[nL]at af
        injection af with af;injection af with bB bo bp
        subst bo;subst bp
        rw[ak]at aJ
        obtain⟨n1,bn⟩:=rB (Λ:=dc Λ C.dep (.frame s.l.length vals ft)) U al bl
        exact⟨bs,bm,n1,aJ,aU _ _ (Ja bn) (vl qX al.l')⟩
       cases e with
       |normal=>exact aA _ _ (.inr rfl) (au (by simpa [Tr.wp]using B))
       |ret=>exact aA _ _ (.inl rfl) (au (by simpa [Tr.wp]using B))
       |exit i=>exact B.elim
       |dF e=>exact B.elim
      cases B
     cases B
    cases B
   cases B
  cases B
 cases B
theorem zu(bK:oj P V cs fs run)(aJ:bb P V C)(aB:eM P C cs)(bo:jN P fs)(aS:C.iN=fs)(aO:∀j,C.dep≤j→Λ.lam j=none){w0:World}{I0:aq}{g:Operand}{ps:Array Tmp}{aP body:Code}{au m:Nat}{σ:Sk}{s:St}{ρ:az}{aa:FuncId}{ah:List TX}{fn:Func}{Q:LQ}{J:LJ}{Qd:Exit→St→Prop}(aD:R0.r=none∨∃(b base:Nat)(vals:Nat→Value)(ft:Tm)(N id:Nat),R0.r=some b∧s.l[base]?=some (.frame base vals ft)∧af.get ft N=.aK id∧vals N=.func (.yield b) #[] #[])(aM:gU (dE (lf m σ.t) g)=some (aa,ah))(aQ:findF aa C.iN=some fn)(aj:aH ρ σ s)(bp:gQ ρ L)(aL:dr Q)(U:Tr.wp cs (rr run C L au fn ah ps.toList aP body σ (lf m σ.t)) ρ Q J)(aA:∀e aR ae J',Q e aR ae J'→bS σ.n ρ ae→σ.n≤aR.n→∀s',aH ae aR s'→Qd (kV e) s'):bH P w0 I0 C.nt (.rangeFunc g ps aP body) s Qd:=by
 obtain⟨ft,bm,ak,ay⟩:=CN aj m
 generalize lf m σ.t=t0 at aM U ak ay
 have ad:σ.l.length=s.l.length:=aj.l.len
 refine bH.sub (TA bm) ?_
 have bA:RX ρ (dE t0 g) (cz ft g):=iW ak g
 obtain⟨aw,k1,k2⟩:=sM bA aM
 have aN:oy (cz ft g)=some (aa,aw):=by
  rcases k2 with e| ⟨e,rfl⟩| ⟨ds,e,rfl⟩<;>simp only[oy,e]
 unfold rr at U
 cases an:(!Nat.ble (ah.length+1) fn.ntmps || !fn.results.toList.isEmpty || !Nat.ble σ.l.length σ.l.length)with
 |true=>rw[an]at U;exact U.elim
 |false=>
  rw[an]at U
  simp only[cond_false]at U
  simp only[Bool.or_eq_false_iff,Bool.not_eq_false']at an
  obtain⟨⟨c1,c2⟩,_⟩:=an
  have c1:=Nat.le_of_ble_eq_true c1
  have c2:fn.results.toList=[]:=by simpa using c2
  rw[aS]at aQ
  obtain⟨bh,bj,bl⟩:=bo aa fn aQ
  have bO:∀{aE:Exit→St→Prop},(∀N,af.get ft N=.undef→jQ P aa (.aK s.l.length::aw) (s.l++[.loop s.l.length C.nt ps aP body ft .ready none]) ((N,.aK s.l.length)::ft) λ_ l'=>se P w0 I0 C.nt aE ⟨ft,s.l⟩ s.l.length l')→bH P w0 I0 C.nt (.rangeFunc g ps aP body) ⟨ft,s.l⟩ aE:=λh=>by
   rcases aD with aD| ⟨b,base,vals,bT,N,id,bF,bG,bI,bJ⟩
   ·exact Sn (s:=⟨ft,s.l⟩) aD aN h
   exact Sp (s:=⟨ft,s.l⟩) bF bG bI bJ aN h
  refine bO λN bV=>?_
  show jQ P aa (.aK s.l.length::aw) (s.l++[.loop s.l.length C.nt ps aP body ft .ready none]) ((N,.aK s.l.length)::ft) _
  refine jQ.of aJ.ok bj bh bl (by simp only[List.length_cons,←k1.len];omega) λR bt bP bg vals bQ al=>?_
  have br:(s.l++[AO.loop s.l.length C.nt ps aP body ft .ready none]).length=s.l.length+1:=by simp
  rw[br]at al⊢
  have bs:s.l++[AO.loop s.l.length C.nt ps aP body ft .ready none]++[AO.frame (s.l.length+1) vals ((N,.aK s.l.length)::ft)]=s.l++[AO.loop s.l.length C.nt ps aP body ft .ready none,AO.frame (s.l.length+1) vals ((N,.aK s.l.length)::ft)]:=by simp
  rw[bs]
  generalize bz:((N,T.aK s.l.length)::ft)=Z at al⊢
  have bn:gS Z (s.l.length::dm t0):=λk r O=>by
   rw[←bz]at O
   simp only[af.get]at O
   by_cases aU:N=k
   ·rw[if_pos aU]at O;simp[bU]at O;subst O;simp
   rw[if_neg aU]at O;exact List.mem_cons_of_mem _ (ay k r O)
  generalize ao:dc Λ C.dep (.loop s.l.length C.nt ps aP body ft)=ax
  generalize ar:dc ax (C.dep+1) (.frame (s.l.length+1) vals Z)=F
  have aT:∀j,C.dep+1≤j→ax.lam j=none:=ao▸qW aO
  have bB:∀j,C.dep+2≤j→F.lam j=none:=ar▸qW aT
  have bD:eN Λ ax:=ao▸eN.push (aO _ (Nat.le_refl _))
  have aW:eN ax F:=ar▸eN.push (aT _ (Nat.le_refl _))
  have aV:eN Λ F:=bD.trans aW
  have aX:F.lam C.dep=some (.loop s.l.length C.nt ps aP body ft):=aW _ _ (ao▸nL)
  have aY:F.lam (C.dep+1)=some (.frame (s.l.length+1) vals Z):=ar▸nL
  have bE:∀j,j<C.dep→F.lam j=Λ.lam j:=λj G=>by rw[←ar,qX j (by omega),←ao,qX j G]
  have bL:@aH _ F ρ ⟨σ.n,jc 0 (.aK σ.l.length::ah),σ.l++[.lp C.dep σ.l.length (dm t0) .ready,.cr (C.dep+1) (σ.l.length+1) (σ.l.length::dm t0)]⟩
    ⟨iA 0 (.aK s.l.length::aw),s.l++[.loop s.l.length C.nt ps aP body ft .ready none,.frame (s.l.length+1) vals Z]⟩:=by
   rw[ad]
   refine @aH.mk _ F _ _ _ (show c7 σ.n ρ from aH.jm aj) (vr (.cons (.aK _) k1)) (F2.app (vk aV (aH.l' aj)) (.cons ?_ (.cons ?_ .nil)))
   ·exact @bd.lp _ F ρ C.dep s.l.length _ .ready C.nt ps aP body ft aX ay
   exact @bd.cr _ F ρ (C.dep+1) (s.l.length+1) _ vals Z aY bn
  have bq:@gQ _ F ρ (.mk σ.l.length C.dep C.nt ps.toList aP body t0 L::L):=λx hx=>by
   have a6:∀x,x∈L→@fL _ F ρ x:=λx hx=>fL.lam aV (bp x hx)
   rcases List.mem_cons.1 hx with rfl|hx
   ·exact @fL.mk _ F ρ σ.l.length C.dep C.nt ps.toList aP body t0 L s.l.length ps ft aX rfl ak a6
   exact a6 x hx
  have U:=fN aL U
  have O:=@bK F R {C with nt:=fn.ntmps,dep:=C.dep+2,fJ:=false} (.mk σ.l.length C.dep C.nt ps.toList aP body t0 L::L) ⟨0,[],0⟩ (fp fn) ⟨σ.n,jc 0 (.aK σ.l.length::ah),σ.l++[.lp C.dep σ.l.length (dm t0) .ready,.cr (C.dep+1) (σ.l.length+1) (σ.l.length::dm t0)]⟩ bP bg (aJ.Ar _ _ _) ⟨aB.sigs,aB.turns,aB.ns⟩ aS (.inl bt) bB
  refine fM.go (Λ:=F) (R0:=R) O bL bq (bind_mono aL) U ?_
  intro e aR ae J' B ab ai s' ag
  have ab:bS σ.n ρ ae:=ab
  have ai:σ.n≤aR.n:=ai
  have aI:Tr.wp cs (rr.fin C au σ t0 aR) ae Q J'→mL V s' fn.results.toList (s.l.length+1) vals Z λ_ l'=>@se _ R0 P w0 I0 C.nt Qd ⟨ft,s.l⟩ s.l.length l':=by
   intro B
   unfold rr.fin at B
   cases aC:fG (C.dep+1) (σ.l.length+1) aR.l with
   |false=>rw[aC]at B;exact B.elim
   |true=>
    rw[aC]at B
    simp only[cond_true]at B
    obtain⟨bX,bR,bc,av⟩:=ql (Λ:=F) (aH.l' ag) aC
    rw[aY]at av
    injection av with av;injection av with bW bM bN
    subst bM;subst bN
    rw[ad]at bc
    refine⟨s',@Sub.refl _ R s',by rw[c2];trivial,bc,?_⟩
    have after:∀{b:Nat}{rs:List Nat}{st:Ls}{X:AO},aR.l[σ.l.length]?=some (.lp C.dep b rs st)→CG X=true→@aH _ Λ ae (Sk.ej au ⟨aR.n,t0,aR.l.map (fj C.dep)⟩) ⟨ft,s'.l.set s.l.length X⟩:=by
     intro b rs st X M bx
     refine nS (Λ:=Λ) (σ:=⟨aR.n,t0,aR.l.map (fj C.dep)⟩) (s:=⟨ft,s'.l.set s.l.length X⟩) au ?_
     refine @aH.mk _ Λ _ _ _ (show c7 aR.n ae from aH.jm ag) (λk=>(ak k).mono (ab.ext (aH.jm aj))) ?_
     have bw:@RL _ Λ ae (aR.l.map (fj C.dep)) s'.l:=vl bE (aH.l' ag)
     have aZ:=F2.set bw (@bd.cO _ Λ ae X bx) s.l.length
     have e:(aR.l.map (fj C.dep)).set s.l.length .cO=aR.l.map (fj C.dep):=by
      apply List.ext_getElem?
      intro i
      rw[List.getElem?_set]
      by_cases hi:s.l.length=i
      ·subst hi
       rw[ad]at M
       have bC:=(List.getElem?_eq_some_iff.1 M).1
       rw[if_pos rfl,if_pos (by simpa using bC),List.getElem?_map,M]
       simp[fj,Nat.ble_eq_true_of_le (Nat.le_refl _)]
      rw[if_neg hi]
     rw[e]at aZ
     exact aZ
    split at B
    ·rename_i j b rs M
     cases G:Nat.beq j C.dep with
     |false=>rw[G]at B;exact B.elim
     |true=>
      rw[G]at B
      simp only[cond_true]at B
      have:=Nat.eq_of_beq_eq_true G
      subst this
      obtain⟨a1,ba,aF,aG,bf,Y,a7,a8⟩:=qt (Λ:=F) (aH.l' ag) M
      rw[ad]at Y
      exact⟨_,_,_,_,_,_,_,_,Y,(by intro h;cases h),aA .normal _ ae J' B ab ai _ (after M rfl)⟩
    ·rename_i j b rs M
     cases G:Nat.beq j C.dep with
     |false=>rw[G]at B;exact B.elim
     |true=>
      rw[G]at B
      simp only[cond_true]at B
      have:=Nat.eq_of_beq_eq_true G
      subst this
      obtain⟨a1,ba,aF,aG,bf,Y,a7,a8⟩:=qt (Λ:=F) (aH.l' ag) M
      rw[ad]at Y
      exact⟨_,_,_,_,_,_,_,_,Y,(by intro h;cases h),(letI:bu:=R0;bH.ret (aA .ret _ ae J' B ab ai _ (after M rfl)))⟩
    ·rename_i j b rs i M
     cases G:Nat.beq j C.dep with
     |false=>rw[G]at B;exact B.elim
     |true=>
      rw[G]at B
      simp only[cond_true]at B
      have:=Nat.eq_of_beq_eq_true G
      subst this
      obtain⟨a1,ba,aF,aG,bf,Y,a7,a8⟩:=qt (Λ:=F) (aH.l' ag) M
      rw[ad]at Y
      exact⟨_,_,_,_,_,_,_,_,Y,(by intro h;cases h),(letI:bu:=R0;bH.exit (aA (.exit i) _ ae J' B ab ai _ (after M rfl)))⟩
    exact B.elim
  cases e with
  |normal=>exact al _ _ (.inr rfl) (aI B)
  |ret=>exact al _ _ (.inl rfl) (aI B)
  |exit i=>exact B.elim
  |dF e=>exact B.elim
omit Λ R0 in
theorem L4(av:jN P fs)(aE:P.follows .mixedOrders=true)(f:Nat):oj P V cs fs (exec f):=by
 induction f with
 |zero=>
  intro Λ R C L F c σ w0 I0 _ _ _ _ _ ρ s Q J Qd _ _ _ j _
  exact j.elim
 |succ f ad=>
  intro Λ R C L F c σ w0 I0 M O ab ai aa
  intro ρ s Q J Qd B ah Z j k
  cases c with
  |skip=>exact bH.skip (k _ _ _ _ j (.refl _ _) (Nat.le_refl _) s B)
  |region id ops d=>
   obtain⟨sz,aQ,aS,aT⟩:=zK (js:=mr C σ) B
   refine bH.sub aQ ?_
   have k:∀e aR ae J',Q e aR ae J'→bS (iZ (mr C σ) σ).n ρ ae→(iZ (mr C σ) σ).n≤aR.n→∀s',aH ae aR s'→Qd (kV e) s':=by rw[aT];exact k
   have B:=aS
   have j:Tr.wp cs (cZ (λe G=>.leaf e (G.ej F.out)) (bif d then qa C (nf (exec f) C L) ops.toList (gz C (iZ (mr C σ) σ) (jo C ops.toList))else iY C (oM (exec f) C L) F.out ops.toList ops.toList (gz C (iZ (mr C σ) σ) (jo C ops.toList)))) ρ Q J:=j
   generalize iZ (mr C σ) σ=σ at B j k
   obtain⟨aO,az,aA,aB⟩:=xf M (js:=jo C ops.toList) B
   refine bH.sub az ?_
   have k:∀e aR ae J',Q e aR ae J'→bS (gz C σ (jo C ops.toList)).n ρ ae→(gz C σ (jo C ops.toList)).n≤aR.n→∀s',aH ae aR s'→Qd (kV e) s':=by rw[aB];exact k
   have B:=aA
   have j:Tr.wp cs (cZ (λe G=>.leaf e (G.ej F.out)) (bif d then qa C (nf (exec f) C L) ops.toList (gz C σ (jo C ops.toList))else iY C (oM (exec f) C L) F.out ops.toList ops.toList (gz C σ (jo C ops.toList)))) ρ Q J:=j
   generalize gz C σ (jo C ops.toList)=σ at B j k
   cases d with
   |true=>
    have j:Tr.wp cs (cZ (λe G=>.leaf e (G.ej F.out)) (qa C (nf (exec f) C L) ops.toList σ)) ρ Q J:=j
    have j:=fN Z j
    have e:Code.region id ops true=Code.region id ops.toList.toArray true:=by simp
    rw[e]
    exact LR (ops:=ops.toList) M O rfl aE (Na @ad M O av ab aa ah) B j λaR ae J' U Y ag s' aj=>k .normal _ ae J' U Y ag s' (nS F.out aj)
   |false=>
    have j:Tr.wp cs (cZ (λe G=>.leaf e (G.ej F.out)) (iY C (oM (exec f) C L) F.out ops.toList ops.toList σ)) ρ Q J:=j
    have j:=fN Z j
    have ak:=vm (K:=λs'=>Qd .normal s') M O rfl (bind_mono Z) (n0:=σ.n) (ρ0:=ρ) (λσ1 a1 aI aX=>MU @ad M O av ab aa (ah.mono (aI.ext B.di))) ops.toList (bS.refl _ _) (Nat.le_refl _) B j λaR ae J' U Y ag s' aj=>k .normal _ ae J' U Y ag s' (nS F.out aj)
    intro a w aG
    have e:Code.region id ops false=Code.region id ops.toList.toArray false:=by simp
    rw[e]
    exact wpIn_region_lit (kN.wp (Q:=λe ax w'=>∃s',Qd e s'∧Rel w0 I0 C.nt s' ax w') (λs' a w U Y=>⟨s',U,Y⟩) ops.toList aO a w aG ak)
  |seq a b=>exact(S0 (ad C L _ a σ w0 I0 M O ab ai aa) (λG=>ad C L F b G w0 I0 M O ab ai aa)).go B ah Z j k
  |cond c a b=>
   simp only[exec]at j
   have ak:=iW B.t c
   split at j
   ·rename_i aq
    rw[aq]at ak
    obtain⟨ao,U,Y⟩:=fO ak
    have:ao=true:=ed (U.symm.trans (rfl:(X.bool true).den ρ=some ⟨.bool,true⟩))
    subst this
    exact bH.cond (by rw[Y];rfl) (λ_=>(ad C L F a σ w0 I0 M O ab ai aa).go B ah Z j k) (λh=>by cases h)
   ·rename_i aq
    rw[aq]at ak
    obtain⟨ao,U,Y⟩:=fO ak
    have:ao=false:=ed (U.symm.trans (rfl:(X.bool false).den ρ=some ⟨.bool,false⟩))
    subst this
    exact bH.cond (by rw[Y];rfl) (λh=>by cases h) (λ_=>(ad C L F b σ w0 I0 M O ab ai aa).go B ah Z j k)
   ·rename_i x _ _ aq
    rw[aq]at ak
    obtain⟨ao,U,Y⟩:=fO ak
    obtain⟨ay,k1,k2,aJ⟩:=j
    have:ao=ay:=ed (U.symm.trans k1)
    subst this
    exact bH.cond (b:=ao) (by rw[Y];rfl) (λh=>(ad C L F a σ w0 I0 M O ab ai aa).go B ah Z (k2 h) k) (λh=>(ad C L F b σ w0 I0 M O ab ai aa).go B ah Z (aJ h) k)
   exact j.elim
  |block id b=>
   have j:Tr.wp cs (cZ (λe G=>match e with |.exit i=>(bif Nat.beq i id then .leaf .normal G else .leaf e G)|e=>.leaf e G) (exec f C L {F with ex:=(id,F.out)::F.ex} b σ)) ρ Q J:=j
   refine bH.block ((ad C L _ b σ w0 I0 M O ab ai aa).go B ah (bind_mono Z) (fN Z j) λe aR ae J' an ag al s' aj=>?_)
   cases e with
   |normal=>exact k .normal _ ae J' an ag al s' aj
   |ret=>exact k .ret _ ae J' an ag al s' aj
   |dF e=>exact k (.dF e) _ ae J' an ag al s' aj
   |exit i=>
    show if i=id then Qd .normal s' else Qd (.exit i) s'
    by_cases hi:i=id
    ·subst hi
     rw[if_pos rfl]
     simp only[Nat.beq_refl,cond_true]at an
     exact k .normal _ ae J' an ag al s' aj
    rw[if_neg hi]
    simp only[beq_false hi,cond_false]at an
    exact k (.exit i) _ ae J' an ag al s' aj
  |loop b=>
   simp only[exec]at j
   cases aw:IQ (dX (.loop b) F) σ.t with
   |true=>
    rw[aw]at j
    simp only[cond_true]at j
    exact(Un (λG=>ad C L _ b G w0 I0 M O ab ai aa) 40 σ).go B ah Z j k
   |false=>
    rw[aw]at j
    simp only[cond_false]at j
    exact(xR (λG=>ad C L _ b G w0 I0 M O ab ai aa) 6 σ _).go B ah Z j k
  |exit id=>exact bH.exit (k (.exit id) _ _ _ j (.refl _ _) (Nat.le_refl _) s B)
  |ret=>exact bH.ret (k .ret _ _ _ j (.refl _ _) (Nat.le_refl _) s B)
  |rangeFunc g ps aP body=>
   simp only[exec]at j
   cases ar:(C.fJ && !fG (C.dep-1) C.rb σ.l)with
   |true=>rw[ar]at j;exact j.elim
   |false=>
    rw[ar]at j
    simp only[cond_false]at j
    have aF:R.r=none∨∃(b base:Nat)(vals:Nat→Value)(ft:Tm)(N id:Nat),R.r=some b∧s.l[base]?=some (.frame base vals ft)∧af.get ft N=.aK id∧vals N=.func (.yield b) #[] #[]:=by
     rcases ai with h| ⟨h,b,vals,ft,N,id,U,Y,ag,al⟩
     ·exact .inl h
     rw[h]at ar
     simp only[Bool.true_and,Bool.not_eq_false']at ar
     obtain⟨aZ,aV,aL,au⟩:=ql (Λ:=Λ) (aH.l' B) ar
     rw[Y]at au
     injection au with au;injection au with aY aM aN
     subst aM;subst aN
     exact .inr ⟨b,C.rb,vals,ft,N,id,U,aL,ag,al⟩
    split at j
    ·rename_i aW aU aC
     split at j
     ·rename_i fn aD
      exact zu @ad M O av ab aa aF aC aD B ah Z j k
     exact j.elim
    exact j.elim
  |_=>exact j.elim
end
end Go.Sy
namespace Go.Sy
open Go Go.af
variable [au][bB][bV][aL][kO]
section
variable [bu]
theorem LO{cs:List Callee}:∀{T:Tr}{B:List Ty}{ρ:az}{r:jM B},Tr.den cs B T ρ=some r→Tr.wp cs T ρ gH (λk v=>gA B k v=some r):=by
 intro T
 induction T with
 |leaf e σ=>intro B ρ r h;simp[Tr.den]at h
 |out k x=>
  intro B ρ r h
  simp only[Tr.den]at h
  split at h
  ·rename_i v ao;exact⟨v,ao,h⟩
  cases h
 |aW x t G=>
  intro B ρ r h
  simp only[Tr.den]at h
  split at h
  ·rename_i b Z
   cases b with
   |true=>exact⟨Z,G h⟩
   |false=>cases h
  cases h
 |get v xs k t G=>
  intro B ρ r h
  simp only[Tr.den]at h
  split at h
  ·rename_i u l kk i ai aj
   cases ad:aA (α:=u.den) l i with
   |none=>rw[ad]at h;cases h
   |some e=>rw[ad]at h;exact⟨u,l,kk,i,e,ai,aj,ad,G h⟩
  cases h
 |call v c x t G=>
  intro B ρ r h
  simp only[Tr.den]at h
  split at h
  ·rename_i C ak
   split at h
   ·rename_i u ab
    split at h
    ·rename_i a al
     cases M:C.fn a with
     |none=>rw[M]at h;cases h
     |some y=>
      rw[M]at h
      have:=jT al
      subst this
      exact⟨C,a,y,ak,ab,M,G h⟩
    cases h
   cases h
  cases h
 |cK c a b U Y=>
  intro B ρ r h
  simp only[Tr.den]at h
  split at h
  ·rename_i b0 Z
   refine⟨b0,Z,λe=>?_,λe=>?_⟩
   ·subst e;exact U h
   subst e;exact Y h
  cases h
 |dw c a b U Y=>
  intro B ρ r h
  simp only[Tr.den]at h
  split at h
  ·rename_i u xs aq
   refine⟨u,xs,aq,λe=>?_,?_⟩
   ·subst e
    simp only[List.isEmpty_nil,qB]at h
    split at h
    ·rename_i aa;exact U (aa.trans h)
    cases h
   cases xs with
   |nil=>
    simp only[List.isEmpty_nil,qB]at h
    split at h
    ·exact Y h
    cases h
   |cons y ys=>exact Y h
  cases h
 |join ty v a b U Y=>
  intro B ρ r h
  have af:∀{w:Sy.V}{z:ty.den},bZ ty w=some z→Tr.den cs B b ((v,⟨ty,z⟩)::ρ)=some r→∃y:ty.den,w=⟨ty,y⟩∧Tr.wp cs b ((v,⟨ty,y⟩)::ρ) gH (λk v=>gA B k v=some r):=λan Z=>⟨_,jT an,Y Z⟩
  simp only[Tr.den]at h
  cases aa:gv 0 a with
  |false=>
   rw[aa]at h
   simp only[cond_false]at h
   cases O:Tr.den cs [ty] a ρ with
   |none=>rw[O]at h;cases h
   |some z=>
    rw[O]at h
    have h:Tr.den cs B b ((v,⟨ty,z⟩)::ρ)=some r:=h
    show Tr.wp cs a ρ _ (ee _ _)
    refine Tr.wp_mono (λk w j=>?_) (λ_ _ _ _ _ _ h=>h) (U O)
    cases k with
    |zero=>exact af j h
    |succ k=>simp[gA]at j
  |true=>
   rw[aa]at h
   simp only[cond_true]at h
   cases O:Tr.den cs (ty::B) a ρ with
   |none=>rw[O]at h;cases B<;>cases h
   |some z=>
    rw[O]at h
    cases B with
    |nil=>exact r.elim
    |cons s rest=>
     show Tr.wp cs a ρ _ (ee _ _)
     refine Tr.wp_mono (λk w j=>?_) (λ_ _ _ _ _ _ h=>h) (U O)
     match z,h with
     |.inl z,h=>
      have h:Tr.den cs (s::rest) b ((v,⟨ty,z⟩)::ρ)=some r:=h
      cases k with
      |zero=>
       simp only[gA]at j
       split at j
       ·rename_i aw ae
        injection j with j;injection j with j;subst j
        exact af ae h
       cases j
      |succ k=>
       simp only[gA]at j
       split at j
       ·injection j with j;cases j
       cases j
     |.inr z,h=>
      have h:some z=some r:=h
      injection h with h;subst h
      cases k with
      |zero=>
       simp only[gA]at j
       split at j
       ·injection j with j;cases j
       cases j
      |succ k=>
       simp only[gA]at j
       split at j
       ·rename_i y M;injection j with j;injection j with j;subst j;exact M
       cases j
 |loop ty v i b G=>
  intro B ρ r h
  cases B with
  |nil=>simp[Tr.den]at h
  |cons s rest=>
   simp only[Tr.den]at h
   split at h
   ·rename_i u ab
    split at h
    ·rename_i ah ag
     have:=jT ag
     subst this
     obtain⟨m,F⟩:=tQ h
     refine⟨ah,ab,m,?_⟩
     clear ag h ab
     induction m generalizing ah with
     |zero=>cases F
     |succ m av=>
      simp only[fu]at F
      show Tr.wp cs b _ _ (ee _ _)
      split at F
      ·rename_i aw ae
       refine Tr.wp_mono (λk w j=>?_) (λ_ _ _ _ _ _ h=>h) (G ae)
       cases k with
       |zero=>
        simp only[gA]at j
        split at j
        ·rename_i ay au
         injection j with j;injection j with j;subst j
         exact⟨_,jT au,av _ F⟩
        cases j
       |succ k=>
        simp only[gA]at j
        split at j
        ·injection j with j;cases j
        cases j
      ·rename_i y M
       injection F with F;subst F
       refine Tr.wp_mono (λk w j=>?_) (λ_ _ _ _ _ _ h=>h) (G M)
       cases k with
       |zero=>
        simp only[gA]at j
        split at j
        ·injection j with j;cases j
        cases j
       |succ k=>
        simp only[gA]at j
        split at j
        ·rename_i ax ar;injection j with j;injection j with j;subst j;exact ar
        cases j
      cases F
    cases h
   cases h
 |bad w=>intro B ρ r h;simp[Tr.den]at h
theorem Mf{cs:List Callee}{g:Sk→Option X}{p:Sy.V→Prop}:∀{t:Tr}{k:Nat}{ρ:az}{J:LJ},(∀v,J k v→p v)→Tr.wp cs (gh g k t) ρ gH J →
  Tr.wp cs t ρ (λe σ ae _=>(e=.ret∨e=.normal)∧∃x v,g σ=some x∧x.den ae=some v∧p v) J:=by
 intro t
 induction t with
 |leaf e σ=>
  intro k ρ J B h
  cases e with
  |exit i=>exact h.elim
  |dF e=>exact h.elim
  |normal=>
   simp only[gh]at h
   split at h
   ·rename_i x aa;obtain⟨v,F,G⟩:=h;exact⟨.inr rfl,x,v,aa,F,B v G⟩
   exact h.elim
  |ret=>
   simp only[gh]at h
   split at h
   ·rename_i x aa;obtain⟨v,F,G⟩:=h;exact⟨.inl rfl,x,v,aa,F,B v G⟩
   exact h.elim
 |out k x=>intro _ ρ J B h;exact h
 |aW x t O=>intro k ρ J B ⟨F,G⟩;exact⟨F,O B G⟩
 |get v xs i t O=>intro k ρ J B ⟨u,l,kk,j,e,F,G,M,U⟩;exact⟨u,l,kk,j,e,F,G,M,O B U⟩
 |call v c x t O=>intro k ρ J B ⟨C,a,y,F,G,M,U⟩;exact⟨C,a,y,F,G,M,O B U⟩
 |cK c a b Y Z=>intro k ρ J B ⟨b0,F,G,M⟩;exact⟨b0,F,λh=>Y B (G h),λh=>Z B (M h)⟩
 |dw c a b Y Z=>intro k ρ J B ⟨u,xs,F,G,M⟩;exact⟨u,xs,F,λh=>Y B (G h),Z B M⟩
 |join ty v a b Y Z=>
  intro k ρ J B h
  have:=Y (k:=k+1) (J:=ee (λz=>∃y:ty.den,z=⟨ty,y⟩∧Tr.wp cs (gh g k b) ((v,⟨ty,y⟩)::ρ) gH J) J) B h
  show Tr.wp cs a ρ _ (ee _ J)
  refine Tr.wp_mono (iL ?_ (λ_ _ h=>h)) (λ_ _ _ _ _ _ h=>h) this
  rintro z ⟨y,F,G⟩;exact⟨y,F,Z B G⟩
 |loop ty v i b O=>
  intro k ρ J B ⟨af,F,n,G⟩
  refine⟨af,F,n,ni ?_ G⟩
  intro ag q z ab ad
  refine Tr.wp_mono (iL ?_ (λ_ _ h=>h)) (λ_ _ _ _ _ _ h=>h) (O (k:=k+1) (J:=ee _ J) B ad)
  rintro ah ⟨y,M,U⟩;exact⟨y,M,ab y U⟩
 |bad w=>intro k ρ J B h;exact h
section
variable {P:Program}{V:Env}{C:Cx}{cs:List Callee}{ρ:az}{σ:Sk}{s:St}
theorem Sx(G:bb P V C)(h:aH ρ σ s){rs:List ResultVar}{k:List Ty}(B:∀t∈k,isVal t){x:X}(j:zF C rs k σ=some x){r:(ay k).den}(M:x.den ρ=some ⟨ay k,r⟩):HX V s rs ((ay k).enc r):=by
 unfold zF at j
 split at j
 ·rename_i xs O
  split at j
  ·rename_i ys l' U
   injection j with j;subst j
   obtain⟨k1,k2⟩:=rB G h O
   obtain⟨a,Z,F,Y,aa⟩:=lE h.l k2 U
   have e:=(kF F.1 F.2).symm.trans M
   injection e with e;injection e with _ e
   subst e
   refine⟨k1,?_⟩
   rw[Y]
   match k,a,B with
   | [],a,_=>rfl
   | [t],a,_=>rfl
   |t::u::ts,a,B=>
    have e:(ay (t::u::ts)).enc a=.aw (cp (t::u::ts) a):=by rw[←sW B];rfl
    rw[e]
    cases ts<;>rfl
  cases j
 cases j
theorem BQ:∀{ts:List Ty}{a:(ay ts).den}{k j:Nat}{v:Sy.V},bX ts a j=some v→lk (jZ ts a k) (k+j)=some v
 | [],a,k,j,v,h=>by simp[bX]at h
 | [t],a,k,0,v,h=>by
  simp only[bX,Option.some.injEq]at h;subst h
  exact fg k _ _
 | [t],a,k,j+1,v,h=>by simp[bX]at h
 |t::u::ts,a,k,0,v,h=>by
  simp only[bX,Option.some.injEq]at h;subst h
  exact fg k _ _
 |t::u::ts,a,k,j+1,v,h=>by
  have:=BQ (ts:=u::ts) (a:=a.2) (k:=k+1) (j:=j) h
  show lk ((k,_)::jZ (u::ts) a.2 (k+1)) _=_
  rw[show k+(j+1)=k+1+j by omega]
  simp only[lk,beq_false (by omega:k≠k+1+j),cond_false]
  exact this
theorem BP:∀{ts:List Ty}{a:(ay ts).den}{k:Nat},c7 (k+ts.length) (jZ ts a k)
 | [],a,k=>λp hp=>by simp[jZ]at hp
 | [t],a,k=>λp hp=>by simp[jZ]at hp;subst hp;simp
 |t::u::ts,a,k=>λp hp=>by
  simp only[jZ,List.mem_cons]at hp
  rcases hp with rfl|hp
  ·simp
  have:=BP (ts:=u::ts) (a:=a.2) (k:=k+1) p hp
  simp at this⊢;omega
theorem II:∀{ts:List Ty}{a:(ay ts).den}{k:Nat},(∀t∈ts,isVal t)→(∀j v,bX ts a j=some v→lk ρ (k+j)=some v)→∀i,RX ρ (aD (pF k ts) i) (get (lz k (cp ts a)) i)
 | [],a,k,F,h=>λi=>.undef _
 | [t],a,k,F,h=>λi=>by
  show RX ρ (bif Nat.beq k i then .d t (.var k)else .undef) (if k=i then .d (t.enc a)else .undef)
  by_cases B:k=i
  ·subst B
   rw[if_pos rfl,Nat.beq_refl]
   exact .d t _ a (F t (by simp)) (h 0 _ rfl)
  rw[if_neg B,beq_false B];exact .undef _
 |t::u::ts,a,k,F,h=>λi=>by
  show RX ρ (bif Nat.beq k i then .d t (.var k)else aD (pF (k+1) (u::ts)) i) (if k=i then .d (t.enc a.1)else get (lz (k+1) (cp (u::ts) a.2)) i)
  by_cases B:k=i
  ·subst B
   rw[if_pos rfl,Nat.beq_refl]
   exact .d t _ a.1 (F t (by simp)) (h 0 _ rfl)
  rw[if_neg B,beq_false B]
  exact II (ts:=u::ts) (a:=a.2) (k:=k+1) (λt M=>F t (List.mem_cons_of_mem _ M)) (λj v G=>by
   have:=h (j+1) v G
   rw[show k+1+j=k+(j+1) by omega];exact this) i
omit [bu]in
theorem BL:∀(ws:List Ty)(b:(ay ws).den),(cp ws b).length=ws.length
 | [],_=>rfl
 | [_],_=>rfl
 |t::u::ts,b=>by simp[cp,BL (u::ts) b.2]
end
end
theorem wT{α:Type}:∀(j:List (Nat×α))(t:Nat),j.find? (λp=>p.1 == t)=j.find? λp=>Nat.beq p.1 t
 | [],_=>rfl
 |p::r,t=>by
  have e:(p.1 == t)=Nat.beq p.1 t:=by
   rw[Bool.eq_iff_iff,beq_iff_eq]
   exact(Nat.beq_eq▸Iff.rfl)
  simp only[List.find?_cons,e,wT r t]
omit [aL] [bB] [bV]in
theorem OB{C j:Cx}{F:List (Nat×Ty)}(h:F.all (λp=>nW C p.1 p.2)=true)(e:∀ty t,nW j ty t=nW C ty t:=by intros;rfl):∀ty t,(F.find? λp=>Nat.beq p.1 ty).map (·.2)=some t→nW j ty t=true:=by
 intro ty t B
 rw[Option.map_eq_some_iff]at B
 obtain⟨p,k,rfl⟩:=B
 have G:=List.find?_some k
 have M:=Nat.eq_of_beq_eq_true G
 rw[e,←M]
 exact List.all_eq_true.1 h p (List.mem_of_find?_eq_some k)
section
variable {P:Program}{V:Env}{C:Cx}{cs:List Callee}
theorem Ml{f:FuncId}{fn:Func}{c:Code}{B F:List Ty}{a:(ay B).den}{r:(ay F).den}(O:bb P V C)(af:eM P C cs)(Z:jN P C.iN)(ak:C.nt=fn.ntmps)(aj:P.follows .mixedOrders=true)(ah:P.funcs[f]?=some fn)(ad:fn.body=some c)(ab:∀t∈B,isVal t)(al:∀t∈F,isVal t)(ai:B.length≤fn.ntmps)(h:kX cs (lD C fn.results.toList c B F) B F a=some r):jh P f (cp B a) ((ay F).enc r):=by
 haveI:bu:=jG
 refine jh.of O.ok ah ad (by rw[BL];exact ai) λR aa w0 I0=>?_
 have aq:=Mf (p:=λv=>v=⟨ay F,r⟩) (λv G=>by
  have G:bZ (ay F) v=some r:=G
  exact jT G) (LO h)
 have an:aH (jZ B a 0) ⟨B.length,pF 0 B,[]⟩ ⟨lz 0 (cp B a),[]⟩:=
  ⟨by have:=BP (ts:=B) (a:=a) (k:=0);simpa using this,II ab λj v G=>BQ G,.nil⟩
 have M:=L4 (V:=V) (cs:=cs) Z aj 400 C [] ⟨fi fn.results.toList,[],fi fn.results.toList⟩ c ⟨B.length,pF 0 B,[]⟩ w0 I0 O af rfl (.inl aa) (λ_ _=>rfl)
 rw[ak]at M
 refine fM.go (Λ:=NA) (R0:=R) M an (λx M=>by cases M) (λ_ _ _ _ _ _ h=>h) aq ?_
 rintro e aR ae J' ⟨ag,x,v,U,Y,rfl⟩ _ _ s' ao
 refine⟨?_,Sx O ao al U Y⟩
 rcases ag with rfl|rfl
 ·exact .inl rfl
 exact .inr rfl
def kW(fn:Func)(j k:List Ty):Bool:= !(fn.name == "runtime.NumGoroutine") && !fn.body.isNone&&j.all cF&&k.all cF&&Nat.ble j.length fn.ntmps
theorem A9{f:FuncId}{fn:Func}{j k:List Ty}{g:(ay j).den→Option (ay k).den}(Y:bb P V C)(aa:eM P C cs)(Z:jN P C.iN)(ae:C.nt=fn.ntmps)(ad:P.follows .mixedOrders=true)(M:P.funcs[f]?=some fn)(O:kW fn j k=true)(h:∀a,kX cs (lD C fn.results.toList (fp fn) j k) j k a=g a):eD P ⟨f,j,k,g⟩:=by
 simp only[kW,Bool.and_eq_true,List.all_eq_true,Bool.not_eq_true']at O
 obtain⟨⟨⟨⟨ag,k1⟩,k2⟩,ah⟩,ai⟩:=O
 have ab:Enters P f:=Enters.of M ⟨ag,k1⟩
 have G:∀t∈j,isVal t:=λt F=>bx (k2 t F)
 have U:∀t∈k,isVal t:=λt F=>bx (ah t F)
 have B:fn.body=some (fp fn):=by
  unfold fp
  cases B:fn.body with
  |none=>rw[B]at k1;cases k1
  |some c=>rfl
 exact⟨ab,λa r af=>Ml Y aa Z ae ad M B G U (Nat.le_of_ble_eq_true ai) (by rw[h];exact af),G,U⟩
def Cf(fn:Func):Bool:= !(fn.name == "runtime.NumGoroutine") && !fn.body.isNone
theorem Cm{P:Program}{fs:List (Nat×Func)}(h:fs.foldr (λp q=>P.funcs[p.1]?=some p.2∧q) True)(B:fs.all (λp=>Cf p.2)=true):jN P fs:=by
 induction fs with
 |nil=>intro g fn h;cases h
 |cons c r G=>
  intro g fn j
  simp only[List.all_cons,Bool.and_eq_true]at B
  simp only[findF]at j
  cases e:Nat.beq c.1 g with
  |false=>rw[e]at j;exact G h.2 B.2 g fn j
  |true=>
   rw[e]at j
   simp only[cond_true,Option.some.injEq]at j
   subst j
   have:=Nat.eq_of_beq_eq_true e
   subst this
   have k:=B.1
   simp only[Cf,Bool.and_eq_true,Bool.not_eq_true']at k
   refine⟨h.1,Enters.of h.1 k,?_⟩
   unfold fp
   cases F:c.2.body with
   |none=>rw[F]at k;cases k.2
   |some c=>rfl
def jd:List eF→Nat→List gr
 | [],_=>[]
 |c::r,k=>⟨c.f,c.t,c.args,k⟩::jd r (k+1)
theorem KX{P:Program}{cs:List Callee}(h:cs.foldr (λc p=>eD P c∧p) True):∀(j:Nat)(s:gp),(cs.map iy)[j]?=some s→∃c:Callee,cs[j]?=some c∧iy c=s∧eD P c:=by
 induction cs with
 |nil=>intro j s k;simp at k
 |cons c r B=>
  intro j s k
  cases j with
  |zero=>simp at k;exact⟨c,rfl,k,h.1⟩
  |succ j=>simpa using B h.2 j s (by simpa using k)
theorem Jg{P:Program}:∀{ts:List eF}{k:Nat},ts.foldr (λc p=>gu P c.f c.t c.args c.fn∧p) True→∀s∈jd ts k,∃fn:(ay (.list s.t::s.args)).den→Option (List s.t.den),k≤s.k∧((ts.map eF.gT)[s.k-k]?=some (eF.mk s.f s.t s.args fn).gT)∧gu P s.f s.t s.args fn
 | [],k,_,s,hs=>by simp[jd]at hs
 |c::r,k,h,s,hs=>by
  simp only[jd,List.mem_cons]at hs
  rcases hs with rfl|hs
  ·exact⟨c.fn,Nat.le_refl _,by simp,h.1⟩
  obtain⟨fn,F,j,B⟩:=Jg h.2 s hs
  refine⟨fn,by omega,?_,B⟩
  rw[show s.k-k=(s.k-(k+1))+1 by omega]
  simpa using j
theorem Bd{P:Program}{C:Cx}{cs:List Callee}{ts:List eF}(h:cs.foldr (λc p=>eD P c∧p) True)(B:ts.foldr (λc p=>gu P c.f c.t c.args c.fn∧p) True)(G:C.sigs=cs.map iy)(M:C.turns=jd ts cs.length)(O:C.yg=[]):eM P C (cs++ts.map eF.gT):=by
 refine⟨λj s k=>?_,λs k=>?_,λs k=>by rw[O]at k;cases k⟩
 ·rw[G]at k
  obtain⟨c,F,B,U⟩:=KX h j s k
  exact⟨c,by rw[List.getElem?_append_left (List.getElem?_eq_some_iff.1 F).1];exact F,B,U⟩
 rw[M]at k
 obtain⟨fn,k1,k2,Y⟩:=Jg B s k
 exact⟨fn,by rw[List.getElem?_append_right k1];exact k2,Y⟩
end
end Go.Sy
namespace Go.af
open Go Go.RowKit dK Go.ChangeShapes Go.WideShapes
variable [aL]
open Classical in
noncomputable def allI(w:World):aq:=⟨λb o=>w.cell? ⟨b,o,none⟩,λb=>if h:∃j,MapAt w.heap[b]? j then some (Classical.choose h)else none,λ_=>False⟩
theorem JJ(w:World)(j:∀g d,aL.eH g=some d→Rd (allI w) (.pointer (some ⟨g,0,none⟩)) (.box d)):cw w (allI w):=by
 refine⟨λ_ _ _ h=>h,λb B h=>?_,λb h=>h.elim,j⟩
 unfold allI at h
 simp only at h
 split at h
 ·rename_i k
  cases h
  exact Classical.choose_spec k
 cases h
theorem Lm(I:aq){cs:List Value}{n:Nat}(h:cs.length=n):Cells I (cs.drop n) []:=by
 refine⟨by simp[h],by simp,λi v d _ j=>by simp at j⟩
theorem Ll{I:aq}{cs:List Value}{o s:Nat}{ys zs:List D}(Y:Cells I ((cs.drop o).take s) ys)(Z:Cells I (cs.drop (o+s)) zs):Cells I (cs.drop o) (ys++zs):=by
 have e:cs.drop o=(cs.drop o).take s++cs.drop (o+s):=by rw[←List.drop_drop,List.take_append_drop]
 rw[e]
 obtain⟨B,F,G⟩:=Y
 obtain⟨M,O,U⟩:=Z
 refine⟨by simp only[List.length_append,B,M],λd j=>(List.mem_append.1 j).elim (F d) (O d),λi v d k j=>?_⟩
 by_cases hi:i<ys.length
 ·rw[List.getElem?_append_left (by omega)]at k
  rw[List.getElem?_append_left hi]at j
  exact G i v d k j
 rw[List.getElem?_append_right (by omega),B]at k
 rw[List.getElem?_append_right (by omega)]at j
 exact U _ v d k j
theorem cells_one{I:aq}{v:Value}{d:D}(B:d.one=true)(h:Rd I v d):Cells I [v] [d]:=
 ⟨rfl,by simpa using B,λi x y j k=>by
  rcases i with _|i
  ·simp at j k;subst j;subst k;exact h
  simp at j⟩
theorem JH(b o k:Nat):(⟨b,o,none⟩:Addr).add k=⟨b,o+k,none⟩:=by
 unfold Addr.add;split
 ·rename_i h;subst h;rfl
 rfl
section
variable {P:Program}{t e:TypeId}
theorem Oy{W:World}{r:Reach}{b:Nat}{v:Value}(h:Value.okWide P W r b t v)(k:(match P.underlying t with|some (.struct _)|some (.array _ _)=>false|_=>true)=true):∀cs,v ≠ .agg cs:=by
 rintro cs rfl
 cases j:P.underlying t with
 |none=>simp[Value.okWide,j,Cell.okWide,Cell.ok]at h
 |some d=>
  rw[j]at k
  cases d<;>first| (simp[Value.okWide,j,Cell.okWide,Cell.ok]at h;done)| (simp at k;done)
variable {H:Type}{en:TypeId×Value→H}{W:World}{base:Nat}{sp:Nat→Bool}{held:Bool}{v:Value}{d:DataW H}{ps:List MemPlace}{α:Type}[dK α]{xo:(H:Type)→DataW H→α→Prop}
end
theorem I8{H:Type}{en:TypeId×Value→H}{P:Program}(G:laidOutB P=true){W B:World}(F:Below W.heap.size W B) :
  ∀{ts:List TypeId}{vs:List Value}{ds:List (DataW H)}{ps:List MemPlace},(ts.all λt=>P.readableRec t&&decide (t<P.types.size))=true→DataW.TrodAll en P W 0 (λ_=>true) true ts vs ds ps→(∀x∈ps,x.block<W.heap.size)→DataW.TrodAll en P B 0 (λb=>decide (b<W.heap.size)) true ts vs ds ps
 | [],[],[],_,_,h,_=>h
 |t::ts,v::vs,d::ds,_,j,⟨p,q,h1,O,e⟩,M=>by
  simp only[List.all_cons,Bool.and_eq_true,decide_eq_true_eq]at j
  exact⟨p,q,Below.trod G j.1.1 j.1.2 h1 F (λx k=>M x (by rw[e];exact List.mem_append_left _ k)),I8 G F j.2 O (λx k=>M x (by rw[e];exact List.mem_append_right _ k)),e⟩
 | [],_::_,_,_,_,h,_=>h.elim
 | [],[],_::_,_,_,h,_=>h.elim
 |_::_,[],_,_,_,h,_=>h.elim
 |_::_,_::_,[],_,_,h,_=>h.elim
theorem SK{P:Program}{f:FuncId}{ds:List D}{r:D}(h:jh P f ds r){W:World}(F:∀g d,aL.eH g=some d→Rd (allI W) (.pointer (some ⟨g,0,none⟩)) (.box d)){vs:Array Value}(M:vs.size=ds.length)(G:∀(i:Nat) v d,vs[i]?=some v→ds[i]?=some d→Rd (allI W) v d) :
  Calls P f vs W λe w'=>∃v J,e=.returned v∧Below W.heap.size W w'∧Rd J v r:=
 (h W (allI W) vs (JJ W F) M G).mono λ_ _ ⟨v,J,j,k,_,_,B⟩=>⟨v,J,j,k.below,B⟩
end Go.af
namespace Go.Sy
open Go Go.af Go.RowKit Go.ChangeShapes Go.WideShapes
variable [au]
structure od(bk:(H:Type)→DataW H→Nat)(gb:(H:Type)→List (DataW H)→Nat):Prop where
 str:∀H bs,bk H (.lit (.string bs))=bs.length+1
 sl:∀H a b,bk H (.slice a b)=gb H a+gb H b+1
 agg:∀H a,bk H (.agg a)=gb H a+1
 nil:∀H,gb H []=0
 cons:∀H d r,gb H (d::r)=bk H d+gb H r
 one:∀H d,1≤bk H d
def rV(g:(t:Ty)→t.den→Nat):(ts:List Ty)→(ay ts).den→Nat
 | [],_=>0
 | [t],x=>g t x
 |t::u::ts,x=>g t x.1+rV g (u::ts) x.2
def fW:Nat→(t:Ty)→t.den→Nat
 |0,_,_=>0
 |f+1,.list t,xs=>(List.map (λx=>fW f t x) xs).sum+1
 |f+1,.st i,x=>rV (λt x=>fW f t x) (au.bC i) (au.un i x)+1
 |_+1,.str,s=>ByteArray.size s+1
 |_+1,_,_=>1
def ud(g:(t:Ty)→t.den→Prop):(ts:List Ty)→(ay ts).den→Prop
 | [],_=>True
 | [t],x=>g t x
 |t::u::ts,x=>g t x.1∧ud g (u::ts) x.2
def jA:Nat→(t:Ty)→t.den→Prop
 |0,_,_=>True
 |f+1,.list t,xs=>∀x∈(show List t.den from xs),jA f t x
 |f+1,.st i,x=>ud (λt x=>jA f t x) (au.bC i) (au.un i x)
 |_+1,.int k,n=>(Lit.int k n).wf=true
 |_+1,_,_=>True
def nH(P:Program)(g:TypeId→Ty→Bool)(j:Nat):List Field→List Ty→Nat→Bool
 | [],[],off=>Nat.beq off j
 |fd::fs,u::us,off=>Nat.beq fd.offset off&&Nat.beq (P.cellsOf fd.type) u.size&&g fd.type u&&nH P g j fs us (off+u.size)
 |_,_,_=>false
def lq(P:Program):Nat→TypeId→Ty→Bool
 |0,_,_=>false
 |f+1,ty,t=>match t,P.underlying ty with
  |.int k,some (.int j)=>decide (k=j)
  |.bool,some .bool=>true
  |.str,some .string=>true
  |.list u,some (.slice e)=>Nat.beq (P.cellsOf e) u.size&&Nat.ble 1 u.size&&cF u&&lq P f e u
  |.st i,some (.struct fs)=>nH P (lq P f) (P.cellsOf ty) fs.toList (au.bC i) 0
  |_,_=>false
def r6[aL](P:Program)(bk:(H:Type)→DataW H→Nat)(f:Nat)(ty:TypeId)(t:Ty):Prop:=
 ∀(H:Type)(en:TypeId×Value→H)(w:World)(base:Nat)(k:Nat→Bool)(held:Bool)(j:Nat)(cs:List Value)(x:DataW H×List MemPlace),
  DataW.trod en P w base k held j ty cs=some x→∃a:t.den,fW f t a≤bk H x.1∧jA f t a∧Cells (allI w) cs (t.enc a).cells
theorem IN{bk:(H:Type)→DataW H→Nat}{gb:(H:Type)→List (DataW H)→Nat}(j:od bk gb){α H:Type}{g:α→Nat}:∀{l:List α}{ds:List (DataW H)},ds.length=l.length→(∀(i:Nat) y d,l[i]?=some y→ds[i]?=some d→g y≤bk H d)→(l.map g).sum≤gb H ds
 | [],ds,_,_=>Nat.zero_le _
 |y::l,[],h,_=>by simp at h
 |y::l,d::ds,h,k=>by
  rw[List.map_cons,List.sum_cons,j.cons]
  have G:=k 0 y d rfl rfl
  have M:=IN j (l:=l) (ds:=ds) (g:=g) (by simpa using h) λi y d F B=>k (i+1) y d (by simpa using F) (by simpa using B)
  omega
variable [bB][bV][aL]
section
variable {P:Program}{bk:(H:Type)→DataW H→Nat}{gb:(H:Type)→List (DataW H)→Nat}
theorem DF(aa:od bk gb){f:Nat}{ae:Nat}(ab:∀ty t,lq P f ty t=true→r6 P bk f ty t){H:Type}{en:TypeId×Value→H}{w:World}{base:Nat}{ad:Nat→Bool}{held:Bool}{n:Nat}{cs:List Value}(aj:cs.length=ae):∀(fs:List Field)(j:List Ty)(off:Nat)(xs:List (DataW H×List MemPlace)),nH P (lq P f) ae fs j off=true→xs.length=fs.length →
  (∀(i:Nat) fd,fs[i]?=some fd→DataW.trod en P w base ad held n fd.type ((cs.drop fd.offset).take (P.cellsOf fd.type))=xs[i]?) →
  ∃a:(ay j).den,rV (λt x=>fW f t x) j a≤gb H (xs.map (·.1))∧ud (λt x=>jA f t x) j a∧Cells (allI w) (cs.drop off) (cellsOf j a)
 | [],[],off,xs,h,F,B=>by
  simp only[nH]at h
  have:=Nat.eq_of_beq_eq_true h
  exact⟨(),Nat.zero_le _,trivial,Lm _ (by omega)⟩
 |fd::fs,[],off,xs,h,F,B=>by simp[nH]at h
 | [],_::_,off,xs,h,F,B=>by simp[nH]at h
 |fd::fs,u::j,off,[],h,F,B=>by simp at F
 |fd::fs,u::j,off,x::xs,h,F,B=>by
  simp only[nH,Bool.and_eq_true]at h
  obtain⟨⟨⟨O,U⟩,ah⟩,ai⟩:=h
  have O:=Nat.eq_of_beq_eq_true O
  have U:=Nat.eq_of_beq_eq_true U
  have Z:=B 0 fd rfl
  rw[O,U]at Z
  obtain⟨a,ak,Y,af⟩:=ab _ _ ah H en w base ad held n _ x Z
  obtain⟨b,M,G,ag⟩:=DF aa ab aj fs j (off+u.size) xs ai (by simpa using F) λi fd hi=>by
   have:=B (i+1) fd (by simpa using hi)
   simpa using this
  have k:=Ll af ag
  rw[List.map_cons,aa.cons]
  match j,b,M,G,k with
  | [],b,M,G,k=>
   refine⟨a,?_,Y,?_⟩
   ·show fW f u a≤_
    omega
   have e:(u.enc a).cells++cellsOf [] b=(u.enc a).cells:=List.append_nil _
   rw[e]at k;exact k
  |v::j,b,M,G,k=>
   refine⟨(a,b),?_,⟨Y,G⟩,k⟩
   show fW f u a+rV (λt x=>fW f t x) (v::j) b≤_
   omega
theorem OF(ad:od bk gb){f:Nat}{ty e:TypeId}{u:Ty}(aE:P.underlying ty=some (.slice e))(aD:P.cellsOf e=u.size)(aj:1≤u.size)(au:isVal u)(aB:r6 P bk f e u):r6 P bk (f+1) ty (.list u):=by
 intro H en w base aJ held aL cs x h
 have af:∀y:u.den,(u.enc y).cells.length=u.size:=λy=>gy au y
 rcases Go.Deep.open_slice aE h with ⟨rfl,rfl⟩| ⟨a,len,aw,m,n,D0,Pl,rfl,_,az,aq,aA,aG,hi⟩
 ·exact⟨([]:List u.den),ad.one _ _,(λx Z=>by cases Z),cells_one rfl (.iz _ _ _ (Nat.zero_le _))⟩
 have aM:len≤m:=by rw[aA];split<;>omega
 rcases Nat.eq_zero_or_pos len with h0|h0
 ·subst h0
  exact⟨([]:List u.den),ad.one _ _,(λx Z=>by cases Z),cells_one rfl (.iz _ _ _ aq)⟩
 have an:∀i,i<len→∃(y:u.den)(M:List Value),(fW f u y≤bk H (D0 i)∧jA f u y)∧(∀j,j<u.size→w.cell? (a.add (i*u.size+j))=M[j]?)∧M.length=u.size∧Cells (allI w) M (u.enc y).cells:=λi ae=>by
  obtain⟨M,al,aF⟩:=hi i (by omega)
  obtain⟨y,G,aH,ai⟩:=aB H en w base aJ held n M _ aF
  rw[aD]at al
  obtain⟨_,ah,aa⟩:=World.cells?_some al
  exact⟨y,M,⟨G,aH⟩,λj U=>by rw[←aa j U,Go.Deep.add_add],ah,ai⟩
 obtain⟨b,off,aK⟩:=a
 have aC:aK=none:=by
  obtain⟨y,M,_,aa,ah,_⟩:=an 0 h0
  have O:=aa 0 aj
  rw[List.getElem?_eq_getElem (by omega)]at O
  simpa [Addr.add]using World.cell?_spot O
 subst aC
 have hex:∀k,k≤len→∃l:List u.den,l.length=k∧(∀(i:Nat) y,l[i]?=some y→fW f u y≤bk H (D0 i)∧jA f u y)∧∀(i:Nat)(y:u.den),l[i]?=some y→∀j,j<u.size→∃v d,w.cell? ⟨b,off+(i*u.size+j),none⟩=some v∧(u.enc y).cells[j]?=some d∧Rd (allI w) v d:=by
  intro k
  induction k with
  |zero=>exact λ_=>⟨[],rfl,by simp,by simp⟩
  |succ k aI=>
   intro Y
   obtain⟨l,O,ab,ag⟩:=aI (by omega)
   obtain⟨y,M,G,aa,ah,ai⟩:=an k (by omega)
   have ar:∀(i:Nat)(z:u.den),(l++[y])[i]?=some z→l[i]?=some z∨(i=k∧z=y):=λi z B=>by
    by_cases ae:i<l.length
    ·rw[List.getElem?_append_left ae]at B;exact .inl B
    rw[List.getElem?_append_right (by omega)]at B
    have ay:i=k:=by
     have:=(List.getElem?_eq_some_iff.1 B).1
     simp at this;omega
    subst ay
    rw[O]at B
    simp at B
    exact .inr ⟨rfl,B.symm⟩
   refine⟨l++[y],by simp[O],λi z B=>?_,λi z B j U=>?_⟩
   ·rcases ar i z B with B| ⟨rfl,rfl⟩
    ·exact ab i z B
    exact G
   rcases ar i z B with B| ⟨rfl,rfl⟩
   ·exact ag i z B j U
   have av:M[j]?=some (M[j]'(by omega)):=List.getElem?_eq_getElem (by omega)
   have F:(u.enc z).cells[j]?=some ((u.enc z).cells[j]'(by rw[af];exact U)):=List.getElem?_eq_getElem _
   refine⟨_,_,?_,F,ai.2.2 j _ _ av F⟩
   have:=aa j U
   rw[av,JH]at this
   exact this
 obtain⟨l,O,ab,ag⟩:=hex len (Nat.le_refl _)
 refine⟨l,?_,λy G=>?_,cells_one rfl ?_⟩
 ·rw[aG]
  show(l.map λx=>fW f u x).sum+1≤bk H (.slice _ _)
  rw[ad.sl]
  have:=IN ad (g:=λx=>fW f u x) (l:=l) (ds:=(List.range len).map D0) (by simp[O]) λi y d G F=>by
   have ae:i<len:=by rw[←O];exact(List.getElem?_eq_some_iff.1 G).1
   rw[List.getElem?_map,List.getElem?_range ae]at F
   injection F with F;subst F
   exact(ab i y G).1
  omega
 ·obtain⟨i,hi⟩:=List.getElem?_of_mem G
  exact(ab i y hi).2
 show Rd (allI w) _ (.slice u.size (List.map u.enc l))
 have ax:(flat (l.map u.enc)).length=len*u.size:=by
  rw[fD (l.map u.enc) (size:=u.size) λd F=>by obtain⟨y,_,rfl⟩:=List.mem_map.1 F;exact af y]
  simp[O]
 have ao:∀k,k<len*u.size→∃v d,w.cell? ⟨b,off+k,none⟩=some v∧(flat (l.map u.enc))[k]?=some d∧Rd (allI w) v d:=λk Y=>by
  have hi:k/u.size<len:=(Nat.div_lt_iff_lt_mul aj).2 Y
  have U:k%u.size<u.size:=Nat.mod_lt _ aj
  have G:l[k/u.size]?=some (l[k/u.size]'(by omega)):=List.getElem?_eq_getElem (by omega)
  obtain⟨v,d,k1,k2,ak⟩:=ag _ _ G _ U
  refine⟨v,d,?_,?_,ak⟩
  ·rw[Nat.mul_comm,Nat.div_add_mod]at k1;exact k1
  rw[show k=k/u.size*u.size+k%u.size by rw[Nat.mul_comm];exact(Nat.div_add_mod k u.size).symm]
  rw[flat_get (l.map u.enc) (λd F=>by obtain⟨y,_,rfl⟩:=List.mem_map.1 F;exact af y) _ _ (u.enc (l[k/u.size]'(by omega))) (by rw[List.getElem?_map,G];rfl) U]
  exact k2
 refine .slice b off len aw u.size _ (λk=>(w.cell? ⟨b,off+k,none⟩).getD undef) (by simp[O]) az aq (λd F=>?_) (λk Y=>?_) (λk x Z=>?_)
 ·obtain⟨y,_,rfl⟩:=List.mem_map.1 F
  exact⟨af y,oB au y⟩
 ·obtain⟨v,d,k1,_,_⟩:=ao k Y
  show w.cell? ⟨b,off+k,none⟩=_
  simp[k1]
 have Y:k<len*u.size:=by rw[←ax];exact(List.getElem?_eq_some_iff.1 Z).1
 obtain⟨v,d,k1,k2,ak⟩:=ao k Y
 rw[Z]at k2;cases k2
 simpa [k1]using ak
theorem yi(B:od bk gb):∀(f:Nat)(ty:TypeId)(t:Ty),lq P f ty t=true→r6 P bk f ty t
 |0,_,_,h=>by cases h
 |f+1,ty,t,h=>by
  simp only[lq]at h
  split at h
  ·rename_i k af j
   have:=of_decide_eq_true h
   subst this
   intro H en w base G held F cs x h
   obtain⟨n,rfl,_,Z⟩:=DataW.trod_int j h
   exact⟨n,B.one _ _,Z,cells_one rfl (.int _ _)⟩
  ·rename_i j
   intro H en w base G held F cs x h
   obtain⟨n,rfl,_⟩:=DataW.trod_bool j h
   exact⟨n,B.one _ _,trivial,cells_one rfl (.bool _)⟩
  ·rename_i j
   intro H en w base G held F cs x h
   obtain⟨s,rfl,rfl,ae⟩:=DataW.trod_string j h
   refine⟨s,?_,trivial,cells_one rfl (.str _)⟩
   show ByteArray.size s+1≤bk H (.lit (.string _))
   rw[B.str]
   exact Nat.le_of_eq rfl
  ·rename_i u e j
   simp only[Bool.and_eq_true]at h
   exact OF B j (Nat.eq_of_beq_eq_true h.1.1.1) (Nat.le_of_ble_eq_true h.1.1.2) (bx h.1.2) (yi B f e u h.2)
  ·rename_i i fs j
   intro H en w base G held F cs x aa
   obtain⟨xs,n,_,rfl,Y,ab,U⟩:=DataW.trod_struct j aa
   obtain⟨a,ad,O,M⟩:=DF B (λty t=>yi B f ty t) Y fs.toList (au.bC i) 0 xs h (by simpa using ab) λi fd hi=>U i fd (by simpa using hi)
   rw[List.drop_zero]at M
   refine⟨au.du i a,?_,?_,?_⟩
   ·show rV _ (au.bC i) (au.un i (au.du i a))+1≤bk H (.agg _)
    rw[au.lF,B.agg];omega
   ·show ud _ (au.bC i) (au.un i (au.du i a))
    rw[au.lF];exact O
   show Cells (allI w) cs (au.cells i (au.du i a))
   rw[bB.cells,au.lF];exact M
  cases h
variable {H:Type}{en:TypeId×Value→H}{W:World}{base:Nat}{sp:Nat→Bool}{held:Bool}{v:Value}{d:DataW H}{ps:List MemPlace}
theorem AL(ab:od bk gb){f:Nat}{ty:TypeId}{t:Ty}(j:lq P f ty t=true)(F:cF t=true){r:Reach}{b:Nat}(M:Value.okWide P W r b ty v)(h:DataW.Trod en P W base sp held ty v d ps):∃a:t.den,fW f t a≤bk H d∧jA f t a∧Rd (allI W) v (t.enc a):=by
 obtain⟨Z,af⟩:=h
 obtain⟨a,O,U,k⟩:=yi ab f ty t j H en W base sp held Z _ _ af
 refine⟨a,O,U,?_⟩
 cases f with
 |zero=>cases j
 |succ f=>
  by_cases B:bE t=true
  ·obtain⟨i,rfl⟩:∃i,t=.st i:=by cases t<;>simp[bE]at B;exact⟨_,rfl⟩
   simp only[lq]at j
   split at j<;>first|contradiction|skip
   rename_i ak fs aj ah
   obtain⟨cs,rfl,_⟩:=okWide_struct ah M
   show Rd (allI W) _ (.agg (au.cells i a))
   have aa:cs.toList.length=(au.cells i a).length:=k.1
   exact .agg cs _ (by simpa using aa) k.2.1 λi v d F ae=>k.2.2 i v d (by simpa [Value.cells]using F) ae
  have B:bE t=false:=by simpa using B
  have G:=bx F
  obtain⟨Y,ai⟩:=gV B G.1 G.2 a
  rw[Y]at k
  have ag:∀cs,v ≠ .agg cs:=by
   refine Oy M ?_
   simp only[lq]at j
   split at j<;>simp_all [bE]
  have ad:v.cells.toList=[v]:=by cases v<;>first|rfl|exact absurd rfl (ag _)
  rw[ad]at k
  exact k.2.2 0 _ _ rfl rfl
end
end Go.Sy
namespace Go.Sy
open Go Go.af
variable [au]
structure Rk where
 c:Callee
 e:Nat→(ay c.args).den→Option (ay c.res).den
 ok:∀n a r,e n a=some r→c.fn a=some r
def yb(c:X)(a b:Tr):Bool:=match a with
 |.out k p=>nE c k p b
 |_=>false
def Oo{β:Type}(e:Bool)(b:Option β):Option β:=match e with
 |true=>none
 |false=>b
def Tr.run(cs:List Rk)(n:Nat):(sig:List Ty)→Tr→az→Option (jM sig)
 |_,.leaf _ _,_=>none
 |sig,.out k x,ρ=>match x.den ρ with
  |some v=>gA sig k v
  |none=>none
 |sig,.aW x t,ρ=>match x.den ρ with
  |some ⟨.bool,b⟩=>ag b (Tr.run cs n sig t ρ)
  |_=>none
 |sig,.get v xs k t,ρ=>match xs.den ρ,k.den ρ with
  |some ⟨.list j,l⟩,some ⟨.int _,i⟩=>aa (aA (α:=j.den) l i) λe=>Tr.run cs n sig t ((v,⟨j,e⟩)::ρ)
  |_,_=>none
 |sig,.call v c x t,ρ=>match cs[c]? with
  |some C=>match x.den ρ with
   |some u=>match bZ (ay C.c.args) u with
    |some a=>aa (C.e n a) λr=>Tr.run cs n sig t ((v,⟨ay C.c.res,r⟩)::ρ)
    |none=>none
   |none=>none
  |none=>none
 |sig,.cK c a b,ρ=>match c.den ρ with
  |some ⟨.bool,b0⟩=>ab b0 (Tr.run cs n sig a ρ) (Tr.run cs n sig b ρ)
  |_=>none
 |sig,.dw c a b,ρ=>match c.den ρ with
  |some ⟨.list _,xs⟩=>bif yb c a b then Tr.run cs n sig b ρ else Oo (List.isEmpty xs) (Tr.run cs n sig b ρ)
  |_=>none
 |sig,.join ty v a b,ρ=>bif gv 0 a then CJ ty sig (Tr.run cs n (ty::sig) a ρ) λz=>Tr.run cs n sig b ((v,⟨ty,z⟩)::ρ)
  else aa (Tr.run cs n [ty] a ρ) λz=>Tr.run cs n sig b ((v,⟨ty,z⟩)::ρ)
 |sig,.loop ty v init body,ρ=>match sig with
  | []=>none
  |s::r=>match init.den ρ with
   |some u=>match bZ ty u with
    |some B=>fu (λz=>Tr.run cs n (ty::s::r) body ((v,⟨ty,z⟩)::ρ)) n B
    |none=>none
   |none=>none
 |_,.bad _,_=>none
def Cg(cs:List Rk)(n:Nat)(T:Tr)(j k:List Ty)(a:(ay j).den):Option (ay k).den:=Tr.run cs n [ay k] T (jZ j a 0)
theorem CI{σ ρ:Type}{f g:σ→Option (σ⊕ρ)}(h:∀z x,f z=some x→g z=some x){r:ρ}:∀(n:Nat)(z:σ),fu f n z=some r→fu g n z=some r
 |0,_,k=>by cases k
 |n+1,z,k=>by
  simp only[fu]at k⊢
  cases j:f z with
  |none=>rw[j]at k;cases k
  |some x=>
   rw[j]at k
   rw[h z x j]
   cases x with
   |inl B=>exact CI h n B k
   |inr y=>exact k
theorem pT{α β:Type}{o o':Option α}{f B:α→Option β}{y:β}(h:∀x,o=some x→o'=some x)(F:∀x y,f x=some y→B x=some y)(k:aa o f=some y):aa o' B=some y:=by
 cases j:o with
 |none=>rw[j]at k;cases k
 |some x=>rw[j]at k;rw[h x j];exact F x y k
local instance UY:aL:=⟨False,λ_=>none⟩
attribute [local instance] jG
theorem Oq{cs:List Callee}{x p:X}{k:Nat}{u:Ty}{O:List Ty}{ρ:az}(Z:x.den ρ=some ⟨.list u,([]:List u.den)⟩):∀{b:Tr}{y:jM O},nE x k p b=true→Tr.den cs O b ρ=some y→Tr.den cs O (.out k p) ρ=some y:=by
 intro b
 induction b with
 |out ad q=>
  intro y h j
  simp only[nE,Bool.and_eq_true]at h
  obtain⟨U,h2⟩:=h
  have:=Nat.eq_of_beq_eq_true U
  subst this
  unfold qC at h2
  rw[Bool.or_eq_true]at h2
  rcases h2 with h2|h2
  ·have:=X.beq_eq h2
   subst this
   exact j
  split at h2
  ·rename_i B ae ab
   rw[Bool.and_eq_true,decide_eq_true_eq]at h2
   obtain⟨rfl,h2⟩:=h2
   have:=X.beq_eq h2
   subst this
   simp only[Tr.den]at j⊢
   have Y:(X.u2 .app (.nil B) ab).den ρ=(match bZ (.list B) (⟨.list u,([]:List u.den)⟩:Sy.V)with|some ys=>some (⟨.list B,List.append [] ys⟩:Sy.V)|none=>none):=by
    simp only[X.den,Z];rfl
   rw[Y]at j
   cases M:bZ (.list B) (⟨.list u,([]:List u.den)⟩:Sy.V)with
   |none=>rw[M]at j;cases j
   |some ys=>
    have e:=jT M
    injection e with F G
    injection F with F
    subst F
    have G:=eq_of_heq G
    subst G
    rw[M]at j
    exact j
  cases h2
 |aW g t aa=>
  intro y h j
  simp only[Tr.den]at j
  split at j
  ·rename_i b0 _
   cases b0 with
   |true=>exact aa h j
   |false=>cases j
  cases j
 |_=>intro y h;cases h
theorem Ol{β:Type}{e:Bool}{a b:Option β}{y:β}(j:b=some y)(k:e=true→a=some y):qB e a b=some y:=by
 cases e with
 |true=>
  unfold qB
  simp only
  rw[if_pos ((k rfl).trans j.symm)];exact j
 |false=>exact j
theorem Tr.gl{cs:List Rk}{n:Nat}:∀(T:Tr)(j:List Ty)(ρ:az)(y:jM j),Tr.run cs n j T ρ=some y→Tr.den (cs.map Rk.c) j T ρ=some y
 |.leaf _ _,_,_,_,h=>by simp[Tr.run]at h
 |.out k x,j,ρ,y,h=>by
  simp only[Tr.run]at h
  split at h
  ·rename_i v af
   simp only[Tr.den,af];exact h
  cases h
 |.aW x t,j,ρ,y,h=>by
  simp only[Tr.run]at h
  split at h
  ·rename_i b F
   simp only[Tr.den,F]
   cases b with
   |true=>exact Tr.gl t j ρ y h
   |false=>cases h
  cases h
 |.get v xs k t,j,ρ,y,h=>by
  simp only[Tr.run]at h
  split at h
  ·rename_i Z aa
   simp only[Tr.den,Z,aa]
   exact pT (λ_ h=>h) (λx y h=>Tr.gl t j _ y h) h
  cases h
 |.call v c x t,j,ρ,y,h=>by
  simp only[Tr.run]at h
  split at h
  ·rename_i C ab
   split at h
   ·rename_i u U
    split at h
    ·rename_i a M
     have ad:(cs.map Rk.c)[c]?=some C.c:=by rw[List.getElem?_map,ab];rfl
     simp only[Tr.den,ad,U,M]
     exact pT (λr ae=>C.ok n _ r ae) (λx y h=>Tr.gl t j _ y h) h
    cases h
   cases h
  cases h
 |.cK c a b,j,ρ,y,h=>by
  simp only[Tr.run]at h
  split at h
  ·rename_i b0 F
   simp only[Tr.den,F]
   cases b0 with
   |true=>exact Tr.gl a j ρ y h
   |false=>exact Tr.gl b j ρ y h
  cases h
 |.dw c a b,j,ρ,y,h=>by
  simp only[Tr.run]at h
  split at h
  ·rename_i u xs F
   simp only[Tr.den,F]
   cases G:yb c a b with
   |true=>
    rw[G]at h
    have k:=Tr.gl b j ρ y h
    refine Ol k λO=>?_
    have Y:xs=[]:=List.isEmpty_iff.1 O
    subst Y
    unfold yb at G
    split at G
    ·exact Oq F G k
    cases G
   |false=>
    rw[G]at h
    cases O:List.isEmpty xs with
    |true=>rw[O]at h;cases h
    |false=>rw[O]at h;exact Tr.gl b j ρ y h
  cases h
 |.join ty v a b,j,ρ,y,h=>by
  simp only[Tr.run]at h
  simp only[Tr.den]
  cases M:gv 0 a with
  |false=>
   rw[M]at h
   exact pT (λz B=>Tr.gl a [ty] ρ z B) (λx y h=>Tr.gl b j _ y h) h
  |true=>
   rw[M]at h
   simp only[cond_true]at h⊢
   cases j with
   |nil=>exact pT (λz B=>Tr.gl a [ty] ρ z B) (λx y h=>Tr.gl b [] _ y h) h
   |cons s r=>
    refine pT (λz B=>Tr.gl a (ty::s::r) ρ z B) (λx y h=>?_) h
    cases x with
    |inl z=>exact Tr.gl b (s::r) _ y h
    |inr w=>exact h
 |.loop ty v init body,j,ρ,y,h=>by
  cases j with
  |nil=>simp[Tr.run]at h
  |cons s r=>
   simp only[Tr.run]at h
   split at h
   ·rename_i u U
    split at h
    ·rename_i ag B
     simp only[Tr.den,U,B]
     exact tP (CI (λz x Y=>Tr.gl body (ty::s::r) _ x Y) n _ h)
    cases h
   cases h
 |.bad _,_,_,_,h=>by simp[Tr.run]at h
theorem Mk{cs:List Rk}{n:Nat}{T:Tr}{j k:List Ty}{a:(ay j).den}{r:(ay k).den}(h:Cg cs n T j k a=some r):kX (cs.map Rk.c) T j k a=some r:=Tr.gl T _ _ _ h
end Go.Sy
namespace Go.Sy
open Go Go.af
variable [au][aL]
structure Tk(P:Program) where
 t:eF
 k:gu P t.f t.t t.args t.fn
 e:Nat→(ay t.gT.args).den→Option (ay t.gT.res).den
 ok:∀n a r,e n a=some r→t.gT.fn a=some r
def Tk.r{P:Program}(t:Tk P):Rk:=⟨t.t.gT,t.e,t.ok⟩
structure Qk(P:Program) where
 r:Rk
 k:eD P r.c
theorem EF{P:Program}(j:List (Qk P)):(j.map λq=>q.r.c).foldr (λc p=>eD P c∧p) True:=by
 induction j with
 |nil=>trivial
 |cons q r B=>exact⟨q.k,B⟩
theorem IV{P:Program}(ts:List (Tk P)):(ts.map Tk.t).foldr (λc p=>gu P c.f c.t c.args c.fn∧p) True:=by
 induction ts with
 |nil=>trivial
 |cons t r j=>exact⟨t.k,j⟩
theorem SA{P:Program}(j:List (Qk P))(ts:List (Tk P)):((j.map Qk.r++ts.map Tk.r).map Rk.c)=(j.map λq=>q.r.c)++(ts.map Tk.t).map eF.gT:=by
 rw[List.map_append,List.map_map,List.map_map,List.map_map];rfl
noncomputable def DS{P:Program}(f:FuncId)(T:Tr)(j k:List Ty)(B:List (Qk P))(ts:List (Tk P)):Rk:=
 ⟨⟨f,j,k,kX ((B.map λq=>q.r.c)++(ts.map Tk.t).map eF.gT) T j k⟩,λn=>Cg (B.map Qk.r++ts.map Tk.r) n T j k,λn a r h=>by have:=Mk h;rwa [SA]at this⟩
end Go.Sy
namespace Go.af
open Go Go.RowKit dK Go.Proofs Go.Sort
variable [aL]
theorem NX(w:World)(b:Nat)(f:Array Value→Array Value)(cur:Array Value)(e:TypeId)(B:Nat×Nat)(h:w.heap[b]?=some (.cells cur e B)):mapBlock w b f=w.setRow b (f cur):=by
 unfold mapBlock World.setRow
 congr 1
 apply Array.ext_getElem?
 intro k
 simp only[Array.getElem?_modify]
 by_cases j:b=k
 ·subst j;simp[h,onCells]
 simp[j]
theorem ON(F cur:Array Value)(k:F.size≤cur.size):(putCells (λv=>v) 0 F cur).toList=F.toList++cur.toList.drop F.size:=by
 apply List.ext_getElem?
 intro i
 have j:(putCells (λv=>v) 0 F cur).toList[i]?=(cur[i]?).map λx=>if i<F.size then F[i]! else x:=by
  rw[Array.getElem?_toList]
  unfold putCells
  rw[Array.getElem?_mapIdx]
  simp
 rw[j,List.getElem?_append]
 by_cases hi:i<F.size
 ·have:i<cur.size:=by omega
  simp[hi,this]
 simp[hi,List.getElem?_drop,show F.size+(i-F.size)=i by omega]
theorem Mg{α:Type}[Inhabited α](venc:α→List Value)(k:Nat)(j:∀x,(venc x).length=k)(d:Array α):(flatK venc k d).toList=d.toList.flatMap venc:=by
 apply List.ext_getElem?
 intro i
 have Y:∀(l:List α)(i:Nat),(l.flatMap venc)[i]?=(l[i/k]?).bind λx=>(venc x)[i%k]?:=by
  intro l
  induction l with
  |nil=>intro i;simp
  |cons x l aa=>
   intro i
   rw[List.flatMap_cons,List.getElem?_append,j]
   by_cases hi:i<k
   ·rw[if_pos hi,Nat.div_eq_of_lt hi,Nat.mod_eq_of_lt hi];simp
   rw[if_neg hi,aa]
   have hk:0<k∨k=0:=by omega
   rcases hk with hk|hk
   ·have O:i/k=(i-k)/k+1:=by rw[Nat.div_eq_sub_div hk (by omega)]
    have U:i%k=(i-k)%k:=by rw[Nat.mod_eq_sub_mod (by omega)]
    rw[O,U];simp
   subst hk
   have B:∀y:α,venc y=[]:=λy=>List.eq_nil_of_length_eq_zero (j y)
   simp[B]
 rw[Y]
 have Z:(flatK venc k d).toList.length=d.size*k:=by simp
 by_cases hi:i<d.size*k
 ·have hk:0<k:=by
             rcases Nat.eq_zero_or_pos k with h|h;· subst h;simp at hi
             exact h
  have F:i/k<d.size:=(Nat.div_lt_iff_lt_mul hk).2 hi
  have M:i%k<k:=Nat.mod_lt _ hk
  have G:=get_flatK venc k d i hi
  rw[Array.getElem?_toList,Array.getElem?_eq_getElem (by simpa using hi),Array.getElem?_toList,Array.getElem?_eq_getElem F]
  rw[getElem!_pos _ i (by simpa using hi),getElem!_pos d _ F]at G
  rw[G]
  simp only[Option.bind_some]
  rw[getElem!_pos _ _ (by rw[j];exact M),List.getElem?_eq_getElem (by rw[j];exact M)]
 rw[List.getElem?_eq_none (by rw[Z];omega)]
 rcases Nat.eq_zero_or_pos k with h|h
 ·subst h
  have B:∀y:α,venc y=[]:=λy=>List.eq_nil_of_length_eq_zero (j y)
  cases d.toList[i/0]?<;>simp[B]
 rw[List.getElem?_eq_none (by rw[Array.length_toList];exact(Nat.le_div_iff_mul_le h).2 (by omega))];rfl
section
variable {P:Program}{V:Env}{w0 w:World}{I0 I:aq}{m:Nat→Value}{l:List AO}{α:Type}[Inhabited α]
theorem av.grown(h:av w0 I0 w I m l)(q:Nat)(M:Array Obj):av w0 I0 (grow (w.drewN q) M) I m l∧Le I m l I m l:=by
 have B:∀k,k<w.heap.size→(grow (w.drewN q) M).heap[k]?=w.heap[k]?:=λk F=>by simp[grow,Array.getElem?_append,F]
 refine h.call ⟨rfl,rfl,rfl,by simp[grow],λk F=>B k F,λ_=>by simp[grow,World.drewN]⟩ (eE.refl _ _) ⟨λb o v j=>?_,λb O j=>?_,λb G=>(B b (h.sat.gE G)).trans (h.sat.df b G),h.sat.c9⟩
 ·exact(World.cell?_of_block (w:=w) (a:=⟨b,o,none⟩) (B b (h.sat.lt j))).trans (h.sat.cell b o v j)
 have U:=h.sat.mp b O j
 exact MapAt.to (B b (h.sat.jv j)) U
theorem av.sorted(ai:av w0 I0 w I m l){id b c e size:Nat}{els:List D}{ys:List α}{venc:α→List Value}{denc:α→D}(ah:l[id]?=some (.row e size els))(af:m id=.slice (some ⟨b,0,none⟩) els.length c)(F:ys.length=els.length)(aj:∀x,(venc x).length=size)(ad:∀x,(denc x).cells.length=size∧∀y∈(denc x).cells,y.one=true)(aH:∀x(j:Nat) u y,(venc x)[j]?=some u→(denc x).cells[j]?=some y→Rd I u y)(q:Nat)(M:Array Obj) :
  Le I m l I m (l.set id (.row e size (ys.map denc)))∧av w0 I0 (sortWorldK venc size w b 0 q ys.toArray M) I m (l.set id (.row e size (ys.map denc))):=by
 obtain⟨xs,k1,k2,aO,aP⟩:=ai.obj id _ ah
 rw[af]at k1
 obtain⟨aN,az⟩:=k1
 rcases az with ⟨Y,_⟩| ⟨g,aK,cur,Y,ax,U,ag,ay,ab,aL⟩
 ·cases Y
 injection Y with G aM aG
 injection G with G;injection G with G;subst G;subst aG
 have O:(flatK venc size ys.toArray).size=els.length*size:=by simp[F]
 have Z:(flatK venc size ys.toArray).toList=ys.flatMap venc:=by rw[Mg venc size aj]
 have aD:els.length*size≤cur.size:=by rw[ab];exact Nat.mul_le_mul_right _ ag
 have aa:=ON (flatK venc size ys.toArray) cur (by rw[O];exact aD)
 have ak:sortWorldK venc size w b 0 q ys.toArray M=grow ((w.setRow b (putCells (λv=>v) 0 (flatK venc size ys.toArray) cur)).drewN q) M:=by
  unfold sortWorldK putRowK putRow
  have aC:(Sort.ahead w q).heap[b]?=some (.cells cur e (0,0)):=U
  rw[NX _ b _ cur e (0,0) aC]
  rfl
 generalize aE:putCells (λv=>v) 0 (flatK venc size ys.toArray) cur=new at aa ak
 have aF:new.size=cur.size:=by rw[←aE];simp[putCells]
 have aB:flat (ys.map denc)=ys.flatMap λx=>(denc x).cells:=by simp[flat,List.flatMap_map]
 have al:(ys.flatMap venc).length=(ys.map denc).length*size:=by rw[←Z,Array.length_toList,O,List.length_map,F]
 have an:new.toList.take ((ys.map denc).length*size)=ys.flatMap venc:=by
  rw[aa,List.length_map,F,←O,List.take_append_of_le_length (by rw[Array.length_toList];exact Nat.le_refl _),List.take_of_length_le (by rw[Array.length_toList];exact Nat.le_refl _),Z]
 have ao:∀d∈ys.map denc,d.cells.length=size∧∀x∈d.cells,x.one=true:=by
  intro d aA
  obtain⟨x,_,rfl⟩:=List.mem_map.1 aA
  exact ad x
 have aq:∀(j:Nat) u y,(ys.flatMap venc)[j]?=some u→(flat (ys.map denc))[j]?=some y→Rd I u y:=by
  intro j u y k B
  rw[aB]at B
  have aJ:∀(zs:List α)(j:Nat),(zs.flatMap venc)[j]?=some u→(zs.flatMap λx=>(denc x).cells)[j]?=some y→Rd I u y:=by
   intro zs
   induction zs with
   |nil=>intro j k;simp at k
   |cons z zs aI=>
    intro j k B
    rw[List.flatMap_cons,List.getElem?_append,aj]at k
    rw[List.flatMap_cons,List.getElem?_append,(ad z).1]at B
    by_cases ae:j<size
    ·rw[if_pos ae]at k B;exact aH z j u y k B
    rw[if_neg ae]at k B;exact aI _ k B
  exact aJ ys j k B
 obtain⟨ar,au⟩:=ai.vB (n:=els.length) (c:=c) (cur:=cur) (new:=new) (xs:=ys.flatMap venc) (els':=ys.map denc) ah af U ⟨al,.inr ⟨b,c,new,by simp[F],ax,setRow_heap w b cur new e (0,0) U,by simpa [F]using ag,ay,by rw[aF,ab],an⟩⟩ ao aq
 obtain⟨aw,_⟩:=au.grown q M
 rw[ak]
 exact⟨ar,aw⟩
theorem MK(aa:aL.on){w w':World}(h:cm w.heap.size w w'):∃q U,w'=grow (w.drewN q) U:=by
 refine⟨w'.drawn-w.drawn,w'.heap.extract w.heap.size w'.heap.size,?_⟩
 obtain⟨Z,af,ab,U,ae⟩:=w'
 obtain⟨B,F,G,Y,M,j⟩:=h
 have j:=j aa
 simp only at B F G Y M j
 subst B;subst F;subst G
 unfold grow World.drewN
 simp only
 congr 1
 ·apply Array.ext_getElem?
  intro k
  rw[Array.getElem?_append]
  split
  ·rename_i O;exact M k O
  rename_i O
  simp only[Array.getElem?_extract]
  by_cases ad:k<Z.size
  ·have:w.heap.size+(k-w.heap.size)=k:=by omega
   rw[this];simp;omega
  rw[Array.getElem?_eq_none (by omega)];simp;omega
 omega
end
end Go.af
namespace Go.af
open Go Go.RowKit dK Go.Proofs Go.Sort
variable [aL]
section
variable {P:Program}{V:Env}{w0 w:World}{I0 I:aq}{m:Nat→Value}{l:List AO}{α:Type}[Inhabited α]
theorem Lw(af:aL.on){P:Program}{g k:Nat}{venc:α→List Value}{denc:α→D}{U:α→α→Int}{B:List D}(aa:∀x y,jh P g ([denc x,denc y]++B) (.int .i64 (U x y)))(Y:∀I x,Rd I (.agg (venc x).toArray) (denc x)){ox off size:Nat}{w:World}{I:aq}{vs:Array Value}(ad:vs.size=B.length)(ab:∀(i:Nat) v d,vs[i]?=some v→B[i]?=some d→Rd I v d)(aj:∀(M:Nat)(O:Array Obj)(F:Array α),F.size=size→cw (sortWorldK venc k w ox off M F O) I):CmpLays P g vs venc k U ox off size w:=by
 intro M O F ai x y
 have ak:(#[Value.agg (venc x).toArray,Value.agg (venc y).toArray]++vs).size=([denc x,denc y]++B).length:=by
  rw[Array.size_append,List.length_append,ad];rfl
 have ah:∀(i:Nat) v d,(#[Value.agg (venc x).toArray,Value.agg (venc y).toArray]++vs)[i]?=some v→([denc x,denc y]++B)[i]?=some d→Rd I v d:=by
  intro i v d j G
  rcases i with _|_|i
  ·rw[Array.getElem?_append_left (by simp)]at j
   simp at j G;subst j;subst G;exact Y I x
  ·rw[Array.getElem?_append_left (by simp)]at j
   simp at j G;subst j;subst G;exact Y I y
  rw[Array.getElem?_append_right (by simp)]at j
  exact ab i v d (by simpa using j) (by simpa using G)
 have h:=aa x y (sortWorldK venc k w ox off M F O) I (#[Value.agg (venc x).toArray,Value.agg (venc y).toArray]++vs) (aj M O F ai) ak ah
 refine h.mono ?_
 rintro e w' ⟨v,J,ae,Z,_,_,ag⟩
 cases ag
 exact⟨ae,MK af Z⟩
theorem Th{P:Program}{g:Nat}{fd:D}{e size:Nat}{venc:α→List Value}{denc:α→D}{S:Array α→Array α}(hS:∀d,(S d).size=d.size)(aN:∀(b c:Nat)(d:Array α)(w:World)(I:aq)(Z:Value),HoldsK venc size w b 0 d→b<w.heap.size→d.size<4611686018427387904→Rd I Z fd→(∀(av:Nat)(G:Array Obj)(Y:Array α),Y.size=d.size→cw (sortWorldK venc size w b 0 av Y G) I)→Calls P g #[.slice (some ⟨b,0,none⟩) d.size c,Z] w λe w'=>e=.returned (.tuple #[])∧∃n G,w'=sortWorldK venc size w b 0 n (S d) G)(aW:∀(p:Option Addr)(c:Nat)(Z:Value)(w:World),Calls P g #[.slice p 0 c,Z] w λe w'=>e=.returned (.tuple #[])∧w'=w)(ae:∀x,(venc x).length=size)(ah:∀x,(denc x).cells.length=size∧∀y∈(denc x).cells,y.one=true)(aC:∀(I:aq) x (j:Nat) u y,(venc x)[j]?=some u→(denc x).cells[j]?=some y→Rd I u y)(aR:∀(I:aq) x (j:Nat) u y,(denc x).cells[j]?=some y→Rd I u y→(venc x)[j]?=some u){l:List AO}{id:Nat}{xs:List α}(M:l[id]?=some (.row e size (xs.map denc)))(a6:xs.length<4611686018427387904) :
  mJ P g [.row id,.d fd] l (.d (.aw [])) (l.set id (.row e size ((S xs.toArray).toList.map denc))):=by
 intro w0 I0 w I m aA ad aZ aB
 obtain⟨U,af,rfl⟩:∃U af,aA = #[U,af]:=by
  match aA,aZ with
  | ⟨[a,b]⟩,_=>exact⟨a,b,rfl⟩
 have aH:=aB 0 U (.row id) rfl rfl
 have ag:=bn (aB 1 af (.d fd) rfl rfl)
 obtain⟨ys,k1,k2,ba,bj⟩:=ad.obj id _ M
 obtain⟨A,n,c,ar,an⟩:∃A n c,U=.slice A n c∧m id=U:=by
  cases aH with
  |row A n c _ bl bb=>exact⟨A,n,c,rfl,bb (by simp[isRow,M,AO.isRow])⟩
 rw[an,ar]at k1
 obtain⟨a7,aL⟩:=k1
 have aS:id<l.length:=(List.getElem?_eq_some_iff.1 M).1
 rcases aL with ⟨ao,aV⟩| ⟨b,bc,cur,ao,bd,al,bh,bf,bg,a1⟩
 ·injection ao with ax ay az;subst ax;subst ay;subst az
  have a8:xs=[]:=by simpa using aV
  subst a8
  subst ar
  refine(aW none 0 _ w).mono ?_
  rintro aE w' ⟨aj,au⟩
  subst au
  have aK:(S ([]:List α).toArray).toList=[]:=by have:=hS ([]:List α).toArray;exact List.eq_nil_of_length_eq_zero (by rw[Array.length_toList,this];rfl)
  have aY:l.set id (.row e size ((S ([]:List α).toArray).toList.map denc))=l:=by
   rw[aK]
   apply List.ext_getElem?
   intro k
   rw[List.getElem?_set]
   by_cases O:id=k
   ·subst O;rw[if_pos rfl,if_pos aS,M]
   rw[if_neg O]
  rw[aY]
  exact⟨_,aj,I,m,.refl ..,ad,.d _ _ (.aw #[] [] rfl (λi v d h=>by simp at h))⟩
 injection ao with ax ay az;subst ax;subst ay;subst az
 subst ar
 have aa:(xs.map denc).length=xs.toArray.size:=by simp
 have aM:∀j,j<xs.toArray.size*size→∃u,cur[j]?=some u∧ys[j]?=some u∧(flatK venc size xs.toArray)[j]! = u:=by
  intro j F
  have aT:j<ys.length:=by rw[a7,aa];exact F
  obtain⟨z,B⟩:∃z,ys[j]?=some z:=⟨_,List.getElem?_eq_getElem aT⟩
  have aO:cur[j]?=some z:=by
   have B:=B
   rw[←a1,List.getElem?_take]at B
   split at B
   ·simpa using B
   cases B
  refine⟨_,aO,B,?_⟩
  have O:0<size:=by
               rcases Nat.eq_zero_or_pos size with h|h;· subst h;simp at F
               exact h
  have ai:j/size<xs.toArray.size:=(Nat.div_lt_iff_lt_mul O).2 F
  have ab:j%size<size:=Nat.mod_lt _ O
  rw[get_flatK venc size xs.toArray j F]
  have ak:=flat_get (xs.map denc) (λd aQ=>(k2 d aQ).1) (j/size) (j%size) (denc xs[j/size]) (by rw[List.getElem?_map,List.getElem?_eq_getElem (by simpa using ai)];rfl) ab
  rw[Nat.mul_comm,Nat.div_add_mod]at ak
  obtain⟨y,aD⟩:∃y,(denc xs[j/size]).cells[j%size]?=some y:=⟨_,List.getElem?_eq_getElem (by rw[(ah (xs[j/size]'(by simpa using ai))).1];exact ab)⟩
  rw[aD]at ak
  have aX:=ba j _ y B ak
  have:=aR I _ _ _ _ aD aX
  rw[getElem!_pos xs.toArray _ ai,getElem!_pos _ _ (by rw[ae];exact ab)]
  rw[List.getElem?_eq_getElem (by rw[ae];exact ab)]at this
  simpa using this
 have aJ:HoldsK venc size w b 0 xs.toArray:=by
  intro j F
  rw[size_flatK]at F
  obtain⟨u,ag,_,aI⟩:=aM j F
  rw[aI]
  refine⟨?_,?_⟩
  ·simp[World.cell?,al,ag]
  simp[World.frozen?,al]
 have aU:b<w.heap.size:=(Array.getElem?_eq_some_iff.1 al).1
 rw[aa]
 refine(aN b c xs.toArray w I af aJ aU (by simpa using a6) ag (λav G Y aP=>(ad.sorted (ys:=Y.toList) (venc:=venc) (denc:=denc) M (by rw[an]) (by rw[Array.length_toList,aP,aa]) ae ah (λx j u y=>aC I x j u y) av G).2.sat)).mono ?_
 rintro aE w' ⟨aj,q,G,au⟩
 obtain⟨aF,aG⟩:=ad.sorted (ys:=(S xs.toArray).toList) (venc:=venc) (denc:=denc) M (by rw[an]) (by rw[Array.length_toList,hS,aa]) ae ah (λx j u y=>aC I x j u y) q G
 refine⟨_,aj,I,m,aF,?_,.d _ _ (.aw #[] [] rfl (λi v d h=>by simp at h))⟩
 rw[au];simpa using aG
end
end Go.af
namespace Go.af
open Go Go.RowKit dK Go.Proofs Go.Sort
def vD:D→Value
 |.int k n=>.int k n
 |.bool b=>.bool b
 |.str s=>.string s
 |_=>undef
def mn:D→Bool
 |.int .. =>true
 |.bool _=>true
 |.str _=>true
 |_=>false
theorem Jn(I:aq){y:D}(h:mn y=true):Rd I (vD y) y:=by cases y<;>simp[mn]at h<;>constructor
theorem Uo{I:aq}{u:Value}{y:D}(h:mn y=true)(r:Rd I u y):u=vD y:=by cases y<;>simp[mn]at h<;>cases r<;>rfl
section
variable {α:Type}[dK α]
def jf(x:α):List Value:=(enc x:D).cells.map vD
structure Flat(α:Type)[dK α](k:Nat):Prop where
 agg:∀x:α,(enc x:D)=.agg (enc x:D).cells
 len:∀x:α,(enc x:D).cells.length=k
 sc:∀(x:α),∀y∈(enc x:D).cells,mn y=true
theorem Ik{y:D}(h:mn y=true):y.one=true:=by cases y<;>simp[mn]at h<;>rfl
theorem Flat.rd{k:Nat}(F:Flat α k)(I:aq)(x:α):Rd I (.agg (jf x).toArray) (enc x):=by
 rw[F.agg x]
 refine .agg _ _ (by simp[jf,D.cells]) (λd B=>Ik (F.sc x d B)) λi v d j B=>?_
 simp only[jf,List.getElem?_toArray,List.getElem?_map]at j
 have G:(enc x:D).cells[i]?=some d:=B
 rw[G]at j
 simp at j;subst j
 exact Jn I (F.sc x d (List.mem_of_getElem? G))
theorem Flat.vd{k:Nat}(F:Flat α k)(I:aq)(x:α)(j:Nat)(u:Value)(y:D)(B:(jf x)[j]?=some u)(G:(enc x:D).cells[j]?=some y):Rd I u y:=by
 simp only[jf,List.getElem?_map,G]at B
 simp at B;subst B
 exact Jn I (F.sc x y (List.mem_of_getElem? G))
theorem Flat.dv{k:Nat}(F:Flat α k)(I:aq)(x:α)(j:Nat)(u:Value)(y:D)(B:(enc x:D).cells[j]?=some y)(G:Rd I u y):(jf x)[j]?=some u:=by
 simp only[jf,List.getElem?_map,B]
 rw[Uo (F.sc x y (List.mem_of_getElem? B)) G];rfl
end
section
variable {α:Type}
def mu(j:α→α→Int)(l:List α):List α:=l.mergeSort λa b=>!decide (j b a<0)
theorem Tc(j:α→α→Int)(l:List α):(mu j l).Perm l:=List.mergeSort_perm _ _
theorem lt_iff(j:α→α→Int)(a b:α):ltOf j a b=true↔j a b<0:=by simp[ltOf]
theorem tS(j:α→α→Int)(a b:α):ltOf j a b=false↔¬j a b<0:=by simp[ltOf]
theorem Td{j:α→α→Int}(h:SWO (ltOf j))(l:List α):(mu j l).Pairwise λa b=>¬j b a<0:=by
 have:=List.pairwise_mergeSort (le:=λa b=>!decide (j b a<0)) (λa b c G k=>by
  simp only[Bool.not_eq_true',decide_eq_false_iff_not]at *
  exact(tS j _ _).1 (h.ntrans _ _ _ ((tS j _ _).2 k) ((tS j _ _).2 G))) (λa b=>by
  simp only[Bool.or_eq_true,Bool.not_eq_true',decide_eq_false_iff_not]
  by_cases F:j b a<0
  ·right;intro k
   have B:=h.trans _ _ _ ((lt_iff j _ _).2 k) ((lt_iff j _ _).2 F)
   rw[h.irrefl]at B;cases B
  left;exact F) l
 exact this.imp λh=>by simpa using h
def oc(j:α→α→Int)(l:List α):Prop:=∀a∈l,∀b∈l,¬j a b<0→¬j b a<0→a=b
theorem Ti{j:α→α→Int}{l m:List α}(U:l.Pairwise λa b=>¬j b a<0)(Y:m.Pairwise λa b=>¬j b a<0)(k:l.Perm m)(O:oc j l):l=m:=
 List.Perm.eq_of_pairwise (le:=λa b=>¬j b a<0) (λa b B F G M=>O a B b (k.symm.subset F) M G) U Y k
theorem oc.perm{j:α→α→Int}{l m:List α}(h:oc j l)(k:l.Perm m):oc j m:=λa B b F=>h a (k.symm.subset B) b (k.symm.subset F)
section
variable {ok:α→Prop}[Inhabited {x:α // ok x}]
def lO(ok:α→Prop)(j:α→α→Int)(a b:{x:α // ok x}):Int:=j a.1 b.1
theorem zY{j:α→α→Int}(h:SWO (ltOf j)):SWO (ltOf (lO ok j)):=⟨λx=>h.irrefl x.1,λx y z=>h.trans x.1 y.1 z.1,λx y z=>h.ntrans x.1 y.1 z.1⟩
def gO(ok:α→Prop)[Inhabited {x:α // ok x}](j:α→α→Int)(d:Array {x:α // ok x}):Array {x:α // ok x}:=Go.Sort.pdq (ltOf (lO ok j)) d 0 d.size (Go.Lib.bitLen d.size) true true
theorem IE{j:α→α→Int}(h:SWO (ltOf j))(d:Array {x:α // ok x}):Go.Sort.PermIn 0 d.size d (gO ok j d)∧Go.Sort.SortedIn (ltOf (lO ok j)) 0 d.size (gO ok j d):=
 Go.Sort.pdq_sorts (ltOf (lO ok j)) (zY h) d 0 d.size (Go.Lib.bitLen d.size) true true (Nat.zero_le _) (Nat.le_refl _) (Or.inl rfl)
theorem Tb{k:α→α→Int}(O:SWO (ltOf k)){xs:List α}(h:∀x∈xs,ok x)(Z:oc k xs):∃B:List {x:α // ok x},B.map (·.1)=xs∧(gO ok k B.toArray).toList.map (·.1)=mu k xs:=by
 refine⟨xs.pmap Subtype.mk h,by simp[List.map_pmap],?_⟩
 generalize aa:xs.pmap Subtype.mk h=B
 have ab:B.map (·.1)=xs:=by rw[←aa];simp[List.map_pmap]
 obtain⟨G,Y⟩:=IE O B.toArray
 have U:=G.1
 have ah:(gO ok k B.toArray).toList.Perm B:=by
  have F:=G.2.2
  simp only[←U,Array.extract_size]at F
  rw[U,Array.extract_size]at F
  simpa using F
 have ai:((gO ok k B.toArray).toList.map (·.1)).Pairwise λa b=>¬k b a<0:=by
  rw[List.pairwise_map]
  refine List.pairwise_iff_getElem.2 λi j hi af ae=>?_
  have ad:i<(gO ok k B.toArray).size:=by simpa using hi
  have ag:j<(gO ok k B.toArray).size:=by simpa using af
  have:=Y i j (Nat.zero_le _) ae (by omega)
  rw[getElem!_pos (gO ok k B.toArray) i ad,getElem!_pos (gO ok k B.toArray) j ag]at this
  have:=(tS (lO ok k) _ _).1 this
  simpa [lO]using this
 have M:((gO ok k B.toArray).toList.map (·.1)).Perm xs:=by rw[←ab];exact ah.map _
 exact Ti ai (Td O xs) (M.trans (Tc k xs).symm) (Z.perm M.symm)
end
end
section
variable {α:Type}[dK α]
theorem L7(G:aL)[D0:aL](aB:@aL.on G)(ao:@aL.eH G=@aL.eH D0){P:Program}{g B e k:Nat}{M:List D}{ok:α→Prop}[Inhabited {x:α // ok x}]{j:α→α→Int}(F:Flat α k)(ab:SWO (ltOf j))(al:∀x y,ok x→ok y→@jh G P B ([enc x,enc y]++M) (.int .i64 (j x y)))(
   ak:∀(b c:Nat)(d:Array {x:α // ok x})(w:World)(vs:Array Value),CmpLays P B vs (λx:{x:α // ok x}=>jf x.1) k (lO ok j) b 0 d.size w→HoldsK (λx:{x:α // ok x}=>jf x.1) k w b 0 d→b<w.heap.size→d.size<4611686018427387904 →
   Calls P g #[.slice (some ⟨b,0,none⟩) d.size c,.func (.func B) #[] vs] w λe w'=>e=.returned (.tuple #[])∧∃n Y,w'=sortWorldK (λx:{x:α // ok x}=>jf x.1) k w b 0 n (gO ok j d) Y)(ax:∀(p:Option Addr)(c:Nat)(U:Value)(w:World),Calls P g #[.slice p 0 c,U] w λe w'=>e=.returned (.tuple #[])∧w'=w){l:List AO}{id:Nat}{xs:List α}(ay:l[id]?=some (.row e k (xs.map enc)))(ad:xs.length<4611686018427387904)(aA:∀x∈xs,ok x)(ai:oc j xs) :
  mJ P g [.row id,.d (.ar B M)] l (.d (.aw [])) (l.set id (.row e k ((mu j xs).map enc))):=by
 obtain⟨Z,aa,av⟩:=Tb ab aA ai
 have az:l[id]?=some (.row e k (Z.map λx:{x:α // ok x}=>(enc x.1:D))):=by rw[ay,←aa,List.map_map];rfl
 have:=Th (P:=P) (g:=g) (fd:=.ar B M) (S:=gO ok j) (venc:=λx:{x:α // ok x}=>jf x.1) (denc:=λx:{x:α // ok x}=>(enc x.1:D)) (λd=>(IE ab d).1.1)
  (
   λb c d w I U ah aj an au aC=>by
   obtain⟨vs,rfl,af,ag⟩:∃vs,U=.func (.func B) #[] vs∧vs.size=M.length∧∀(i:Nat) v d,vs[i]?=some v→M[i]?=some d→Rd I v d:=by
    cases au with
    |ar _ vs _ aF aG=>exact⟨vs,rfl,aF,aG⟩
   exact ak b c d w vs (@Lw G _ _ aB _ _ _ _ (λx:{x:α // ok x}=>(enc x.1:D)) _ _ (λx y=>al x.1 y.1 x.2 y.2) (λI x=>F.rd I x.1) _ _ _ _ I _ af ag (λaE Y ae aq=>by
    have O:=aC aE Y ae aq
    exact @cw.mk G _ _ O.cell O.mp O.df (λg d h=>O.c9 g d (by rw[←ao];exact h)))) ah aj an) ax
  (λx=>by simp[jf,F.len]) (λx=>⟨F.len x.1,λy aD=>Ik (F.sc x.1 y aD)⟩) (λI x=>F.vd I x.1) (λI x=>F.dv I x.1) az (by rw[←aa]at ad;simpa using ad)
 have e:(gO ok j Z.toArray).toList.map (λx:{x:α // ok x}=>(enc x.1:D))=(mu j xs).map enc:=by rw[←av,List.map_map];rfl
 rw[e]at this
 exact this
end
end Go.af
namespace Go.Sy
open Go Go.af Go.RowKit Go.Proofs Go.Sort
variable [au][bB][bV]
@[reducible] noncomputable def BN(i:Nat)(d:bQ.cu i)(hi:∀x y:bQ.cu i,au.cells i x=au.cells i y→x=y):dK (bQ.cu i):=
 ⟨λx=>.agg (au.cells i x),λz=>open Classical in if h:∃x,D.agg (au.cells i x)=z then Classical.choose h else d,au.sz i,
  λx=>by
  have h:∃y,D.agg (au.cells i y)=D.agg (au.cells i x):=⟨x,rfl⟩
  have e:∀(dec:Decidable (∃y,D.agg (au.cells i y)=D.agg (au.cells i x))),(@dite _ _ dec (λh=>Classical.choose h) λ_=>d)=x:=λdec=>by
   rw[dif_pos h]
   have:=Classical.choose_spec h
   injection this with this
   exact hi _ _ this
  exact e _,
  λx=>bB.len i x,λx y j=>bB.uf i x y j⟩
end Go.Sy
namespace Go.Sy
open Go Go.af Go.RowKit Go.Proofs Go.Sort
section
variable [au][bB][bV]
theorem IS{α:Type}:SWO (ltOf (λ_ _:α=>(0:Int))):=⟨λ_=>rfl,(λ_ _ _ h _=>by cases h),λ_ _ _ _ _=>rfl⟩
def kD{α β:Type}(j:α×α×β→Option Int)(a:List α×β):Option (List α):=match a.1 with
 | []=>some []
 | [x]=>aa (j (x,x,a.2)) λz=>ag (aj z 0) (some [x])
 |_=>none
theorem ID{α β:Type}{j:α×α×β→Option Int}{xs:List α}{c:β}{r:List α}(h:kD j (xs,c)=some r):r=xs∧(xs=[]∨∃x,xs=[x]∧j (x,x,c)=some 0):=by
 unfold kD at h
 split at h
 ·rename_i e
  have e:xs=[]:=e
  subst e;injection h with h;exact⟨h.symm,.inl rfl⟩
 ·rename_i x e
  have e:xs=[x]:=e
  subst e
  cases B:j (x,x,c)with
  |none=>rw[B]at h;cases h
  |some z=>
   rw[B]at h
   change ag (aj z 0) (some [x])=some r at h
   cases k:aj z 0 with
   |false=>rw[k]at h;cases h
   |true=>
    rw[k]at h
    injection h with h
    have:z=0:=of_decide_eq_true k
    subst this
    exact⟨h.symm,.inr ⟨x,rfl,B⟩⟩
 cases h
theorem L8[aL]{P:Program}{g e size:Nat}{fd:D}{l:List AO}{id:Nat}(ag:∀(p:Option Addr)(c:Nat)(Z:Value)(w:World),Calls P g #[.slice p 0 c,Z] w λe w'=>e=.returned (.tuple #[])∧w'=w)(j:l[id]?=some (.row e size [])) :
  mJ P g [.row id,.d fd] l (.d (.aw [])) (l.set id (.row e size [])):=by
 intro w0 I0 w I m M U ai ab
 obtain⟨B,Y,rfl⟩:∃B Y,M = #[B,Y]:=by
  match M,ai with
  | ⟨[a,b]⟩,_=>exact⟨a,b,rfl⟩
 have aa:=ab 0 B (.row id) rfl rfl
 obtain⟨ys,k1,k2,aC,aD⟩:=U.obj id _ j
 have af:id<l.length:=(List.getElem?_eq_some_iff.1 j).1
 obtain⟨A,c,rfl⟩:∃A c,B=.slice A 0 c:=by
  cases aa with
  |row A n c _ aE ak=>
   rw[ak (by simp[isRow,j,AO.isRow])]at k1
   obtain⟨aB,ad⟩:=k1
   rcases ad with ⟨F,ay⟩| ⟨b,ao,cur,F,ar,ax,az,au,av,aA⟩
   ·injection F with al G an;subst G;exact⟨_,_,rfl⟩
   injection F with al G an;subst G;exact⟨_,_,rfl⟩
 refine(ag A c _ w).mono ?_
 rintro aq w' ⟨ae,aj⟩
 subst aj
 have ah:l.set id (.row e size [])=l:=by
  apply List.ext_getElem?
  intro k
  rw[List.getElem?_set]
  by_cases O:id=k
  ·subst O;rw[if_pos rfl,if_pos af,j]
  rw[if_neg O]
 rw[ah]
 exact⟨_,ae,I,m,.refl ..,U,.d _ _ (.aw #[] [] rfl (λi v d h=>by simp at h))⟩
theorem Jf(U:aL)[D0:aL](ax:@aL.on U)(ao:@aL.eH U=@aL.eH D0){P:Program}{g B i k:Nat}{t:Ty}(d:bQ.cu i)(hi:∀x y:bQ.cu i,au.cells i x=au.cells i y→x=y)(ae:∀x:bQ.cu i,(au.cells i x).length=k)(az:∀(x:bQ.cu i),∀y∈au.cells i x,mn y=true){pc:bQ.cu i×bQ.cu i×t.den→Option Int}(an:∀c x z,pc (x,x,c)=some z→@jh U P B ([(Ty.st i).enc x,(Ty.st i).enc x]++(t.cH c).2) (.int .i64 z))(aq:af.Enters P g)(
   al:∀(e:Nat)(G:bQ.cu i→Prop)[Inhabited {x:bQ.cu i // G x}](Y:bQ.cu i→bQ.cu i→Int),SWO (ltOf Y)→∀(b c:Nat)(d:Array {x:bQ.cu i // G x})(w:World)(vs:Array Value),CmpLays P B vs (λx:{x:bQ.cu i // G x}=>(au.cells i x.1).map vD) k (lO G Y) b 0 d.size w→HoldsK (λx:{x:bQ.cu i // G x}=>(au.cells i x.1).map vD) k w b 0 d→b<w.heap.size→d.size<4611686018427387904 →
   Calls P g #[.slice (some ⟨b,0,none⟩) d.size c,.func (.func B) #[] vs] w λe w'=>e=.returned (.tuple #[])∧∃n aC,w'=sortWorldK (λx:{x:bQ.cu i // G x}=>(au.cells i x.1).map vD) k w b 0 n (gO G Y d) aC)(ag:∀(p:Option Addr)(c:Nat)(ah:Value)(w:World),Calls P g #[.slice p 0 c,ah] w λe w'=>e=.returned (.tuple #[])∧w'=w) :
  gu P g (.st i) [.ar B t] (kD pc):=by
 refine⟨aq,bx rfl,λa r ad l id e els ds aa ab=>?_⟩
 change List (bQ.cu i)×t.den at a
 change List (bQ.cu i)at r
 obtain⟨xs,c⟩:=a
 have ad:kD pc (xs,c)=some r:=ad
 obtain⟨rfl,M⟩:=ID ad
 have aa:[Ty.enc (.list (.st i)) r,Ty.enc (.ar B t) c]=D.slice (Ty.st i).size els::ds:=aa
 injection aa with O aD
 subst aD
 have O:D.slice (Ty.st i).size (r.map (Ty.st i).enc)=D.slice (Ty.st i).size els:=O
 injection O with _ O
 subst O
 have aA:(Ty.st i).size=k:=by rw[←ae d];exact(bB.len i d).symm
 rw[aA]at ab⊢
 letI:dK (bQ.cu i):=BN i d hi
 have aB:∀(j:bQ.cu i),r.length≤1→(∀x∈r,x=j)→(∀x∈r,pc (x,x,c)=some 0)→(pc (j,j,c)=some 0)→mJ P g [.row id,.d (.ar B (t.cH c).2)] l (.d (.aw [])) (l.set id (.row e k (r.map (Ty.st i).enc))):=λj av Z aE ai=>by
  haveI:Inhabited {x:bQ.cu i // x=j}:=⟨⟨j,rfl⟩⟩
  have ay:mu (λ_ _:bQ.cu i=>(0:Int)) r=r:=by
   match r,av with
   | [],_=>simp[mu]
   | [x],_=>simp[mu]
  have:=@L7 (bQ.cu i) (BN i d hi) U D0 ax ao P g B e k (t.cH c).2 (λx=>x=j) _ (λ_ _=>0) ⟨λx=>rfl,λx=>ae x,λx y F=>az x y F⟩ IS (λx y M F=>by subst M;subst F;exact an c _ 0 ai)
   (al e (λx=>x=j) (λ_ _=>0) IS) ag l id r ab (by omega) Z (λa aj b ak _ _=>(Z a aj).trans (Z b ak).symm)
  rw[ay]at this
  exact this
 rcases M with rfl| ⟨x,rfl,M⟩
 ·exact L8 ag ab
 exact aB x (by simp) (λy F=>by simpa using F) (λy F=>by
  have:y=x:=by simpa using F
  subst this;exact M) M
end
section
variable [au][bB][bV]
theorem IC{α β:Type}{c1 c2:α×α×β→Option Int}(h:∀a z,c1 a=some z→c2 a=some z){a:List α×β}{r:List α}(k:kD c1 a=some r):kD c2 a=some r:=by
 obtain⟨xs,c⟩:=a
 obtain⟨rfl,j⟩:=ID k
 rcases j with rfl| ⟨x,rfl,j⟩
 ·rfl
 show aa (c2 (x,x,c)) _=_
 rw[h _ _ j];rfl
end
section
variable [au][bB][bV][aL]
def kE(xs:List Int):Option (List Int):=if xs.length<4611686018427387904 then some (xs.mergeSort λx y=>decide (x≤y))else none
def vI(x:Int):List Value:=[.int .i64 x]
theorem Mh(d:Array Int):flatK vI 1 d=d.map (Value.int .i64):=by
 apply Array.ext (by simp)
 intro i j k
 have hi:i<d.size:=by simpa using k
 have:=get_flatK vI 1 d i (by simpa using hi)
 rw[getElem!_pos _ i j]at this
 rw[this]
 simp[vI,Nat.mod_one,getElem!_pos d i hi]
theorem N1(d:Array Int){j:Nat}(h:j<d.size):(d.map (Value.int .i64))[j]! = .int .i64 d[j]!:=by
 rw[getElem!_pos _ j (by simpa using h),getElem!_pos d j h,Array.getElem_map]
theorem OO(w:World)(b off:Nat)(d:Array Int):putRow (Value.int .i64) w b off d=putRowK vI 1 w b off d:=by
 unfold putRowK putRow
 rw[Mh]
 congr 1
 funext c
 unfold putCells
 rw[Array.size_map]
 congr 1
 funext k x
 split
 ·rename_i h
  rw[N1 d (by omega)];rfl
 rfl
theorem Ub{P:Program}{g:Nat}(aJ:af.Enters P g)(aE:∀(b al:Nat)(zs:List Int)(w:World),Holds (Value.int .i64) w b 0 zs.toArray→b<w.heap.size→zs.length<4611686018427387904→Calls P g #[.slice (some ⟨b,0,none⟩) zs.length al] w λe w'=>e=.returned (.tuple #[])∧∃n ai,w'=grow (putRow (Value.int .i64) (Sort.ahead w n) b 0 (zs.mergeSort λx y=>decide (x≤y)).toArray) ai)(aQ:∀(p:Option Addr)(c:Nat)(w:World),Calls P g #[.slice p 0 c] w λe w'=>e=.returned (.tuple #[])∧w'=w) :
  gu P g (.int .i64) [] kE:=by
 refine⟨aJ,bx rfl,λa r F l id e els ds aa M=>?_⟩
 change List Int at a r
 have F:kE a=some r:=F
 unfold kE at F
 split at F
 ·rename_i aX
  injection F with F;subst F
  have aa:[Ty.enc (.list (.int .i64)) a]=D.slice (Ty.int .i64).size els::ds:=aa
  injection aa with B O
  subst O
  have B:D.slice 1 (a.map (D.int .i64))=D.slice 1 els:=B
  injection B with _ B
  subst B
  change l[id]?=some (.row e 1 (a.map (D.int .i64)))at M
  change mJ P g [.row id] l (.d (.aw [])) (l.set id (.row e 1 ((a.mergeSort λx y=>decide (x≤y)).map (D.int .i64))))
  have aV:∀x,(vI x).length=1:=λ_=>rfl
  have aH:∀x:Int,(D.int .i64 x).cells.length=1∧∀y∈(D.int .i64 x).cells,y.one=true:=λx=>⟨rfl,λy a1=>by
   have:y=.int .i64 x:=by simpa [D.cells]using a1
   subst this;rfl⟩
  have aW:∀(I:aq)(x:Int)(j:Nat) u y,(vI x)[j]?=some u→(D.int .i64 x).cells[j]?=some y→Rd I u y:=λI x j u y Y an=>by
   rcases j with _|j
   ·simp[vI]at Y;simp[D.cells]at an;subst Y;subst an;exact .int _ _
   simp[vI]at Y
  intro w0 I0 w I m ak ad aT aD
  obtain⟨U,rfl⟩:∃U,ak = #[U]:=by
   match ak,aT with
   | ⟨[a]⟩,_=>exact⟨a,rfl⟩
  have aB:=aD 0 U (.row id) rfl rfl
  obtain⟨ys,k1,k2,a6,bd⟩:=ad.obj id _ M
  obtain⟨A,n,c,ag,av⟩:∃A n c,U=.slice A n c∧m id=U:=by
   cases aB with
   |row A n c _ bf a7=>exact⟨A,n,c,rfl,a7 (by simp[isRow,M,AO.isRow])⟩
  rw[av,ag]at k1
  obtain⟨aY,aF⟩:=k1
  have aL:id<l.length:=(List.getElem?_eq_some_iff.1 M).1
  rcases aF with ⟨ae,aP⟩| ⟨b,al,cur,ae,a8,ab,bc,ba,bb,aU⟩
  ·injection ae with B O aj;subst B;subst O;subst aj
   have aZ:a=[]:=by simpa using aP
   subst aZ
   subst ag
   refine(aQ none 0 w).mono ?_
   rintro ax w' ⟨Z,ah⟩
   subst ah
   have aS:l.set id (.row e 1 ((([]:List Int).mergeSort λx y=>decide (x≤y)).map (D.int .i64)))=l:=by
    rw[List.mergeSort_nil]
    apply List.ext_getElem?
    intro k
    rw[List.getElem?_set]
    by_cases au:id=k
    ·subst au;rw[if_pos rfl,if_pos aL,M]
    rw[if_neg au]
   rw[aS]
   exact⟨_,Z,I,m,.refl ..,ad,.d _ _ (.aw #[] [] rfl (λi v d h=>by simp at h))⟩
  injection ae with B O aj;subst B;subst O;subst aj
  subst ag
  have aN:(a.map (D.int .i64)).length=a.length:=by simp
  have aC:Holds (Value.int .i64) w b 0 a.toArray:=by
   intro j ao
   have ar:j<a.length:=by simpa using ao
   have aM:j<ys.length:=by rw[aY];simpa using ar
   obtain⟨z,G⟩:∃z,ys[j]?=some z:=⟨_,List.getElem?_eq_getElem aM⟩
   have aG:cur[j]?=some z:=by
    have G:=G
    rw[←aU,List.getElem?_take]at G
    split at G
    ·simpa using G
    cases G
   have aK:=flat_get (a.map (D.int .i64)) (λd aI=>(k2 d aI).1) j 0 (.int .i64 a[j]) (by rw[List.getElem?_map,List.getElem?_eq_getElem ar];rfl) (by omega)
   have aR:=a6 j z (.int .i64 a[j]) G (by simpa [D.cells]using aK)
   cases aR
   have ay:a.toArray[j]! = a[j]:=by rw[getElem!_pos a.toArray j ao];simp
   rw[ay]
   refine⟨?_,?_⟩
   ·simp[World.cell?,ab,aG]
   simp[World.frozen?,ab]
  have aO:b<w.heap.size:=(Array.getElem?_eq_some_iff.1 ab).1
  rw[aN]
  refine(aE b c a w aC aO aX).mono ?_
  rintro ax w' ⟨Z,q,ai,ah⟩
  obtain⟨az,aA⟩:=ad.sorted (ys:=a.mergeSort λx y=>decide (x≤y)) (venc:=vI) (denc:=D.int .i64) M (by rw[av]) (by simp) aV aH (λx j u y=>aW I x j u y) q ai
  refine⟨_,Z,I,m,az,?_,.d _ _ (.aw #[] [] rfl (λi v d h=>by simp at h))⟩
  rw[ah,OO];exact aA
 cases F
end
end Go.Sy
namespace Go.Sy
open Go Go.af
local instance UW:aL:=⟨False,λ_=>none⟩
attribute [local instance] jG
theorem lY{β:Type}{c:Bool}{a b:Option β}(h:c=true):ab c a b=a:=by subst h;rfl
theorem gW{β:Type}{c:Bool}{a b:Option β}(h:c=false):ab c a b=b:=by subst h;rfl
theorem lK{α:Type}{l:List α}{k:Nat}{x:α}(h:l[k]?=some x):aA l (k:Int)=some x:=by unfold aA;rw[if_pos (by omega)];simpa using h
theorem tu{β:Type}{p:Bool}{o:Option β}(h:p=true):ag p o=o:=by subst h;rfl
theorem iO{β:Type}{n:Int}{o:Option β}(h: -9223372036854775808≤n∧n≤9223372036854775807):ag (an n) o=o:=tu (decide_eq_true h)
theorem Nj{α β:Type}(x:α)(f:α→Option β):aT (some (.inl x)) f=f x:=rfl
theorem oP{β:Type}(a b:Option β):ab true a b=a:=rfl
theorem nb{β:Type}(a b:Option β):ab false a b=b:=rfl
theorem ki{α:Type}{l:List α}{k:Nat}{x:α}(h:l[k]?=some x):k<l.length:=(List.getElem?_eq_some_iff.1 h).1
theorem UZ{α:Type}{f:α→Int}{l:List α}(h:(l.map f).Nodup){a b:α}(ha:a∈l)(hb:b∈l)(e:f a=f b):a=b:=by
 induction l with
 |nil=>cases ha
 |cons x l j=>
  simp only[List.map_cons,List.nodup_cons,List.mem_map]at h
  rcases List.mem_cons.1 ha with rfl|ha<;>rcases List.mem_cons.1 hb with rfl|hb
  ·rfl
  ·exact absurd ⟨b,‹_›,e.symm⟩ h.1
  ·exact absurd ⟨a,‹_›,e⟩ h.1
  exact j h.2 ‹_› ‹_›
def j8{α σ ρ:Type}(f:σ→α→σ⊕ρ)(j:σ→ρ):List α→σ→ρ
 | [],z=>j z
 |x::xs,z=>match f z x with
  |.inl k=>j8 f j xs k
  |.inr r=>r
theorem nw{α σ O ρ:Type}(st:σ→Int→O){step:O→Option (O⊕ρ)}{l:List α}(f:σ→α→σ⊕ρ)(G:σ→ρ)(Inv:Nat→σ→Prop)(h:∀(k:Nat) x z,l[k]?=some x→Inv k z→step (st z (k:Int))=some (match f z x with |.inl j=>.inl (st j ((k+1:Nat):Int)) |.inr r=>.inr r))(ab:∀(k:Nat) x z j,l[k]?=some x→Inv k z→f z x=.inl j→Inv (k+1) j)(aa:∀z,Inv l.length z→step (st z (l.length:Int))=some (.inr (G z)))(F:σ)(Z:Inv 0 F):cd step (st F 0)=some (j8 f G l F):=by
 have af:∀(n k:Nat)(z:σ),k+n=l.length→Inv k z→cd step (st z (k:Int))=some (j8 f G (l.drop k) z):=by
  intro n
  induction n with
  |zero=>
   intro k z ad hi
   have:k=l.length:=by omega
   subst this
   rw[List.drop_length]
   exact nv (aa z hi)
  |succ n ae=>
   intro k z ad hi
   have U:k<l.length:=by omega
   have Y:l[k]?=some l[k]:=List.getElem?_eq_getElem U
   rw[List.drop_eq_getElem_cons U]
   have B:=h k _ z Y hi
   simp only[j8]
   cases M:f z l[k]with
   |inl j=>
    rw[M]at B
    rw[xQ B]
    exact ae (k+1) j (by omega) (ab k _ z j Y hi M)
   |inr r=>
    rw[M]at B
    rw[nv B]
 simpa using af l.length 0 F (by omega) Z
theorem oH{α σ ρ:Type}{f:σ→α→σ⊕ρ}{j:σ→ρ}(g:σ→α→σ):∀(l:List α)(z:σ),(∀z x,x∈l→f z x=.inl (g z x))→j8 f j l z=j (l.foldl g z)
 | [],z,_=>rfl
 |x::l,z,h=>by
  simp only[j8,h z x (by simp),List.foldl_cons]
  exact oH g l _ λz y k=>h z y (by simp[k])
theorem NO{α ρ:Type}{step:Int→Option (Int⊕(Unit⊕ρ))}{l:List α}(p:α→Bool)(r:ρ)(h:∀(k:Nat) x,l[k]?=some x→step (k:Int)=some (if p x=true then .inr (.inr r)else .inl ((k+1:Nat):Int)))(B:step (l.length:Int)=some (.inr (.inl ()))) :
  cd step 0=some (if l.any p=true then .inr r else .inl ()):=by
 have:=nw (σ:=Unit) (st:=λ_ k=>k) (step:=step) (l:=l) (λ_ x=>if p x=true then .inr (.inr r)else .inl ()) (λ_=>.inl ()) (λ_ _=>True) (λk x z F _=>by
  rw[h k x F];split<;>rename_i j<;>simp[j]) (λ_ _ _ _ _ _ _=>trivial) (λz _=>B) () trivial
 rw[this]
 congr 1
 clear this h B
 induction l with
 |nil=>rfl
 |cons x l G=>
  simp only[j8,List.any_cons]
  by_cases j:p x=true
  ·simp[j]
  simp only[j,Bool.false_or]
  simpa using G
theorem NP{ρ:Type}{step:Int→Option (Int⊕(Unit⊕ρ))}(n:Nat)(p:Nat→Bool)(r:ρ)(h:∀(k:Nat),k<n→step (k:Int)=some (if p k=true then .inr (.inr r)else .inl ((k+1:Nat):Int)))(F:step (n:Int)=some (.inr (.inl ()))) :
  cd step 0=some (if(List.range n).any p=true then .inr r else .inl ()):=
 NO (l:=List.range n) p r (λk x j=>by
  have B:=ki j
  rw[List.getElem?_range (by simpa using B)]at j
  injection j with j;subst j
  exact h k (by simpa using B)) (by rw[List.length_range];exact F)
theorem NQ{α:Type}{step:Int→Option (Int⊕(Unit⊕Int))}{l:List α}(p:α→Bool)(h:∀(k:Nat) x,l[k]?=some x→step (k:Int)=some (if p x=true then .inr (.inr (k:Int))else .inl ((k+1:Nat):Int)))(F:step (l.length:Int)=some (.inr (.inl ()))) :
  cd step 0=some (match l.findIdx? p with|some i=>.inr (i:Int)|none=>.inl ()):=by
 have:=nw (σ:=Nat) (st:=λ_ k=>k) (step:=step) (l:=l) (λz x=>if p x=true then .inr (.inr (z:Int))else .inl (z+1)) (λ_=>.inl ()) (λk z=>z=k) (λk x z M G=>by
  subst G;rw[h z x M];split<;>rename_i B<;>simp[B]) (λk x z Y _ G j=>by
  split at j
  ·cases j
  injection j with j;omega) (λz _=>F) 0 rfl
 rw[this]
 congr 1
 clear this h F
 have U:∀(l:List α)(z:Nat),j8 (λ(z:Nat) x=>if p x=true then .inr (.inr (z:Int))else .inl (z+1)) (λ_=>(.inl ():Unit⊕Int)) l z=match l.findIdx? p with|some i=>.inr ((z+i:Nat):Int)|none=>.inl ():=by
  intro l
  induction l with
  |nil=>intro z;simp[j8]
  |cons x l O=>
   intro z
   simp only[j8,List.findIdx?_cons]
   by_cases B:p x=true
   ·simp[B]
   simp only[B,if_false,Bool.false_eq_true]
   rw[O]
   cases l.findIdx? p<;>simp<;>omega
 simpa using U l 0
def ix{α:Type}(l:List α)(p:α→Bool):Int:=match l.findIdx? p with|some i=>(i:Int)|none=> -1
theorem MW{α:Type}(l:List α)(p:α→Bool):decide (0≤ix l p)=l.any p:=by
 have:(l.findIdx? p).isSome=l.any p:=List.findIdx?_isSome
 unfold ix
 cases j:l.findIdx? p with
 |none=>rw[j]at this;simp[←this]
 |some i=>rw[j]at this;simp[←this]
def bk{α:Type}(p:α→Bool)(l:List α):Nat:=(l.reverse.dropWhile p).length
abbrev x8{α:Type}(m:List (Int×α)):List Int:=m.map (·.1)
theorem Dk{α:Type}(k:Int):dO ([]:List (Int×α)) k=false:=rfl
theorem nA{α:Type}(p:Int×α)(m:List (Int×α))(k:Int):dO (p::m) k=(decide (p.1=k)||dO m k):=by
 unfold dO
 rw[List.any_cons]
 congr 1
theorem Dj{α:Type}(n:Int):∀(m:List (Int×α)),dO m n=true↔n∈x8 m
 | []=>by simp[dO]
 |p::m=>by
  rw[nA,Bool.or_eq_true,Dj n m,decide_eq_true_eq]
  simp only[x8,List.map_cons,List.mem_cons]
  constructor<;>(rintro(h|h);exact .inl h.symm;exact .inr h)
theorem Dw{α:Type}(p:Int×α)(m:List (Int×α))(k:Int)(v:α):bc (p::m) k v=if p.1=k then(k,v)::m else p::bc m k v:=rfl
theorem Dl{α:Type}(n:Int)(v:α)(k:Int):∀(m:List (Int×α)),dO (bc m n v) k=(decide (k=n)||dO m k)
 | []=>by
  show dO [(n,v)] k=_
  rw[nA,Dk]
  congr 1;exact decide_eq_decide.2 eq_comm
 |p::m=>by
  have j:=Dl n v k m
  rw[Dw]
  by_cases h:p.1=n
  ·rw[if_pos h,nA,nA,h]
   rw[show decide (n=k)=decide (k=n)from decide_eq_decide.2 eq_comm]
   cases decide (k=n)<;>simp
  rw[if_neg h,nA,nA,j]
  cases decide (p.1=k)<;>cases decide (k=n)<;>simp
theorem Dx{α:Type}(n:Int)(v:α):∀(m:List (Int×α)),(bc m n v).length=if dO m n=true then m.length else m.length+1
 | []=>rfl
 |p::m=>by
  have j:=Dx n v m
  rw[Dw,nA]
  by_cases h:p.1=n
  ·rw[if_pos h,if_pos (by simp[h])];rfl
  rw[if_neg h,List.length_cons,j]
  simp only[h,decide_false,Bool.false_or]
  split<;>simp
theorem Au(n lo hi:Int):aa (ab (aB lo n) (some (aB n hi)) (some false)) (λv:Bool=>some v)=some (decide (lo≤n∧n≤hi)):=by
 by_cases h:lo≤n<;>simp[h,MY,cg]
theorem AI(a b c:Bool):ab a (ab b (some c) (some false)) (some false)=some (a&&b&&c):=by cases a<;>cases b<;>rfl
theorem JP{α:Type}{step:Int→Option (Int⊕(Unit⊕Int))}{l:List α}(p:α→Bool)(h:∀(k:Nat) x,l[k]?=some x→step (k:Int)=some (if p x=true then .inr (.inr (k:Int))else .inl ((k+1:Nat):Int)))(j:step (l.length:Int)=some (.inr (.inl ()))) :
  (aa (aT (cd step 0) λ_=>some (-1)) λx=>some (aB 0 x))=some (l.any p):=by
 rw[NQ p h j,←MW]
 unfold ix
 cases l.findIdx? p<;>rfl
def ue{α:Type}(r:α→α→Bool)(l:List α)(k:Nat):Bool:=match l[k]?,l[k+1]? with
 |some a,some b=>r a b
 |_,_=>true
def Bp{α:Type}(r:α→α→Bool)(l:List α):Bool:=(List.range (l.length-1)).all (ue r l)
theorem U0{α:Type}{step:Int→Option (Int⊕(Unit⊕Bool))}{l:List α}(r:α→α→Bool)(h:∀(k:Nat) a b,l[k]?=some a→l[k+1]?=some b→step ((k:Int)+1)=some (if r a b=true then .inl (k:Int)else .inr (.inr false)))(F:∀z:Int,z≤0→step z=some (.inr (.inl ()))) :
  cd step ((l.length:Int)-1)=some (if Bp r l=true then .inl ()else .inr false):=by
 have aa:∀n,n<l.length→cd step (n:Int)=some (if(List.range n).all (ue r l)=true then .inl ()else .inr false):=by
  intro n
  induction n with
  |zero=>intro _;rw[nv (F _ (by simp))];rfl
  |succ n Z=>
   intro Y
   have G:l[n]?=some l[n]:=List.getElem?_eq_getElem (by omega)
   have M:l[n+1]?=some l[n+1]:=List.getElem?_eq_getElem Y
   have B:=h n _ _ G M
   have O:ue r l n=r l[n] l[n+1]:=by unfold ue;rw[G,M]
   rw[List.range_succ,List.all_append]
   simp only[List.all_cons,List.all_nil,Bool.and_true]
   rw[O]
   by_cases j:r l[n] l[n+1]=true
   ·rw[if_pos j]at B
    rw[j,Bool.and_true,←Z (by omega)]
    exact xQ B
   rw[if_neg j]at B
   rw[if_neg (by simp[j])]
   exact nv B
 unfold Bp
 by_cases U:l.length=0
 ·rw[nv (F _ (by omega)),U];rfl
 have:=aa (l.length-1) (by omega)
 rw[show((l.length-1:Nat):Int)=(l.length:Int)-1 by omega]at this
 exact this
theorem OR{α:Type}{R:α→α→Prop}{l:List α}(h:l.Pairwise R)(k:Nat)(a b:α)(B:l[k]?=some a)(j:l[k+1]?=some b):R a b:=by
 have M:=ki j
 have F:a=l[k]:=by rw[List.getElem?_eq_getElem (by omega)]at B;exact(Option.some.inj B).symm
 have G:b=l[k+1]:=by rw[List.getElem?_eq_getElem (by omega)]at j;exact(Option.some.inj j).symm
 rw[F,G]
 exact(List.pairwise_iff_getElem.1 h) k (k+1) (by omega) (by omega) (by omega)
theorem Ch{α β:Type}(id:α→Int)(g:α→β):∀(l:List α)(z:List (Int×β)),(l.foldl (λm x=>bc m (id x) (g x)) z).length≤z.length+l.length∧((l.foldl (λm x=>bc m (id x) (g x)) z).length=z.length+l.length↔(l.map id).Nodup∧∀x∈l,dO z (id x)=false)
 | [],z=>by simp
 |x::l,z=>by
  obtain⟨U,M⟩:=Ch id g l (bc z (id x) (g x))
  have F:=Dx (id x) (g x) z
  rw[List.foldl_cons,List.length_cons]
  by_cases k:dO z (id x)=true
  ·rw[if_pos k]at F
   refine⟨by omega,⟨λh=>by omega,λh=>?_⟩⟩
   have:=h.2 x (by simp)
   rw[k]at this;cases this
  rw[if_neg k]at F
  refine⟨by omega,?_⟩
  rw[show(List.foldl (λm x=>bc m (id x) (g x)) (bc z (id x) (g x)) l).length=z.length+(l.length+1)↔(List.foldl (λm x=>bc m (id x) (g x)) (bc z (id x) (g x)) l).length=(bc z (id x) (g x)).length+l.length by omega,M]
  simp only[List.map_cons,List.nodup_cons,List.mem_map,List.mem_cons,Dl]
  constructor
  ·rintro⟨B,j⟩
   refine⟨⟨?_,B⟩,?_⟩
   ·rintro⟨y,hy,O⟩
    have:=j y hy
    simp[O]at this
   rintro y (rfl|hy)
   ·simpa using k
   have:=j y hy
   simp at this;exact this.2
  rintro⟨⟨G,B⟩,j⟩
  refine⟨B,λy hy=>?_⟩
  rw[decide_eq_false (λe=>G ⟨y,hy,e⟩),j y (.inr hy)];rfl
end Go.Sy
namespace Go.Sy
open Go Go.af
local instance UX:aL:=⟨False,λ_=>none⟩
attribute [local instance] jG
def aF{β:Type}(o:Option β)(p:β→Prop):Prop:=∃r,o=some r∧p r
theorem aF.ends{β:Type}{o:Option β}{p:β→Prop}(h:aF o p):∃r,o=some r:=h.imp λ_ h=>h.1
theorem aF.mono{β:Type}{o:Option β}{p q:β→Prop}(h:aF o p)(k:∀r,p r→q r):aF o q:=by
 obtain⟨r,j,B⟩:=h
 exact⟨r,j,k r B⟩
theorem aF.aa{α β:Type}{o:Option α}{q:α→Prop}{f:α→Option β}{p:β→Prop}(h:aF o q)(k:∀x,q x→aF (f x) p):aF (aa o f) p:=by
 obtain⟨x,j,B⟩:=h
 obtain⟨r,F,G⟩:=k x B
 exact⟨r,by subst j;exact F,G⟩
theorem aF.sv{α β:Type}{c:Bool}{a b:Option α}{f:α→Option β}{p:β→Prop}(j:c=true→aF (af.aa a f) p)(k:c=false→aF (af.aa b f) p):aF (af.aa (ab c a b) f) p:=by
 cases c
 ·exact k rfl
 exact j rfl
theorem aF.ab{β:Type}{c:Bool}{a b:Option β}{p:β→Prop}(j:c=true→aF a p)(k:c=false→aF b p):aF (af.ab c a b) p:=by
 cases c
 ·exact k rfl
 exact j rfl
theorem aF.aW{β:Type}{c:Bool}{o:Option β}{p:β→Prop}(h:c=true)(k:c=true→aF o p):aF (ag c o) p:=by
 subst h;exact k rfl
theorem aF.jn{α β:Type}{o:Option (α⊕β)}{q:α⊕β→Prop}{f:α→Option β}{p:β→Prop}(h:aF o q)(k1:∀z,q (.inl z)→aF (f z) p)(k2:∀y,q (.inr y)→p y):aF (aT o f) p:=by
 obtain⟨x,k,j⟩:=h
 subst k
 cases x with
 |inl z=>exact k1 z j
 |inr y=>exact⟨y,rfl,k2 y j⟩
theorem aF.at_{α β:Type}{l:List α}{i:Int}{f:α→Option β}{p:β→Prop}(h:0≤i∧i<(l.length:Int))(k:∀x,l[i.toNat]?=Option.some x→x∈l→aF (f x) p):aF (af.aa (aA l i) f) p:=by
 have B:i.toNat<l.length:=by omega
 have j:l[i.toNat]?=Option.some l[i.toNat]:=List.getElem?_eq_getElem B
 refine aF.aa (q:=λx=>l[i.toNat]?=Option.some x) ⟨_,?_,j⟩ λx j=>k x j (List.mem_of_getElem? j)
 unfold aA;rw[if_pos h.1];exact j
theorem aF.loop{σ ρ:Type}{step:σ→Option (σ⊕ρ)}{z:σ}{p:ρ→Prop}(Inv:σ→Prop)(m:σ→Nat)(G:Inv z)(F:∀z,Inv z→aF (step z) λx=>match x with |.inl k=>Inv k∧m k<m z |.inr r=>p r):aF (cd step z) p:=by
 have U:∀(n:Nat)(z:σ),m z≤n→Inv z→aF (cd step z) p:=by
  intro n
  induction n with
  |zero=>
   intro z M hi
   obtain⟨x,B,j⟩:=F z hi
   cases x with
   |inl k=>have:=j.2;omega
   |inr r=>exact⟨r,nv B,j⟩
  |succ n O=>
   intro z M hi
   obtain⟨x,B,j⟩:=F z hi
   cases x with
   |inl k=>rw[xQ B];exact O k (by omega) j.1
   |inr r=>exact⟨r,nv B,j⟩
 exact U _ z (Nat.le_refl _) G
theorem aF.up{σ ρ:Type}{step:σ→Option (σ⊕ρ)}{z:σ}{p:ρ→Prop}(n:Nat)(ix:σ→Int)(Inv:σ→Prop)(B:Inv z)(G:0≤ix z∧ix z≤n)(F:∀z,Inv z→0≤ix z∧ix z≤n→aF (step z) λx=>match x with |.inl j=>Inv j∧ix z<ix j∧ix j≤n |.inr r=>p r):aF (cd step z) p:=by
 refine aF.loop (λz=>Inv z∧0≤ix z∧ix z≤n) (λz=>(n-ix z).toNat) ⟨B,G⟩ λz hi=>(F z hi.1 hi.2).mono λx k=>?_
 cases x with
 |inl j=>exact⟨⟨k.1,by omega,k.2.2⟩,by omega⟩
 |inr r=>exact k
theorem ju{a b:Int}(h:ai a b=true):a<b:=of_decide_eq_true h
theorem C2{a b:Int}(h:ai a b=false):¬a<b:=of_decide_eq_false h
theorem qn{a b:Int}(h:aB a b=true):a≤b:=of_decide_eq_true h
theorem wH{a b:Int}(h:aj a b=false):¬a=b:=of_decide_eq_false h
end Go.Sy
namespace Go.Proofs.YtioaemdeeebgcaaGreatDoor
open Go Go.af Go.Sy
abbrev zI:D:=.int .i64 0
def zs(n:Nat):List D:=List.replicate n zI
def vC:List (Nat×TI):=[(2,⟨1,8,[zI],.cA .i64⟩),
 (3,⟨1,8,[zI],.cA .i64⟩),
 (4,⟨1,1,[.bool false],.fI⟩),
 (5,⟨1,1,[.int .u8 0],.cA .u8⟩),
 (6,⟨1,1,[.int .u8 0],.cA .u8⟩),
 (7,⟨4,24,[zI,zI,.bool false,.int .u8 0],.struct [(0,2),(1,3),(2,4),(3,6)]⟩),
 (8,⟨4,24,[zI,zI,.bool false,.int .u8 0],.struct [(0,2),(1,3),(2,4),(3,6)]⟩),
 (9,⟨1,16,[.str ⟨#[]⟩],.string⟩),
 (10,⟨1,16,[.str ⟨#[]⟩],.string⟩),
 (11,⟨1,16,[.str ⟨#[]⟩],.string⟩),
 (12,⟨1,8,[.int .u64 0],.cA .u64⟩),
 (13,⟨2,24,[.str ⟨#[]⟩,.int .u64 0],.struct [(0,9),(1,12)]⟩),
 (14,⟨2,24,[.str ⟨#[]⟩,.int .u64 0],.struct [(0,9),(1,12)]⟩),
 (15,⟨1,8,[.ch],.fI⟩),
 (16,⟨1,8,[.ch],.fI⟩),
 (17,⟨1,8,[.ch],.fI⟩),
 (18,⟨1,8,[.ch],.struct [(0,17)]⟩),
 (19,⟨1,8,[.ch],.struct [(0,17)]⟩),
 (21,⟨1,4,[.int .i32 0],.cA .i32⟩),
 (22,⟨1,24,[.slice 6 []],.slice 44⟩),
 (23,⟨1,24,[.slice 7 []],.slice 34⟩),
 (26,⟨1,24,[.slice 1 []],.slice 3⟩),
 (27,⟨1,8,[zI],.cA .i64⟩),
 (30,⟨3,24,zs 3,.struct [(0,3),(1,3),(2,3)]⟩),
 (31,⟨3,24,zs 3,.struct [(0,3),(1,3),(2,3)]⟩),
 (32,⟨1,24,[.slice 14 []],.slice 241⟩),
 (33,⟨7,72,[zI,zI,zI,zI,zI,zI,.slice 14 []],.struct [(0,3),(1,31),(4,3),(5,3),(6,32)]⟩),
 (34,⟨7,72,[zI,zI,zI,zI,zI,zI,.slice 14 []],.struct [(0,3),(1,31),(4,3),(5,3),(6,32)]⟩),
 (36,⟨1,24,[.slice 12 []],.slice 95⟩),
 (37,⟨1,24,[.slice 4 []],.slice 101⟩),
 (38,⟨1,24,[.slice 6 []],.slice 192⟩),
 (39,⟨1,24,[.slice 5 []],.slice 133⟩),
 (40,⟨4,96,[.slice 12 [],.slice 4 [],.slice 6 [],.slice 5 []],.struct [(0,36),(1,37),(2,38),(3,39)]⟩),
 (41,⟨4,96,[.slice 12 [],.slice 4 [],.slice 6 [],.slice 5 []],.struct [(0,36),(1,37),(2,38),(3,39)]⟩),
 (43,⟨6,48,zs 6,.struct [(0,3),(1,3),(2,3),(3,3),(4,3),(5,3)]⟩),
 (44,⟨6,48,zs 6,.struct [(0,3),(1,3),(2,3),(3,3),(4,3),(5,3)]⟩),
 (45,⟨1,24,[.slice 4 []],.slice 59⟩),
 (46,⟨1,24,[.slice 1 []],.slice 27⟩),
 (49,⟨2,16,[zI,zI],.struct [(0,3),(1,3)]⟩),
 (50,⟨2,16,[zI,zI],.struct [(0,3),(1,3)]⟩),
 (51,⟨6,56,[.str ⟨#[]⟩,zI,zI,zI,zI,zI],.struct [(0,9),(1,3),(2,3),(3,50),(5,3)]⟩),
 (52,⟨6,56,[.str ⟨#[]⟩,zI,zI,zI,zI,zI],.struct [(0,9),(1,3),(2,3),(3,50),(5,3)]⟩),
 (53,⟨1,24,[.slice 8 []],.slice 66⟩),
 (56,⟨2,16,[zI,zI],.struct [(0,3),(1,3)]⟩),
 (57,⟨2,16,[zI,zI],.struct [(0,3),(1,3)]⟩),
 (58,⟨4,32,zs 4,.struct [(0,57),(2,50)]⟩),
 (59,⟨4,32,zs 4,.struct [(0,57),(2,50)]⟩),
 (63,⟨3,24,zs 3,.struct [(0,3),(1,3),(2,3)]⟩),
 (64,⟨3,24,zs 3,.struct [(0,3),(1,3),(2,3)]⟩),
 (65,⟨8,64,zs 8,.struct [(0,3),(1,50),(3,50),(5,64)]⟩),
 (66,⟨8,64,zs 8,.struct [(0,3),(1,50),(3,50),(5,64)]⟩),
 (71,⟨4,32,zs 4,.struct [(0,3),(1,50),(3,3)]⟩),
 (72,⟨4,32,zs 4,.struct [(0,3),(1,50),(3,3)]⟩),
 (73,⟨1,24,[.slice 4 []],.slice 72⟩),
 (74,⟨2,16,[zI,zI],.struct [(0,3),(1,3)]⟩),
 (75,⟨2,16,[zI,zI],.struct [(0,3),(1,3)]⟩),
 (76,⟨13,104,zs 13,.struct [(0,3),(1,3),(2,3),(3,3),(4,3),(5,75),(7,64),(10,64)]⟩),
 (77,⟨13,104,zs 13,.struct [(0,3),(1,3),(2,3),(3,3),(4,3),(5,75),(7,64),(10,64)]⟩),
 (78,⟨1,24,[.slice 13 []],.slice 77⟩),
 (79,⟨12,96,zs 12,.struct [(0,3),(1,3),(2,3),(3,3),(4,3),(5,50),(7,50),(9,64)]⟩),
 (80,⟨12,96,zs 12,.struct [(0,3),(1,3),(2,3),(3,3),(4,3),(5,50),(7,50),(9,64)]⟩),
 (81,⟨1,24,[.slice 12 []],.slice 80⟩),
 (82,⟨4,80,[zI,.slice 4 [],.slice 13 [],.slice 12 []],.struct [(0,3),(1,73),(2,78),(3,81)]⟩),
 (83,⟨4,80,[zI,.slice 4 [],.slice 13 [],.slice 12 []],.struct [(0,3),(1,73),(2,78),(3,81)]⟩),
 (84,⟨1,24,[.slice 3 []],.slice 356⟩),
 (85,⟨1,24,[.slice 3 []],.slice 357⟩),
 (86,⟨3,24,zs 3,.struct [(0,3),(1,3),(2,3)]⟩),
 (87,⟨3,24,zs 3,.struct [(0,3),(1,3),(2,3)]⟩),
 (88,⟨1,24,[.slice 3 []],.slice 292⟩),
 (89,⟨7,104,[zI,.slice 3 [],.slice 3 [],zI,zI,zI,.slice 3 []],.struct [(0,3),(1,84),(2,85),(3,87),(6,88)]⟩),
 (90,⟨7,104,[zI,.slice 3 [],.slice 3 [],zI,zI,zI,.slice 3 []],.struct [(0,3),(1,84),(2,85),(3,87),(6,88)]⟩),
 (91,⟨3,24,zs 3,.struct [(0,3),(1,50)]⟩),
 (92,⟨3,24,zs 3,.struct [(0,3),(1,50)]⟩),
 (93,⟨1,24,[.slice 3 []],.slice 92⟩),
 (94,⟨12,208,[zI,.slice 4 [],.slice 13 [],.slice 12 [],zI,.slice 3 [],.slice 3 [],zI,zI,zI,.slice 3 [],.slice 3 []],.struct [(0,83),(4,90),(11,93)]⟩),
 (95,⟨12,208,[zI,.slice 4 [],.slice 13 [],.slice 12 [],zI,.slice 3 [],.slice 3 [],zI,zI,zI,.slice 3 [],.slice 3 []],.struct [(0,83),(4,90),(11,93)]⟩),
 (96,⟨3,24,zs 3,.struct [(0,3),(1,3),(2,3)]⟩),
 (97,⟨3,24,zs 3,.struct [(0,3),(1,3),(2,3)]⟩),
 (98,⟨1,24,[.slice 3 []],.slice 97⟩),
 (99,⟨1,24,[.slice 2 []],.slice 362⟩),
 (100,⟨4,64,[zI,zI,.slice 3 [],.slice 2 []],.struct [(0,3),(1,3),(2,98),(3,99)]⟩),
 (101,⟨4,64,[zI,zI,.slice 3 [],.slice 2 []],.struct [(0,3),(1,3),(2,98),(3,99)]⟩),
 (102,⟨5,120,[.slice 12 [],.slice 4 [],.slice 6 [],.slice 5 [],.slice 6 []],.struct [(0,41),(4,22)]⟩),
 (103,⟨5,120,[.slice 12 [],.slice 4 [],.slice 6 [],.slice 5 [],.slice 6 []],.struct [(0,41),(4,22)]⟩),
 (109,⟨9,136,[zI,zI,.slice 3 [],.slice 3 [],zI,zI,zI,.slice 3 [],.slice 1 []],.struct [(0,3),(1,90),(8,26)]⟩),
 (110,⟨9,136,[zI,zI,.slice 3 [],.slice 3 [],zI,zI,zI,.slice 3 [],.slice 1 []],.struct [(0,3),(1,90),(8,26)]⟩),
 (116,⟨1,8,[.map [] []],.map 3 4⟩),
 (120,⟨1,8,[.int .u64 0],.cA .u64⟩),
 (128,⟨4,96,[.slice 12 [],.slice 4 [],.slice 6 [],.slice 5 []],.struct [(0,41)]⟩),
 (129,⟨4,96,[.slice 12 [],.slice 4 [],.slice 6 [],.slice 5 []],.struct [(0,41)]⟩),
 (132,⟨5,40,zs 5,.struct [(0,3),(1,3),(2,3),(3,3),(4,3)]⟩),
 (133,⟨5,40,zs 5,.struct [(0,3),(1,3),(2,3),(3,3),(4,3)]⟩),
 (135,⟨1,24,[.slice 1 []],.slice 24⟩),
 (138,⟨1,8,[.ch],.fI⟩),
 (142,⟨10,160,[zI,zI,.slice 3 [],.slice 3 [],zI,zI,zI,.slice 3 [],.slice 1 [],.slice 12 []],.struct [(0,110),(9,36)]⟩),
 (143,⟨10,160,[zI,zI,.slice 3 [],.slice 3 [],zI,zI,zI,.slice 3 [],.slice 1 [],.slice 12 []],.struct [(0,110),(9,36)]⟩),
 (144,⟨1,8,[.ch],.fI⟩),
 (147,⟨1,24,[.slice 5 []],.slice 223⟩),
 (148,⟨2,32,[zI,.slice 5 []],.struct [(0,3),(1,147)]⟩),
 (149,⟨2,32,[zI,.slice 5 []],.struct [(0,3),(1,147)]⟩),
 (159,⟨1,8,[zI],.cA .i64⟩),
 (168,⟨1,4,[.int .u32 0],.cA .u32⟩),
 (170,⟨1,8,[.int .u64 0],.cA .u64⟩),
 (173,⟨2,16,[zI,zI],.struct [(0,3),(1,3)]⟩),
 (174,⟨2,16,[zI,zI],.struct [(0,3),(1,3)]⟩),
 (176,⟨1,24,[.slice 4 []],.slice 83⟩),
 (177,⟨21,312,[zI,zI,.slice 3 [],.slice 3 [],zI,zI,zI,.slice 3 [],.slice 1 [],zI,zI,zI,zI,zI,zI,.slice 14 [],.slice 4 [],zI,.slice 4 [],.slice 13 [],.slice 12 []],.struct [(0,110),(9,34),(16,176),(17,83)]⟩),
 (178,⟨21,312,[zI,zI,.slice 3 [],.slice 3 [],zI,zI,zI,.slice 3 [],.slice 1 [],zI,zI,zI,zI,zI,zI,.slice 14 [],.slice 4 [],zI,.slice 4 [],.slice 13 [],.slice 12 []],.struct [(0,110),(9,34),(16,176),(17,83)]⟩),
 (191,⟨6,48,[zI,zI,zI,zI,zI,.int .u64 0],.struct [(0,3),(1,3),(2,3),(3,3),(4,3),(5,170)]⟩),
 (192,⟨6,48,[zI,zI,zI,zI,zI,.int .u64 0],.struct [(0,3),(1,3),(2,3),(3,3),(4,3),(5,170)]⟩),
 (195,⟨1,8,[.map [] []],.map 3 3⟩),
 (196,⟨2,16,[.map [] [],.map [] []],.struct [(0,195),(1,195)]⟩),
 (197,⟨2,16,[.map [] [],.map [] []],.struct [(0,195),(1,195)]⟩),
 (206,⟨1,24,[.slice 2 []],.slice 57⟩),
 (210,⟨15,264,[zI,.slice 4 [],.slice 13 [],.slice 12 [],zI,zI,.slice 3 [],.slice 3 [],zI,zI,zI,.slice 3 [],.slice 1 [],.slice 2 [],.slice 8 []],.struct [(0,83),(4,110),(13,206),(14,53)]⟩),
 (211,⟨15,264,[zI,.slice 4 [],.slice 13 [],.slice 12 [],zI,zI,.slice 3 [],.slice 3 [],zI,zI,zI,.slice 3 [],.slice 1 [],.slice 2 [],.slice 8 []],.struct [(0,83),(4,110),(13,206),(14,53)]⟩),
 (214,⟨13,104,zs 13,.struct [(0,77)]⟩),
 (215,⟨13,104,zs 13,.struct [(0,77)]⟩),
 (221,⟨1,24,[.slice 10 []],.slice 313⟩),
 (222,⟨5,56,[zI,zI,zI,zI,.slice 10 []],.struct [(0,3),(1,3),(2,50),(4,221)]⟩),
 (223,⟨5,56,[zI,zI,zI,zI,.slice 10 []],.struct [(0,3),(1,3),(2,50),(4,221)]⟩),
 (225,⟨1,8,[.map [] []],.map 3 81⟩),
 (238,⟨10,88,[zI,zI,zI,zI,zI,zI,zI,zI,zI,.str ⟨#[]⟩],.struct [(0,3),(1,3),(2,3),(3,31),(6,3),(7,3),(8,3),(9,9)]⟩),
 (239,⟨10,88,[zI,zI,zI,zI,zI,zI,zI,zI,zI,.str ⟨#[]⟩],.struct [(0,3),(1,3),(2,3),(3,31),(6,3),(7,3),(8,3),(9,9)]⟩),
 (240,⟨14,120,[zI,zI,zI,zI,zI,zI,zI,zI,zI,zI,zI,zI,zI,.str ⟨#[]⟩],.struct [(0,3),(1,3),(2,3),(3,3),(4,239)]⟩),
 (241,⟨14,120,[zI,zI,zI,zI,zI,zI,zI,zI,zI,zI,zI,zI,zI,.str ⟨#[]⟩],.struct [(0,3),(1,3),(2,3),(3,3),(4,239)]⟩),
 (242,⟨1,8,[.int .u64 0],.cA .u64⟩),
 (246,⟨1,8,[.ch],.fI⟩),
 (257,⟨1,16,[.fH],.iface⟩),
 (274,⟨7,104,[zI,.slice 3 [],.slice 3 [],zI,zI,zI,.slice 3 []],.struct [(0,90)]⟩),
 (275,⟨7,104,[zI,.slice 3 [],.slice 3 [],zI,zI,zI,.slice 3 []],.struct [(0,90)]⟩),
 (284,⟨2,16,[.eV,.bool false],.struct [(0,198),(1,4)]⟩),
 (285,⟨2,16,[.eV,.bool false],.struct [(0,198),(1,4)]⟩),
 (287,⟨1,8,[.map [] []],.map 3 285⟩),
 (291,⟨3,24,zs 3,.struct [(0,3),(1,3),(2,3)]⟩),
 (292,⟨3,24,zs 3,.struct [(0,3),(1,3),(2,3)]⟩),
 (298,⟨1,8,[.map [] []],.map 3 293⟩),
 (312,⟨10,80,zs 10,.struct [(0,3),(1,3),(2,3),(3,50),(5,50),(7,64)]⟩),
 (313,⟨10,80,zs 10,.struct [(0,3),(1,3),(2,3),(3,50),(5,50),(7,64)]⟩),
 (333,⟨1,8,[.ch],.fI⟩),
 (337,⟨1,24,[.slice 1 []],.slice 260⟩),
 (338,⟨1,8,[zI],.struct [(0,27)]⟩),
 (339,⟨1,8,[zI],.struct [(0,27)]⟩),
 (340,⟨1,8,[.map [] []],.map 9 3⟩),
 (345,⟨1,8,[.ch],.fI⟩),
 (347,⟨1,8,[.map [] []],.map 3 77⟩),
 (355,⟨3,24,zs 3,.struct [(0,3),(1,3),(2,3)]⟩),
 (356,⟨3,24,zs 3,.struct [(0,3),(1,3),(2,3)]⟩),
 (357,⟨3,24,zs 3,.struct [(0,3),(1,3),(2,3)]⟩),
 (360,⟨1,8,[.map [] []],.map 292 4⟩),
 (361,⟨2,24,[.str ⟨#[]⟩,zI],.struct [(0,9),(1,3)]⟩),
 (362,⟨2,24,[.str ⟨#[]⟩,zI],.struct [(0,9),(1,3)]⟩),
 (396,⟨7,56,zs 7,.array 7 3⟩),
 (409,⟨1,8,[.int .u64 0],.cA .u64⟩),
 (410,⟨3,24,[.ch,.ch,.int .u64 0],.struct [(0,17),(1,408),(2,409)]⟩),
 (411,⟨3,24,[.ch,.ch,.int .u64 0],.struct [(0,17),(1,408),(2,409)]⟩),
 (416,⟨1,1,[.int .u8 0],.cA .u8⟩),
 (436,⟨2,16,[.eV,.eV],.struct [(0,154),(1,435)]⟩),
 (437,⟨2,16,[.eV,.eV],.struct [(0,154),(1,435)]⟩),
 (439,⟨1,8,[.map [] []],.map 3 437⟩),
 (442,⟨1,24,[.slice 1 []],.slice 21⟩),
 (445,⟨1,8,[.ch],.struct [(0,17)]⟩),
 (446,⟨1,8,[.ch],.struct [(0,17)]⟩),
 (447,⟨1,8,[.ch],.fI⟩),
 (456,⟨1,24,[.slice 1 []],.slice 257⟩),
 (476,⟨4,40,[.ch,.ch,.ch,.str ⟨#[]⟩],.struct [(0,17),(1,17),(2,17),(3,9)]⟩),
 (477,⟨4,40,[.ch,.ch,.ch,.str ⟨#[]⟩],.struct [(0,17),(1,17),(2,17),(3,9)]⟩),
 (478,⟨0,0,[],.array 0 16⟩),
 (479,⟨0,0,[],.struct [(0,478)]⟩),
 (480,⟨0,0,[],.struct [(0,478)]⟩),
 (483,⟨1,1,[.int .u8 0],.cA .u8⟩),
 (485,⟨1,8,[.ch],.fI⟩),
 (486,⟨1,4,[.int .i32 0],.cA .i32⟩),
 (487,⟨1,4,[.int .i32 0],.cA .i32⟩),
 (488,⟨11,48,[.int .u64 0,.int .u64 0,.int .u32 0,.int .u8 0,.int .u8 0,.int .u8 0,.int .u8 0,.eV,.ch,.int .i32 0,.int .i32 0],.struct [(0,12),(1,12),(2,168),(3,483),(4,5),(5,5),(6,416),(7,484),(8,485),(9,486),(10,487)]⟩),
 (489,⟨11,48,[.int .u64 0,.int .u64 0,.int .u32 0,.int .u8 0,.int .u8 0,.int .u8 0,.int .u8 0,.eV,.ch,.int .i32 0,.int .i32 0],.struct [(0,12),(1,12),(2,168),(3,483),(4,5),(5,5),(6,416),(7,484),(8,485),(9,486),(10,487)]⟩),
 (493,⟨2,24,[.str ⟨#[]⟩,.int .u8 0],.struct [(0,9),(1,416)]⟩),
 (494,⟨2,24,[.str ⟨#[]⟩,.int .u8 0],.struct [(0,9),(1,416)]⟩),
 (495,⟨1,24,[.slice 10 []],.slice 239⟩),
 (496,⟨1,8,[.ch],.fI⟩),
 (498,⟨1,2,[.int .u16 0],.cA .u16⟩),
 (499,⟨5,16,[.int .i32 0,.int .u16 0,.int .u16 0,.int .u32 0,.int .u32 0],.struct [(0,486),(1,498),(2,498),(3,168),(4,168)]⟩),
 (500,⟨5,16,[.int .i32 0,.int .u16 0,.int .u16 0,.int .u32 0,.int .u32 0],.struct [(0,486),(1,498),(2,498),(3,168),(4,168)]⟩),
 (501,⟨1,24,[.slice 4 []],.slice 504⟩),
 (502,⟨1,4,[.int .i32 0],.cA .i32⟩),
 (503,⟨4,16,[.int .i32 0,.int .i32 0,.int .i32 0,.int .i32 0],.struct [(0,486),(1,487),(2,502),(3,502)]⟩),
 (504,⟨4,16,[.int .i32 0,.int .i32 0,.int .i32 0,.int .i32 0],.struct [(0,486),(1,487),(2,502),(3,502)]⟩),
 (505,⟨1,8,[.ch],.fI⟩)]++[1,24,25,29,35,42,48,55,60,61,62,67,68,69,70,104,105,106,107,108,112,113,114,115,117,118,119,121,122,123,124,125,127,130,131,134,136,137,140,141,146,151,152,153,154,156,157,158,161,162,163,164,166,167,169,171,172,175,180,181,183,184,185,186,187,188,189,190,194,198,199,200,201,202,203,204,205,208,209,213,217,218,219,220,224,226,227,228,230,231,232,233,234,235,236,237,243,244,245,247,248,249,251,252,253,254,255,258,259,260,261,262,263,265,266,267,268,269,270,271,272,273,276,277,278,279,280,281,282,283,288,289,290,293,294,296,297,300,301,302,303,304,305,306,307,308,309,310,311,314,315,316,317,318,319,320,321,322,323,325,326,327,328,329,330,331,332,335,336,341,342,343,344,346,349,350,351,352,353,354,358,359,363,364,365,366,367,368,369,370,371,372,373,374,375,376,377,378,379,380,381,382,383,384,385,386,387,388,389,390,391,393,394,395,397,398,399,400,401,402,404,405,406,407,412,415,417,418,419,420,421,422,423,424,425,426,427,428,429,431,432,433,434,435,440,441,443,444,448,449,450,453,457,458,459,460,461,462,463,464,465,466,467,468,469,470,471,472,473,474,475,481,482,484,490,491,492,497].map λn=>(n,⟨1,8,[.eV],.fI⟩)
def vw:bN:=λt=>(vC.find? λp=>Nat.beq p.1 t).map (·.2)
structure Reader where
 part:Int
 gg:Int
 gM:Int
 deriving DecidableEq
structure Mark where
 id:Int
 kind:Int
 gD:Int
 gd:Reader
 version:Int
 note:Int
 value:Int
 text:ByteArray
 deriving DecidableEq
structure Event where
 clock:Int
 dn:Int
 kind:Int
 n:Int
 mark:Mark
 deriving DecidableEq
structure aJ where
 id:Int
 reader:Reader
 dR:Int
 known:Int
 events:(List Event)
 deriving DecidableEq
structure Rat where
 n:Int
 d:Int
 deriving DecidableEq
structure dG where
 id:Int
 length:Rat
 key:Int
 deriving DecidableEq
structure Interval where
 steps:Int
 fm:Int
 deriving DecidableEq
structure bT where
 step:Int
 alter:Int
 cJ:Int
 deriving DecidableEq
structure Part where
 id:Int
 vo:Int
 of:Int
 cJ:Int
 sS:Int
 shift:Interval
 low:bT
 high:bT
 deriving DecidableEq
structure aV where
 id:Int
 part:Int
 bG:Int
 ek:Int
 eX:Int
 start:Rat
 length:Rat
 bP:bT
 deriving DecidableEq
structure Score where
 version:Int
 bars:(List dG)
 parts:(List Part)
 notes:(List aV)
 deriving DecidableEq
structure Repeat where
 from_:Int
 cW:Int
 times:Int
 deriving DecidableEq
structure Ending where
 from_:Int
 cW:Int
 pass:Int
 deriving DecidableEq
structure Jump where
 at_:Int
 to:Int
 eR:Int
 deriving DecidableEq
structure Cut where
 from_:Int
 cW:Int
 pass:Int
 deriving DecidableEq
structure Form where
 bars:Int
 cj:(List Repeat)
 dt:(List Ending)
 jump:Jump
 cS:(List Cut)
 deriving DecidableEq
structure lI where
 bG:Int
 quarter:Rat
 deriving DecidableEq
structure c8 where
 score:Score
 form:Form
 z7:(List lI)
 deriving DecidableEq
structure dC where
 number:Int
 bG:Int
 pass:Int
 deriving DecidableEq
structure iF where
 name:ByteArray
 at_:Int
 deriving DecidableEq
structure ct where
 id:Int
 version:Int
 bars:(List dC)
 nk:(List iF)
 deriving DecidableEq
structure om where
 id:Int
 part:Int
 dR:Int
 version:Int
 yq:Int
 BH:Int
 deriving DecidableEq
structure jg where
 time:Int
 kind:Int
 ja:Int
 dn:Int
 ba:Int
 deriving DecidableEq
structure fZ where
 fz:(List c8)
 jY:(List ct)
 mq:(List om)
 nr:(List jg)
 deriving DecidableEq
structure Decision where
 number:Int
 time:Int
 kind:Int
 a:Int
 b:Int
 c:Int
 deriving DecidableEq
structure Call where
 letter:ByteArray
 number:Int
 bars:Int
 fB:Rat
 pass:Int
 deriving DecidableEq
structure aY where
 bG:Int
 pass:Int
 deriving DecidableEq
structure cY where
 visit:aY
 at_:Rat
 deriving DecidableEq
structure cn where
 part:Int
 start:Rat
 length:Rat
 bP:bT
 deriving DecidableEq
structure kL where
 ez:fZ
 sR:(List Decision)
 deriving DecidableEq
structure Room where
 version:Int
 form:Form
 nI:(List Int)
 deriving DecidableEq
structure Shelf where
 ez:fZ
 deriving DecidableEq
structure State where
 room:Room
 fz:(List c8)
 deriving DecidableEq
structure Written where
 id:Int
 ek:Int
 eX:Int
 start:Rat
 length:Rat
 bP:bT
 deriving DecidableEq
structure dg where
 bG:Int
 key:Int
 length:Rat
 notes:(List Written)
 deriving DecidableEq
structure View where
 part:Int
 jx:(List dg)
 deriving DecidableEq
structure Fraction where
 n:Int
 d:Int
 deriving DecidableEq
structure kK where
 room:Room
 dn:aJ
 all:(List Score)
 score:Score
 deriving DecidableEq
structure r8 where
 xt:(List (Int×Int))
 xr:(List (Int×Int))
 deriving DecidableEq
structure r7 where
 score:Score
 room:Room
 Jp:(List aY)
 I6:(List cn)
 deriving DecidableEq
structure kM where
 part:Part
 deriving DecidableEq
structure Order where
 form:Form
 deriving DecidableEq
structure Kind where
 formed:Nat
 out:Bool
 deriving DecidableEq
structure eO where
 jL:Int
 deriving DecidableEq
structure dA where
 fK:Nat
 qw:Nat
 deriving DecidableEq
def cu:Nat→Type
 |0=>Reader
 |1=>Mark
 |2=>Event
 |3=>aJ
 |4=>Rat
 |5=>dG
 |6=>Interval
 |7=>bT
 |8=>Part
 |9=>aV
 |10=>Score
 |11=>Repeat
 |12=>Ending
 |13=>Jump
 |14=>Cut
 |15=>Form
 |16=>lI
 |17=>c8
 |18=>dC
 |19=>iF
 |20=>ct
 |21=>om
 |22=>jg
 |23=>fZ
 |24=>Decision
 |25=>Call
 |26=>aY
 |27=>cY
 |28=>cn
 |29=>kL
 |30=>Room
 |31=>Shelf
 |32=>State
 |33=>Written
 |34=>dg
 |35=>View
 |36=>Fraction
 |37=>kK
 |38=>r8
 |39=>r7
 |40=>kM
 |41=>Order
 |42=>Kind
 |43=>eO
 |44=>dA
 |_+45=>Unit
instance:bQ:=⟨cu⟩
def bC:Nat→List Ty
 |0=>[.int .i64,.int .i64,.int .i64]
 |1=>[.int .i64,.int .i64,.int .i64,.st 0,.int .i64,.int .i64,.int .i64,.str]
 |2=>[.int .i64,.int .i64,.int .i64,.int .i64,.st 1]
 |3=>[.int .i64,.st 0,.int .i64,.int .i64,.list (.st 2)]
 |4=>[.int .i64,.int .i64]
 |5=>[.int .i64,.st 4,.int .i64]
 |6=>[.int .i64,.int .i64]
 |7=>[.int .i64,.int .i64,.int .i64]
 |8=>[.int .i64,.int .i64,.int .i64,.int .i64,.int .i64,.st 6,.st 7,.st 7]
 |9=>[.int .i64,.int .i64,.int .i64,.int .i64,.int .i64,.st 4,.st 4,.st 7]
 |10=>[.int .i64,.list (.st 5),.list (.st 8),.list (.st 9)]
 |11=>[.int .i64,.int .i64,.int .i64]
 |12=>[.int .i64,.int .i64,.int .i64]
 |13=>[.int .i64,.int .i64,.int .i64]
 |14=>[.int .i64,.int .i64,.int .i64]
 |15=>[.int .i64,.list (.st 11),.list (.st 12),.st 13,.list (.st 14)]
 |16=>[.int .i64,.st 4]
 |17=>[.st 10,.st 15,.list (.st 16)]
 |18=>[.int .i64,.int .i64,.int .i64]
 |19=>[.str,.int .i64]
 |20=>[.int .i64,.int .i64,.list (.st 18),.list (.st 19)]
 |21=>[.int .i64,.int .i64,.int .i64,.int .i64,.int .i64,.int .u64]
 |22=>[.int .i64,.int .i64,.int .i64,.int .i64,.int .i64]
 |23=>[.list (.st 17),.list (.st 20),.list (.st 21),.list (.st 22)]
 |24=>[.int .i64,.int .i64,.int .i64,.int .i64,.int .i64,.int .i64]
 |25=>[.str,.int .i64,.int .i64,.st 4,.int .i64]
 |26=>[.int .i64,.int .i64]
 |27=>[.st 26,.st 4]
 |28=>[.int .i64,.st 4,.st 4,.st 7]
 |29=>[.st 23,.list (.st 24)]
 |30=>[.int .i64,.st 15,.list (.int .i64)]
 |31=>[.st 23]
 |32=>[.st 30,.list (.st 17)]
 |33=>[.int .i64,.int .i64,.int .i64,.st 4,.st 4,.st 7]
 |34=>[.int .i64,.int .i64,.st 4,.list (.st 33)]
 |35=>[.int .i64,.list (.st 34)]
 |36=>[.int .i64,.int .i64]
 |37=>[.st 30,.st 3,.list (.st 10),.st 10]
 |38=>[.map (.int .i64) (.int .i64),.map (.int .i64) (.int .i64)]
 |39=>[.st 10,.st 30,.list (.st 26),.list (.st 28)]
 |40=>[.st 8]
 |41=>[.st 15]
 |42=>[.fns [247,248,249],.bool]
 |43=>[.int .i64]
 |44=>[.fns [361,363,365,367],.fns [362,364,366,368]]
 |_+45=>[]
def TO:Nat→Nat
 |0=>3
 |1=>10
 |2=>14
 |3=>7
 |4=>2
 |5=>4
 |6=>2
 |7=>3
 |8=>13
 |9=>12
 |10=>4
 |11=>3
 |12=>3
 |13=>3
 |14=>3
 |15=>7
 |16=>3
 |17=>12
 |18=>3
 |19=>2
 |20=>4
 |21=>6
 |22=>5
 |23=>4
 |24=>6
 |25=>6
 |26=>2
 |27=>4
 |28=>8
 |29=>5
 |30=>9
 |31=>4
 |32=>10
 |33=>10
 |34=>5
 |35=>2
 |36=>2
 |37=>21
 |38=>2
 |39=>15
 |40=>13
 |41=>7
 |42=>2
 |43=>1
 |44=>2
 |_+45=>0
def un:∀i,cu i→(ay (bC i)).den
 |0=>λ(x:Reader)=>(x.part,x.gg,x.gM)
 |1=>λ(x:Mark)=>(x.id,x.kind,x.gD,x.gd,x.version,x.note,x.value,x.text)
 |2=>λ(x:Event)=>(x.clock,x.dn,x.kind,x.n,x.mark)
 |3=>λ(x:aJ)=>(x.id,x.reader,x.dR,x.known,x.events)
 |4=>λ(x:Rat)=>(x.n,x.d)
 |5=>λ(x:dG)=>(x.id,x.length,x.key)
 |6=>λ(x:Interval)=>(x.steps,x.fm)
 |7=>λ(x:bT)=>(x.step,x.alter,x.cJ)
 |8=>λ(x:Part)=>(x.id,x.vo,x.of,x.cJ,x.sS,x.shift,x.low,x.high)
 |9=>λ(x:aV)=>(x.id,x.part,x.bG,x.ek,x.eX,x.start,x.length,x.bP)
 |10=>λ(x:Score)=>(x.version,x.bars,x.parts,x.notes)
 |11=>λ(x:Repeat)=>(x.from_,x.cW,x.times)
 |12=>λ(x:Ending)=>(x.from_,x.cW,x.pass)
 |13=>λ(x:Jump)=>(x.at_,x.to,x.eR)
 |14=>λ(x:Cut)=>(x.from_,x.cW,x.pass)
 |15=>λ(x:Form)=>(x.bars,x.cj,x.dt,x.jump,x.cS)
 |16=>λ(x:lI)=>(x.bG,x.quarter)
 |17=>λ(x:c8)=>(x.score,x.form,x.z7)
 |18=>λ(x:dC)=>(x.number,x.bG,x.pass)
 |19=>λ(x:iF)=>(x.name,x.at_)
 |20=>λ(x:ct)=>(x.id,x.version,x.bars,x.nk)
 |21=>λ(x:om)=>(x.id,x.part,x.dR,x.version,x.yq,x.BH)
 |22=>λ(x:jg)=>(x.time,x.kind,x.ja,x.dn,x.ba)
 |23=>λ(x:fZ)=>(x.fz,x.jY,x.mq,x.nr)
 |24=>λ(x:Decision)=>(x.number,x.time,x.kind,x.a,x.b,x.c)
 |25=>λ(x:Call)=>(x.letter,x.number,x.bars,x.fB,x.pass)
 |26=>λ(x:aY)=>(x.bG,x.pass)
 |27=>λ(x:cY)=>(x.visit,x.at_)
 |28=>λ(x:cn)=>(x.part,x.start,x.length,x.bP)
 |29=>λ(x:kL)=>(x.ez,x.sR)
 |30=>λ(x:Room)=>(x.version,x.form,x.nI)
 |31=>λ(x:Shelf)=>(x.ez)
 |32=>λ(x:State)=>(x.room,x.fz)
 |33=>λ(x:Written)=>(x.id,x.ek,x.eX,x.start,x.length,x.bP)
 |34=>λ(x:dg)=>(x.bG,x.key,x.length,x.notes)
 |35=>λ(x:View)=>(x.part,x.jx)
 |36=>λ(x:Fraction)=>(x.n,x.d)
 |37=>λ(x:kK)=>(x.room,x.dn,x.all,x.score)
 |38=>λ(x:r8)=>(x.xt,x.xr)
 |39=>λ(x:r7)=>(x.score,x.room,x.Jp,x.I6)
 |40=>λ(x:kM)=>(x.part)
 |41=>λ(x:Order)=>(x.form)
 |42=>λ(x:Kind)=>(x.formed,x.out)
 |43=>λ(x:eO)=>(x.jL)
 |44=>λ(x:dA)=>(x.fK,x.qw)
 |_+45=>λ_=>()
def du:∀i,(ay (bC i)).den→cu i
 |0=>λx=>(⟨x.1,x.2.1,x.2.2⟩:Reader)
 |1=>λx=>(⟨x.1,x.2.1,x.2.2.1,x.2.2.2.1,x.2.2.2.2.1,x.2.2.2.2.2.1,x.2.2.2.2.2.2.1,x.2.2.2.2.2.2.2⟩:Mark)
 |2=>λx=>(⟨x.1,x.2.1,x.2.2.1,x.2.2.2.1,x.2.2.2.2⟩:Event)
 |3=>λx=>(⟨x.1,x.2.1,x.2.2.1,x.2.2.2.1,x.2.2.2.2⟩:aJ)
 |4=>λx=>(⟨x.1,x.2⟩:Rat)
 |5=>λx=>(⟨x.1,x.2.1,x.2.2⟩:dG)
 |6=>λx=>(⟨x.1,x.2⟩:Interval)
 |7=>λx=>(⟨x.1,x.2.1,x.2.2⟩:bT)
 |8=>λx=>(⟨x.1,x.2.1,x.2.2.1,x.2.2.2.1,x.2.2.2.2.1,x.2.2.2.2.2.1,x.2.2.2.2.2.2.1,x.2.2.2.2.2.2.2⟩:Part)
 |9=>λx=>(⟨x.1,x.2.1,x.2.2.1,x.2.2.2.1,x.2.2.2.2.1,x.2.2.2.2.2.1,x.2.2.2.2.2.2.1,x.2.2.2.2.2.2.2⟩:aV)
 |10=>λx=>(⟨x.1,x.2.1,x.2.2.1,x.2.2.2⟩:Score)
 |11=>λx=>(⟨x.1,x.2.1,x.2.2⟩:Repeat)
 |12=>λx=>(⟨x.1,x.2.1,x.2.2⟩:Ending)
 |13=>λx=>(⟨x.1,x.2.1,x.2.2⟩:Jump)
 |14=>λx=>(⟨x.1,x.2.1,x.2.2⟩:Cut)
 |15=>λx=>(⟨x.1,x.2.1,x.2.2.1,x.2.2.2.1,x.2.2.2.2⟩:Form)
 |16=>λx=>(⟨x.1,x.2⟩:lI)
 |17=>λx=>(⟨x.1,x.2.1,x.2.2⟩:c8)
 |18=>λx=>(⟨x.1,x.2.1,x.2.2⟩:dC)
 |19=>λx=>(⟨x.1,x.2⟩:iF)
 |20=>λx=>(⟨x.1,x.2.1,x.2.2.1,x.2.2.2⟩:ct)
 |21=>λx=>(⟨x.1,x.2.1,x.2.2.1,x.2.2.2.1,x.2.2.2.2.1,x.2.2.2.2.2⟩:om)
 |22=>λx=>(⟨x.1,x.2.1,x.2.2.1,x.2.2.2.1,x.2.2.2.2⟩:jg)
 |23=>λx=>(⟨x.1,x.2.1,x.2.2.1,x.2.2.2⟩:fZ)
 |24=>λx=>(⟨x.1,x.2.1,x.2.2.1,x.2.2.2.1,x.2.2.2.2.1,x.2.2.2.2.2⟩:Decision)
 |25=>λx=>(⟨x.1,x.2.1,x.2.2.1,x.2.2.2.1,x.2.2.2.2⟩:Call)
 |26=>λx=>(⟨x.1,x.2⟩:aY)
 |27=>λx=>(⟨x.1,x.2⟩:cY)
 |28=>λx=>(⟨x.1,x.2.1,x.2.2.1,x.2.2.2⟩:cn)
 |29=>λx=>(⟨x.1,x.2⟩:kL)
 |30=>λx=>(⟨x.1,x.2.1,x.2.2⟩:Room)
 |31=>λx=>(⟨x⟩:Shelf)
 |32=>λx=>(⟨x.1,x.2⟩:State)
 |33=>λx=>(⟨x.1,x.2.1,x.2.2.1,x.2.2.2.1,x.2.2.2.2.1,x.2.2.2.2.2⟩:Written)
 |34=>λx=>(⟨x.1,x.2.1,x.2.2.1,x.2.2.2⟩:dg)
 |35=>λx=>(⟨x.1,x.2⟩:View)
 |36=>λx=>(⟨x.1,x.2⟩:Fraction)
 |37=>λx=>(⟨x.1,x.2.1,x.2.2.1,x.2.2.2⟩:kK)
 |38=>λx=>(⟨x.1,x.2⟩:r8)
 |39=>λx=>(⟨x.1,x.2.1,x.2.2.1,x.2.2.2⟩:r7)
 |40=>λx=>(⟨x⟩:kM)
 |41=>λx=>(⟨x⟩:Order)
 |42=>λx=>(⟨x.1,x.2⟩:Kind)
 |43=>λx=>(⟨x⟩:eO)
 |44=>λx=>(⟨x.1,x.2⟩:dA)
 |_+45=>λ_=>()
def we(x:Reader):List D:=[.int .i64 x.part,.int .i64 x.gg,.int .i64 x.gM]
def wg(x:Mark):List D:=[.int .i64 x.id,.int .i64 x.kind,.int .i64 x.gD,.int .i64 x.gd.part,.int .i64 x.gd.gg,.int .i64 x.gd.gM,.int .i64 x.version,.int .i64 x.note,.int .i64 x.value,.str x.text]
def wi(x:Event):List D:=[.int .i64 x.clock,.int .i64 x.dn,.int .i64 x.kind,.int .i64 x.n,.int .i64 x.mark.id,.int .i64 x.mark.kind,.int .i64 x.mark.gD,.int .i64 x.mark.gd.part,.int .i64 x.mark.gd.gg,.int .i64 x.mark.gd.gM,.int .i64 x.mark.version,.int .i64 x.mark.note,.int .i64 x.mark.value,.str x.mark.text]
def K2(x:aJ):List D:=[.int .i64 x.id,.int .i64 x.reader.part,.int .i64 x.reader.gg,.int .i64 x.reader.gM,.int .i64 x.dR,.int .i64 x.known,.slice 14 (List.map (λy=>D.agg (wi y)) x.events)]
def wm(x:Rat):List D:=[.int .i64 x.n,.int .i64 x.d]
def pY(x:dG):List D:=[.int .i64 x.id,.int .i64 x.length.n,.int .i64 x.length.d,.int .i64 x.key]
def wo(x:Interval):List D:=[.int .i64 x.steps,.int .i64 x.fm]
def Ld(x:bT):List D:=[.int .i64 x.step,.int .i64 x.alter,.int .i64 x.cJ]
def pZ(x:Part):List D:=[.int .i64 x.id,.int .i64 x.vo,.int .i64 x.of,.int .i64 x.cJ,.int .i64 x.sS,.int .i64 x.shift.steps,.int .i64 x.shift.fm,.int .i64 x.low.step,.int .i64 x.low.alter,.int .i64 x.low.cJ,.int .i64 x.high.step,.int .i64 x.high.alter,.int .i64 x.high.cJ]
def mO(x:aV):List D:=[.int .i64 x.id,.int .i64 x.part,.int .i64 x.bG,.int .i64 x.ek,.int .i64 x.eX,.int .i64 x.start.n,.int .i64 x.start.d,.int .i64 x.length.n,.int .i64 x.length.d,.int .i64 x.bP.step,.int .i64 x.bP.alter,.int .i64 x.bP.cJ]
def Be(x:Score):List D:=[.int .i64 x.version,.slice 4 (List.map (λy=>D.agg (pY y)) x.bars),.slice 13 (List.map (λy=>D.agg (pZ y)) x.parts),.slice 12 (List.map (λy=>D.agg (mO y)) x.notes)]
def lM(x:Repeat):List D:=[.int .i64 x.from_,.int .i64 x.cW,.int .i64 x.times]
def lN(x:Ending):List D:=[.int .i64 x.from_,.int .i64 x.cW,.int .i64 x.pass]
def wh(x:Jump):List D:=[.int .i64 x.at_,.int .i64 x.to,.int .i64 x.eR]
def jU(x:Cut):List D:=[.int .i64 x.from_,.int .i64 x.cW,.int .i64 x.pass]
def KY(x:Form):List D:=[.int .i64 x.bars,.slice 3 (List.map (λy=>D.agg (lM y)) x.cj),.slice 3 (List.map (λy=>D.agg (lN y)) x.dt),.int .i64 x.jump.at_,.int .i64 x.jump.to,.int .i64 x.jump.eR,.slice 3 (List.map (λy=>D.agg (jU y)) x.cS)]
def Bf(x:lI):List D:=[.int .i64 x.bG,.int .i64 x.quarter.n,.int .i64 x.quarter.d]
def pX(x:c8):List D:=[.int .i64 x.score.version,.slice 4 (List.map (λy=>D.agg (pY y)) x.score.bars),.slice 13 (List.map (λy=>D.agg (pZ y)) x.score.parts),.slice 12 (List.map (λy=>D.agg (mO y)) x.score.notes),.int .i64 x.form.bars,.slice 3 (List.map (λy=>D.agg (lM y)) x.form.cj),.slice 3 (List.map (λy=>D.agg (lN y)) x.form.dt),.int .i64 x.form.jump.at_,.int .i64 x.form.jump.to,.int .i64 x.form.jump.eR,.slice 3 (List.map (λy=>D.agg (jU y)) x.form.cS),.slice 3 (List.map (λy=>D.agg (Bf y)) x.z7)]
def Bg(x:dC):List D:=[.int .i64 x.number,.int .i64 x.bG,.int .i64 x.pass]
def Bh(x:iF):List D:=[.str x.name,.int .i64 x.at_]
def sE(x:ct):List D:=[.int .i64 x.id,.int .i64 x.version,.slice 3 (List.map (λy=>D.agg (Bg y)) x.bars),.slice 2 (List.map (λy=>D.agg (Bh y)) x.nk)]
def sF(x:om):List D:=[.int .i64 x.id,.int .i64 x.part,.int .i64 x.dR,.int .i64 x.version,.int .i64 x.yq,.int .u64 x.BH]
def sG(x:jg):List D:=[.int .i64 x.time,.int .i64 x.kind,.int .i64 x.ja,.int .i64 x.dn,.int .i64 x.ba]
def KZ(x:fZ):List D:=[.slice 12 (List.map (λy=>D.agg (pX y)) x.fz),.slice 4 (List.map (λy=>D.agg (sE y)) x.jY),.slice 6 (List.map (λy=>D.agg (sF y)) x.mq),.slice 5 (List.map (λy=>D.agg (sG y)) x.nr)]
def Bi(x:Decision):List D:=[.int .i64 x.number,.int .i64 x.time,.int .i64 x.kind,.int .i64 x.a,.int .i64 x.b,.int .i64 x.c]
def K0(x:Call):List D:=[.str x.letter,.int .i64 x.number,.int .i64 x.bars,.int .i64 x.fB.n,.int .i64 x.fB.d,.int .i64 x.pass]
def sH(x:aY):List D:=[.int .i64 x.bG,.int .i64 x.pass]
def wj(x:cY):List D:=[.int .i64 x.visit.bG,.int .i64 x.visit.pass,.int .i64 x.at_.n,.int .i64 x.at_.d]
def Bj(x:cn):List D:=[.int .i64 x.part,.int .i64 x.start.n,.int .i64 x.start.d,.int .i64 x.length.n,.int .i64 x.length.d,.int .i64 x.bP.step,.int .i64 x.bP.alter,.int .i64 x.bP.cJ]
def K1(x:kL):List D:=[.slice 12 (List.map (λy=>D.agg (pX y)) x.ez.fz),.slice 4 (List.map (λy=>D.agg (sE y)) x.ez.jY),.slice 6 (List.map (λy=>D.agg (sF y)) x.ez.mq),.slice 5 (List.map (λy=>D.agg (sG y)) x.ez.nr),.slice 6 (List.map (λy=>D.agg (Bi y)) x.sR)]
def K3(x:Room):List D:=[.int .i64 x.version,.int .i64 x.form.bars,.slice 3 (List.map (λy=>D.agg (lM y)) x.form.cj),.slice 3 (List.map (λy=>D.agg (lN y)) x.form.dt),.int .i64 x.form.jump.at_,.int .i64 x.form.jump.to,.int .i64 x.form.jump.eR,.slice 3 (List.map (λy=>D.agg (jU y)) x.form.cS),.slice 1 (List.map (λy=>D.int .i64 y) x.nI)]
def K4(x:Shelf):List D:=[.slice 12 (List.map (λy=>D.agg (pX y)) x.ez.fz),.slice 4 (List.map (λy=>D.agg (sE y)) x.ez.jY),.slice 6 (List.map (λy=>D.agg (sF y)) x.ez.mq),.slice 5 (List.map (λy=>D.agg (sG y)) x.ez.nr)]
def K5(x:State):List D:=[.int .i64 x.room.version,.int .i64 x.room.form.bars,.slice 3 (List.map (λy=>D.agg (lM y)) x.room.form.cj),.slice 3 (List.map (λy=>D.agg (lN y)) x.room.form.dt),.int .i64 x.room.form.jump.at_,.int .i64 x.room.form.jump.to,.int .i64 x.room.form.jump.eR,.slice 3 (List.map (λy=>D.agg (jU y)) x.room.form.cS),.slice 1 (List.map (λy=>D.int .i64 y) x.room.nI),.slice 12 (List.map (λy=>D.agg (pX y)) x.fz)]
def Bl(x:Written):List D:=[.int .i64 x.id,.int .i64 x.ek,.int .i64 x.eX,.int .i64 x.start.n,.int .i64 x.start.d,.int .i64 x.length.n,.int .i64 x.length.d,.int .i64 x.bP.step,.int .i64 x.bP.alter,.int .i64 x.bP.cJ]
def Bm(x:dg):List D:=[.int .i64 x.bG,.int .i64 x.key,.int .i64 x.length.n,.int .i64 x.length.d,.slice 10 (List.map (λy=>D.agg (Bl y)) x.notes)]
def K6(x:View):List D:=[.int .i64 x.part,.slice 5 (List.map (λy=>D.agg (Bm y)) x.jx)]
def wk(x:Fraction):List D:=[.int .i64 x.n,.int .i64 x.d]
def K7(x:kK):List D:=[.int .i64 x.room.version,.int .i64 x.room.form.bars,.slice 3 (List.map (λy=>D.agg (lM y)) x.room.form.cj),.slice 3 (List.map (λy=>D.agg (lN y)) x.room.form.dt),.int .i64 x.room.form.jump.at_,.int .i64 x.room.form.jump.to,.int .i64 x.room.form.jump.eR,.slice 3 (List.map (λy=>D.agg (jU y)) x.room.form.cS),.slice 1 (List.map (λy=>D.int .i64 y) x.room.nI),.int .i64 x.dn.id,.int .i64 x.dn.reader.part,.int .i64 x.dn.reader.gg,.int .i64 x.dn.reader.gM,.int .i64 x.dn.dR,.int .i64 x.dn.known,.slice 14 (List.map (λy=>D.agg (wi y)) x.dn.events),.slice 4 (List.map (λy=>D.agg (Be y)) x.all),.int .i64 x.score.version,.slice 4 (List.map (λy=>D.agg (pY y)) x.score.bars),.slice 13 (List.map (λy=>D.agg (pZ y)) x.score.parts),.slice 12 (List.map (λy=>D.agg (mO y)) x.score.notes)]
def K8(x:r8):List D:=[D.map (List.map (λp=>D.int .i64 p.1) x.xt) (List.map (λp=>D.int .i64 p.2) x.xt),D.map (List.map (λp=>D.int .i64 p.1) x.xr) (List.map (λp=>D.int .i64 p.2) x.xr)]
def K9(x:r7):List D:=[.int .i64 x.score.version,.slice 4 (List.map (λy=>D.agg (pY y)) x.score.bars),.slice 13 (List.map (λy=>D.agg (pZ y)) x.score.parts),.slice 12 (List.map (λy=>D.agg (mO y)) x.score.notes),.int .i64 x.room.version,.int .i64 x.room.form.bars,.slice 3 (List.map (λy=>D.agg (lM y)) x.room.form.cj),.slice 3 (List.map (λy=>D.agg (lN y)) x.room.form.dt),.int .i64 x.room.form.jump.at_,.int .i64 x.room.form.jump.to,.int .i64 x.room.form.jump.eR,.slice 3 (List.map (λy=>D.agg (jU y)) x.room.form.cS),.slice 1 (List.map (λy=>D.int .i64 y) x.room.nI),.slice 2 (List.map (λy=>D.agg (sH y)) x.Jp),.slice 8 (List.map (λy=>D.agg (Bj y)) x.I6)]
def La(x:kM):List D:=[.int .i64 x.part.id,.int .i64 x.part.vo,.int .i64 x.part.of,.int .i64 x.part.cJ,.int .i64 x.part.sS,.int .i64 x.part.shift.steps,.int .i64 x.part.shift.fm,.int .i64 x.part.low.step,.int .i64 x.part.low.alter,.int .i64 x.part.low.cJ,.int .i64 x.part.high.step,.int .i64 x.part.high.alter,.int .i64 x.part.high.cJ]
def Lb(x:Order):List D:=[.int .i64 x.form.bars,.slice 3 (List.map (λy=>D.agg (lM y)) x.form.cj),.slice 3 (List.map (λy=>D.agg (lN y)) x.form.dt),.int .i64 x.form.jump.at_,.int .i64 x.form.jump.to,.int .i64 x.form.jump.eR,.slice 3 (List.map (λy=>D.agg (jU y)) x.form.cS)]
def sI(x:Kind):List D:=[dV [247,248,249] x.formed,.bool x.out]
def Lc(x:eO):List D:=[.int .i64 x.jL]
def sJ(x:dA):List D:=[dV [361,363,365,367] x.fK,dV [362,364,366,368] x.qw]
abbrev A3(a b:Reader):Bool:=dL (we a) (we b)
abbrev sq(a b:Mark):Bool:=dL (wg a) (wg b)
abbrev vZ(a b:Rat):Bool:=dL (wm a) (wm b)
abbrev Kz(a b:Interval):Bool:=dL (wo a) (wo b)
abbrev KC(a b:aV):Bool:=dL (mO a) (mO b)
abbrev KA(a b:Jump):Bool:=dL (wh a) (wh b)
abbrev Kx(a b:Cut):Bool:=dL (jU a) (jU b)
abbrev KD(a b:aY):Bool:=dL (sH a) (sH b)
abbrev KB(a b:cY):Bool:=dL (wj a) (wj b)
abbrev Ky(a b:Fraction):Bool:=dL (wk a) (wk b)
def cells:∀i,cu i→List D
 |0=>we
 |1=>wg
 |2=>wi
 |3=>K2
 |4=>wm
 |5=>pY
 |6=>wo
 |7=>Ld
 |8=>pZ
 |9=>mO
 |10=>Be
 |11=>lM
 |12=>lN
 |13=>wh
 |14=>jU
 |15=>KY
 |16=>Bf
 |17=>pX
 |18=>Bg
 |19=>Bh
 |20=>sE
 |21=>sF
 |22=>sG
 |23=>KZ
 |24=>Bi
 |25=>K0
 |26=>sH
 |27=>wj
 |28=>Bj
 |29=>K1
 |30=>K3
 |31=>K4
 |32=>K5
 |33=>Bl
 |34=>Bm
 |35=>K6
 |36=>wk
 |37=>K7
 |38=>K8
 |39=>K9
 |40=>La
 |41=>Lb
 |42=>sI
 |43=>Lc
 |44=>sJ
 |_+45=>λ_=>[]
theorem lF(i x):un i (du i x)=x:=by(iterate 45 (rcases i with _|i;rfl));rfl
theorem x7(i x):du i (un i x)=x:=by(iterate 45 (rcases i with _|i;rfl));rfl
def Oi:List Int:=[0,2,4,5,7,9,11]
def oK:Nat→Option (List Int):=λg=>bif Nat.beq g 0 then some Oi else none
instance:au:=⟨bC,TO,un,du,cells,lF,x7,oK,(339,.st 43)⟩
def eK:List (Nat×Ty):=[(2,.int .i64),(3,.int .i64),(4,.bool),(5,.int .u8),(6,.int .u8),(9,.str),(10,.str),(11,.str),(12,.int .u64),(21,.int .i32),(22,.list (.st 24)),(23,.list (.st 3)),(26,.list (.int .i64)),(27,.int .i64),(30,.st 0),(31,.st 0),(32,.list (.st 2)),(33,.st 3),(34,.st 3),(36,.list (.st 17)),(37,.list (.st 20)),(38,.list (.st 21)),(39,.list (.st 22)),(40,.st 23),(41,.st 23),(43,.st 24),(44,.st 24),(45,.list (.st 27)),(46,.list (.int .i64)),(49,.st 4),(50,.st 4),(51,.st 25),(52,.st 25),(53,.list (.st 28)),(56,.st 26),(57,.st 26),(58,.st 27),(59,.st 27),(63,.st 7),(64,.st 7),(65,.st 28),(66,.st 28),(71,.st 5),(72,.st 5),(73,.list (.st 5)),(74,.st 6),(75,.st 6),(76,.st 8),(77,.st 8),(78,.list (.st 8)),(79,.st 9),(80,.st 9),(81,.list (.st 9)),(82,.st 10),(83,.st 10),(84,.list (.st 11)),(85,.list (.st 12)),(86,.st 13),(87,.st 13),(88,.list (.st 14)),(89,.st 15),(90,.st 15),(91,.st 16),(92,.st 16),(93,.list (.st 16)),(94,.st 17),(95,.st 17),(96,.st 18),(97,.st 18),(98,.list (.st 18)),(99,.list (.st 19)),(100,.st 20),(101,.st 20),(102,.st 29),(103,.st 29),(109,.st 30),(110,.st 30),(116,.map (.int .i64) (.bool)),(120,.int .u64),(128,.st 31),(129,.st 31),(132,.st 22),(133,.st 22),(142,.st 32),(143,.st 32),(147,.list (.st 34)),(148,.st 35),(149,.st 35),(154,.fns [361,363,365,367]),(159,.int .i64),(168,.int .u32),(170,.int .u64),(173,.st 36),(174,.st 36),(176,.list (.st 10)),(177,.st 37),(178,.st 37),(191,.st 21),(192,.st 21),(195,.map (.int .i64) (.int .i64)),(196,.st 38),(197,.st 38),(198,.fns [247,248,249]),(206,.list (.st 26)),(210,.st 39),(211,.st 39),(214,.st 40),(215,.st 40),(221,.list (.st 33)),(222,.st 34),(223,.st 34),(225,.map (.int .i64) (.list (.st 9))),(238,.st 1),(239,.st 1),(240,.st 2),(241,.st 2),(242,.int .u64),(257,.cI 339 (.st 43)),(274,.st 41),(275,.st 41),(284,.st 42),(285,.st 42),(287,.map (.int .i64) (.st 42)),(291,.st 14),(292,.st 14),(312,.st 33),(313,.st 33),(338,.st 43),(339,.st 43),(340,.map (.str) (.int .i64)),(347,.map (.int .i64) (.st 8)),(355,.st 11),(356,.st 11),(357,.st 12),(360,.map (.st 14) (.bool)),(361,.st 19),(362,.st 19),(409,.int .u64),(416,.int .u8),(435,.fns [362,364,366,368]),(436,.st 44),(437,.st 44),(439,.map (.int .i64) (.st 44)),(442,.list (.int .i32)),(456,.list (.cI 339 (.st 43))),(483,.int .u8),(486,.int .i32),(487,.int .i32),(495,.list (.st 1)),(498,.int .u16),(502,.int .i32)]
def Uc:TypeId→Option Ty:=λt=>(eK.find? λp=>Nat.beq p.1 t).map (·.2)
end Go.Proofs.YtioaemdeeebgcaaGreatDoor
namespace Go.Proofs.YtioaemdeeebgcaaGreatDoor
open Go Go.af Go.Sy
theorem wZ(fs:List Nat)(n:Nat):(dV fs n).cells=[dV fs n]:=(w6 fs n).1
theorem Ce(fs:List Nat)(n:Nat):(dV fs n).one=true:=(w6 fs n).2
theorem TP(x:Kind):sI x=(Ty.enc (.fns [247,248,249]) x.formed).cells++(Ty.enc (.bool) x.out).cells:=by
 rw[show(Ty.enc (.fns [247,248,249]) x.formed).cells=[dV [247,248,249] x.formed]from wZ _ _];rfl
theorem TY(x:Kind):(sI x).all D.one=true:=by simp only[sI,List.all_cons,List.all_nil,Ce]<;>rfl
theorem TQ(x:dA):sJ x=(Ty.enc (.fns [361,363,365,367]) x.fK).cells++(Ty.enc (.fns [362,364,366,368]) x.qw).cells:=by
 rw[show(Ty.enc (.fns [361,363,365,367]) x.fK).cells=[dV [361,363,365,367] x.fK]from wZ _ _,show(Ty.enc (.fns [362,364,366,368]) x.qw).cells=[dV [362,364,366,368] x.qw]from wZ _ _];rfl
theorem TZ(x:dA):(sJ x).all D.one=true:=by simp only[sJ,List.all_cons,List.all_nil,Ce]<;>rfl
theorem Tt(i a):au.cells i a=cellsOf (au.bC i) (au.un i a):=by(iterate 42 (rcases i with _|i;rfl));(rcases i with _|i;exact TP a);(iterate 1 (rcases i with _|i;rfl));(rcases i with _|i;exact TQ a);rfl
theorem Tu(i a):(au.cells i a).length=au.sz i:=by(iterate 45 (rcases i with _|i;rfl));rfl
theorem Tv(i a):(au.cells i a).all D.one=true:=by(iterate 42 (rcases i with _|i;rfl));(rcases i with _|i;exact TY a);(iterate 1 (rcases i with _|i;rfl));(rcases i with _|i;exact TZ a);rfl
instance:bB:=⟨Tt,Tu,λi a=>List.all_eq_true.1 (Tv i a)⟩
theorem Tw(i):(au.bC i).all cF=true:=by(iterate 45 (rcases i with _|i;rfl));rfl
instance:bV:=haveI:aL:=⟨True,λ_=>none⟩;⟨λi t h=>bx (List.all_eq_true.1 (Tw i) t h)⟩
class jO where
 on:Prop
def rM:Nat→Option D:=λg=>match oK g with|some l=>some (.agg (l.map (.int .i64)))|none=>bif Nat.beq g 1 then some (.iface 446 (.agg [.addr ⟨2,257,none⟩]))else none
instance iJ[jO]:aL:=⟨jO.on,rM⟩
instance [jO]:kO:=⟨λg ls h=>by show rM g=_;unfold rM;rw[show oK g=some ls from h]⟩
variable [jO]
theorem Ud:vC.all (λp=>rN Tryz.prog p.1 p.2)=true:=by kernel_rfl
theorem TR:bw Tryz.prog vw:=by
 have h:=bw.yh Ud
 have e:(λt=>(vC.find? λp=>p.1 == t).map (·.2))=vw:=by funext t;exact congrArg (Option.map Prod.snd) (wT vC t)
 rw[←e];exact h
def rI(n:Nat):List Lf:=List.replicate n (.int .i64)
def sZ:List (Nat×List Lf):=[(4,[.bool]),(31,rI 3),(239,[.int .i64,.int .i64,.int .i64,.int .i64,.int .i64,.int .i64,.int .i64,.int .i64,.int .i64,.str]),(241,[.int .i64,.int .i64,.int .i64,.int .i64,.int .i64,.int .i64,.int .i64,.int .i64,.int .i64,.int .i64,.int .i64,.int .i64,.int .i64,.str]),(50,rI 2),(72,rI 4),(75,rI 2),(64,rI 3),(77,rI 13),(80,rI 12),(356,rI 3),(357,rI 3),(87,rI 3),(292,rI 3),(92,rI 3),(97,rI 3),(362,[.str,.int .i64]),(192,[.int .i64,.int .i64,.int .i64,.int .i64,.int .i64,.int .u64]),(133,rI 5),(44,rI 6),(52,[.str,.int .i64,.int .i64,.int .i64,.int .i64,.int .i64]),(57,rI 2),(59,rI 4),(66,rI 8),(313,rI 10),(174,rI 2),(215,rI 13),(339,rI 1)]
theorem L0:mH Tryz.prog (CU sZ):=mH.yh (by kernel_rfl)
def xi:List Nat:=[23,25,34,36,37,39,41,42,43,44,45,46,47,107,127,129,131,161,169,170,172,175,177,179,182,186,189,190,193,199,201,210,215,218,219,221,227,231,232,237,240,241,243,246,254,263,270,273,274,276,315,317,322,344,346,355]
def eqs:TypeId→Option (List Lf):=λt=>(sZ.find? λp=>Nat.beq p.1 t).map (·.2)
theorem L1:mH Tryz.prog eqs:=by
 have e:CU sZ=eqs:=by funext t;exact congrArg (Option.map Prod.snd) (wT sZ t)
 rw[←e];exact L0
def cx(j:Nat)(k:List gp)(fs:List (Nat×Func))(ts:List gr):Cx:=⟨vw,Uc,eqs,j,k,fs,0,false,xi,ts,[],0,false,false⟩
noncomputable def BO:Env:={E:=vw,C:=λ_ _=>none,gJ:=eqs,P:=Tryz.prog}
theorem LC:eK.all (λp=>nW (cx 0 [] [] []) p.1 p.2)=true:=by kernel_rfl
theorem Bw(j:Nat)(k:List gp)(fs:List (Nat×Func))(ts:List gr):bb Tryz.prog BO (cx j k fs ts):=haveI:=jG;⟨⟨TR,(λ_ _ _ _ h=>by cases h),L1,(λ_ _ _ _ h=>by cases h),rfl⟩,rfl,rfl,rfl,OB LC⟩
theorem mixed:Tryz.prog.follows .mixedOrders=true:=by kernel_rfl
noncomputable def nd:List (Nat×Func):=[(15,Tryz.f15),(51,Tryz.f51),(95,Tryz.f95),(53,Tryz.f53),(128,Tryz.f128),(34,Tryz.f34),(170,Tryz.f170),(171,Tryz.f171),(172,Tryz.f172),(173,Tryz.f173),(175,Tryz.f175),(177,Tryz.f177),(179,Tryz.f179),(180,Tryz.f180),(36,Tryz.f36),(37,Tryz.f37),(41,Tryz.f41),(43,Tryz.f43),(45,Tryz.f45),(47,Tryz.f47),(49,Tryz.f49),(50,Tryz.f50),(54,Tryz.f54),(56,Tryz.f56),(57,Tryz.f57),(93,Tryz.f93),(218,Tryz.f218),(219,Tryz.f219),(221,Tryz.f221),(168,Tryz.f168),(91,Tryz.f91),(100,Tryz.f100),(102,Tryz.f102),(169,Tryz.f169),(129,Tryz.f129),(131,Tryz.f131),(133,Tryz.f133),(136,Tryz.f136),(137,Tryz.f137),(139,Tryz.f139),(189,Tryz.f189),(190,Tryz.f190),(194,Tryz.f194),(199,Tryz.f199),(263,Tryz.f263),(264,Tryz.f264),(271,Tryz.f271),(272,Tryz.f272),(273,Tryz.f273),(274,Tryz.f274),(275,Tryz.f275),(276,Tryz.f276),(282,Tryz.f282),(283,Tryz.f283),(313,Tryz.f313),(322,Tryz.f322),(323,Tryz.f323),(326,Tryz.f326),(327,Tryz.f327),(359,Tryz.f359),(256,Tryz.f256),(251,Tryz.f251),(252,Tryz.f252),(253,Tryz.f253),(90,Tryz.f90),(316,Tryz.f316)]
theorem M9:jN Tryz.prog nd:=Cm ⟨Tryz.func15,Tryz.func51,Tryz.func95,Tryz.func53,Tryz.func128,Tryz.func34,Tryz.func170,Tryz.func171,Tryz.func172,Tryz.func173,Tryz.func175,Tryz.func177,Tryz.func179,Tryz.func180,Tryz.func36,Tryz.func37,Tryz.func41,Tryz.func43,Tryz.func45,Tryz.func47,Tryz.func49,Tryz.func50,Tryz.func54,Tryz.func56,Tryz.func57,Tryz.func93,Tryz.func218,Tryz.func219,Tryz.func221,Tryz.func168,Tryz.func91,Tryz.func100,Tryz.func102,Tryz.func169,Tryz.func129,Tryz.func131,Tryz.func133,Tryz.func136,Tryz.func137,Tryz.func139,Tryz.func189,Tryz.func190,Tryz.func194,Tryz.func199,Tryz.func263,Tryz.func264,Tryz.func271,Tryz.func272,Tryz.func273,Tryz.func274,Tryz.func275,Tryz.func276,Tryz.func282,Tryz.func283,Tryz.func313,Tryz.func322,Tryz.func323,Tryz.func326,Tryz.func327,Tryz.func359,Tryz.func256,Tryz.func251,Tryz.func252,Tryz.func253,Tryz.func90,Tryz.func316,trivial⟩ (by kernel_rfl)
noncomputable def tz:List (Nat×Func):=[(15,Tryz.f15),(51,Tryz.f51),(95,Tryz.f95),(53,Tryz.f53),(128,Tryz.f128),(34,Tryz.f34),(171,Tryz.f171),(172,Tryz.f172),(173,Tryz.f173),(180,Tryz.f180),(36,Tryz.f36),(37,Tryz.f37),(41,Tryz.f41),(43,Tryz.f43),(45,Tryz.f45),(47,Tryz.f47),(49,Tryz.f49),(50,Tryz.f50),(54,Tryz.f54),(56,Tryz.f56),(57,Tryz.f57),(93,Tryz.f93),(218,Tryz.f218),(219,Tryz.f219),(221,Tryz.f221),(168,Tryz.f168),(91,Tryz.f91),(100,Tryz.f100),(102,Tryz.f102),(169,Tryz.f169),(129,Tryz.f129),(131,Tryz.f131),(133,Tryz.f133),(136,Tryz.f136),(137,Tryz.f137),(139,Tryz.f139),(189,Tryz.f189),(190,Tryz.f190),(194,Tryz.f194),(199,Tryz.f199),(263,Tryz.f263),(264,Tryz.f264),(271,Tryz.f271),(272,Tryz.f272),(273,Tryz.f273),(274,Tryz.f274),(275,Tryz.f275),(276,Tryz.f276),(282,Tryz.f282),(283,Tryz.f283),(313,Tryz.f313),(322,Tryz.f322),(323,Tryz.f323),(326,Tryz.f326),(327,Tryz.f327),(359,Tryz.f359),(256,Tryz.f256),(251,Tryz.f251),(252,Tryz.f252),(253,Tryz.f253),(90,Tryz.f90),(316,Tryz.f316)]
theorem M8:jN Tryz.prog tz:=Cm ⟨Tryz.func15,Tryz.func51,Tryz.func95,Tryz.func53,Tryz.func128,Tryz.func34,Tryz.func171,Tryz.func172,Tryz.func173,Tryz.func180,Tryz.func36,Tryz.func37,Tryz.func41,Tryz.func43,Tryz.func45,Tryz.func47,Tryz.func49,Tryz.func50,Tryz.func54,Tryz.func56,Tryz.func57,Tryz.func93,Tryz.func218,Tryz.func219,Tryz.func221,Tryz.func168,Tryz.func91,Tryz.func100,Tryz.func102,Tryz.func169,Tryz.func129,Tryz.func131,Tryz.func133,Tryz.func136,Tryz.func137,Tryz.func139,Tryz.func189,Tryz.func190,Tryz.func194,Tryz.func199,Tryz.func263,Tryz.func264,Tryz.func271,Tryz.func272,Tryz.func273,Tryz.func274,Tryz.func275,Tryz.func276,Tryz.func282,Tryz.func283,Tryz.func313,Tryz.func322,Tryz.func323,Tryz.func326,Tryz.func327,Tryz.func359,Tryz.func256,Tryz.func251,Tryz.func252,Tryz.func253,Tryz.func90,Tryz.func316,trivial⟩ (by kernel_rfl)
theorem xA{f:FuncId}{fn:Func}{j k:List Ty}{g:(ay j).den→Option (ay k).den}(cs:List Sy.Callee)(ts:List eF)(B:cs.foldr (λc p=>eD Tryz.prog c∧p) True)(M:ts.foldr (λc p=>gu Tryz.prog c.f c.t c.args c.fn∧p) True)(F:Tryz.prog.funcs[f]?=some fn)(G:kW fn j k=true)(h:∀a,kX (cs++ts.map eF.gT) (lD (cx fn.ntmps (cs.map iy) nd (jd ts cs.length)) fn.results.toList (fp fn) j k) j k a=g a):eD Tryz.prog ⟨f,j,k,g⟩:=A9 (Bw fn.ntmps (cs.map iy) nd (jd ts cs.length)) (Bd B M rfl rfl rfl) M9 rfl mixed F G h
theorem kk{f:FuncId}{fn:Func}{j k:List Ty}{g:(ay j).den→Option (ay k).den}(cs:List Sy.Callee)(B:cs.foldr (λc p=>eD Tryz.prog c∧p) True)(F:Tryz.prog.funcs[f]?=some fn)(G:kW fn j k=true)(h:∀a,kX (cs++[]) (lD (cx fn.ntmps (cs.map iy) nd []) fn.results.toList (fp fn) j k) j k a=g a):eD Tryz.prog ⟨f,j,k,g⟩:=xA cs [] B trivial F G h
structure Bk where
 c:Sy.Callee
 k:eD Tryz.prog c
theorem A5(j:List Bk):(j.map Bk.c).foldr (λc p=>eD Tryz.prog c∧p) True:=by
 induction j with
 |nil=>trivial
 |cons b r B=>exact⟨b.k,B⟩
abbrev tI:Ty:=.int .i64
noncomputable def bk(j k:List Ty)(g:(ay j).den→Option (ay k).den)(B:List Bk){f:FuncId}{fn:Func}(F:Tryz.prog.funcs[f]?=some fn)(G:kW fn j k=true:=by kernel_rfl)(h:∀a,kX (B.map Bk.c++[]) (lD (cx fn.ntmps ((B.map Bk.c).map iy) nd []) fn.results.toList (fp fn) j k) j k a=g a:=by intro a;kernel_rfl):Bk:=⟨⟨f,j,k,g⟩,kk (B.map Bk.c) (A5 B) F G h⟩
noncomputable def KG(j B:List Ty)(g:(ay j).den→Option (ay B).den)(k:List Bk)(ts:List eF)(M:ts.foldr (λc p=>gu Tryz.prog c.f c.t c.args c.fn∧p) True){f:FuncId}{fn:Func}(F:Tryz.prog.funcs[f]?=some fn)(G:kW fn j B=true:=by kernel_rfl)(h:∀a,kX (k.map Bk.c++ts.map eF.gT) (lD (cx fn.ntmps ((k.map Bk.c).map iy) nd (jd ts (k.map Bk.c).length)) fn.results.toList (fp fn) j B) j B a=g a:=by intro a;kernel_rfl):Bk:=⟨⟨f,j,B,g⟩,xA (k.map Bk.c) ts (A5 k) M F G h⟩
noncomputable def qk(k B:List Ty)(j:List (Qk Tryz.prog))(ts:List (Tk Tryz.prog)){f:FuncId}{fn:Func}(F:Tryz.prog.funcs[f]?=some fn)(G:kW fn k B=true:=by kernel_rfl):Qk Tryz.prog:=⟨DS f (lD (cx fn.ntmps ((j.map λq=>q.r.c).map iy) nd (jd (ts.map Tk.t) (j.map λq=>q.r.c).length)) fn.results.toList (fp fn) k B) k B j ts,xA (j.map λq=>q.r.c) (ts.map Tk.t) (EF j) (IV ts) F G (λ_=>rfl)⟩
noncomputable def wA(j:Nat)(k:List gp)(fs:List (Nat×Func))(ts:List gr):Cx:={cx j k fs ts with lits:=true,gen:=true}
theorem LD(j:Nat)(k:List gp)(fs:List (Nat×Func))(ts:List gr):bb Tryz.prog BO (wA j k fs ts):=have h:=Bw j k fs ts;⟨h.ok,h.E,h.eq,h.sub,h.ty⟩
theorem Nt{f:FuncId}{fn:Func}{j k:List Ty}{g:(ay j).den→Option (ay k).den}(cs:List Sy.Callee)(ts:List eF)(B:cs.foldr (λc p=>eD Tryz.prog c∧p) True)(M:ts.foldr (λc p=>gu Tryz.prog c.f c.t c.args c.fn∧p) True)(F:Tryz.prog.funcs[f]?=some fn)(G:kW fn j k=true)(h:∀a,kX (cs++ts.map eF.gT) (lD (wA fn.ntmps (cs.map iy) tz (jd ts cs.length)) fn.results.toList (fp fn) j k) j k a=g a):eD Tryz.prog ⟨f,j,k,g⟩:=A9 (LD fn.ntmps (cs.map iy) tz (jd ts cs.length)) (Bd B M rfl rfl rfl) M8 rfl mixed F G h
noncomputable def yI(k B:List Ty)(j:List (Qk Tryz.prog))(ts:List (Tk Tryz.prog)){f:FuncId}{fn:Func}(F:Tryz.prog.funcs[f]?=some fn)(G:kW fn k B=true:=by kernel_rfl):Qk Tryz.prog:=⟨DS f (lD (wA fn.ntmps ((j.map λq=>q.r.c).map iy) tz (jd (ts.map Tk.t) (j.map λq=>q.r.c).length)) fn.results.toList (fp fn) k B) k B j ts,Nt (j.map λq=>q.r.c) (ts.map Tk.t) (EF j) (IV ts) F G (λ_=>rfl)⟩
end Go.Proofs.YtioaemdeeebgcaaGreatDoor
namespace Go.Proofs.YtioaemdeeebgcaaGreatDoor
open Go Go.af Go.Sy Go.RowKit Go.ChangeShapes Go.WideShapes
theorem own:ownKnob Tryz.prog.godebug=none:=by kernel_rfl
theorem laidOut:laidOutB Tryz.prog=true:=by kernel_rfl
theorem ox:od (λH=>Rows.uptoBulk (H:=H)) (λH=>Rows.uptoBulkAll (H:=H)) where
 str _ bs:=by simp[Rows.uptoBulk]
 sl _ a b:=by simp[Rows.uptoBulk]
 agg _ a:=by simp[Rows.uptoBulk]
 nil _:=by simp[Rows.uptoBulkAll]
 cons _ d r:=by simp[Rows.uptoBulkAll]
 one _ d:=by
  cases d with
  |lit l=>cases l<;>simp[Rows.uptoBulk]
  |_=>simp[Rows.uptoBulk]
theorem S5{H:Type}{en:TypeId×Value→H}{W:World}{base:Nat}{sp:Nat→Bool}{held:Bool}(b:Bool):DataW.Trod en Tryz.prog W base sp held 4 (.bool b) (.lit (.bool b)) []:=⟨1,by simp[DataW.trod,Value.cells,Tryz.underlying4]⟩
theorem KR{H:Type}{d:DataW H}{l:List (DataW H)}(h:d∈l):Rows.uptoBulk d≤Rows.uptoBulkAll l:=by
 induction l with
 |nil=>cases h
 |cons x r j=>
  simp only[Rows.uptoBulkAll]
  rcases List.mem_cons.1 h with e|e
  ·subst e;omega
  have:=j e;omega
theorem IA{H:Type}{ds:List (DataW H)}(h:Rows.uptoSmall H ds=true){d:DataW H}(j:d∈ds):Rows.uptoBulk d≤1048576:=by
 have k:Rows.uptoBulkAll ds≤1048576:=of_decide_eq_true h
 have:=KR j
 omega
theorem Cn:Tryz.prog.globalNamed "partbook/pitch.naturals" = some 0:=by kernel_rfl
theorem Mt:(Tryz.prog.globals[0]?).map (·.type)=some 396:=by kernel_rfl
theorem Lk:Tryz.prog.cellsOf 396=7:=by kernel_rfl
theorem Lg:Tryz.prog.cellsOf 3=1:=by kernel_rfl
def nT:List Int:=[0,2,4,5,7,9,11]
abbrev xB:List (String×DataW Unit):=[("errors.errorType",Rows.laid_errors_errorType),("partbook/pitch.naturals",Rows.laid_partbook_pitch_naturals)]
theorem table{W:World}(h:laidMetH Tryz.prog xB W):Lib.TabIs Tryz.prog W "partbook/pitch.naturals" .i64 nT:=
 Lib.tabIs_of_head (rest:=[]) Cn Mt Tryz.underlying396 Tryz.underlying3 Lg Lk (show laidMetH Tryz.prog [("partbook/pitch.naturals",Rows.laid_partbook_pitch_naturals)] W from laidMetH.filter (λx=>x.1 == "partbook/pitch.naturals") h)
theorem MR:(Tryz.prog.cutTypes.find? (·.1 == "internal/reflectlite.rtype")).map (·.2)=some 446:=by kernel_rfl
theorem MP:((List.range 506).filter λt=>Tryz.prog.rowNamed t [101,114,114,111,114])=[257]:=by kernel_rfl
theorem MQ:Tryz.prog.types.size=506:=by kernel_rfl
theorem MN:Tryz.prog.globalNamed "errors.errorType" = some 1:=by kernel_rfl
theorem MO:typeHandle Tryz.prog 257=.pointer (some ⟨2,257,none⟩):=by kernel_rfl
theorem handle{W:World}(h:laidMetH Tryz.prog xB W):W.cell? ⟨1,0,none⟩=some (.iface 446 (.agg #[.pointer (some ⟨2,257,none⟩)])):=by
 have O:=(laidMetH_iff.1 h).2
 obtain⟨U,u,ty,B,F,G,M,j⟩:=O ("errors.errorType",Rows.laid_errors_errorType) (List.mem_filter.2 ⟨by simp,rfl⟩)
 have en:U=[101,114,114,111,114]:=(Option.some.inj B).symm
 subst en
 obtain rfl:=Option.some.inj (MR.symm.trans F)
 have k:ty∈(List.range 506).filter λt=>Tryz.prog.rowNamed t [101,114,114,111,114]:=List.mem_filter.2 ⟨List.mem_range.2 (by rw[←MQ];exact G),M⟩
 rw[MP]at k
 obtain rfl:=List.mem_singleton.1 k
 rw[MO]at j
 simpa using World.var?_cell MN j 0
theorem c9[jO]{W:World}(h:laidMetH Tryz.prog xB W):∀g d,aL.eH g=some d→Rd (allI W) (.pointer (some ⟨g,0,none⟩)) (.box d):=by
 intro g d B
 by_cases U:g=0
 ·subst U
  have e:oK 0=some nT:=rfl
  have j:some (D.agg (nT.map (.int .i64)))=some d:=B
  injection j with j
  subst j
  have aa:=λi hi=>(table h).cell Cn i hi
  refine .box 0 _ (λk=>(W.cell? ⟨0,k,none⟩).getD undef) (λx F=>?_) (λk G=>?_) (λk x F=>?_)
  ·obtain⟨n,_,rfl⟩:=List.mem_map.1 (show x∈nT.map (D.int .i64)from F);rfl
  ·have M:k<nT.length:=by simpa [D.cells]using G
   show W.cell? ⟨0,k,none⟩=_
   rw[aa k M];rfl
  have ab:(nT.map (D.int .i64))[k]?=some x:=F
  rw[List.getElem?_map]at ab
  obtain⟨n,Z,rfl⟩:=Option.map_eq_some_iff.1 ab
  have M:k<nT.length:=(List.getElem?_eq_some_iff.1 Z).1
  rw[aa k M,List.getD_eq_getElem?_getD,Z]
  exact .int _ _
 have ad:Nat.beq g 0=false:=by
  cases h:Nat.beq g 0 with
  |false=>rfl
  |true=>exact absurd (Nat.eq_of_beq_eq_true h) U
 have e:oK g=none:=by simp only[oK,ad,cond_false]
 by_cases Y:g=1
 ·subst Y
  have j:some (D.iface 446 (.agg [.addr ⟨2,257,none⟩]))=some d:=B
  injection j with j
  subst j
  refine .box 1 _ (λ_=>.iface 446 (.agg #[.pointer (some ⟨2,257,none⟩)])) (λx F=>?_) (λk G=>?_) (λk x F=>?_)
  ·have:x=D.iface 446 (.agg [.addr ⟨2,257,none⟩]):=by simpa [D.cells]using F
   subst this;rfl
  ·have:k=0:=by simpa [D.cells]using G
   subst this
   exact handle h
  rcases k with _|k
  ·have:x=D.iface 446 (.agg [.addr ⟨2,257,none⟩]):=by simpa [D.cells]using F.symm
   subst this
   refine .iface _ _ _ (.agg _ _ rfl (λd B=>by
                            have:d=.addr ⟨2,257,none⟩:=by simpa using B
                            subst this;rfl) λi v d O B=>?_)
   rcases i with _|i
   ·simp at O B;subst O;subst B;exact .addr _
   simp at O
  simp[D.cells]at F
 have ae:Nat.beq g 1=false:=by
  cases h:Nat.beq g 1 with
  |false=>rfl
  |true=>exact absurd (Nat.eq_of_beq_eq_true h) Y
 have j:rM g=some d:=B
 unfold rM at j
 rw[e]at j
 simp only[ae,cond_false]at j
 cases j
end Go.Proofs.YtioaemdeeebgcaaGreatDoor
namespace Go.Proofs.YtioaemdeeebgcaaGreatDoor
open Go Go.af Go.Sy
variable [jO]
set_option maxRecDepth 100000
noncomputable def yn:Int→Option Int:=λ(j)=>ag (an (jz j)) <|some (max j (jz j))
noncomputable def gN:Nat→(Int×(Int×Unit))→Option Int
 |0=>λ_=>none
 |n+1=>λ(k,j,B)=>ab (aj j 0) (some k) (ag (!(aj j 0)) <|aa (gN n (j,((Int.tmod k j),B))) λF=>some F)
abbrev aG:List Ty:=[tI,tI,.self 119]
theorem kG:∀n,eD Tryz.prog ⟨119,aG,[tI],gN n⟩
 |0=>⟨Enters.of Tryz.func119 (by decide),(λa r h=>by cases h),λt h=>bx (List.all_eq_true.1 (rfl:aG.all cF=true) t h),λt h=>bx (List.all_eq_true.1 (rfl:[tI].all cF=true) t h)⟩
 |n+1=>(bk aG [tI] (gN (n+1)) [⟨_,kG n⟩] Tryz.func119).k
end Go.Proofs.YtioaemdeeebgcaaGreatDoor
