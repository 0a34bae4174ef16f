import Derived.Test.YtfhkmedbfiphbaaGreatDoorX4
import Derived.Lib.SliceRun
import Derived.ProofKit
import Derived.ChangeArms
import Derived.Deep.Slices
import Derived.Carry
set_option linter.all false
namespace Go.Sy
open Go Go.aj
class qE [aC] [bh]:Prop where
 fS:∀ g ls,aC.fS g=some ls→bh.l8 g=some (.agg (ls.map (.int .i64)))
variable [aC] [cZ] [cP] [dC] [bh] [qE] [cd]
theorem Xp {s:Tm}:∀ g ls,aC.fS g=some ls→bR s (.global g) = .bw ls.length [.agg (ls.map (.int .i64))] 0 0:=fun g ls h=>by
 simp only[bR,qE.fS g ls h,D.cells,List.length_map]
def dy (n:Nat) (ρ ρ':aO):Prop:=∀ i,i < n→lk ρ' i=lk ρ i
theorem dy.refl (n:Nat) (ρ:aO):dy n ρ ρ:=fun _ _=>rfl
theorem dy.trans {n m:Nat} {a b c:aO} (h:dy n a b) (k:dy m b c) (hm:n≤m):dy n a c:=fun i hi=>(k i (by omega)).trans (h i hi)
theorem dy.push {n m:Nat} (hm:n≤m) (ρ:aO) (v:Sy.V):dy n ρ ((m,v)::ρ):=fun i hi=>by
 simp only[lk,beq_false (by omega:m≠i),cond_false]
theorem dy.ext {n:Nat} {ρ ρ':aO} (h:dy n ρ ρ') (hb:fI n ρ):Ext ρ ρ':=fun i v hv=>by rw[h i (LD hb hv)];exact hv
theorem cU.Q6 {cs:List Callee} {n:Nat} {ρ ρ':aO} {is:List Ins} (h:cU cs n ρ is ρ'):dy n ρ ρ'∧n≤ir n is:=by
 induction h with
 | nil n ρ=>exact⟨.refl n ρ,Nat.le_refl _⟩
 | bT n ρ x r ρ' _ _ ih=>exact ih
 | get n ρ xs k r ρ' t l kk i e _ _ _ _ ih=>
  obtain⟨h1,h2⟩:=ih
  exact⟨(dy.push (Nat.le_refl n) ρ _).trans h1 (by omega),by simp only[ir];omega⟩
 | call n ρ c x r ρ' C a y _ _ _ _ ih=>
  obtain⟨h1,h2⟩:=ih
  exact⟨(dy.push (Nat.le_refl n) ρ _).trans h1 (by omega),by simp only[ir];omega⟩
theorem AJ {cs:List Callee} {t:Tr} {Q:LQ} {J:LJ}:∀ {is:List Ins} {n:Nat} {ρ:aO},Tr.wp cs (s5 t n is) ρ Q J→∃ ρ',cU cs n ρ is ρ'∧Tr.wp cs t ρ' Q J
 | [],n,ρ,h=>⟨ρ,.nil n ρ,h⟩
 | .bT x::r,n,ρ,⟨h1,h2⟩=>by
  obtain⟨ρ',k1,k2⟩:=AJ h2
  exact⟨ρ',.bT n ρ x r ρ' h1 k1,k2⟩
 | .get xs k::r,n,ρ,⟨u,l,kk,i,e,h1,h2,h3,h4⟩=>by
  obtain⟨ρ',k1,k2⟩:=AJ h4
  exact⟨ρ',.get n ρ xs k r ρ' u l kk i e h1 h2 h3 k1,k2⟩
 | .call c x::r,n,ρ,⟨C,a,y,h1,h2,h3,h4⟩=>by
  obtain⟨ρ',k1,k2⟩:=AJ h4
  exact⟨ρ',.call n ρ c x r ρ' C a y h1 h2 h3 k1,k2⟩
section
variable {P:Program} {V:Env} {C:Cx} {cs:List Callee} {n:Nat} {ops:List Oper}
def nv (P:Program) (n:Nat) (ops:List Oper) (o:Oper) (s:St) (K:St→Prop):Prop:=
 ∀ (w0:World) (I0:aw) (a:Act) (w:World) (Q:Exit→Act→World→Prop) (Kn:Act→World→Prop),Rel w0 I0 n s a w→(∀ s' a' w',K s'→Rel w0 I0 n s' a' w'→Kn a' w') →
  if Region.wanted o (yielded ops.toArray a.tmps)=true then o.wpIn eC 0 P a w Kn Q else(∀ f,o.about P w a.eval=some f→eC.fn f)∧Kn (a.put o.dst undef) w
def qB (P:Program) (n:Nat) (ops:List Oper):List Oper→St→(St→Prop)→Prop
 | [],s,K=>K s
 | o::r,s,K=>nv P n ops o s fun s'=>qB P n ops r s' K
theorem qB.wp {w0:World} {I0:aw} {Q:Exit→Act→World→Prop} {K:St→Prop} (hK:∀ s a w,K s→Rel w0 I0 n s a w→Q .normal a w):∀ (r:List Oper) (s:St) (a:Act) (w:World),Rel w0 I0 n s a w→qB P n ops r s K→wpListIn eC 0 P ops.toArray Q r a w
 | [],s,a,w,hr,h=>hK s a w h hr
 | o::r,s,a,w,hr,h=>by
  unfold wpListIn
  exact h w0 I0 a w Q _ hr fun s' a' w' h' ju=>qB.wp hK r s' a' w' ju h'
theorem Ce {o:Oper} {s:St} {K:St→Prop} {pc:PC} {t:T} {l':List AO} (hg:eJ ops s.t o.guard=some pc) (hp:holds pc) (mj:bV P o (bR s.t) s.l t l') (hd:eS n o.dst=true) (hK:K ⟨aY s.t o.dst t,l'⟩):nv P n ops o s K:=by
 intro w0 I0 a w Q Kn ah zN
 obtain⟨aK,I,m,hw,dY,ht⟩:=ah
 rw[if_pos ((tV ht hg).2 hp)]
 refine cz.wpIn mj.1 ((mj.2 w0 I0 w I m a.eval hw (fun x hx=>qN hw.sat.dA ht x)).mono fun v w' ⟨J,m',hle,eE,hv⟩=>?_)
 exact zN _ _ _ hK ⟨by cases o.dst<;>simp[Act.put,aK],J,m',eE,dY.put hle.eF,o5 aK hd (fun k=>(ht k).mono hle) hv⟩
theorem Xi {o:Oper} {s:St} {K:St→Prop} {pc:PC} (hg:eJ ops s.t o.guard=some pc) (hp:¬ holds pc) (hd:eS n o.dst=true) (hK:K ⟨aY s.t o.dst aj.gone,s.l⟩):nv P n ops o s K:=by
 intro w0 I0 a w Q Kn ah zN
 obtain⟨aK,I,m,hw,dY,ht⟩:=ah
 rw[if_neg (fun hh=>hp ((tV ht hg).1 hh))]
 exact⟨fun f _=>si f,zN _ _ _ hK ⟨by cases o.dst<;>simp[Act.put,aK],I,m,hw,dY.put (.refl I),o5 aK hd ht RJ⟩⟩
theorem tz {ρ:aO} {tX:List (Nat×TX)} {t:Tm} (h:∀ k,RX ρ (aT tX k) (aj.get t k)) (x:Operand):RX ρ (jD tX x) (bR t x):=by
 cases x with
 | tmp k=>exact h k
 | func f=>exact .d (.fn f) _ () (dF rfl) rfl
 | global g=>exact .undef _
 | const v=>
  show RX ρ (ID v) (zn v)
  unfold ID
  split
  ·exact .d .bool _ _ (dF rfl) rfl
  ·exact .d (.int _) _ _ (dF rfl) rfl
  ·rename_i s
   exact .d .str _ s (dF rfl) (by
    cases s with | mk d=>cases d with | mk l=>rfl)
  ·exact .bC 0
  ·exact .fp
  exact .undef _
theorem RN {ρ:aO} {σ:Sk} {s:St} {g:Option (Nat×Bool)} (h:∀ j b d,g=some (j,b)→(ops[j]?).bind (·.dst)=some d→RX ρ (aT σ.t d) (aj.get s.t d)) (hg:pG ops σ g = .yes):∃ pc,eJ ops s.t g=some pc∧holds pc:=by
 unfold pG at hg
 split at hg
 ·exact⟨[],rfl,trivial⟩
 rename_i j b
 split at hg
 ·rename_i d hd
  have hr:=h _ _ _ rfl hd
  split at hg
  ·rename_i c hc
   rw[hc] at hr
   obtain⟨c',h1,h2⟩:=kG hr
   have:c'=c:=(jO (h1.symm.trans (rfl:(X.bool c).den ρ=some ⟨.bool,c⟩)))
   subst this
   cases uS:(c' == b) with
   | true=>exact⟨[(j,c',b)],by simp only[eJ,hd,h2],by simpa using uS,trivial⟩
   | false=>simp[uS] at hg
  ·cases hg
  ·cases hg
  cases hg
 cases hg
theorem RM {ρ:aO} {σ:Sk} {s:St} {g:Option (Nat×Bool)} (h:∀ j b d,g=some (j,b)→(ops[j]?).bind (·.dst)=some d→RX ρ (aT σ.t d) (aj.get s.t d)) (hg:pG ops σ g = .no):∃ pc,eJ ops s.t g=some pc∧¬ holds pc:=by
 unfold pG at hg
 split at hg
 ·cases hg
 rename_i j b
 split at hg
 ·rename_i d hd
  have hr:=h _ _ _ rfl hd
  split at hg
  ·rename_i c hc
   rw[hc] at hr
   obtain⟨c',h1,h2⟩:=kG hr
   have:c'=c:=(jO (h1.symm.trans (rfl:(X.bool c).den ρ=some ⟨.bool,c⟩)))
   subst this
   cases uS:(c' == b) with
   | true=>simp[uS] at hg
   | false=>exact⟨[(j,c',b)],by simp only[eJ,hd,h2],fun hh=>by have:=hh.1;simp[this] at uS⟩
  ·cases hg
  ·rename_i hc
   rw[hc] at hr
   have h2:=Jv hr
   exact⟨[(0,true,false)],by simp only[eJ,hd,h2,aj.gone],fun hh=>by cases hh.1⟩
  cases hg
 cases hg
theorem aa4 {ρ:aO} {σ:Sk} {s:St} (h:ba ρ σ s) {g:Option (Nat×Bool)} {x:X} {b:Bool} (hg:pG ops σ g = .ask x b) {c:Bool} (hx:x.den ρ=some ⟨.bool,c⟩):∃ pc,eJ ops s.t g=some pc∧(holds pc↔c=b):=by
 unfold pG at hg
 split at hg
 ·cases hg
 rename_i j b'
 split at hg
 ·rename_i d hd
  have hr:=h.t d
  split at hg
  ·rename_i c' hc
   cases uS:(c' == b')<;>simp[uS] at hg
  ·rename_i x' _ hc
   injection hg with e1 e2
   subst e1;subst e2
   rw[hc] at hr
   obtain⟨c',h1,h2⟩:=kG hr
   have:c=c':=jO (hx.symm.trans h1)
   subst this
   exact⟨[(j,c,b')],by simp only[eJ,hd,h2],⟨fun hh=>hh.1,fun hh=>⟨hh,trivial⟩⟩⟩
  ·cases hg
  cases hg
 cases hg
theorem QH {ρ:aO} {σ:Sk} {s:St} (h:ba ρ σ s) {x:X} {c:Bool} (hx:x.den ρ=some ⟨.bool,c⟩):ba ρ (σ.decide x c) s:=by
 refine⟨h.fT,fun k=>?_,h.l⟩
 show RX ρ (aT (qL x c σ.t) k) _
 have hk:=h.t k
 generalize aj.get s.t k=u at hk
 have key:∀ t:List (Nat×TX),RX ρ (aT t k) u→RX ρ (aT (qL x c t) k) u:=by
  intro t
  induction t with
  | nil=>intro h;exact h
  | cons p r ih=>
   intro h
   obtain⟨j,y⟩:=p
   by_cases hy:∃ z,y = .d .bool z
   ·obtain⟨z,rfl⟩:=hy
    simp only[qL,aT] at h ⊢
    cases hj:Nat.beq j k with
    | false=>rw[hj] at h;exact ih h
    | true=>
     rw[hj] at h
     simp only[cond_true] at h ⊢
     cases hb:X.beq x z with
     | false=>exact h
     | true=>
      have:=X.beq_eq hb
      subst this
      obtain⟨c',h1,h2⟩:=kG h
      have:c=c':=jO (hx.symm.trans h1)
      subst this
      rw[h2]
      exact gR rfl
   have:qL x c ((j,y)::r)=(j,y)::qL x c r:=by
    cases y with
    | d t z=>cases t<;>first | rfl | exact absurd ⟨_,rfl⟩ hy
    | _=>rfl
   rw[this]
   simp only[aT] at h ⊢
   cases hj:Nat.beq j k with
   | false=>rw[hj] at h;exact ih h
   | true=>rw[hj] at h;exact h
 exact key σ.t hk
theorem MT {ρ:aO} {tX:List (Nat×TX)} {t:Tm} (h:∀ k,RX ρ (aT tX k) (aj.get t k)) {dst:Option Nat} {x:TX} {u:T} (hx:RX ρ x u):∀ k,RX ρ (aT (kA tX dst x) k) (aj.get (aY t dst u) k):=by
 intro k
 cases dst with
 | none=>exact h k
 | some d=>
  show RX ρ (bif Nat.beq d k then x else aT tX k) (if d=k then u else aj.get t k)
  by_cases hd:d=k
  ·subst hd;rw[if_pos rfl,Nat.beq_refl];exact hx
  rw[if_neg hd,beq_false hd];exact h k
def N1 (P:Program) (cs:List Callee) (n:Nat) (ops:List Oper) (H:CC) (σ:Sk) (ρ:aO):Prop:=
 ∀ (o:Oper) (m:Nat) (F:(TX→Sk→Tr)→Tr) (s:St) (Q:LQ) (J:LJ) (K:TX→Sk→Tr) (Kd:St→Prop) (pc:PC),H o m σ=some F→ba ρ σ s→gw Q→eS n o.dst=true→eJ ops s.t o.guard=some pc→holds pc→Tr.wp cs (F K) ρ Q J →
  (∀ x τ ρ' J' u s',Tr.wp cs (K x τ) ρ' Q J'→dy σ.n ρ ρ'→σ.n≤τ.n→ba ρ' τ s'→RX ρ' x u→Kd ⟨aY s'.t o.dst u,s'.l⟩)→nv P n ops o s Kd
theorem G1 (hC:ck P V C) (aR:kB P C cs) (hn:C.nt=n) {H:CC} {live:Nat} {K:St→Prop} {Q:LQ} (hQ:gw Q) {n0:Nat} {ρ0:aO} (hH:∀ σ ρ,dy n0 ρ0 ρ→n0≤σ.n→N1 P cs n ops H σ ρ):∀ (r:List Oper) {σ:Sk} {ρ:aO} {s:St} {J:LJ},dy n0 ρ0 ρ→n0≤σ.n→ba ρ σ s→Tr.wp cs (o8 C H live ops r σ) ρ Q J →
  (∀ bE ρ' J',Q .normal bE ρ' J'→dy σ.n ρ ρ'→σ.n≤bE.n→∀ s',ba ρ' bE s'→K s')→qB P n ops r s K
 | [],σ,ρ,s,J,_,_,h,hw,hK=>hK σ ρ J hw (.refl _ _) (Nat.le_refl _) s h
 | o::r,σ,ρ,s,J,sW,D9,h,hw,hK=>by
  have lv:∀ {σ1:Sk} {pc:PC},σ1.n=σ.n→ba ρ σ1 s→eJ ops s.t o.guard=some pc→holds pc→Tr.wp cs (bif !eS C.nt o.dst then .bad 15 else match dK C (jD σ1.t) σ1.l σ1.n σ1.l.length o with | some q=>s5 (o8 C H live ops r (wX σ1 o.dst q)) σ1.n q.ins | none=>match H o (Uv live ops r) σ1 with | some F=>F fun x τ=>o8 C H live ops r ⟨τ.n,kA τ.t o.dst x,τ.l⟩ | none=> .bad (30000+o.dst.getD 9999)) ρ Q J→qB P n ops (o::r) s K:=by
   intro σ1 pc eL h1 hg hp hw
   cases hd:eS C.nt o.dst with
   | false=>rw[hd] at hw;exact hw.elim
   | true=>
    rw[hd] at hw
    simp only[Bool.not_true,cond_false] at hw
    rw[hn] at hd
    split at hw
    ·rename_i q hq
     obtain⟨ρ',hi,hw⟩:=AJ hw
     obtain⟨he,hb⟩:=hi.ext h1.fT
     obtain⟨hZ,hle⟩:=hi.Q6
     have hlen:σ1.l.length=s.l.length:=h1.l.len
     obtain⟨t,ht,hm⟩:=Q2 (ρT:=bR s.t) hC aR h1.l (fun x _=>tz h1.t x) Xp he hq hi
     have fin:∀ (l':List AO),bV P o (bR s.t) s.l t l'→RL ρ' (match q.bn with | .none=>σ1.l | .new a=>σ1.l++[a] | .aP l'=>l') l'→qB P n ops (o::r) s K:=by
      intro l' mj hl
      refine Ce hg hp mj hd ?_
      refine G1 hC aR hn hQ hH r (σ:=wX σ1 o.dst q) (sW.trans hZ (by omega)) (show n0≤ir σ1.n q.ins by omega) ⟨hb,MT (fun k=>(h1.t k).mono he) ht,hl⟩ hw ?_
      intro bE mJ J' pH hx dQ s' bl
      have dQ:ir σ1.n q.ins≤bE.n:=dQ
      have hx:dy (ir σ1.n q.ins) ρ' mJ:=hx
      exact hK bE mJ J' pH (by rw[←eL];exact hZ.trans hx hle) (by omega) s' bl
     split at hm
     ·rename_i dc;rw[dc] at fin;exact fin _ hm (h1.l.mono he)
     ·rename_i a dc
      obtain⟨a',k1,k2,_⟩:=hm
      rw[dc] at fin
      exact fin _ (k2 hlen) (F2.app (h1.l.mono he) (.cons k1 .nil))
     rename_i l1 dc
     obtain⟨l',k1,k2⟩:=hm
     rw[dc] at fin
     exact fin l' (k2 hlen) k1
    split at hw
    ·rename_i F hF
     refine hH σ1 ρ sW (by omega) o _ F s Q J _ _ pc hF h1 hQ hd hg hp hw ?_
     intro x τ ρ' J' u s' eE he hle bl hu
     refine G1 hC aR hn hQ hH r (σ:=⟨τ.n,kA τ.t o.dst x,τ.l⟩) (sW.trans he (by omega)) (show n0≤τ.n by omega) ⟨bl.fT,MT bl.t hu,bl.l⟩ eE ?_
     intro bE mJ wU pH hx dQ qn rf
     have dQ:τ.n≤bE.n:=dQ
     have hx:dy τ.n ρ' mJ:=hx
     exact hK bE mJ wU pH (by rw[←eL];exact he.trans hx hle) (by omega) qn rf
    exact hw.elim
  have skip:∀ {σ1:Sk} {pc:PC},σ1.n=σ.n→ba ρ σ1 s→eJ ops s.t o.guard=some pc→¬ holds pc→Tr.wp cs (bif !eS C.nt o.dst then .bad 16 else o8 C H live ops r { σ1 with t:=kA σ1.t o.dst .gone }) ρ Q J→qB P n ops (o::r) s K:=by
   intro σ1 pc eL h1 hg hp hw
   cases hd:eS C.nt o.dst with
   | false=>rw[hd] at hw;exact hw.elim
   | true=>
    rw[hd] at hw
    simp only[Bool.not_true,cond_false] at hw
    rw[hn] at hd
    refine Xi hg hp hd ?_
    refine G1 hC aR hn hQ hH r (σ:={ σ1 with t:=kA σ1.t o.dst .gone }) sW (show n0≤σ1.n by omega) ⟨h1.fT,MT h1.t .gone,h1.l⟩ hw ?_
    intro bE ρ' J' hQ hx hl s' bl
    exact hK bE ρ' J' hQ (by rw[←eL];exact hx) (by rw[←eL];exact hl) s' bl
  simp only[o8] at hw
  split at hw
  ·rename_i hg
   obtain⟨pc,g1,g2⟩:=RN (fun _ _ d _ _=>h.t d) hg
   exact lv rfl h g1 g2 hw
  ·rename_i hg
   obtain⟨pc,g1,g2⟩:=RM (fun _ _ d _ _=>h.t d) hg
   exact skip rfl h g1 g2 hw
  ·rename_i x b hg
   obtain⟨c,h1,h2,h3⟩:=hw
   obtain⟨pc,g1,g2⟩:=aa4 h hg h1
   have hd:=QH h h1
   cases c with
   | true=>
    have h2:=h2 rfl
    cases b with
    | true=>exact lv (σ1:=σ.decide x true) rfl hd g1 (g2.2 rfl) h2
    | false=>exact skip (σ1:=σ.decide x true) rfl hd g1 (fun hh=>by cases g2.1 hh) h2
   | false=>
    have h3:=h3 rfl
    cases b with
    | true=>exact skip (σ1:=σ.decide x false) rfl hd g1 (fun hh=>by cases g2.1 hh) h3
    | false=>exact lv (σ1:=σ.decide x false) rfl hd g1 (g2.2 rfl) h3
  exact hw.elim
end
end Go.Sy
namespace Go.aj
open Go Go.RowKit
variable [bh] [cd]
section
variable {P:Program} {V:Env} {w0 w:World} {I0 I:aw} {m:Nat→Value} {l:List AO} {n:Nat} {Q:Exit→St→Prop} {s:St}
def uc (P:Program) (g:FuncId) (ts:List T) (l:List AO) (ft:Tm) (K:T→List AO→Prop):Prop:=
 Enters P g∧∀ (w0:World) (I0:aw) (w:World) (I:aw) (m:Nat→Value) (args:Array Value) (vals:Nat→Value),aF w0 I0 w I m l→args.size=ts.length→(∀ (i:Nat) v x,args[i]?=some v→ts[i]?=some x→aq I m l v x)→(∀ k,aq I m l (vals k) (aj.get ft k)) →
  Calls P g args w fun e w'=>∃ v,e = .returned v∧∃ t l' J m',K t l'∧aF w0 I0 w' J m' l'∧aq J m' l' v t∧(∀ b,I.df b→J.df b)∧∀ k,aq J m' l' (vals k) (aj.get ft k)
theorem uc.of {f:FuncId} {fn:Func} {c:Code} {ts:List T} {l:List AO} {ft:Tm} {K:T→List AO→Prop} (hV:dI P V) (hZ:Enters P f) (hf:P.funcs[f]?=some fn) (hb:fn.body=some c) (hn:ts.length≤fn.ntmps)
  (h:∀ (R:cd),R.r=none→∀ w0 I0 vals (Q:Exit→St→Prop),(∀ e s2,(e = .ret∨e = .normal)→wV V s2 fn.results.toList l.length vals ft K→Q e s2)→aV P w0 I0 fn.ntmps c ⟨nr 0 ts,l++[.frame l.length vals ft]⟩ Q):uc P f ts l ft K:=by
 refine⟨hZ,fun w0 I0 w I m args vals ah hlen c9 qW=>?_⟩
 let R:cd:=⟨none,I.df⟩
 refine Ip (R:=fun e w'=>∃ v,e = .returned v∧∃ t l' J m',K t l'∧aF w0 I0 w' J m' l'∧aq J m' l' v t∧(∀ b,I.df b→J.df b)∧∀ k,aq J m' l' (vals k) (get ft k)) rfl hf hb ?_
 have pS:aF w0 I0 w I (aP m l.length (.bool false)) (l++[.frame l.length vals ft])∧Le I m l I (aP m l.length (.bool false)) (l++[.frame l.length vals ft]):=by
  have bF:∀ k,k < l.length→(l++[AO.frame l.length vals ft])[k]?=l[k]?:=fun k hk=>List.getElem?_append_left hk
  have lI:(l++[AO.frame l.length vals ft])[l.length]?=some (.frame l.length vals ft):=by simp
  have hle:Le I m l I (aP m l.length (.bool false)) (l++[.frame l.length vals ft]):=by
   refine⟨.refl I,by simp,fun id an hv=>⟨?_,cO m _ (by omega)⟩,fun id an hr=>⟨?_,cO m _ (by omega)⟩,fun id e' s' els' an hh=>⟨els',?_⟩⟩
   ·unfold isVar at hv ⊢;rw[bF id an];exact hv
   ·unfold isRow at hr ⊢;rw[bF id an] at hr;exact hr
   rw[bF id an] at hh;exact hh
  have cW:∀ k,k≠l.length→alive (l++[AO.frame l.length vals ft]) k=true→alive l k=true:=by
   intro k hk ha
   obtain⟨o,ho,hd⟩:=bN.1 ha
   have fL:k < l.length:=by have:=(List.getElem?_eq_some_iff.1 ho).1;simp at this;omega
   rw[bF k fL] at ho
   exact bN.2 ⟨o,ho,hd⟩
  refine⟨⟨ah.below,ah.sat,ah.ext,fun id o ho=>?_,fun i j b cm hi hj cI cJ=>?_⟩,hle⟩
  ·by_cases an:id < l.length
   ·rw[bF id an] at ho;rw[cO m _ (by omega)]
    by_cases hd:o = .dead
    ·subst hd;trivial
    exact(ah.obj id o ho).iZ hle (fun _ _=>rfl) (fun _ _=>⟨rfl,rfl⟩)
   have:id=l.length:=by
    have:=(List.getElem?_eq_some_iff.1 ho).1;simp at this;omega
   subst this
   rw[lI] at ho;injection ho with ho;subst ho
   rw[fH]
   refine⟨rfl,by simp,fun k=>?_⟩
   have e:(l++[AO.frame l.length vals ft]).take l.length=l:=by simp
   rw[e]
   refine(qW k).mono ⟨.refl I,Nat.le_refl _,fun id an hv=>⟨hv,cO m _ (by omega)⟩,fun id an hr=>⟨hr,cO m _ (by omega)⟩,fun id e' s' els' an hh=>⟨els',hh⟩⟩
  by_cases h1:i=l.length
  ·subst h1;rw[fH] at cI;cases cI
  by_cases h2:j=l.length
  ·subst h2;rw[fH] at cJ;cases cJ
  rw[cO m _ h1] at cI;rw[cO m _ h2] at cJ
  exact ah.sep i j b cm (cW i h1 hi) (cW j h2 hj) cI cJ
 obtain⟨pS,hle⟩:=pS
 have vg:Rel w0 I0 fn.ntmps ⟨nr 0 ts,l++[.frame l.length vals ft]⟩ { tmps:=args++Array.replicate (fn.ntmps - args.size) undef,defers:=[] } w:=by
  refine⟨by simp;omega,I,_,pS,fJ.nil fun _ h=>h,fun k=>?_⟩
  rw[Nl]
  simp only[Nat.zero_le,if_true,Nat.sub_zero]
  cases hd:ts[k]? with
  | none=>exact .undef _
  | some d=>
   have hk:k < args.size:=by rw[hlen];exact(List.getElem?_eq_some_iff.1 hd).1
   have hv:args[k]?=some args[k]:=Array.getElem?_eq_getElem hk
   have:(args++Array.replicate (fn.ntmps - args.size) undef).getD k undef=args[k]:=by
    rw[Array.getD_eq_getD_getElem?,Array.getElem?_append_left hk,hv];rfl
   rw[this]
   exact(c9 k _ d hv hd).mono hle
 refine Code.wpIn_mono (fun e a w1 ⟨s2,⟨he,s3,mS,ae,eK,hk⟩,hr⟩=>?_) (h R rfl w0 I0 vals (fun e s2=>(e = .ret∨e = .normal)∧wV V s2 fn.results.toList l.length vals ft K) (fun e s2 he hx=>⟨he,hx⟩) _ _ vg)
 obtain⟨_,J1,m',j0,dY,vh⟩:=mS _ _ _ _ _ hr
 obtain⟨w',J,hw,Ab,z6,dM⟩:=IQ (P:=P) (fn:=fn) (a:=a) he j0 dY
 refine dM _ ?_
 have ht:∀ k,aq J m' s3.l (a.tmps.getD k undef) (get s3.t k):=fun k=>z6 _ _ (vh k)
 obtain⟨jH,q1,q2,q3⟩:=GW (P:=P) hV.E hw ht fn.results.toList ae
 have bP:(results fn a.tmps).run P w' = .ok (if h:jH.length=1 then jH[0] else .tuple jH.toArray) w':=by
  rw[M7]
  simp only[Sem.run_bind,Array.mapM_eq_mapM_toList,Sem.run_map,q1,Result.andThen_ok,Sem.run_pure]
  simp
 have mh:=hw.obj _ _ eK
 refine⟨_,bP,_,rfl,_,_,J,m',hk,hw,?_,Ab,fun k=>(mh.2.2 k).mono (Le.Ht J m' s3.l l.length)⟩
 have dQ:jH.length=(fn.results.toList.map fun v=>(jF V s3 v).1).length:=by simp[q2]
 generalize (fn.results.toList.map fun v=>(jF V s3 v).1)=tl at dQ q3
 match tl,dQ with
 | [t],dQ=>
  have J8:jH.length=1:=dQ
  rw[dif_pos J8]
  exact q3 0 _ t (List.getElem?_eq_getElem (by omega)) rfl
 | [],dQ=>
  rw[dif_neg (by simp at dQ;simp[dQ])]
  exact .aI _ _ (by simpa using dQ) (fun i v d hv hd=>q3 i v d (by simpa using hv) hd)
 | t1::t2::tr,dQ=>
  rw[dif_neg (by rw[dQ];simp)]
  exact .aI _ _ (by simpa using dQ) (fun i v d hv hd=>q3 i v d (by simpa using hv) hd)
theorem ahp (lK:cd.r=none) {g:Operand} {ps:Array Tmp} {assign body:Code} {gf:FuncId} {cV:List T} (hc:zm (bR s.t g)=some (gf,cV))
  (h:∀ N,aj.get s.t N = .undef→uc P gf (.bd s.l.length::cV) (s.l++[.loop s.l.length n ps assign body s.t .ready none]) ((N,.bd s.l.length)::s.t) fun _ l'=>N7 P w0 I0 n Q s s.l.length l') :
  aV P w0 I0 n (.rangeFunc g ps assign body) s Q:=fun a w hr=>by
 obtain⟨aK,I,m,hw,dY,ht⟩:=hr
 obtain⟨vs,hgv,Ep,JF⟩:=Zx (qN hw.sat.dA ht g) hc
 obtain⟨N,hN⟩:=RH s.t
 obtain⟨hZ,zW⟩:=h N hN
 refine wpIn_rangeFunc ?_
 intro fn ic
 have abY:eC.round=none:=lK
 rw[abY]
 obtain⟨J,j0,D4,hJD,hID⟩:=hw.Yd
 obtain⟨rec,nR⟩:∃ rec:Loop,rec={ state:= .ready,pending:=none,fn,tmps:=a.tmps,params:=ps,assign,body,defers:=w.heap.size }:=⟨_,rfl⟩
 have fo:((w.alloc (.deferred (some []))).alloc (.loop rec)).heap[w.heap.size+1]?=some (.loop rec):=by
  have:=World.alloc_heap_new (w.alloc (.deferred (some []))) (.loop rec);rwa [World.size_alloc] at this
 have bS:=j0.sat.eZ (b:=w.heap.size+1) (by simp)
 have cr:jM w0.heap.size ((w.alloc (.deferred (some []))).alloc (.loop rec)) J (aP m s.l.length (.func (.yield (w.heap.size+1)) #[] #[])) (s.l++[.loop s.l.length n ps assign body s.t .ready none]) (.func (.yield (w.heap.size+1)) #[] #[]) (.loop s.l.length n ps assign body s.t .ready none):=by
  refine⟨w.heap.size+1,rec,rfl,?_,fo,?_,by simp,fun k=>?_,bS⟩
  ·have:=hw.below.size;omega
  ·rw[nR];exact⟨rfl,rfl,rfl,rfl,rfl,aK⟩
  have e:(s.l++[AO.loop s.l.length n ps assign body s.t .ready none]).take s.l.length=s.l:=by simp
  rw[e,nR]
  exact((ht k).mono D4).mono ⟨.refl J,Nat.le_refl _,fun id an hv=>⟨hv,cO m _ (by omega)⟩,fun id an hr=>⟨hr,cO m _ (by omega)⟩,fun id e' s' els' an hh=>⟨els',hh⟩⟩
 have DX:World.grownBy (w.alloc (.deferred (some []))) ((w.alloc (.deferred (some []))).alloc (.loop rec)) none:=World.grownBy_alloc _ _ _
 obtain⟨iV,nT⟩:=j0.GC (b0:=w.heap.size+1) rfl (by simp) DX (Nat.le_refl _) (by simp) cr
 have S8:aq J (aP m s.l.length (.func (.yield (w.heap.size+1)) #[] #[])) (s.l++[.loop s.l.length n ps assign body s.t .ready none]) (.func (.yield (w.heap.size+1)) #[] #[]) (.bd s.l.length):=
  .bd _ _ (by simp[isVar,AO.isVar]) (fH m _ _)
 refine⟨w.heap.size+1,[mark w.heap.size],(w.alloc (.deferred (some []))).alloc (.loop rec),{ target:= .fn (.func gf) vs,args:= #[.func (.yield (w.heap.size+1)) #[] #[]] },(w.alloc (.deferred (some []))).alloc (.loop rec),gf,
  #[.func (.yield (w.heap.size+1)) #[] #[]]++vs,(w.alloc (.deferred (some []))).alloc (.loop rec),?_,?_,fun f' _=>si f',?_,fun h=>by simp[eC,Fence.wide] at h,?_⟩
 ·rw[nR];exact run_enterLoop_outer _ _ _ _ _
 ·simp only[resolve,hgv]
  simp[go_sem]
 ·simp[invoke,hZ _ _]
 refine Qn ?_ _
 have hA:∀ (i:Nat) v x,(#[Value.func (.yield (w.heap.size+1)) #[] #[]]++vs)[i]?=some v→(T.bd s.l.length::cV)[i]?=some x→aq J (aP m s.l.length (.func (.yield (w.heap.size+1)) #[] #[])) (s.l++[.loop s.l.length n ps assign body s.t .ready none]) v x:=fun i v x hv hx=>by
  rcases i with _ | i
  ·rw[Array.getElem?_append_left (by simp)] at hv
   simp at hv hx;subst hv;subst hx;exact S8
  have bQ:vs[i]?=some v:=by
   rw[Array.getElem?_append_right (by simp)] at hv
   simpa using hv
  simp at hx
  exact((JF i v x bQ hx).mono D4).mono iV
 have hB:∀ k,aq J (aP m s.l.length (.func (.yield (w.heap.size+1)) #[] #[])) (s.l++[.loop s.l.length n ps assign body s.t .ready none]) (if k=N then .func (.yield (w.heap.size+1)) #[] #[] else a.tmps.getD k undef) (get ((N,.bd s.l.length)::s.t) k):=fun k=>by
  simp only[get]
  by_cases hk:N=k
  ·subst hk;simp only[if_true];exact S8
  rw[if_neg hk,if_neg (Ne.symm hk)]
  exact((ht k).mono D4).mono iV
 have hC:=zW w0 I0 _ J _ (#[Value.func (.yield (w.heap.size+1)) #[] #[]]++vs) (fun k=>if k=N then .func (.yield (w.heap.size+1)) #[] #[] else a.tmps.getD k undef) nT (by simp[Ep];omega) hA hB
 refine hC.mono ?_
 rintro e w' ⟨v,rfl,t,l',J',m',hk,eE,hv,zZ,Ei⟩
 obtain⟨base,k,tM,bp,YE,tm,st,eu,fB,c7,R9⟩:=hk
 have hy:=Ei N
 simp only[get,if_true] at hy
 have D8:m' s.l.length = .func (.yield (w.heap.size+1)) #[] #[]:=by
  cases hy with
  | bd _ _ _ h2=>exact h2
 obtain⟨r,q1,q2,q3,q4,q5,q6⟩:=eE.Hk (st':= .exhausted) (pend':=eu) fB D8
 have dM:=run_endLoop (P:=P) q1 (by rw[q2.1];exact c7)
 have ju:r.pending=eu:=q2.2.1
 refine⟨eu,_,by rw[←ju];exact dM,?_⟩
 have pS:Rel w0 I0 n ⟨s.t,l'.set s.l.length (.loop base k tM bp YE tm .exhausted eu)⟩ { a with defers:=[mark w.heap.size]++a.defers } (w'.putObj (w.heap.size+1) (.loop { r with state:= .exhausted })):=by
  refine⟨aK,J',m',?_,?_,fun k=>?_⟩
  ·have:({ r with state:= .exhausted }:Loop)={ r with state:= .exhausted,pending:=eu }:=by rw[←ju]
   rw[this];exact q6
  ·refine fJ.vQ (I:=J) (fJ.cons (dY.vQ (J:=I) fun _ h=>h) (fun b hb=>D4.eF.df b hb) (by exact hw.below.size) hID hJD) zZ
  have:=Ei k
  simp only[get] at this
  by_cases hk:N=k
  ·subst hk
   rw[hN];exact .undef _
  rw[if_neg hk,if_neg (Ne.symm hk)] at this
  exact this.mono q5
 cases eu with
 | none=>exact⟨_,R9,pS⟩
 | some c=>exact R9 _ _ pS
end
end Go.aj
namespace Go.Sy
open Go Go.aj Go.RowKit
variable [bh] [cd]
section
variable [aC] [cP] [dC]
variable {P:Program} {V:Env} {n:Nat} {ops:List Oper}
theorem ait {o:Oper} {s:St} {K:St→Prop} {pc:PC} {g:FuncId} {ts:List T} {ft:Tm} (hg:eJ ops s.t o.guard=some pc) (hp:holds pc) (hd:eS n o.dst=true) (hc:eO V.E (bR s.t) o=some (g,ts)) (qW:∀ k,aj.get ft k = .undef∨aj.get ft k=aj.get s.t k)
  (h:uc P g ts s.l ft fun u l'=>K ⟨aY ft o.dst u,l'⟩):nv P n ops o s K:=by
 intro w0 I0 a w Q Kn ah hK
 obtain⟨aK,I,m,hw,dY,ht⟩:=ah
 rw[if_pos ((tV ht hg).2 hp)]
 refine cz.wpIn (xf hc) ?_
 obtain⟨args,bP,hlen,c9⟩:=su (P:=P) (w:=w) (ρ:=a.eval) h.1 (fun x _=>qN hw.sat.dA ht x) hc
 rw[bP]
 simp only[cz]
 refine(h.2 w0 I0 w I m args (fun k=>a.tmps.getD k undef) hw hlen c9 fun k=>?_).mono ?_
 ·rcases qW k with e | e
  ·rw[e];exact .undef _
  rw[e];exact ht k
 rintro e w' ⟨v,he,t,l',J,m',k1,k2,k3,k5,k4⟩
 exact⟨v,he,hK _ _ _ k1 ⟨by cases o.dst<;>simp[Act.put,aK],J,m',k2,dY.GG k5,o5 aK hd k4 k3⟩⟩
theorem aiv {o:Oper} {s:St} {K:St→Prop} {pc:PC} {id base k:Nat} {ts:List T} {ps:Array Tmp} {bp body:Code} {tm ft:Tm} (hg:eJ ops s.t o.guard=some pc) (hp:holds pc) (hd:eS n o.dst=true) (hy:tY V.E (bR s.t) o=some (id,ts)) (qW:∀ k,aj.get ft k = .undef∨aj.get ft k=aj.get s.t k)
  (hl:s.l[id]?=some (.loop base k ps bp body tm .ready none)) (iH:ps.size=ts.length) (Kp:ps.toList.all (fun p=>decide (p < k))=true)
  (
   h:∀ (R:cd) (w0:World) (I0:aw) (N:Nat) (vals:Nat→Value) (Q:Exit→St→Prop),aj.get ft N = .undef→(∀ e jump s2,EJ e=some jump→N3 s2 s.l.length vals ((N,.bd id)::ft) id base k ps bp body tm jump (fun l'=>K ⟨aY ft o.dst (.d (.bool jump.isNone)),l'⟩)→Q e s2) →
   @aV _ R P w0 I0 k bp ⟨tR ps.toList ts tm,s.l++[.frame s.l.length vals ((N,.bd id)::ft)]⟩ (Vr fun s1=>∃ s2,Sub s1 s2∧s2.l[s.l.length]?=some (.frame s.l.length vals ((N,.bd id)::ft))∧s2.l[id]?=some (.loop base k ps bp body tm .ready none)∧@aV _ R P w0 I0 k body ⟨s2.t,s2.l.set id (.loop base k ps bp body tm .busy none)⟩ Q)):nv P n ops o s K:=by
 intro w0 I0 a w Q Kn ah hK
 obtain⟨aK,I,m,hw,dY,ht⟩:=ah
 rw[if_pos ((tV ht hg).2 hp)]
 obtain⟨b,args,f,hfm,Sl,hfT,D8,bP,hlen,c9⟩:=ajq (P:=P) (w:=w) (ρ:=a.eval) (fun x _=>qN hw.sat.dA ht x) hy
 obtain⟨rec,hb,nR,pJ,xG,_,_⟩:=hw.Hk (st':= .ready) (pend':=none) hl D8
 obtain⟨c7,nO,Al,has,kN,SX⟩:=nR
 obtain⟨N,hN⟩:=RH ft
 generalize KG:(fun j=>if j=N then Value.func (.yield b) #[] #[] else a.tmps.getD j undef)=vals
 have dO:aj.isVar s.l id=true:=by unfold aj.isVar;rw[hl];rfl
 have Ei:∀ j,aq I m s.l (vals j) (aj.get ((N,.bd id)::ft) j):=fun j=>by
  rw[←KG]
  simp only[aj.get]
  by_cases hj:N=j
  ·subst hj;simp only[if_true]
   exact .bd id b dO D8
  rw[if_neg hj,if_neg (Ne.symm hj)]
  rcases qW j with e | e
  ·rw[e];exact .undef _
  rw[e];exact ht j
 have an:∀ {I1:aw} {m1:Nat→Value} {w1:World} {l1:List AO},aF w0 I0 w1 I1 m1 l1→l1[s.l.length]?=some (.frame s.l.length vals ((N,.bd id)::ft))→m1 id = .func (.yield b) #[] #[]:=fun {I1 m1 w1 l1} j0 hf1=>by
  have h1:=(j0.obj _ _ hf1).2.2 N
  rw[←KG] at h1
  simp only[if_true,aj.get] at h1
  cases h1 with
  | bd _ _ _ h2=>exact h2
 unfold Oper.wpIn
 refine⟨fun _ _=>si _,?_⟩
 rw[Oper.semAt_eq _ _ _ (ajp hy),bP,run_yield hb (by rw[Al,hlen,iH]),Oper.uponIn_round]
 refine⟨fun h=>by simp[eC,Fence.wide] at h,?_⟩
 obtain⟨Az,Sz⟩:=hw.frame (vals:=vals) (ft:=(N,.bd id)::ft) Ei
 have ch:=Ww (m:=aP m s.l.length (.bool false)) (l:=s.l++[.frame s.l.length vals ((N,.bd id)::ft)]) (I:=I) ps.toList args.toList ts rec.tmps tm (by simpa using hlen) (fun i v x hv hx=>(c9 i v x (by simpa using hv) hx).mono Sz) (fun p hp=>by rw[SX];simpa using List.all_eq_true.1 Kp p hp) (fun q=>((xG q).mono (Le.Ht I m s.l base)).mono Sz)
 have abo:(rec.params.zip args).foldl (fun tmps (x:Tmp×Value)=>tmps.setIfInBounds x.1 x.2) rec.tmps=(ps.toList.zip args.toList).foldl (fun t (p:Tmp×Value)=>t.setIfInBounds p.1 p.2) rec.tmps:=by
  rw[←Array.foldl_toList,Array.toList_zip,Al]
 have vg:@Rel _ ⟨some b,I.df⟩ w0 I0 k ⟨tR ps.toList ts tm,s.l++[.frame s.l.length vals ((N,.bd id)::ft)]⟩ { tmps:=(rec.params.zip args).foldl (fun tmps (x:Tmp×Value)=>tmps.setIfInBounds x.1 x.2) rec.tmps,defers:=[] } w:=by
  rw[abo]
  exact @Rel.mk _ ⟨some b,I.df⟩ _ _ _ _ _ _ (ch.1.trans SX) ⟨I,_,Az,@fJ.nil _ ⟨some b,I.df⟩ _ _ fun _ h=>h,ch.2⟩
 have acb:=h ⟨some b,I.df⟩ w0 I0 N vals (fun e s2=>∃ jump,EJ e=some jump∧@N3 _ ⟨some b,I.df⟩ s2 s.l.length vals ((N,.bd id)::ft) id base k ps bp body tm jump (fun l'=>K ⟨aY ft o.dst (.d (.bool jump.isNone)),l'⟩)) hN (fun e jump s2 h1 h2=>⟨jump,h1,h2⟩) _ _ vg
 refine roundIn_of_wpIn (F:=eC) (si _) ?_
 rw[has,kN]
 refine Code.wpIn_mono (fun e a1 w1 hq=>?_) acb
 obtain⟨s1,hq,nQ⟩:=hq
 cases e<;>simp only[Vr] at hq
 obtain⟨s2,mS,eK,kP,abc⟩:=hq
 obtain⟨ab5,I1,m1,j0,abg,vh⟩:=mS _ _ _ _ _ nQ
 obtain⟨r1,p1,p2,p3,p4,p5,p6⟩:=j0.Hk (st':= .busy) (pend':=none) kP (an j0 eK)
 have hbr:=run_beginRound (P:=P) p1 p2.1
 refine⟨_,hbr,?_⟩
 have e1:({ r1 with state:= .busy }:Loop)={ r1 with state:= .busy,pending:=none }:=by rw[←p2.2.1]
 rw[e1]
 refine Code.wpIn_mono (fun e a2 w2 hq=>?_) (abc a1 _ (@Rel.mk _ ⟨some b,I.df⟩ _ _ _ _ _ _ ab5 ⟨I1,m1,p6,abg,fun q=>(vh q).mono p5⟩))
 obtain⟨s',⟨jump,hj,s3,ab4,Sh,abH,hK3⟩,Ef⟩:=hq
 obtain⟨_,I3,m3,KK,abi,ht3⟩:=ab4 _ _ _ _ _ Ef
 obtain⟨r3,q1,q2,q3,q4,q5,q6⟩:=KK.Hk (st':=if jump.isNone then .ready else .done) (pend':=jump) abH (an KK Sh)
 have dM:=run_endRound (P:=P) jump q1
 have Ab:∀ b,I.df b→I3.df b:=by
  obtain⟨_,_,_,_,h4⟩:=abi
  exact h4
 have mh:=(KK.obj _ _ Sh).2.2
 have abj:∀ q,aq I3 m3 (s3.l.set id (.loop base k ps bp body tm (if jump.isNone then .ready else .done) jump)) (a.tmps.getD q undef) (aj.get ft q):=fun q=>by
  have h1:=mh q
  rw[←KG] at h1
  simp only[aj.get] at h1
  by_cases hq:N=q
  ·subst hq;rw[hN];exact .undef _
  rw[if_neg hq,if_neg (Ne.symm hq)] at h1
  exact(h1.mono (Le.Ht I3 m3 s3.l s.l.length)).mono q5
 have fin:∃ v w',(Instr.endRound b jump).run P w2 = .ok v w'∧Kn (a.put o.dst v) w':=by
  refine⟨_,_,dM,hK _ _ _ hK3 ⟨by cases o.dst<;>simp[Act.put,aK],I3,m3,q6,dY.GG Ab,?_⟩⟩
  exact o5 aK hd abj (.d _ _ (.bool _))
 cases e<;>simp only[EJ,Option.some.injEq] at hj<;>first | (subst hj;exact fin) | cases hj
end
end Go.Sy
namespace Go.Sy
open Go Go.aj
variable [bh]
theorem Zp {I I':aw} {v:Value} {x y:D} (h:Rd I v x) (k:Rd I' v y):Dg x y=false:=by
 cases x with
 | int kk n=>
  cases h
  cases k<;>simp[Dg]
 | slice s els=>
  cases y<;>simp[Dg]
  cases k;cases h
 | _=>rfl
theorem sn {c:List D}:∀ {ds:List D},nz c ds=true→∀ d∈ds,jh c d=true
 | [],_,d,hd=>by cases hd
 | x::ds,h,d,hd=>by
  simp only[nz,Bool.and_eq_true] at h
  rcases List.mem_cons.1 hd with rfl | hd
  ·exact h.1
  exact sn h.2 d hd
theorem Yi {c:List D} {d:D} (h:jh c d=true):∀ x∈d.cells,jh c x=true:=by
 intro x hx
 cases d with
 | agg cs=>simp only[jh] at h;exact sn h x hx
 | _=>simp only[D.cells,List.mem_singleton] at hx;subst hx;exact h
theorem Yj {c els:List D} (h:nz c els=true):∀ x∈flat els,jh c x=true:=fun x hx=>by
 obtain⟨d,hd,hx⟩:=List.mem_flatMap.1 hx
 exact Yi (sn h d hd) x hx
open Classical in
noncomputable def uJ (J:aw) (O:Nat→Prop):aw:=⟨fun b o=>if O b then none else J.cell b o,J.mp,J.df⟩
theorem zH {J:aw} {O:Nat→Prop} {b:Nat} (h:¬ O b) (o:Nat):(uJ J O).cell b o=J.cell b o:=if_neg h
theorem Rv {J:aw} {O:Nat→Prop} {b:Nat} (h:O b) (o:Nat):(uJ J O).cell b o=none:=if_pos h
theorem aje {J:aw} {b off:Nat} {xs c:List D} {val:Nat→Value} (hc:∀ o v,J.cell b o=some v→∃ y I',c[o]?=some y∧Rd I' v y) (gx:∀ k,k < xs.length→J.cell b (off+k)=some (val k)) (ch:∀ (k:Nat) x,xs[k]?=some x→Rd J (val k) x) (h0:xs≠[]):Fs xs c=false:=by
 have hl:0 < xs.length:=List.length_pos_iff.2 h0
 cases hn:Fs xs c with
 | false=>rfl
 | true=>
  unfold Fs at hn
  obtain⟨y,I',hy,_⟩:=hc _ _ (gx (xs.length - 1) (by omega))
  have aN:=(List.getElem?_eq_some_iff.1 hy).1
  have:=List.all_eq_true.1 hn off (List.mem_range.2 (by omega))
  rw[Bool.or_eq_true] at this
  rcases this with h | h
  ·have:=of_decide_eq_true h;omega
  obtain⟨p,hp,ee⟩:=List.any_eq_true.1 h
  obtain⟨k,hk,Kp⟩:=List.mem_iff_getElem.1 hp
  have hz:(xs.zip (c.drop off))[k]?=some p:=by rw[List.getElem?_eq_getElem hk,Kp]
  obtain⟨z1,z2⟩:=List.getElem?_zip_eq_some.1 hz
  rw[List.getElem?_drop] at z2
  have fL:=(List.getElem?_eq_some_iff.1 z1).1
  obtain⟨y,I',hy,hr⟩:=hc _ _ (gx k fL)
  rw[z2] at hy;injection hy with hy;subst hy
  rw[Zp (ch k _ z1) hr] at ee;cases ee
theorem ahu {J:aw} {O:Nat→Prop} {cs:List (List D)} (hO:∀ b,O b→∃ c∈cs,∀ o v,J.cell b o=some v→∃ y I',c[o]?=some y∧Rd I' v y) {v:Value} {d:D} (h:Rd J v d):(∀ c∈cs,jh c d=true)→Rd (uJ J O) v d:=by
 induction h with
 | bool b=>intro _;exact .bool b
 | int k n=>intro _;exact .int k n
 | str s=>intro _;exact .str s
 | agg vs ds h1 h2 _ ih=>
  intro ha
  exact .agg vs ds h1 h2 fun i v d hv hd=>ih i v d hv hd fun c hc=>by
   have:=ha c hc;simp only[jh] at this
   exact sn this d (List.mem_of_getElem? hd)
 | lh A c size h=>intro _;exact .lh A c size h
 | slice b off n c size els val h1 h2 h3 h4 h5 h6 ih=>
  intro ha
  have cG:(flat els).length=n*size:=by rw[←h1];exact jm els fun d hd=>(h4 d hd).1
  by_cases hb:O b
  ·obtain⟨c0,uR,hc⟩:=hO b hb
   by_cases hf:flat els=[]
   ·rw[hf] at cG
    refine .slice b off n c size els val h1 h2 h3 h4 (fun k hk=>?_) (fun k x hx=>?_)
    ·rw[←cG] at hk;cases hk
    rw[hf] at hx;simp at hx
   have:=ha c0 uR
   simp only[jh,Bool.or_eq_true,Bool.and_eq_true] at this
   rcases this with h | ⟨h,_⟩
   ·have:els=[]:=List.isEmpty_iff.1 h
    subst this;exact absurd rfl hf
   have:=aje hc (off:=off) (val:=val) (xs:=flat els) (fun k hk=>h5 k (by omega)) h6 hf
   rw[this] at h;cases h
  refine .slice b off n c size els val h1 h2 h3 h4 (fun k hk=>by rw[zH hb];exact h5 k hk) (fun k x hx=>ih k x hx fun c hc=>?_)
  have:=ha c hc
  simp only[jh,Bool.or_eq_true,Bool.and_eq_true] at this
  rcases this with h | ⟨_,h⟩
  ·have:els=[]:=List.isEmpty_iff.1 h
   subst this;simp[flat] at hx
  exact Yj h x (List.mem_of_getElem? hx)
 | fn f=>intro _;exact .fn f
 | aG=>intro _;exact .aG
 | tj=>intro _;exact .tj
 | map b es ks vs h1 h2 h3 _ _ sZ KW=>
  intro ha
  have ha:∀ c∈cs,nz c ks=true∧nz c vs=true:=fun c hc=>by have:=ha c hc;simpa only[jh,Bool.and_eq_true] using this
  exact .map b es ks vs h1 h2 h3 (fun i e d he hd=>sZ i e d he hd fun c hc=>sn (ha c hc).1 d (List.mem_of_getElem? hd)) (fun i e d he hd=>KW i e d he hd fun c hc=>sn (ha c hc).2 d (List.mem_of_getElem? hd))
 | eY=>intro _;exact .eY
 | iface t v d _ ih=>intro ha;exact .iface t v d (ih fun c hc=>by have:=ha c hc;simpa only[jh] using this)
 | qf=>intro _;exact .qf
 | aI vs ds h1 _ ih=>
  intro ha
  exact .aI vs ds h1 fun i v d hv hd=>ih i v d hv hd fun c hc=>by
   have:=ha c hc;simp only[jh] at this
   exact sn this d (List.mem_of_getElem? hd)
 | aL f vs ds h1 _ ih=>
  intro ha
  exact .aL f vs ds h1 fun i v d hv hd=>ih i v d hv hd fun c hc=>by
   have:=ha c hc;simp only[jh] at this
   exact sn this d (List.mem_of_getElem? hd)
 | box b d val h1 h2 _ ih=>
  intro ha
  by_cases hb:O b
  ·obtain⟨c0,uR,hc⟩:=hO b hb
   have:=ha c0 uR;simp[jh] at this
  exact .box b d val h1 (fun k hk=>by rw[zH hb];exact h2 k hk) (fun k x hx=>ih k x hx fun c hc=>by have:=ha c hc;simp[jh] at this)
section
variable {w0 w:World} {I0 I:aw} {m:Nat→Value} {l:List AO} {ids:List Nat}
def xV (l:List AO) (id:Nat):Nat:=match l[id]? with
 | some (.row _ size els)=>els.length*size
 | some (.var _ cs)=>cs.length
 | _=>0
def j7 (l:List AO) (id:Nat):Bool:=match l[id]? with
 | some (.row _ _ _)=>true
 | some (.var _ _)=>true
 | _=>false
def rC (m:Nat→Value) (ids:List Nat) (b:Nat):Prop:=∃ id∈ids,own (m id)=some b
def Uo (m:Nat→Value) (l:List AO) (ids:List Nat) (b o:Nat):Prop:=∃ id∈ids,own (m id)=some b∧o < xV l id
open Classical in
noncomputable def kr (w:World) (I:aw) (m:Nat→Value) (l:List AO) (ids:List Nat):aw:=⟨fun b o=>if Uo m l ids b o then w.cell? ⟨b,o,none⟩ else I.cell b o,I.mp,I.df⟩
theorem Um (ah:aF w0 I0 w I m l) {id b:Nat} (hl:j7 l id=true) (hb:own (m id)=some b):I.eZ b:=by
 unfold j7 at hl
 split at hl
 ·rename_i e size els ho
  obtain⟨xs,_,_,_,k4⟩:=ah.obj id _ ho
  exact k4 b hb
 ·rename_i ty cs ho
  obtain⟨b',vs,k1,_,_,_,_,k2⟩:=ah.obj id _ ho
  rw[k1] at hb;simp[own] at hb;subst hb;exact k2
 cases hl
theorem Lu {id:Nat} (hl:j7 l id=true):alive l id=true:=by
 unfold j7 at hl
 unfold alive aj.isVar aj.isRow
 split at hl
 ·rename_i ho;simp[ho,AO.isRow]
 ·rename_i ho;simp[ho,AO.isVar]
 cases hl
theorem Lw (ah:aF w0 I0 w I m l) (dO:∀ id∈ids,j7 l id=true) {b:Nat} (h:rC m ids b):I.eZ b:=by
 obtain⟨id,an,hb⟩:=h
 exact Um ah (dO id an) hb
theorem Up {b o:Nat} (h:Uo m l ids b o):rC m ids b:=by obtain⟨id,h1,h2,_⟩:=h;exact⟨id,h1,h2⟩
theorem E3 (ah:aF w0 I0 w I m l) (dO:∀ id∈ids,j7 l id=true):I.le (kr w I m l ids):=by
 refine⟨fun b o v hc=>?_,fun _ _ h=>h,fun _ h=>h⟩
 unfold kr
 dsimp only
 split
 ·rename_i hq
  rw[(Lw ah dO (Up hq)).1 o] at hc;cases hc
 exact hc
theorem aeE (ah:aF w0 I0 w I m l) (dO:∀ id∈ids,j7 l id=true):dH w (kr w I m l ids):=by
 refine⟨fun b o v hc=>?_,ah.sat.mp,ah.sat.df,fun g d h=>(ah.sat.dA g d h).mono (E3 ah dO)⟩
 unfold kr at hc
 dsimp only at hc
 split at hc
 ·exact hc
 exact ah.sat.cell b o v hc
theorem aeF (ah:aF w0 I0 w I m l) (dO:∀ id∈ids,j7 l id=true) {w':World} {J:aw} (hb:eB w.heap.size w w') (he:gE w.heap.size (kr w I m l ids) J) (hs:dH w' J) :
  aF w0 I0 w' (uJ J (rC m ids)) m l∧Le I m l (uJ J (rC m ids)) m l:=by
 have hle:I.le (uJ J (rC m ids)):=by
  refine⟨fun b o v hc=>?_,fun b es h=>he.lm b es h,fun b hd=>he.ld b (ah.sat.mr hd) hd⟩
  have bS:¬ rC m ids b:=fun h=>by rw[(Lw ah dO h).1 o] at hc;cases hc
  rw[zH bS]
  exact he.lc b o v ((E3 ah dO).cell b o v hc)
 refine ah.call hb (.of hle (fun b mQ=>?_) (fun b mQ=>he.mp b mQ)) ⟨fun b o v hc=>?_,fun b es h=>hs.mp b es h,fun b hd=>hs.df b hd,fun g d h=>(ah.sat.dA g d h).mono hle⟩
 ·funext o
  by_cases ho:rC m ids b
  ·rw[Rv ho,(Lw ah dO ho).1 o]
  rw[zH ho,he.cell b mQ]
  unfold kr
  dsimp only
  rw[if_neg fun h=>ho (Up h)]
 by_cases ho:rC m ids b
 ·rw[Rv ho] at hc;cases hc
 rw[zH ho] at hc;exact hs.cell b o v hc
def rp (ids:List Nat) (id:Nat):Bool:=ids.any fun i=>Nat.beq i id
theorem Tf {ids:List Nat} {id:Nat} (h:rp ids id=true):id∈ids:=by
 obtain⟨i,hi,e⟩:=List.any_eq_true.1 h
 rw[←Nat.eq_of_beq_eq_true e];exact hi
def p7 (ids:List Nat) (l:List AO):T→Option D
 | .d x=>some x
 | .row id=>bif rp ids id then(match l[id]? with
  | some (.row _ size els)=>some (.slice size els)
  | _=>none) else none
 | _=>none
def p8 (ids:List Nat) (l:List AO):T→Option D
 | .bL id n=>bif rp ids id&&Nat.beq n 1 then(match l[id]? with
  | some (.var _ cs)=>(cs.mapM (p7 ids l)).map fun ds=> .slice ds.length [.agg ds]
  | _=>none) else none
 | t=>p7 ids l t
def vB (ids:List Nat) (l:List AO):T→Option D
 | .agg ts=>(ts.mapM (p8 ids l)).map .agg
 | t=>p8 ids l t
def sv (ids:List Nat) (l:List AO) (id:Nat):Option (List D):=match l[id]? with
 | some (.row _ _ els)=>some (flat els)
 | some (.var _ cs)=>cs.mapM (p7 ids l)
 | _=>none
theorem Uq {id b o:Nat} {v:Value} (an:id∈ids) (hb:own (m id)=some b) (ho:o < xV l id) (hc:w.cell? ⟨b,o,none⟩=some v):(kr w I m l ids).cell b o=some v:=by
 unfold kr
 dsimp only
 rw[if_pos ⟨id,an,hb,ho⟩];exact hc
theorem A3 {α β:Type} {f:α→Option β}:∀ {l:List α} {r:List β},l.mapM f=some r→l.length=r.length∧∀ (i:Nat) a b,l[i]?=some a→r[i]?=some b→f a=some b
 | [],r,h=>by simp at h;subst h;simp
 | x::l,r,h=>by
  simp only[List.mapM_cons,Option.bind_eq_bind,Option.bind_eq_some_iff,Option.pure_def,Option.some.injEq] at h
  obtain⟨y,hy,ys,rm,rfl⟩:=h
  obtain⟨h1,h2⟩:=A3 rm
  refine⟨by simp[h1],fun i a b ha hb=>?_⟩
  rcases i with _ | i
  ·simp at ha hb;subst ha;subst hb;exact hy
  simp at ha hb;exact h2 i a b ha hb
theorem Lp (ah:aF w0 I0 w I m l) (dO:∀ id∈ids,j7 l id=true) {v:Value} {t:T} {d:D} (h:aq I m l v t) (hd:p7 ids l t=some d):Rd (kr w I m l ids) v d:=by
 have hle:=E3 ah dO
 unfold p7 at hd
 split at hd
 ·injection hd with hd;subst hd
  exact(cy h).mono hle
 ·rename_i id
  cases hi:rp ids id with
  | false=>rw[hi] at hd;cases hd
  | true=>
   rw[hi] at hd
   simp only[cond_true] at hd
   split at hd
   ·rename_i e size els ho
    injection hd with hd;subst hd
    cases h with
    | row A n c _ q1 q2=>
     have hm:=q2 (by unfold aj.isRow;rw[ho];rfl)
     obtain⟨xs,k1,k2,k3,k4⟩:=ah.obj id _ ho
     rw[←hm]
     refine yB k1 k2 (fun j x y hx hy=>(k3 j x y hx hy).mono hle) fun b hb j x hx=>?_
     refine Uq (Tf hi) hb ?_ ?_
     ·have:=(List.getElem?_eq_some_iff.1 hx).1
      unfold xV;rw[ho];dsimp only;rw[k1.1] at this;exact this
     rcases k1.2 with ⟨e1,_⟩ | ⟨g,cap,cur,e1,e2,e3,_⟩
     ·rw[e1] at hb;cases hb
     rw[e1] at hb k1;simp[own] at hb;subst hb
     exact G0 k1 j x hx
   cases hd
 cases hd
theorem Uk (ah:aF w0 I0 w I m l) (dO:∀ id∈ids,j7 l id=true) {v:Value} {t:T} {d:D} (h:aq I m l v t) (hd:p8 ids l t=some d):Rd (kr w I m l ids) v d:=by
 unfold p8 at hd
 split at hd
 ·rename_i id n
  cases hi:(rp ids id&&Nat.beq n 1) with
  | false=>rw[hi] at hd;cases hd
  | true=>
   rw[hi] at hd
   simp only[cond_true] at hd
   rw[Bool.and_eq_true] at hi
   have hn:=Nat.eq_of_beq_eq_true hi.2
   subst hn
   split at hd
   ·rename_i ty cs ho
    rw[Option.map_eq_some_iff] at hd
    obtain⟨ds,ff,rfl⟩:=hd
    obtain⟨z1,z2⟩:=A3 ff
    cases h with
    | bL _ b _ c q1 q2 q3 q4=>
     obtain⟨b',vs,k1,k2,k3,k4,k5,k6⟩:=ah.obj id _ ho
     rw[q2] at k1
     injection k1 with k1;injection k1 with k1;injection k1 with k1;subst k1
     have dt:own (m id)=some b:=by rw[q2];rfl
     have gx:∀ o x,vs[o]?=some x→w.cell? ⟨b,o,none⟩=some x:=fun o x hx=>by
      simp[World.cell?,k3,hx]
     have ch:∀ (k:Nat) x d,vs[k]?=some x→ds[k]?=some d→Rd (kr w I m l ids) x d∧d.one=true:=fun k x d hx hd=>by
      have hk:=(List.getElem?_eq_some_iff.1 hd).1
      have fk:cs[k]?=some (cs[k]'(by omega)):=List.getElem?_eq_getElem (by omega)
      obtain⟨r1,r2⟩:=k5 k x _ hx fk
      have:=Lp ah dO r1 (z2 k _ d fk hd)
      exact⟨this,this.FC r2⟩
     have KH:∀ k,k < ds.length→vs[k]?=some (vs[k]?.getD undef):=fun k hk=>by
      have:k < vs.size:=by omega
      rw[Array.getElem?_eq_getElem this];rfl
     have cG:flat [D.agg ds]=ds:=by simp[flat,D.cells]
     refine .slice b 0 1 c ds.length [.agg ds] (fun k=>vs[k]?.getD undef) rfl q3 q4 (fun d hd=>?_) (fun k hk=>?_) (fun k x hx=>?_)
     ·simp only[List.mem_singleton] at hd;subst hd
      refine⟨rfl,fun x hx=>?_⟩
      obtain⟨k,hk,rfl⟩:=List.mem_iff_getElem.1 hx
      simp only[D.cells] at hk ⊢
      exact(ch k _ _ (KH k hk) (List.getElem?_eq_getElem hk)).2
     ·rw[Nat.zero_add]
      rw[Nat.one_mul] at hk
      exact Uq (Tf hi.1) dt (by unfold xV;rw[ho];dsimp only;omega) (gx k _ (KH k hk))
     rw[cG] at hx
     have hk:=(List.getElem?_eq_some_iff.1 hx).1
     exact(ch k _ x (KH k hk) hx).1
   cases hd
 exact Lp ah dO h hd
theorem aeB (ah:aF w0 I0 w I m l) (dO:∀ id∈ids,j7 l id=true) {v:Value} {t:T} {d:D} (h:aq I m l v t) (hd:vB ids l t=some d):Rd (kr w I m l ids) v d:=by
 unfold vB at hd
 split at hd
 ·rename_i ts
  rw[Option.map_eq_some_iff] at hd
  obtain⟨ds,ff,rfl⟩:=hd
  obtain⟨z1,z2⟩:=A3 ff
  obtain⟨vs,rfl,h1,h2,h3⟩:=Wi h
  have ch:∀ (i:Nat) v d,vs[i]?=some v→ds[i]?=some d→Rd (kr w I m l ids) v d:=fun i v d hv hd=>by
   have hi:=(List.getElem?_eq_some_iff.1 hd).1
   have ht:ts[i]?=some (ts[i]'(by omega)):=List.getElem?_eq_getElem (by omega)
   exact Uk ah dO (h3 i v _ hv ht) (z2 i _ d ht hd)
  refine .agg vs ds (by omega) (fun d hd=>?_) ch
  obtain⟨i,hi,rfl⟩:=List.mem_iff_getElem.1 hd
  have hv:vs[i]?=some (vs[i]'(by omega)):=Array.getElem?_eq_getElem (by omega)
  exact(ch i _ _ hv (List.getElem?_eq_getElem hi)).FC (h2 i _ hv)
 exact Uk ah dO h hd
theorem ZF (ah:aF w0 I0 w I m l) (dO:∀ id∈ids,j7 l id=true) {id b:Nat} {c:List D} (an:id∈ids) (hb:own (m id)=some b) (hc:sv ids l id=some c) {o:Nat} {v:Value} (ho:(kr w I m l ids).cell b o=some v):∃ y,c[o]?=some y∧Rd (kr w I m l ids) v y:=by
 have hle:=E3 ah dO
 unfold kr at ho
 dsimp only at ho
 split at ho
 ·rename_i hq
  obtain⟨pT,qY,bI,aN⟩:=hq
  have:pT=id:=by
   apply Classical.byContradiction
   intro bc
   exact ah.sep pT id b bc (Lu (dO pT qY)) (Lu (dO id an)) bI hb
  subst this
  unfold sv at hc
  split at hc
  ·rename_i e size els hl
   injection hc with hc;subst hc
   obtain⟨xs,k1,k2,k3,k4⟩:=ah.obj pT _ hl
   have aN:o < els.length*size:=by unfold xV at aN;rw[hl] at aN;exact aN
   have cG:(flat els).length=els.length*size:=jm els fun d hd=>(k2 d hd).1
   have hx:xs[o]?=some (xs[o]'(by rw[k1.1];exact aN)):=List.getElem?_eq_getElem _
   have hy:(flat els)[o]?=some ((flat els)[o]'(by omega)):=List.getElem?_eq_getElem _
   refine⟨_,hy,?_⟩
   have rl:w.cell? ⟨b,o,none⟩=some (xs[o]'(by rw[k1.1];exact aN)):=by
    rcases k1.2 with ⟨e1,_⟩ | ⟨g,cap,cur,e1,e2,e3,_⟩
    ·rw[e1] at hb;cases hb
    rw[e1] at hb k1;simp[own] at hb;subst hb
    exact G0 k1 o _ hx
   rw[rl] at ho;injection ho with ho;subst ho
   exact(k3 o _ _ hx hy).mono hle
  ·rename_i ty cs hl
   obtain⟨z1,z2⟩:=A3 hc
   obtain⟨b',vs,k1,k2,k3,k4,k5,k6⟩:=ah.obj pT _ hl
   rw[k1] at hb;simp[own] at hb;subst hb
   have aN:o < cs.length:=by unfold xV at aN;rw[hl] at aN;exact aN
   have hx:vs[o]?=some (vs[o]'(by omega)):=Array.getElem?_eq_getElem _
   have rl:w.cell? ⟨b',o,none⟩=some (vs[o]'(by omega)):=by simp[World.cell?,k3]
   rw[rl] at ho;injection ho with ho;subst ho
   have fk:cs[o]?=some (cs[o]'aN):=List.getElem?_eq_getElem aN
   have hy:c[o]?=some (c[o]'(by omega)):=List.getElem?_eq_getElem _
   exact⟨_,hy,Lp ah dO (k5 o _ _ hx fk).1 (z2 o _ _ fk hy)⟩
  cases hc
 rw[(Um ah (dO id an) hb).1 o] at ho;cases ho
end
end Go.Sy
namespace Go.Sy
open Go Go.aj
variable [aC]
inductive Dn where
 | skip
 | done (n:Nat) (ins:List Ins)
abbrev gV:=List (X×Bool)
def Dk (D:gV) (x:X):Option Bool:=match D with
 | []=>none
 | p::r=>bif X.beq p.1 x then some p.2 else Dk r x
def ux (D:gV):TX→TX
 | .d .bool x=>(match Dk D x with
  | some c=> .d .bool (.bool c)
  | none=> .d .bool x)
 | t=>t
def jP (σ:Sk):gV→Sk
 | []=>σ
 | p::r=>Sk.decide p.1 p.2 (jP σ r)
def rq:List Ins→List Ins→Bool
 | [],[]=>true
 | .bT x::r,.bT y::s=>X.beq x y&&rq r s
 | .get x k::r,.get y j::s=>X.beq x y&&X.beq k j&&rq r s
 | .call c x::r,.call d y::s=>Nat.beq c d&&X.beq x y&&rq r s
 | _,_=>false
def wB (e:CA) (l:List AX):List AX:=match e with
 | .none=>l
 | .new a=>l++[a]
 | .aP l'=>l'
def isNone (l:List AX):CA→Bool
 | .none=>true
 | .aP l'=>ot l' l
 | .new _=>false
def kc (C:Cx) (D:gV):List (Nat×Oper×Dn)→List (Nat×TX)→List AX→List (Nat×TX)×List Nat×List (List AX)
 | [],t,_=>(t,[],[])
 | (_,o,.skip)::r,t,l=>kc C D r (kA t o.dst .gone) l
 | (i,o,.done n _)::r,t,l=>match dK C (jD t) l n l.length o with
  | some q=>bif isNone l q.bn then kc C D r (kA t o.dst (ux D q.t)) l else
   ((kc C D r (kA t o.dst (ux D q.t)) (wB q.bn l)).1,i::(kc C D r (kA t o.dst (ux D q.t)) (wB q.bn l)).2.1,wB q.bn l::(kc C D r (kA t o.dst (ux D q.t)) (wB q.bn l)).2.2)
  | none=>kc C D r t l
def Hz (A:List Nat) (ws:List Nat) (m:Nat):Nat:=ws.foldl (fun m k=>Nat.lor (lY m k) ((A[k]?).getD 0)) m
def CJ:List Oper→List Nat→List Nat
 | [],A=>A
 | o::r,A=>CJ r (A++[Hz A (waits o) 0])
def HA (ops:List Oper) (A:List Nat):Bool:=(List.range ops.length).all fun i=>match ops[i]? with
 | some o=>Nat.beq ((A[i]?).getD 0) (Hz A (waits o) 0)
 | none=>true
def wt (A:List Nat) (i j:Nat):Bool:=hasB ((A[i]?).getD 0) j
def XW (q:Oper) (k:Nat):Bool:=match q.dst with
 | some d=>Nat.beq d k
 | none=>false
def tW (ops:List Oper) (k:Nat) (p:Nat→Bool):Bool:=(List.range ops.length).all fun j=>match ops[j]? with
 | some q=> !XW q k||p j
 | none=>true
def pY (ops:List Oper) (A:List Nat) (t0 t:List (Nat×TX)) (i:Nat) (o:Oper):List (Nat×TX):=((iN ops o).filterMap fun k=>bif tW ops k (fun j=>wt A i j) then none else some (k,aT t0 k))++t
def Wo (ops:List Oper) (A:List Nat) (i:Nat) (o:Oper):Bool:=(iN ops o).all fun k=>tW ops k (fun j=>wt A i j)||tW ops k (fun j=>wt A j i||Nat.beq i j)
def CH (A:List Nat) (H:List Nat) (i m:Nat):Bool:=(List.range H.length).all fun k=>match H[k]? with
 | some h=>(!wt A i h||Nat.blt k m)&&(!(Nat.beq h i||wt A h i)||Nat.ble m k)
 | none=>true
def AK (H:List Nat) (i:Nat):Bool:=H.any fun h=>Nat.beq h i
def FA (C:Cx) (ops:List Oper) (tr t:List (Nat×TX)) (D:gV) (H:List Nat) (Ls:List (List AX)) (i:Nat) (o:Oper) (m:Nat):Dn→Bool
 | .skip=> !AK H i&&(match pG ops ⟨0,tr,[]⟩ o.guard with | .no=>true | _=>false)&&(match o.dst with | some d=>AM (aT t d) | none=>true)
 | .done n ins=>(match pG ops ⟨0,tr,[]⟩ o.guard with | .yes=>true | _=>false)&&(match Ls[m]? with
  | some l=>(match dK C (jD tr) l n l.length o with
   | some q=>rq q.ins ins&&(match o.dst with | some d=>TX.beq (ux D q.t) (aT t d) | none=>true)&&(bif isNone l q.bn then !AK H i else(match H[m]? with | some h=>Nat.beq h i | none=>false)&&(match Ls[m+1]? with | some l'=>ot (wB q.bn l) l' | none=>false))
   | none=>false)
  | none=>false)
def zl (C:Cx) (ops:List Oper) (A:List Nat) (t0 t:List (Nat×TX)) (D:gV) (H:List Nat) (Ls:List (List AX)) (rs:List Dn):Bool:=
 p9 ops&&HA ops A&&oT H&&(H.all fun h=>Nat.blt h ops.length)&&(List.range ops.length).all fun i=>match ops[i]?,rs[i]? with
  | some o,some d=>eS C.nt o.dst&&Wo ops A i o&&(List.range (H.length+1)).all fun m=> !CH A H i m||FA C ops (pY ops A t0 t i o) t D H Ls i o m d
  | _,_=>false
def xU (C:Cx) (ops:List Oper) (eA:Sk) (D:gV) (n:Nat) (rs:List Dn):Option Sk:=
 let p:=kc C D ((List.range ops.length).zip (ops.zip rs)) (jP eA D).t eA.l
 bif zl C ops (CJ ops []) (jP eA D).t p.1 D p.2.1 (eA.l::p.2.2) rs then(match (eA.l::p.2.2)[p.2.1.length]? with
  | some l=>some ⟨n,p.1,l⟩
  | none=>none) else none
def o7 (C:Cx) (ops:List Oper) (eA:Sk):List Oper→Sk→gV→List Dn→Tr
 | [],σ,D,rs=>(match xU C ops eA D σ.n rs.reverse with
  | some τ=> .leaf .normal τ
  | none=> .bad (1800+ops.length))
 | o::r,σ,D,rs=>
  let lv:=fun(σ:Sk) (D:gV)=>match dK C (jD σ.t) σ.l σ.n σ.l.length o with
   | some q=>s5 (o7 C ops eA r (wX σ o.dst q) D (.done σ.n q.ins::rs)) σ.n q.ins
   | none=> .bad (30000+o.dst.getD 9999)
  let skip:=fun(σ:Sk) (D:gV)=>o7 C ops eA r { σ with t:=kA σ.t o.dst .gone } D (.skip::rs)
  match pG ops σ o.guard with
  | .yes=>lv σ D
  | .no=>skip σ D
  | .ask x b=> .iJ x (bif b then lv (σ.decide x true) ((x,true)::D) else skip (σ.decide x true) ((x,true)::D)) (bif b then skip (σ.decide x false) ((x,false)::D) else lv (σ.decide x false) ((x,false)::D))
  | .bad=> .bad 4
def zI (l:List AX) (id:Nat):List Nat:=l.zipIdx.map fun p=>bif Nat.beq p.2 id||(match p.1 with | .fE=>true | _=>false) then Dw+p.2 else p.2
def Jm (ids:List Nat) (id:Nat):Bool:=oT ids && !(ids.any fun i=>Nat.beq i id)
def Jn (C:Cx) (σ:Sk) (j:Nat):Option Sk:=match aT σ.t j with
 | .ptr id 0=>(match σ.l[id]? with
  | some (.var ty cs)=>(match C.ty ty with
   | some t=>(match vP t cs with
    | some (.d u x)=>if u=t then(bif fP (.box t)&&Jm (zI σ.l id) id&&uI (zI σ.l id) σ.l then some ⟨σ.n,(j,.d (.box t) (.box x))::(σ.re (zI σ.l id)).t,(σ.re (zI σ.l id)).l⟩ else none) else none
    | _=>none)
   | none=>none)
  | _=>none)
 | _=>none
def zo (id:Nat):List Ty→Nat→Sk→Sk
 | [],_,σ=>σ
 | t::ts,k,σ=>zo id ts (k+1) (match so σ (.cell id k) with
  | .d _ _=>σ
  | _=>(match wY σ (.cell id k) (.data t) with | some bE=>bE | none=>σ))
def Dj (C:Cx) (σ:Sk) (j:Nat):Sk:=match aT σ.t j with
 | .ptr id 0=>(match σ.l[id]? with
  | some (.var ty _)=>(match C.ty ty with
   | some t=>(match iS kK t .unit with
    | some ps=>zo id (ps.map (·.1)) 0 σ
    | none=>σ)
   | none=>σ)
  | _=>σ)
 | _=>σ
def mf (C:Cx):Sk→List Nat→Sk
 | σ,[]=>σ
 | σ,j::r=>match Jn C (Dj C σ j) j with
  | some bE=>mf C bE r
  | none=>mf C σ r
def ow (C:Cx):List Oper→List Nat
 | []=>[]
 | o::r=>(match o.op with
  | .makeFunc (.func f) _ cs=>bif C.Jo.any (Nat.beq f) then cs.toList.filterMap (fun x=>match x with | .tmp t=>some t | _=>none) else []
  | _=>[])++ow C r
def nA (f:Func):Code:=match f.body with | some c=>c | none=> .skip
def oh (rs:List ResultVar):Nat:=rs.foldl (fun m r=>match r with | .tmp t=>lY m t | .cell a _=>lY m a) 0
def Ws (C:Cx) (ty:TypeId) (l:List AX) (a:TX):Option TX:=match C.ty ty,a with
 | some t,.ptr id off=>match l[id]? with
  | some (.var _ cs)=>bif Nat.ble (off+t.size) cs.length then vP t ((cs.drop off).take t.size) else none
  | _=>none
 | _,_=>none
def rZ (C:Cx) (σ:Sk):List ResultVar→Option (List TX)
 | []=>some []
 | .tmp t::r=>(rZ C σ r).map (aT σ.t t :: ·)
 | .cell a ty::r=>match Ws C ty σ.l (aT σ.t a) with
  | some x=>(rZ C σ r).map (x :: ·)
  | none=>none
def afL (T:Tr):Tr:=fz (fun e τ=>match e with | .normal=> .leaf .normal τ | _=> .bad 21) T
def gC (T:Tr):Tr:=fz (fun e τ=> .leaf (.gC e) τ) T
def XM (T:Tr):Tr:=fz (fun e τ=>match e with | .gC e=> .leaf e τ | _=> .bad 27) T
def isDone (σ:Sk):Bool:=σ.l.any fun a=>match a with | .lp _ _ _ (.done _)=>true | _=>false
def wv (live n0:Nat) (T:Tr) (f:Sk→Tr):Tr:=
 bif (leaves .normal T).any isDone then
  XM (yG live n0 (fz (fun e σ=>match e with | .normal=>(bif isDone σ then gC (f σ) else .leaf .normal σ) | e=> .leaf (.gC e) σ) T) fun τ=>gC (f τ))
 else yG live n0 T f
mutual
def TX.clean:TX→Bool
 | .undef=>false
 | .gone=>false
 | .agg cs=>TX.uv cs
 | .aI cs=>TX.uv cs
 | .aL _ cs=>TX.uv cs
 | _=>true
def TX.uv:List TX→Bool
 | []=>true
 | t::ts=>t.clean&&TX.uv ts
end
mutual
def TX.refs:TX→List Nat
 | .ptr id _=>[id]
 | .row id=>[id]
 | .bf id _ _=>[id]
 | .map id=>[id]
 | .bd id=>[id]
 | .bL id _=>[id]
 | .bD id _ _=>[id]
 | .agg cs=>TX.wo cs
 | .aI cs=>TX.wo cs
 | .aL _ cs=>TX.wo cs
 | _=>[]
def TX.wo:List TX→List Nat
 | []=>[]
 | t::ts=>t.refs++TX.wo ts
end
def rz (live:Nat) (t:List (Nat×TX)):List (Nat×TX):=(lQ live t 0).map fun p=>(p.1,bif p.2.clean then p.2 else .undef)
def iO:List (Nat×TX)→List Nat
 | []=>[]
 | p::r=>p.2.refs++iO r
inductive gu where
 | mk (id j k:Nat) (ps:List Nat) (bp body:Code) (t:List (Nat×TX)) (outer:List gu)
def gu.id:gu→Nat
 | .mk id _ _ _ _ _ _ _=>id
def zB (id:Nat):List gu→Option gu
 | []=>none
 | x::r=>bif Nat.beq x.id id then some x else zB id r
def findF (g:Nat):List (Nat×Func)→Option Func
 | []=>none
 | p::r=>bif Nat.beq p.1 g then some p.2 else findF g r
def r8:Nat→List TX→List (Nat×TX)
 | _,[]=>[]
 | k,t::ts=>(k,t)::r8 (k+1) ts
def Hj:List TX→TX
 | [x]=>x
 | xs=> .aI xs
def kf (d:Nat):AX→AX
 | .eo j b r=>bif Nat.ble d j then .fE else .eo j b r
 | .lp j b r s=>bif Nat.ble d j then .fE else .lp j b r s
 | a=>a
def mY (j b:Nat) (l:List AX):Bool:=match l[b]? with
 | some (.eo j' b' _)=>Nat.beq j j'&&Nat.beq b b'
 | _=>false
abbrev Runner:=Cx→List gu→Lv→Code→Sk→Tr
def Im (run:Runner) (C:Cx) (L:List gu) (fn:Func) (ts:List TX) (σ:Sk) (t0:List (Nat×TX)) (K:TX→Sk→Tr):Tr:=
 bif !Nat.ble ts.length fn.ntmps then .bad 24 else
 wv (oh fn.results.toList) σ.n
  (
   fz (fun e τ=>match e with | .normal=> .leaf .normal (τ.di (oh fn.results.toList)) | .ret=> .leaf .normal (τ.di (oh fn.results.toList)) | _=> .bad 21)
   (run { C with nt:=fn.ntmps,dep:=C.dep+1,nq:=false } L ⟨oh fn.results.toList,[],oh fn.results.toList⟩ (nA fn) ⟨σ.n,r8 0 ts,σ.l++[.eo C.dep σ.l.length (iO t0)]⟩))
  fun τ=>match rZ C τ fn.results.toList with
   | some xs=>bif mY C.dep σ.l.length τ.l then K (Hj xs) ⟨τ.n,t0,τ.l.map (kf C.dep)⟩ else .bad 23
   | none=> .bad 22
def B6:List Nat→List TX→List (Nat×TX)→List (Nat×TX)
 | p::ps,x::xs,t=>B6 ps xs ((p,x)::t)
 | _,_,t=>t
def nE (C:Cx) (id j b:Nat) (rs:List Nat) (n1:Nat) (t0:List (Nat×TX)) (K:TX→Sk→Tr) (e:Ex) (τ:Sk):Tr:=match τ.l[id]? with
 | some (.lp j' b' iP .busy)=>bif Nat.beq j' j&&Nat.beq b' b&&decide (iP=rs)&&mY C.dep n1 τ.l then
   gC (K (.d .bool (.bool (decide (e = .normal)))) ⟨τ.n,t0,(τ.l.set id (.lp j b rs (if e = .normal then .ready else .done e))).map (kf C.dep)⟩) else .bad 28
 | _=> .bad 28
def NU (run:Runner) (C:Cx) (L:List gu) (id:Nat) (ts:List TX) (σ:Sk) (t0:List (Nat×TX)) (K:TX→Sk→Tr):Tr:=match zB id L,σ.l[id]? with
 | some (
     .mk _ j k ps bp body t outer),some (.lp j' b rs .ready)=>
  bif Nat.beq j' j&&Nat.beq ps.length ts.length&&ps.all (fun p=>Nat.blt p k) then
   XM (
       wv 0 σ.n
    (
     fz (fun e τ=>match e with | .normal=> .leaf .normal τ | .ret=>nE C id j b rs σ.l.length t0 K .ret τ | .exit i=>nE C id j b rs σ.l.length t0 K (.exit i) τ | _=> .bad 26)
     (
      wv (ja body ⟨0,[],0⟩) σ.n
      (afL (run { C with nt:=k,dep:=C.dep+1,nq:=true } outer ⟨ja body ⟨0,[],0⟩,[],0⟩ bp ⟨σ.n,B6 ps ts t,σ.l++[.eo C.dep σ.l.length (id::iO t0)]⟩))
      fun τ=>match τ.l[id]? with
       | some (.lp j2 b2 lg .ready)=>bif Nat.beq j2 j&&Nat.beq b2 b&&decide (lg=rs)&&mY C.dep σ.l.length τ.l then run { C with nt:=k,dep:=C.dep+1,nq:=true } outer ⟨0,[],0⟩ body ⟨τ.n,τ.t,τ.l.set id (.lp j b rs .busy)⟩ else .bad 25
       | _=> .bad 25))
    fun τ=>nE C id j b rs σ.l.length t0 K .normal τ)
  else .bad 29
 | _,_=> .bad 29
def E1 (ids:List Nat) (l:List AX):TX→Option (Ty×X)
 | .d t x=>some (t,x)
 | .row id=>bif rp ids id then(match l[id]? with
  | some (.row false _ u x)=>some (.list u,x)
  | _=>none) else none
 | _=>none
def x2 (f:TX→Option (Ty×X)):List TX→Option (List (Ty×X))
 | []=>some []
 | t::ts=>match f t,x2 f ts with
  | some p,some ps=>some (p::ps)
  | _,_=>none
def Hu (C:Cx) (ids:List Nat) (l:List AX) (ty:TypeId) (cs:List TX):Option (Nat×X):=match C.ty ty,x2 (E1 ids l) cs with
 | some (.st i),some ps=>(vN (.st i) ps).map fun x=>(i,x)
 | _,_=>none
def E2 (C:Cx) (ids:List Nat) (l:List AX):TX→Option (Ty×X)
 | .bL id n=>bif rp ids id&&Nat.beq n 1 then(match l[id]? with
  | some (.var ty cs)=>(Hu C ids l ty cs).map fun p=>(.list (.st p.1),.u2 .cons p.2 (.nil (.st p.1)))
  | _=>none) else none
 | t=>E1 ids l t
def Lr (C:Cx) (ids:List Nat) (l:List AX) (t:Ty):TX→Option X
 | .agg cs=>match x2 (E2 C ids l) cs with
  | some ps=>bif cj t then vN t ps else none
  | none=>none
 | x=>match E2 C ids l x with
  | some (u,y)=>if u=t then some y else none
  | none=>none
def rB (C:Cx) (ids:List Nat) (l:List AX):List Ty→List TX→Option (List X)
 | [],[]=>some []
 | t::ts,x::xs=>match Lr C ids l t x,rB C ids l ts xs with
  | some y,some ys=>some (y::ys)
  | _,_=>none
 | _,_=>none
def IF (C:Cx) (ids:List Nat) (l:List AX) (id:Nat):Option (Ty×X):=match l[id]? with
 | some (.row false _ u x)=>some (.list u,x)
 | some (.var ty cs)=>(Hu C ids l ty cs).map fun p=>(.st p.1,p.2)
 | _=>none
def Dh (C:Cx) (ids:List Nat) (l:List AX):List Nat→Option (List (Ty×X))
 | []=>some []
 | id::r=>match IF C ids l id,Dh C ids l r with
  | some p,some ps=>some (p::ps)
  | _,_=>none
def Ul (l:List AX):TX→List Nat
 | .row id=>(match l[id]? with
  | some (.row false _ _ _)=>[id]
  | _=>[])
 | .bL id _=>id::(match l[id]? with
  | some (.var _ cs)=>cs.flatMap fun c=>match c with
   | .row id=>[id]
   | _=>[]
  | _=>[])
 | _=>[]
def AT (l:List AX) (ts:List TX):List Nat:=ts.flatMap fun t=>match t with
 | .agg cs=>cs.flatMap (Ul l)
 | t=>Ul l t
def uD (C:Cx) (ids:List Nat) (l:List AX) (g:FuncId) (ts:List TX):List kC→Nat→Option (Nat×List X×kC)
 | [],_=>none
 | s::r,k=>bif Nat.beq s.f g then(match rB C ids l s.args ts with
   | some xs=>some (k,xs,s)
   | none=>uD C ids l g ts r (k+1)) else uD C ids l g ts r (k+1)
def HB (v:Nat):List (Ty×X)→Tr→Tr
 | [],T=>T
 | p::r,T=> .bT (.u2 .apart (.var v) p.2) (HB v r T)
def Lt (C:Cx) (σ:Sk) (g:FuncId) (ts:List TX):Option ((TX→Sk→Tr)→Tr):=match uD C (AT σ.l ts) σ.l g ts C.sigs 0 with
 | some (k,xs,s)=>match Dh C (AT σ.l ts) σ.l (AT σ.l ts) with
  | some ps=>some fun K=> .call σ.n k (gT xs) (HB σ.n ps (K (o6 (.var σ.n) s.res) { σ with n:=σ.n+1 }))
  | none=>none
 | none=>none
def Ag (
     run:Runner) (C:Cx) (L:List gu):CC:=fun o m σ=>match o.op with
 | .binOp op t x y _=>(match op,C.E t,jD σ.t x,y with
  | .eql,some ⟨_,_,_,.slice _⟩,.d (.list _) xs,.const (.slice none 0 0)=>some fun K=> .jA xs (K (.d .bool (.bool true)) σ) (K (.d .bool (.bool false)) σ)
  | _,_,_,_=>none)
 | .call c=>(match c.callee with
  | .value f=>(match jD σ.t f with
   | .bd id=>some fun K=>NU run C L id (qq C.E c.argTypes.toList (c.args.toList.map (jD σ.t))) σ (rz m σ.t) K
   | t=>(match nC t with
    | some (g,ts)=>(match findF g C.pF with
     | some fn=>some fun K=>Im run C L fn (qq C.E c.argTypes.toList (c.args.toList.map (jD σ.t))++ts) σ (rz m σ.t) K
     | none=>Lt C σ g (qq C.E c.argTypes.toList (c.args.toList.map (jD σ.t))++ts))
    | none=>none))
  | _=>none)
 | _=>none
def B0 (run:Runner) (C:Cx) (L:List gu) (live:Nat) (fn:Func) (cV:List TX) (ps:List Nat) (bp body:Code) (σ:Sk) (t0:List (Nat×TX)):Tr:=
 bif !Nat.ble (cV.length+1) fn.ntmps || !fn.results.toList.isEmpty || !Nat.ble σ.l.length σ.l.length then .bad 32 else
 fz (fun e τ=>match e with
  | .normal=>fin τ
  | .ret=>fin τ
  | _=> .bad 31) (run { C with nt:=fn.ntmps,dep:=C.dep+2,nq:=false } (.mk σ.l.length C.dep C.nt ps bp body t0 L::L) ⟨0,[],0⟩ (nA fn)
   ⟨σ.n,r8 0 (.bd σ.l.length::cV),σ.l++[.lp C.dep σ.l.length (iO t0) .ready,.eo (C.dep+1) (σ.l.length+1) (σ.l.length::iO t0)]⟩)
where fin (τ:Sk):Tr:=bif mY (C.dep+1) (σ.l.length+1) τ.l then(match τ.l[σ.l.length]? with
 | some (.lp j _ _ .ready)=>bif Nat.beq j C.dep then .leaf .normal (Sk.di live ⟨τ.n,t0,τ.l.map (kf C.dep)⟩) else .bad 31
 | some (.lp j _ _ (.done .ret))=>bif Nat.beq j C.dep then .leaf .ret (Sk.di live ⟨τ.n,t0,τ.l.map (kf C.dep)⟩) else .bad 31
 | some (.lp j _ _ (.done (.exit i)))=>bif Nat.beq j C.dep then .leaf (.exit i) (Sk.di live ⟨τ.n,t0,τ.l.map (kf C.dep)⟩) else .bad 31
 | _=> .bad 31) else .bad 31
def exec:Nat→Cx→List gu→Lv→Code→Sk→Tr
 | 0,_,_,_,_,_=> .bad 8
 | f+1,C,L,live,c,σ=>match c with
  | .skip=> .leaf .normal σ
  | .region _ ops d=>fz (fun e τ=> .leaf e (τ.di live.out)) (bif d then o7 C ops.toList (mf C σ (ow C ops.toList)) ops.toList (mf C σ (ow C ops.toList)) [] [] else o8 C (Ag (exec f) C L) live.out ops.toList ops.toList (mf C σ (ow C ops.toList)))
  | .seq a b=>wv (ja b live) σ.n (exec f C L { live with out:=ja b live } a σ) (exec f C L live b)
  | .cond c a b=>match jD σ.t c with
   | .d .bool (.bool true)=>exec f C L live a σ
   | .d .bool (.bool false)=>exec f C L live b σ
   | .d .bool x=> .iJ x (exec f C L live a σ) (exec f C L live b σ)
   | _=> .bad 9
  | .block id b=>fz (fun e τ=>match e with | .exit i=>(bif Nat.beq i id then .leaf .normal τ else .leaf e τ) | e=> .leaf e τ) (exec f C L { live with ex:=(id,live.out)::live.ex } b σ)
  | .loop b=>AY (ja (.loop b) live) σ.n (exec f C L { live with out:=ja (.loop b) live } b) 6 σ (σ.di (ja (.loop b) live))
  | .exit id=> .leaf (.exit id) σ
  | .ret=> .leaf .ret σ
  | .rangeFunc g ps a b=>bif C.nq then .bad 30 else match nC (jD (rz (ja (.rangeFunc g ps a b) live) σ.t) g) with
   | some (gf,cV)=>(match findF gf C.pF with
    | some fn=>B0 (exec f) C L live.out fn cV ps.toList a b σ (rz (ja (.rangeFunc g ps a b) live) σ.t)
    | none=> .bad 33)
   | none=> .bad 34
  | _=> .bad 10
def yO:Nat→List Ty→List (Nat×TX)
 | _,[]=>[]
 | k,t::ts=>(k,.d t (.var k))::yO (k+1) ts
def lz (g:Sk→Option (X)):Nat→Tr→Tr
 | k,.leaf e σ=>match e with
  | .exit _=> .bad 11
  | .gC _=> .bad 11
  | _=>match g σ with
   | some x=> .out k x
   | none=> .bad 12
 | _,.out k x=> .out k x
 | k,.bT x t=> .bT x (lz g k t)
 | k,.get v xs i t=> .get v xs i (lz g k t)
 | k,.call v c x t=> .call v c x (lz g k t)
 | k,.iJ c a b=> .iJ c (lz g k a) (lz g k b)
 | k,.jA c a b=> .jA c (lz g k a) (lz g k b)
 | k,.join ty v a b=> .join ty v (lz g (k+1) a) (lz g k b)
 | k,.loop ty v i b=> .loop ty v i (lz g (k+1) b)
 | _,.bad w=> .bad w
def M8 (C:Cx) (rs:List ResultVar) (res:List Ty) (σ:Sk):Option X:=match rZ C σ rs with
 | some ts=>match kh σ.l res ts with
  | some (xs,_)=>some (gT xs)
  | none=>none
 | none=>none
def Ch (C:Cx) (rs:List ResultVar) (c:Code) (args res:List Ty):Tr:=
 lz (M8 C rs res) 0 (exec 400 C [] ⟨oh rs,[],oh rs⟩ c ⟨args.length,yO 0 args,[]⟩)
end Go.Sy
namespace Go.Sy
open Go Go.aj
variable [aC] [cZ] [cP] [dC] [bh] [qE] [cd]
theorem Ez:∀ {a b:List Ins},rq a b=true→a=b
 | [],[],_=>rfl
 | .bT x::r,.bT y::s,h=>by
  simp only[rq,Bool.and_eq_true] at h
  rw[X.beq_eq h.1,Ez h.2]
 | .get x k::r,.get y j::s,h=>by
  simp only[rq,Bool.and_eq_true] at h
  rw[X.beq_eq h.1.1,X.beq_eq h.1.2,Ez h.2]
 | .call c x::r,.call d y::s,h=>by
  simp only[rq,Bool.and_eq_true] at h
  rw[Nat.eq_of_beq_eq_true h.1.1,X.beq_eq h.1.2,Ez h.2]
 | [],_::_,h=>by cases h
 | _::_,[],h=>by simp[rq] at h
 | .bT _::_,.get _ _::_,h=>by cases h
 | .bT _::_,.call _ _::_,h=>by cases h
 | .get _ _::_,.bT _::_,h=>by cases h
 | .get _ _::_,.call _ _::_,h=>by cases h
 | .call _ _::_,.bT _::_,h=>by cases h
 | .call _ _::_,.get _ _::_,h=>by cases h
theorem cU.again {cs:List Callee} {n:Nat} {iB lV ρ:aO} {is:List Ins} (h:cU cs n iB is lV):fI n iB→Ext lV ρ→∀ ρ0,(∀ i,lk ρ0 i=lk ρ i)→∃ gD,cU cs n ρ0 is gD∧∀ i,lk gD i=lk ρ i:=by
 induction h with
 | nil n iB=>intro _ _ ρ0 h0;exact⟨ρ0,.nil n ρ0,h0⟩
 | bT n iB x r lV hx hr ih=>
  intro hb he ρ0 h0
  obtain⟨gD,k1,k2⟩:=ih hb he ρ0 h0
  have cK:=X.gW (fun i v hv=>(h0 i).trans (he i v ((hr.ext hb).1 i v hv)):Ext iB ρ0) hx
  exact⟨gD,.bT n ρ0 x r gD cK k1,k2⟩
 | get n iB xs k r lV t l kk i e h1 h2 h3 hr ih=>
  intro hb he ρ0 h0
  have bI:=hb.push (Nat.lt_succ_self n) ⟨t,e⟩
  have e1:=(hr.ext bI).1
  have e0:Ext iB ρ0:=fun i v hv=>(h0 i).trans (he i v (e1 i v (Ext.push hb _ i v hv)))
  have hn:lk ρ n=some ⟨t,e⟩:=he n _ (e1 n _ (ku n _ _))
  obtain⟨gD,k1,k2⟩:=ih bI he ((n,⟨t,e⟩)::ρ0) (fun j=>by
   by_cases hj:n=j
   ·subst hj;rw[ku,hn]
   simp only[lk,beq_false hj,cond_false];exact h0 j)
  exact⟨gD,.get n ρ0 xs k r gD t l kk i e (X.gW e0 h1) (X.gW e0 h2) h3 k1,k2⟩
 | call n iB c x r lV C a y h1 h2 h3 hr ih=>
  intro hb he ρ0 h0
  have bI:=hb.push (Nat.lt_succ_self n) ⟨aQ C.res,y⟩
  have e1:=(hr.ext bI).1
  have e0:Ext iB ρ0:=fun i v hv=>(h0 i).trans (he i v (e1 i v (Ext.push hb _ i v hv)))
  have hn:lk ρ n=some ⟨aQ C.res,y⟩:=he n _ (e1 n _ (ku n _ _))
  obtain⟨gD,k1,k2⟩:=ih bI he ((n,⟨aQ C.res,y⟩)::ρ0) (fun j=>by
   by_cases hj:n=j
   ·subst hj;rw[ku,hn]
   simp only[lk,beq_false hj,cond_false];exact h0 j)
  exact⟨gD,.call n ρ0 c x r gD C a y h1 (X.gW e0 h2) h3 k1,k2⟩
def lj (ρ:aO) (D:gV):Prop:=∀ p∈D,p.1.den ρ=some ⟨.bool,p.2⟩
theorem lj.mono {ρ ρ':aO} {D:gV} (h:lj ρ D) (he:Ext ρ ρ'):lj ρ' D:=fun p hp=>X.gW he (h p hp)
theorem QI {ρ:aO}:∀ {D:gV},lj ρ D→∀ {x c},Dk D x=some c→x.den ρ=some ⟨.bool,c⟩
 | [],_,x,c,h=>by cases h
 | p::r,hD,x,c,h=>by
  simp only[Dk] at h
  cases hb:X.beq p.1 x with
  | true=>
   rw[hb] at h
   injection h with h
   rw[←X.beq_eq hb,←h];exact hD p (by simp)
  | false=>rw[hb] at h;exact QI (fun q hq=>hD q (by simp[hq])) h
theorem ZN {ρ:aO} {D:gV} (hD:lj ρ D) {x:TX} {t:T} (h:RX ρ x t):RX ρ (ux D x) t:=by
 unfold ux
 split
 ·split
  ·rename_i c hc
   obtain⟨b,h1,h2⟩:=kG h
   have:b=c:=jO (h1.symm.trans (QI hD hc))
   subst this
   rw[h2];exact gR rfl
  exact h
 exact h
theorem QG {ρ:aO} {σ:Sk} {s:St} (h:ba ρ σ s):∀ {D:gV},lj ρ D→ba ρ (jP σ D) s
 | [],_=>h
 | p::r,hD=>QH (QG h fun q hq=>hD q (by simp[hq])) (hD p (by simp))
def wR (cs:List Callee) (ρ:aO):Dn→Prop
 | .skip=>True
 | .done n ins=>∃ iB lV,fI n iB∧cU cs n iB ins lV∧Ext lV ρ
section
variable {P:Program} {V:Env} {C:Cx} {cs:List Callee} {n:Nat} {ops:List Oper} {eA:Sk}
theorem Ud {D:gV} {m:Nat} {rs:List Dn} {τ:Sk} (h:xU C ops eA D m rs=some τ):zl C ops (CJ ops []) (jP eA D).t (kc C D ((List.range ops.length).zip (ops.zip rs)) (jP eA D).t eA.l).1 D (kc C D ((List.range ops.length).zip (ops.zip rs)) (jP eA D).t eA.l).2.1 (eA.l::(kc C D ((List.range ops.length).zip (ops.zip rs)) (jP eA D).t eA.l).2.2) rs=true ∧
  ∃ l,(eA.l::(kc C D ((List.range ops.length).zip (ops.zip rs)) (jP eA D).t eA.l).2.2)[(kc C D ((List.range ops.length).zip (ops.zip rs)) (jP eA D).t eA.l).2.1.length]?=some l∧τ=⟨m,(kc C D ((List.range ops.length).zip (ops.zip rs)) (jP eA D).t eA.l).1,l⟩:=by
 unfold xU at h
 simp only at h
 generalize kc C D ((List.range ops.length).zip (ops.zip rs)) (jP eA D).t eA.l=p at h ⊢
 cases fk:zl C ops (CJ ops []) (jP eA D).t p.1 D p.2.1 (eA.l::p.2.2) rs with
 | false=>rw[fk] at h;cases h
 | true=>
  rw[fk] at h
  simp only[cond_true] at h
  split at h
  ·rename_i l hl
   injection h with h
   exact⟨rfl,l,hl,h.symm⟩
  cases h
theorem Nc {Q:LQ}:∀ (r:List Oper) {σ:Sk} {ρ:aO} {J:LJ} {D:gV} {rs:List Dn},fI σ.n ρ→lj ρ D→(∀ d∈rs,wR cs ρ d)→Tr.wp cs (o7 C ops eA r σ D rs) ρ Q J →
  ∃ τ ρ' J' D' iP,Q .normal τ ρ' J'∧xU C ops eA D' τ.n iP=some τ∧fI τ.n ρ'∧dy σ.n ρ ρ'∧σ.n≤τ.n∧lj ρ' D'∧∀ d∈iP,wR cs ρ' d
 | [],σ,ρ,J,D,rs,hb,hD,hr,hw=>by
  simp only[o7] at hw
  split at hw
  ·rename_i τ hl
   have hn:τ.n=σ.n:=by
    obtain⟨_,l,_,rfl⟩:=Ud hl
    rfl
   exact⟨τ,ρ,J,D,rs.reverse,hw,by rw[hn];exact hl,by rw[hn];exact hb,.refl _ _,by omega,hD,fun d hd=>hr d (by simpa using hd)⟩
  exact hw.elim
 | o::r,σ,ρ,J,D,rs,hb,hD,hr,hw=>by
  have lv:∀ {σ1:Sk} {D1:gV},σ1.n=σ.n→lj ρ D1→Tr.wp cs (match dK C (jD σ1.t) σ1.l σ1.n σ1.l.length o with | some q=>s5 (o7 C ops eA r (wX σ1 o.dst q) D1 (.done σ1.n q.ins::rs)) σ1.n q.ins | none=> .bad (30000+o.dst.getD 9999)) ρ Q J →
    ∃ τ ρ' J' D' iP,Q .normal τ ρ' J'∧xU C ops eA D' τ.n iP=some τ∧fI τ.n ρ'∧dy σ.n ρ ρ'∧σ.n≤τ.n∧lj ρ' D'∧∀ d∈iP,wR cs ρ' d:=by
   intro σ1 D1 hn xr hw
   split at hw
   ·rename_i q hq
    obtain⟨iB,hi,hw⟩:=AJ hw
    have jR:fI σ1.n ρ:=by rw[hn];exact hb
    obtain⟨he,jS⟩:=hi.ext jR
    obtain⟨hZ,hle⟩:=hi.Q6
    obtain⟨τ,ρ',J',D',iP,k1,k2,k3,k4,k5,k6,k7⟩:=Nc r (σ:=wX σ1 o.dst q) (D:=D1) (rs:= .done σ1.n q.ins::rs) jS (xr.mono he) (fun d hd=>by
     rcases List.mem_cons.1 hd with rfl | hd
     ·exact⟨ρ,iB,jR,hi,.refl _⟩
     have:=hr d hd
     cases d with
     | skip=>trivial
     | done n ins=>obtain⟨a,b,c1,c2,c3⟩:=this;exact⟨a,b,c1,c2,c3.trans he⟩) hw
    have k4:dy (ir σ1.n q.ins) iB ρ':=k4
    have k5:ir σ1.n q.ins≤τ.n:=k5
    exact⟨τ,ρ',J',D',iP,k1,k2,k3,by rw[←hn];exact hZ.trans k4 hle,by omega,k6,k7⟩
   exact hw.elim
  have skip:∀ {σ1:Sk} {D1:gV},σ1.n=σ.n→lj ρ D1→Tr.wp cs (o7 C ops eA r { σ1 with t:=kA σ1.t o.dst .gone } D1 (.skip::rs)) ρ Q J →
    ∃ τ ρ' J' D' iP,Q .normal τ ρ' J'∧xU C ops eA D' τ.n iP=some τ∧fI τ.n ρ'∧dy σ.n ρ ρ'∧σ.n≤τ.n∧lj ρ' D'∧∀ d∈iP,wR cs ρ' d:=by
   intro σ1 D1 hn xr hw
   obtain⟨τ,ρ',J',D',iP,k1,k2,k3,k4,k5,k6,k7⟩:=Nc r (σ:={ σ1 with t:=kA σ1.t o.dst .gone }) (D:=D1) (rs:= .skip::rs) (by rw[←hn] at hb;exact hb) xr (fun d hd=>by
    rcases List.mem_cons.1 hd with rfl | hd
    ·trivial
    exact hr d hd) hw
   exact⟨τ,ρ',J',D',iP,k1,k2,k3,by rw[←hn];exact k4,by rw[←hn];exact k5,k6,k7⟩
  simp only[o7] at hw
  split at hw
  ·exact lv rfl hD hw
  ·exact skip rfl hD hw
  ·rename_i x b hg
   obtain⟨c,h1,h2,h3⟩:=hw
   have DM:lj ρ ((x,c)::D):=fun p hp=>by
    rcases List.mem_cons.1 hp with rfl | hp
    ·exact h1
    exact hD p hp
   cases c with
   | true=>
    have h2:=h2 rfl
    cases b with
    | true=>exact lv (σ1:=σ.decide x true) rfl DM h2
    | false=>exact skip (σ1:=σ.decide x true) rfl DM h2
   | false=>
    have h3:=h3 rfl
    cases b with
    | true=>exact skip (σ1:=σ.decide x false) rfl DM h3
    | false=>exact lv (σ1:=σ.decide x false) rfl DM h3
  exact hw.elim
theorem BU {D:gV}:∀ {z:List (Nat×Oper×Dn)} {t:List (Nat×TX)} {l:List AX} {k:Nat},(∀ x∈z,x.2.1.dst≠some k)→aT (kc C D z t l).1 k=aT t k
 | [],t,l,k,_=>rfl
 | (
    i,o,d)::r,t,l,k,h=>by
  have ho:o.dst≠some k:=h (i,o,d) (by simp)
  have hr:∀ x∈r,x.2.1.dst≠some k:=fun x hx=>h x (by simp[hx])
  have put:∀ x:TX,aT (kA t o.dst x) k=aT t k:=fun x=>by
   cases hd:o.dst with
   | none=>rfl
   | some e=>
    show(bif Nat.beq e k then x else aT t k)=_
    rw[beq_false (fun hh=>ho (by rw[hd,hh]))];rfl
  cases d with
  | skip=>exact(BU hr).trans (put _)
  | done m ins=>
   simp only[kc]
   split
   ·cases isNone _ _ with
    | true=>exact(BU hr).trans (put _)
    | false=>exact(BU hr).trans (put _)
   exact BU hr
end
end Go.Sy
namespace Go.Sy
open Go Go.aj
variable [aC] [cZ] [cP] [dC] [bh] [qE] [cd]
section
variable {P:Program} {V:Env} {C:Cx} {cs:List Callee} {n:Nat} {ops:List Oper} {w0:World} {I0:aw} {ρ:aO} {D:gV} {rs:List Dn} {t:List (Nat×TX)} {H:List Nat} {Ls:List (List AX)} {A:List Nat} {t0:List (Nat×TX)}
def Good (ops:List Oper) (ρ:aO) (t0 t:List (Nat×TX)) (H:List Nat) (Ls:List (List AX)) (listed:Array Bool) (s:St):Prop:=
 ∃ m l,Ls[m]?=some l∧RL ρ l s.l∧m≤H.length∧(∀ k h,H[k]?=some h→(listed.getD h false=true↔k < m)) ∧
  (∀ k,(∀ j o,ops[j]?=some o→o.dst=some k→listed.getD j false=true)→RX ρ (aT t k) (aj.get s.t k)) ∧
  ∀ k,(∀ j o,ops[j]?=some o→o.dst=some k→listed.getD j false=false)→RX ρ (aT t0 k) (aj.get s.t k)
theorem aa9 (a b k:Nat):hasB (Nat.lor a b) k=(hasB a k||hasB b k):=by
 have h:∀ m j:Nat,hasB m j=m.testBit j:=fun m j=>by
  unfold hasB Nat.testBit
  show Nat.beq ((m >>> j) &&& 1) 1=_
  rw[Nat.and_comm]
  rcases Nat.mod_two_eq_zero_or_one (m >>> j) with e | e<;>simp[Nat.one_and_eq_mod_two,e]<;>rfl
 rw[h,h,h]
 exact Nat.testBit_or a b k
theorem Ob {A:List Nat} {j:Nat}:∀ {ws:List Nat} {m:Nat},hasB (Hz A ws m) j=true→hasB m j=true∨∃ k∈ws,j=k∨wt A k j=true
 | [],m,h=> .inl h
 | w::ws,m,h=>by
  rcases Ob (ws:=ws) (m:=Nat.lor (lY m w) ((A[w]?).getD 0)) h with h | ⟨k,hk,h⟩
  ·rw[aa9,xu,Bool.or_eq_true,Bool.or_eq_true,decide_eq_true_eq] at h
   rcases h with (h | h) | h
   ·exact .inl h
   ·exact .inr ⟨w,by simp,.inl h.symm⟩
   exact .inr ⟨w,by simp,.inr h⟩
  exact .inr ⟨k,by simp[hk],h⟩
theorem Hw {listed:Array Bool} (hA:HA ops A=true) (fX:p9 ops=true) (hc:qA ops listed):∀ (i:Nat) {o:Oper} {j:Nat},ops[i]?=some o→(∀ k∈waits o,listed.getD k false=true)→wt A i j=true→listed.getD j false=true:=by
 intro i
 induction i using Nat.strongRecOn with
 | ind i ih=>
  intro o j ho hw h
  have h1:=List.all_eq_true.1 hA i (List.mem_range.2 (List.getElem?_eq_some_iff.1 ho).1)
  rw[ho] at h1
  have h1:=Nat.eq_of_beq_eq_true h1
  unfold wt at h
  rw[h1] at h
  rcases Ob h with h | ⟨k,hk,h⟩
  ·rw[RZ] at h;cases h
  have dD:=AU fX ho k hk
  have fL:=hw k hk
  rcases h with rfl | h
  ·exact fL
  have gz:k < ops.length:=Nat.lt_trans dD (List.getElem?_eq_some_iff.1 ho).1
  have cr:ops[k]?=some ops[k]:=List.getElem?_eq_getElem gz
  exact ih k dD cr (hc k _ cr fL) h
theorem XV {k:Nat} {p:Nat→Bool} (h:tW ops k p=true) {j:Nat} {q:Oper} (hq:ops[j]?=some q) (hd:q.dst=some k):p j=true:=by
 have h1:=List.all_eq_true.1 h j (List.mem_range.2 (List.getElem?_eq_some_iff.1 hq).1)
 rw[hq] at h1
 simpa [XW,hd,Nat.beq_refl] using h1
theorem Ue {i:Nat} {o:Oper} {k:Nat}:(tW ops k (fun j=>wt A i j)=true→aT (pY ops A t0 t i o) k=aT t k)∧(tW ops k (fun j=>wt A i j)=false→k∈iN ops o→aT (pY ops A t0 t i o) k=aT t0 k):=by
 unfold pY
 generalize iN ops o=L
 induction L with
 | nil=>exact⟨fun _=>rfl,fun _ h=>by cases h⟩
 | cons x r ih=>
  simp only[List.filterMap_cons]
  cases hx:tW ops x (fun j=>wt A i j) with
  | true=>
   simp only[cond_true]
   refine⟨ih.1,fun h hk=>?_⟩
   rcases List.mem_cons.1 hk with rfl | hk
   ·rw[hx] at h;cases h
   exact ih.2 h hk
  | false=>
   simp only[cond_false]
   have e:∀ L':List (Nat×TX),aT (((x,aT t0 x)::L')++t) k=bif Nat.beq x k then aT t0 x else aT (L'++t) k:=fun _=>rfl
   rw[e]
   refine⟨fun h=>?_,fun h hk=>?_⟩
   ·rw[beq_false (fun hh=>by rw[hh,h] at hx;cases hx)];exact ih.1 h
   by_cases AA:x=k
   ·subst AA;rw[Nat.beq_refl];rfl
   rw[beq_false AA]
   rcases List.mem_cons.1 hk with rfl | hk
   ·exact absurd rfl AA
   exact ih.2 h hk
theorem U7:∀ {H:List Nat} {i j x:Nat},oT H=true→H[i]?=some x→H[j]?=some x→i=j
 | [],i,j,x,_,hi,_=>by simp at hi
 | y::ys,i,j,x,h,hi,hj=>by
  simp only[oT,Bool.and_eq_true,Bool.not_eq_true',List.any_eq_false] at h
  obtain⟨h1,h2⟩:=h
  cases i with
  | zero=>
   cases j with
   | zero=>rfl
   | succ j=>
    simp at hi hj
    subst hi
    exact absurd (Nat.beq_refl _) (h1 _ (List.mem_of_getElem? hj))
  | succ i=>
   cases j with
   | zero=>
    simp at hi hj
    subst hj
    exact absurd (Nat.beq_refl _) (h1 _ (List.mem_of_getElem? hi))
   | succ j=>
    simp at hi hj
    exact congrArg (· + 1) (U7 h2 hi hj)
theorem K4 {i:Nat} (h:AK H i=false) {k:Nat}:H[k]?≠some i:=fun hk=>by
 simp only[AK,List.any_eq_false] at h
 exact h i (List.mem_of_getElem? hk) (Nat.beq_refl i)
theorem ais (hC:ck P V C) (aR:kB P C cs) (hn:C.nt=n) (hD:lj ρ D) (eR:∀ d∈rs,wR cs ρ d) (hH:oT H=true) (Kv:∀ h∈H,h < ops.length) {listed L':Array Bool} {i:Nat} {o:Oper} {d:Dn} (ho:ops[i]?=some o) (hd:d∈rs)
  (hc:qA ops listed) (Em:listed.getD i false=false) (hw:∀ j∈waits o,listed.getD j false=true) (hL:∀ k,L'.getD k false=if k=i then true else listed.getD k false) {s:St} (hg:Good ops ρ t0 t H Ls listed s) (hA:HA ops A=true) (fX:p9 ops=true)
  (ef:eS C.nt o.dst=true) (Eg:Wo ops A i o=true) (cr:∀ m,m≤H.length→CH A H i m=true→FA C ops (pY ops A t0 t i o) t D H Ls i o m d=true):nv P n ops o s (Good ops ρ t0 t H Ls L'):=by
 obtain⟨m,l,g1,g2,g3,g4,g5,g6⟩:=hg
 have JB:CH A H i m=true:=by
  unfold CH
  refine List.all_eq_true.2 fun k hk=>?_
  split
  ·rename_i h hh
   have h4:=g4 k h hh
   rw[Bool.and_eq_true]
   constructor
   ·cases hwt:wt A i h with
    | false=>rfl
    | true=>
     have:=h4.1 (Hw hA fX hc i ho hw hwt)
     simpa [Nat.blt_eq] using this
   cases hx:(Nat.beq h i||wt A h i) with
   | false=>rfl
   | true=>
    have bS:¬ k < m:=fun hkm=>by
     have Kb:=h4.2 hkm
     rw[Bool.or_eq_true] at hx
     rcases hx with hx | hx
     ·have:=Nat.eq_of_beq_eq_true hx
      subst this;rw[Em] at Kb;cases Kb
     cases hq:ops[h]? with
     | none=>
      have h1:(A[h]?).getD 0=0∨True:= .inr trivial
      have:=Kv h (List.mem_of_getElem? hh)
      rw[List.getElem?_eq_none_iff] at hq
      omega
     | some q=>
      have:=Hw hA fX hc h hq (hc h q hq Kb) hx
      rw[Em] at this;cases this
    have:Nat.ble m k=true:=Nat.ble_eq▸(by omega:m≤k)
    simpa using this
  rfl
 have cr:=cr m g3 JB
 have sU:∀ k,k∈iN ops o→RX ρ (aT (pY ops A t0 t i o) k) (aj.get s.t k):=fun k hk=>by
  have h1:=List.all_eq_true.1 Eg k hk
  cases Er:tW ops k (fun j=>wt A i j) with
  | true=>
   rw[Ue.1 Er]
   exact g5 k fun j q hq sQ=>Hw hA fX hc i ho hw (XV Er hq sQ)
  | false=>
   rw[Ue.2 Er hk]
   rw[Er,Bool.false_or] at h1
   refine g6 k fun j q hq sQ=>?_
   have h2:=XV h1 hq sQ
   rw[Bool.or_eq_true] at h2
   rcases h2 with h2 | h2
   ·cases hl:listed.getD j false with
    | false=>rfl
    | true=>
     have:=Hw hA fX hc j hq (hc j q hq hl) h2
     rw[Em] at this;cases this
   have:=Nat.eq_of_beq_eq_true h2
   subst this;exact Em
 have Aa:∀ j b d',o.guard=some (j,b)→(ops[j]?).bind (·.dst)=some d'→RX ρ (aT (pY ops A t0 t i o) d') (aj.get s.t d'):=fun j b d' h1 h2=>sU d' (by
  unfold iN
  rw[h1]
  simp only[h2]
  simp)
 have wz:∀ {u:T},(∀ e,o.dst=some e→RX ρ (aT t e) u)→∀ k,(∀ j q,ops[j]?=some q→q.dst=some k→L'.getD j false=true)→RX ρ (aT t k) (aj.get (aY s.t o.dst u) k):=by
  intro u hx k hk
  by_cases kQ:o.dst=some k
  ·rw[kQ]
   show RX ρ (aT t k) (if k=k then u else _)
   rw[if_pos rfl];exact hx k kQ
  have h1:aj.get (aY s.t o.dst u) k=aj.get s.t k:=by
   cases hd:o.dst with
   | none=>rfl
   | some e=>show(if e=k then u else _)=_;rw[if_neg (fun hh=>kQ (by rw[hd,hh]))]
  rw[h1]
  exact g5 k fun j q hq sQ=>by
   have:=hk j q hq sQ
   rw[hL] at this
   by_cases eQ:j=i
   ·subst eQ
    rw[ho] at hq;injection hq with hq;subst hq
    exact absurd sQ kQ
   rw[if_neg eQ] at this;exact this
 have G8:∀ {u:T},∀ k,(∀ j q,ops[j]?=some q→q.dst=some k→L'.getD j false=false)→RX ρ (aT t0 k) (aj.get (aY s.t o.dst u) k):=by
  intro u k hk
  have kQ:o.dst≠some k:=fun kQ=>by
   have:=hk i o ho kQ
   rw[hL,if_pos rfl] at this;cases this
  have h1:aj.get (aY s.t o.dst u) k=aj.get s.t k:=by
   cases hd:o.dst with
   | none=>rfl
   | some e=>show(if e=k then u else _)=_;rw[if_neg (fun hh=>kQ (by rw[hd,hh]))]
  rw[h1]
  exact g6 k fun j q hq sQ=>by
   have:=hk j q hq sQ
   rw[hL] at this
   by_cases eQ:j=i
   ·subst eQ;rw[if_pos rfl] at this;cases this
   rw[if_neg eQ] at this;exact this
 have same:(∀ k,H[k]?≠some i)→∀ k h,H[k]?=some h→(L'.getD h false=true↔k < m):=fun Kk k h hh=>by
  rw[hL,if_neg (fun e=>Kk k (by rw[hh,e]))]
  exact g4 k h hh
 rw[hn] at ef
 cases d with
 | skip=>
  simp only[FA,Bool.and_eq_true,Bool.not_eq_true'] at cr
  obtain⟨⟨k1,k2⟩,k3⟩:=cr
  split at k2
  ·rename_i lG
   obtain⟨pc,p1,p2⟩:=RM (σ:=⟨0,pY ops A t0 t i o,[]⟩) (s:=s) Aa lG
   refine Xi p1 p2 ef ⟨m,l,g1,g2,g3,same fun k=>K4 k1,wz fun e he=>?_,G8⟩
   rw[he] at k3
   simp only at k3
   generalize aT t e=y at k3 ⊢
   cases y<;>first | exact .undef _ | exact .gone | cases k3
  cases k2
 | done m0 ins=>
  simp only[FA,Bool.and_eq_true] at cr
  obtain⟨k1,k2⟩:=cr
  split at k1
  ·rename_i lG
   obtain⟨pc,p1,p2⟩:=RN (σ:=⟨0,pY ops A t0 t i o,[]⟩) (s:=s) Aa lG
   rw[g1] at k2
   simp only at k2
   split at k2
   ·rename_i q hq
    simp only[Bool.and_eq_true] at k2
    obtain⟨⟨k2,k3⟩,k4⟩:=k2
    have abA:=Ez k2
    obtain⟨iB,lV,r1,r2,r3⟩:=eR _ hd
    obtain⟨gD,hi,h3⟩:=r2.again r1 r3 ρ fun _=>rfl
    have e1:Ext ρ gD:=fun i v hv=>(h3 i).trans hv
    have e2:Ext gD ρ:=fun i v hv=>(h3 i).symm.trans hv
    rw[←abA] at hi
    have hX:∀ x∈o.op.operands,RX ρ (jD (pY ops A t0 t i o) x) (bR s.t x):=fun x hx=>by
     cases x with
     | tmp k=>exact sU k (List.mem_append_left _ (List.mem_filterMap.2 ⟨.tmp k,by simpa using hx,rfl⟩))
     | const v=>exact tz (tX:=[]) (t:=[]) (fun _=> .undef _) (.const v)
     | global g=>exact .undef _
     | func f=>exact tz (tX:=[]) (t:=[]) (fun _=> .undef _) (.func f)
    obtain⟨u,hu,hm⟩:=Q2 hC aR g2 hX Xp e1 hq hi
    have hlen:l.length=s.l.length:=g2.len
    have c8:∀ e,o.dst=some e→RX ρ (aT t e) u:=fun e he=>by
     rw[he] at k3
     rw[←TX.beq_eq k3]
     exact ZN hD (hu.mono e2)
    have Se:∀ {e:CA},(bif false then !AK H i else(match H[m]? with | some h=>Nat.beq h i | none=>false)&&(match Ls[m+1]? with | some l'=>ot (wB e l) l' | none=>false))=true→∀ l':List AO,bV P o (bR s.t) s.l u l'→RL ρ (wB e l) l'→nv P n ops o s (Good ops ρ t0 t H Ls L'):=by
     intro e k4 l' h1 h2
     simp only[cond_false,Bool.and_eq_true] at k4
     obtain⟨k4,k5⟩:=k4
     split at k4
     ·rename_i h hh
      have:=Nat.eq_of_beq_eq_true k4
      subst this
      split at k5
      ·rename_i l2 dQ
       have abC:=CO k5
       have aN:m < H.length:=(List.getElem?_eq_some_iff.1 hh).1
       have Zz:∀ k h',H[k]?=some h'→(L'.getD h' false=true↔k < m+1):=fun k h' qX=>by
        rw[hL]
        by_cases hk:h'=h
        ·subst hk
         rw[if_pos rfl]
         have:=U7 hH qX hh
         subst this;simp
        rw[if_neg hk,g4 k h' qX]
        have:k≠m:=fun e=>hk (by subst e;rw[qX] at hh;injection hh)
        omega
       exact Ce p1 p2 h1 ef ⟨m+1,l2,dQ,by rw[←abC];exact h2,aN,Zz,wz c8,G8⟩
      cases k5
     cases k4
    split at hm
    ·rename_i dc
     rw[dc] at k4
     simp only[isNone,cond_true,Bool.not_eq_true'] at k4
     exact Ce p1 p2 hm ef ⟨m,l,g1,g2,g3,same fun k=>K4 k4,wz c8,G8⟩
    ·rename_i a0 dc
     obtain⟨a',q1,q2,_⟩:=hm
     rw[dc] at k4
     exact Se k4 _ (q2 hlen) (F2.app g2 (.cons (q1.mono e2) .nil))
    rename_i l1 dc
    obtain⟨l',q1,q2⟩:=hm
    rw[dc] at k4
    cases ml:ot l1 l with
    | false=>
     simp only[isNone,ml] at k4
     exact Se k4 _ (q2 hlen) (q1.mono e2)
    | true=>
     simp only[isNone,ml,cond_true,Bool.not_eq_true'] at k4
     have:=CO ml
     subst this
     exact Ce p1 p2 (q2 hlen) ef ⟨m,l1,g1,q1.mono e2,g3,same fun k=>K4 k4,wz c8,G8⟩
   cases k2
  cases k1
theorem Yh (hC:ck P V C) (aR:kB P C cs) (hn:C.nt=n) (hD:lj ρ D) (eR:∀ d∈rs,wR cs ρ d) (R7:zl C ops A t0 t D H Ls rs=true) {Q:Exit→Act→World→Prop}
  (hQ:∀ s l a w,Ls[H.length]?=some l→RL ρ l s.l→(∀ k,RX ρ (aT t k) (aj.get s.t k))→Rel w0 I0 n s a w→Q .normal a w) :
  ∀ (fuel:Nat) (listed:Array Bool) (a:Act) (w:World),listed.size=ops.length→nu ops.length listed=fuel→qA ops listed→(∃ s,Rel w0 I0 n s a w∧Good ops ρ t0 t H Ls listed s)→wpAnyIn eC 0 P .any ops.toArray Q fuel listed a w:=by
 simp only[zl,Bool.and_eq_true] at R7
 obtain⟨⟨⟨⟨fX,hA⟩,hH⟩,RR⟩,bA⟩:=R7
 have Kv:∀ h∈H,h < ops.length:=fun h hh=>by
  have:=List.all_eq_true.1 RR h hh
  simpa [Nat.blt_eq] using this
 have done:∀ (listed:Array Bool) (a:Act) (w:World),(∀ i,i < ops.length→listed.getD i false=true)→(∃ s,Rel w0 I0 n s a w∧Good ops ρ t0 t H Ls listed s)→Q .normal a w:=by
  rintro listed a w hl ⟨s,hr,m,l,g1,g2,g3,g4,g5,_⟩
  have hm:m=H.length:=by
   rcases Nat.lt_or_ge m H.length with h | h
   ·have hh:H[m]?=some H[m]:=List.getElem?_eq_getElem h
    have h2:=List.all_eq_true.1 RR H[m] (List.getElem_mem h)
    have h3:H[m] < ops.length:=by simpa [Nat.blt_eq] using h2
    have:=(g4 m _ hh).1 (hl _ h3)
    omega
   omega
  subst hm
  exact hQ s l a w g1 g2 (fun k=>g5 k fun j o ho _=>hl j (List.getElem?_eq_some_iff.1 ho).1) hr
 intro fuel
 induction fuel with
 | zero=>
  intro listed a w hs hu hc hg
  have hl:∀ i,i < ops.length→listed.getD i false=true:=by
   intro i hi
   have:=List.length_eq_zero_iff.1 hu
   have:=(List.filter_eq_nil_iff.1 this) i (List.mem_range.2 hi)
   simpa using this
  refine⟨?_,done listed a w hl hg⟩
  refine List.eq_nil_iff_forall_not_mem.2 fun i hi=>?_
  have aN:=B3 hi
  have:=((tQ hs aN (List.getElem?_eq_getElem aN)).1 hi).1
  rw[hl i aN] at this;cases this
 | succ fuel ih=>
  intro listed a w hs hu hc hg
  refine⟨fun h0=>?_,fun i hi=>?_⟩
  ·
   refine done listed a w (fun i hi=>?_) hg
   induction i using Nat.strongRecOn with
   | ind i AF=>
    cases hb:listed.getD i false with
    | true=>rfl
    | false=>
     have ho:ops[i]?=some ops[i]:=List.getElem?_eq_getElem hi
     have:i∈Region.ready .any ops.toArray listed:=(tQ hs hi ho).2 ⟨hb,fun j hj=>AF j (AU fX ho j hj) (Nat.lt_trans (AU fX ho j hj) hi)⟩
     rw[h0] at this;cases this
  have aN:=B3 hi
  have ho:ops[i]?=some ops[i]:=List.getElem?_eq_getElem aN
  obtain⟨h1,h2⟩:=(tQ hs aN ho).1 hi
  have iT:∀ j,(listed.setIfInBounds i true).getD j false=if j=i then true else listed.getD j false:=fun j=>DH hs aN
  have c8:nu ops.length (listed.setIfInBounds i true)=fuel:=by have:=NI hs aN h1;omega
  have zL:=List.all_eq_true.1 bA i (List.mem_range.2 aN)
  generalize ops[i]=o at ho h2
  obtain⟨s,hr,lG⟩:=hg
  rw[ho] at zL
  split at zL
  ·rename_i o' d bK hd
   injection bK with bK
   subst bK
   simp only[Bool.and_eq_true] at zL
   obtain⟨⟨a1,a2⟩,a3⟩:=zL
   have c7:=ais hC aR hn hD eR hH Kv ho (List.mem_of_getElem? hd) hc h1 h2 iT lG hA fX a1 a2 (fun m hm JB=>by
    have:=List.all_eq_true.1 a3 m (List.mem_range.2 (by omega))
    rw[JB] at this
    simpa using this)
   unfold wpOpIn
   have:ops.toArray[i]?=some o:=by simpa using ho
   simp only[this]
   exact c7 w0 I0 a w Q _ hr fun s' a' w' nL ju=>ih _ a' w' (by simp[hs]) c8 (hc.step ho h2 iT) ⟨s',ju,nL⟩
  cases zL
omit [cP] [dC] [bh] [cd] in
theorem IH (m:Nat) (σ:Sk):∀ D:gV,(jP ⟨m,σ.t,σ.l⟩ D).t=(jP σ D).t
 | []=>rfl
 | p::r=>congrArg (qL p.1 p.2) (IH m σ r)
theorem ZZ (hC:ck P V C) (aR:kB P C cs) (hn:C.nt=n) (hm:P.follows .mixedOrders=true) {σ:Sk} {ρ0:aO} {s:St} {Q:LQ} {J:LJ} {Qd:Exit→St→Prop} {id:Nat} (hs:ba ρ0 σ s) (hw:Tr.wp cs (o7 C ops σ ops σ [] []) ρ0 Q J)
  (hK:∀ bE ρ' J',Q .normal bE ρ' J'→dy σ.n ρ0 ρ'→σ.n≤bE.n→∀ s',ba ρ' bE s'→Qd .normal s'):aV P w0 I0 n (.region id ops.toArray true) s Qd:=by
 obtain⟨τ,ρ,J',D,rs,h1,h2,h3,h4,h5,h6,h7⟩:=Nc (Q:=Q) ops hs.fT (fun p hp=>by cases hp) (fun d hd=>by cases hd) hw
 have gM:Ext ρ0 ρ:=h4.ext hs.fT
 have bl:ba ρ ⟨τ.n,σ.t,σ.l⟩ s:=⟨h3,fun k=>(hs.t k).mono gM,hs.l.mono gM⟩
 intro a w hr
 refine wpIn_region_any hm ?_
 obtain⟨fk,l,hl,h2⟩:=Ud h2
 have mg:∀ (k:Nat),(∀ o∈ops,o.dst≠some k)→aT (kc C D ((List.range ops.length).zip (ops.zip rs)) (jP σ D).t σ.l).1 k=aT (jP σ D).t k:=fun k hk=>BU fun x hx=>hk _ (List.of_mem_zip (List.of_mem_zip hx).2).1
 generalize kc C D ((List.range ops.length).zip (ops.zip rs)) (jP σ D).t σ.l=p at h2 mg fk hl
 have Sb:=QG bl h6
 have pP:∀ i,(Array.replicate ops.length false).getD i false=false:=fun i=>by
  rw[Array.getD_eq_getD_getElem?]
  cases hx:(Array.replicate ops.length false)[i]? with
  | none=>rfl
  | some b=>have:=Array.getElem?_eq_some_iff.1 hx;simp at this;simp[←this.2]
 have nQ:Rel w0 I0 n s a { w with drawn:=w.drawn+1 }:=by
  obtain⟨aK,I,m,hw,dY,ht⟩:=hr
  exact⟨aK,I,m,(hw.call (w':={ w with drawn:=w.drawn+1 }) ⟨rfl,rfl,rfl,Nat.le_refl _,fun _ _=>rfl,fun _=>Nat.le_succ _⟩ (gE.refl _ _) ⟨hw.sat.cell,hw.sat.mp,hw.sat.df,hw.sat.dA⟩).1,dY,ht⟩
 have:=Yh (w0:=w0) (I0:=I0) (Q:=fun e a' w'=>∃ s',Qd e s'∧Rel w0 I0 n s' a' w') hC aR hn h6 h7 fk (fun s2 l2 a2 w2 q1 q2 q3 q4=>by
  rw[hl] at q1;injection q1 with q1;subst q1
  have Av:ba ρ τ s2:=by rw[h2];exact⟨by rw[h2] at h3;exact h3,q3,q2⟩
  exact⟨s2,hK τ ρ J' h1 h4 h5 s2 Av,q4⟩) ops.length (Array.replicate ops.length false) a { w with drawn:=w.drawn+1 } (by simp)
  (by unfold nu;rw[List.filter_eq_self.2 (fun i _=>by rw[pP];rfl)];simp)
  (fun i o _ hh=>by rw[pP] at hh;cases hh)
  ⟨s,nQ,0,σ.l,rfl,bl.l,Nat.zero_le _,fun k h _=>by rw[pP];simp,fun k hk=>by
   rw[mg k fun o ho hd=>by
    obtain⟨j,hj,rfl⟩:=List.mem_iff_getElem.1 ho
    have:=hk j _ (List.getElem?_eq_getElem hj) hd
    rw[pP] at this;cases this]
   rw[←IH τ.n σ D]
   exact Sb.t k,fun k _=>by rw[←IH τ.n σ D];exact Sb.t k⟩
 simpa using this
end
end Go.Sy
namespace Go.Sy
open Go Go.aj
variable [aC] [cZ] [cP] [dC] [bh] [cd]
theorem A2:∀ {ts:List T} {ds:List aj.D},ts.mapM gJ=some ds→ts=ds.map .d
 | [],ds,h=>by simp at h;subst h;rfl
 | t::ts,ds,h=>by
  rw[List.mapM_cons] at h
  cases h1:gJ t with
  | none=>rw[h1] at h;cases h
  | some d=>
   cases h2:ts.mapM gJ with
   | none=>rw[h1,h2] at h;cases h
   | some r=>
    rw[h1,h2] at h
    simp only[Option.bind_eq_bind,Option.bind_some,Option.pure_def,Option.some.injEq] at h
    subst h
    rw[A2 h2]
    cases t<;>simp[gJ] at h1
    subst h1;rfl
section
variable {P:Program} {V:Env} {C:Cx} {ρ:aO} {σ bE:Sk} {s:St}
theorem afc {t:Ty} (hv:isVal t) {ts:List T} {v:t.den} (h:jy (cj t) ts = .d (t.enc v)) (hl:cj t=false→ts.length=1):ts=(t.enc v).cells.map .d∧∀ x∈(t.enc v).cells,x.one=true:=by
 cases hs:cj t with
 | false=>
  obtain⟨h1,h2⟩:=nD hs hv.1 hv.2 v
  rw[h1]
  match ts,hl hs with
  | [u],_=>
   rw[hs] at h
   simp only[jy,Bool.false_eq_true,if_false,List.headD_cons] at h
   subst h
   exact⟨rfl,fun x hx=>by simp at hx;subst hx;exact h2⟩
 | true=>
  cases t with
  | st i=>
   have e:(Ty.st i).enc v = .agg (aC.cells i v):=rfl
   rw[e] at h ⊢
   rw[hs] at h
   simp only[jy,if_true] at h
   split at h
   ·rename_i ds ff
    injection h with h;injection h with h
    rw[A2 ff,h]
    exact⟨rfl,cP.FD i v⟩
   cases h
  | _=>cases hs
theorem aaP (
        hC:ck P V C) (h:ba ρ σ s) {j:Nat} (hf:Jn C σ j=some bE):∃ s',Sub s s'∧ba ρ bE s'∧bE.n=σ.n:=by
 unfold Jn at hf
 split at hf
 ·rename_i id hj
  split at hf
  ·rename_i ty cs an
   split at hf
   ·rename_i t dZ
    split at hf
    ·rename_i u x hx
     split at hf
     ·rename_i hu
      subst hu
      generalize dO:zI σ.l id=ids at hf
      cases hc:(fP (.box u)&&Jm ids id&&uI ids σ.l) with
      | false=>rw[hc] at hf;cases hf
      | true=>
       rw[hc] at hf
       simp only[cond_true,Option.some.injEq] at hf
       subst hf
       rw[Bool.and_eq_true,Bool.and_eq_true] at hc
       obtain⟨⟨hb,z8⟩,eK⟩:=hc
       unfold Jm at z8
       rw[Bool.and_eq_true] at z8
       obtain⟨i,gk,ij,gy,hv,_⟩:=hC.info dZ
       have fN:ids.Nodup:=Ft z8.1
       have Kk:id∉ids:=fun hm=>by
        have:(ids.any fun i=>Nat.beq i id)=true:=List.any_eq_true.2 ⟨id,hm,Nat.beq_refl id⟩
        rw[this] at z8;cases z8.2
       obtain⟨ao,cH,dB⟩:=F2.left h.l an
       cases dB with
       | var _ _ ts gA=>
        have hm:=Fj hv gA hx
        have JZ:=h.t j
        rw[hj] at JZ
        generalize hT:jy (cj u) ts=T0 at hm
        cases hm with
        | d _ _ v h1 h2=>
         obtain⟨q1,q2⟩:=afc hv hT (fun hs=>by
          unfold vP at hx
          rw[hs] at hx
          simp only[cond_false] at hx
          split at hx
          ·rw[←gA.len];rfl
          cases hx)
         generalize hg:aj.get s.t j=gj at JZ
         cases JZ
         obtain⟨s1,k1,k2⟩:=Sk.Wn h (ids:=ids) fN eK
         refine⟨⟨(j,.d (.box (u.enc v)))::s1.t,s1.l⟩,?_,⟨h.fT,fun k=>?_,k2.l⟩,rfl⟩
         ·exact aiD j id (u.enc v) ids hg (by rw[cH,q1]) q2 Kk fN k1.1 k1.2.1 k1.2.2
         show RX ρ (bif Nat.beq j k then _ else aT (σ.re ids).t k) (if j=k then _ else aj.get s1.t k)
         by_cases uT:j=k
         ·subst uT
          rw[if_pos rfl,Nat.beq_refl]
          exact .d (.box u) (.box x) v (dF hb) (by simp only[X.den,h2])
         have hb:Nat.beq j k=false:=by
          cases e:Nat.beq j k with
          | false=>rfl
          | true=>exact absurd (Nat.eq_of_beq_eq_true e) uT
         rw[if_neg uT,hb]
         exact k2.t k
     cases hf
    cases hf
   cases hf
  cases hf
 cases hf
theorem Di {id:Nat}:∀ {ts:List Ty} {k:Nat} {σ:Sk} {s:St},ba ρ σ s→∃ s',Sub s s'∧ba ρ (zo id ts k σ) s'∧(zo id ts k σ).n=σ.n
 | [],k,σ,s,h=>⟨s,Sub.refl s,h,rfl⟩
 | t::ts,k,σ,s,h=>by
  simp only[zo]
  split
  ·exact Di h
  split
  ·rename_i σ1 hc
   obtain⟨s1,k1,k2,k3⟩:=Og h hc
   obtain⟨s2,m1,m2,m3⟩:=Di (id:=id) (ts:=ts) (k:=k+1) k2
   exact⟨s2,Sub.trans' k1 m1,m2,m3.trans k3⟩
  exact Di h
theorem ZJ {j:Nat} (h:ba ρ σ s):∃ s',Sub s s'∧ba ρ (Dj C σ j) s'∧(Dj C σ j).n=σ.n:=by
 unfold Dj
 have z:∃ s',Sub s s'∧ba ρ σ s'∧σ.n=σ.n:=⟨s,Sub.refl s,h,rfl⟩
 split
 ·split
  ·split
   ·split
    ·exact Di h
    exact z
   exact z
  exact z
 exact z
theorem Jl (hC:ck P V C):∀ {js:List Nat} {σ:Sk} {s:St},ba ρ σ s→∃ s',Sub s s'∧ba ρ (mf C σ js) s'∧(mf C σ js).n=σ.n
 | [],σ,s,h=>⟨s,Sub.refl s,h,rfl⟩
 | j::r,σ,s,h=>by
  simp only[mf]
  split
  ·rename_i σ1 hf
   obtain⟨s0,q1,q2,q3⟩:=ZJ (C:=C) (j:=j) h
   obtain⟨s1,k1,k2,k3⟩:=aaP hC q2 hf
   obtain⟨s2,m1,m2,m3⟩:=Jl hC (js:=r) k2
   exact⟨s2,fun w0 I0 n a w hr=>m1 _ _ _ _ _ (k1 _ _ _ _ _ (q1 _ _ _ _ _ hr)),m2,m3.trans (k3.trans q3)⟩
  exact Jl hC (js:=r) h
end
end Go.Sy
namespace Go.Sy
open Go Go.aj
section
variable [aC]
@[reducible] def je (Λ:cZ) (j:Nat) (x:LF):cZ:=⟨fun i=>if i=j then some x else Λ.lam i⟩
def jL (Λ cn:cZ):Prop:=∀ j x,Λ.lam j=some x→cn.lam j=some x
theorem jL.push {Λ:cZ} {j:Nat} {x:LF} (h:Λ.lam j=none):jL Λ (je Λ j x):=fun i y hy=>by
 show(if i=j then some x else Λ.lam i)=some y
 by_cases hi:i=j
 ·subst hi;rw[h] at hy;cases hy
 rw[if_neg hi];exact hy
theorem jL.trans {a b c:cZ} (h:jL a b) (k:jL b c):jL a c:=fun j x hx=>k j x (h j x hx)
theorem Yn {Λ cn:cZ} (h:jL Λ cn) {ρ:aO} {a:AX} {o:AO} (k:@cu _ Λ ρ a o):@cu _ cn ρ a o:=by
 cases k with
 | dead=>exact @cu.dead _ cn ρ
 | var ty cs ts h1=>exact @cu.var _ cn ρ ty cs ts h1
 | row e t x xs h0 h1=>exact @cu.row _ cn ρ e t x xs h0 h1
 | bx e t x xs h0 h1=>exact @cu.bx _ cn ρ e t x xs h0 h1
 | map k v x m h0 h2 h1=>exact @cu.map _ cn ρ k v x m h0 h2 h1
 | eP k v x m h0 h2 h1=>exact @cu.eP _ cn ρ k v x m h0 h2 h1
 | eo j b rs vals ft h1 h2=>exact @cu.eo _ cn ρ j b rs vals ft (h _ _ h1) h2
 | lp j b rs st k ps bp body tm h1 h2=>exact @cu.lp _ cn ρ j b rs st k ps bp body tm (h _ _ h1) h2
 | fE o h1=>exact @cu.fE _ cn ρ o h1
theorem M9 {Λ cn:cZ} (h:jL Λ cn) {ρ:aO} {l:List AX} {m:List AO} (k:@RL _ Λ ρ l m):@RL _ cn ρ l m:=F2.mono (fun _ _=>Yn h) k
theorem Yp {Λ cn:cZ} {d:Nat} (h:∀ j,j < d→cn.lam j=Λ.lam j) {ρ:aO} {a:AX} {o:AO} (k:@cu _ cn ρ a o):@cu _ Λ ρ (kf d a) o:=by
 cases k with
 | dead=>exact @cu.dead _ Λ ρ
 | var ty cs ts h1=>exact @cu.var _ Λ ρ ty cs ts h1
 | row e t x xs h0 h1=>exact @cu.row _ Λ ρ e t x xs h0 h1
 | bx e t x xs h0 h1=>exact @cu.bx _ Λ ρ e t x xs h0 h1
 | map k v x m h0 h2 h1=>exact @cu.map _ Λ ρ k v x m h0 h2 h1
 | eP k v x m h0 h2 h1=>exact @cu.eP _ Λ ρ k v x m h0 h2 h1
 | eo j b rs vals ft h1 h2=>
  simp only[kf]
  cases e:Nat.ble d j with
  | true=>exact @cu.fE _ Λ ρ _ rfl
  | false=>
   have:j < d:=by
    rcases Nat.lt_or_ge j d with h | h
    ·exact h
    rw[Nat.ble_eq_true_of_le h] at e;cases e
   exact @cu.eo _ Λ ρ j b rs vals ft ((h j this).symm.trans h1) h2
 | lp j b rs st k ps bp body tm h1 h2=>
  simp only[kf]
  cases e:Nat.ble d j with
  | true=>exact @cu.fE _ Λ ρ _ rfl
  | false=>
   have:j < d:=by
    rcases Nat.lt_or_ge j d with h | h
    ·exact h
    rw[Nat.ble_eq_true_of_le h] at e;cases e
   exact @cu.lp _ Λ ρ j b rs st k ps bp body tm ((h j this).symm.trans h1) h2
 | fE o h1=>exact @cu.fE _ Λ ρ o h1
theorem Na {Λ cn:cZ} {d:Nat} (h:∀ j,j < d→cn.lam j=Λ.lam j) {ρ:aO} {l:List AX} {m:List AO} (k:@RL _ cn ρ l m):@RL _ Λ ρ (l.map (kf d)) m:=F2.map (F2.mono (fun _ _=>Yp h) k)
inductive ll [cZ] (ρ:aO):gu→Prop
 | mk (id j k ps bp body t outer b) (lf:Array Tmp) (tm:Tm):cZ.lam j=some (.loop b k lf bp body tm)→lf.toList=ps→(∀ q,RX ρ (aT t q) (aj.get tm q))→(∀ x,x∈outer→ll ρ x)→ll ρ (.mk id j k ps bp body t outer)
theorem ll.mono [cZ] {ρ ρ':aO} (h:Ext ρ ρ') {x:gu} (k:ll ρ x):ll ρ' x:=by
 induction k with
 | mk id j k ps bp body t outer b lf tm h1 h2 h3 _ ih=>exact .mk id j k ps bp body t outer b lf tm h1 h2 (fun q=>(h3 q).mono h) ih
theorem ll.lam {Λ cn:cZ} (h:jL Λ cn) {ρ:aO} {x:gu} (k:@ll _ Λ ρ x):@ll _ cn ρ x:=by
 induction k with
 | mk id j k ps bp body t outer b lf tm h1 h2 h3 _ ih=>exact @ll.mk _ cn ρ id j k ps bp body t outer b lf tm (h _ _ h1) h2 h3 ih
def LOk [cZ] (ρ:aO) (L:List gu):Prop:=∀ x,x∈L→ll ρ x
theorem Rb {id:Nat}:∀ {L:List gu} {x:gu},zB id L=some x→x∈L∧x.id=id
 | [],x,h=>by simp[zB] at h
 | y::r,x,h=>by
  simp only[zB] at h
  cases e:Nat.beq y.id id with
  | true=>rw[e] at h;simp at h;subst h;exact⟨by simp,Nat.eq_of_beq_eq_true e⟩
  | false=>rw[e] at h;obtain⟨h1,h2⟩:=Rb h;exact⟨by simp[h1],h2⟩
theorem N5:∀ {ts:List T} {r:Nat},r∈pr ts→∃ (i:Nat) (t:T),ts[i]?=some t∧r∈fy t
 | [],r,h=>by simp[pr] at h
 | t::ts,r,h=>by
  simp only[pr,List.mem_append] at h
  rcases h with h | h
  ·exact⟨0,t,rfl,h⟩
  obtain⟨i,u,h1,h2⟩:=N5 h
  exact⟨i+1,u,by simpa using h1,h2⟩
theorem Wp:∀ {cs:List TX} {i:Nat} {c:TX} {r:Nat},cs[i]?=some c→r∈c.refs→r∈TX.wo cs
 | [],i,c,r,h,_=>by simp at h
 | u::cs,i,c,r,h,hr=>by
  simp only[TX.wo,List.mem_append]
  cases i with
  | zero=>simp at h;subst h;exact .inl hr
  | succ i=>exact .inr (Wp (by simpa using h) hr)
theorem Qu:∀ {cs:List TX} {i:Nat} {c:TX},TX.uv cs=true→cs[i]?=some c→c.clean=true
 | [],i,c,_,h=>by simp at h
 | u::cs,i,c,hc,h=>by
  simp only[TX.uv,Bool.and_eq_true] at hc
  cases i with
  | zero=>simp at h;subst h;exact hc.1
  | succ i=>exact Qu hc.2 (by simpa using h)
theorem Zq {ρ:aO} {c:TX} {t:T} (h:RX ρ c t):c.clean=true→∀ r∈fy t,r∈c.refs:=by
 have key:∀ {cs:List TX} {ts:List T},cs.length=ts.length→(∀ (i:Nat) c t,cs[i]?=some c→ts[i]?=some t→c.clean=true→∀ r∈fy t,r∈c.refs)→TX.uv cs=true→∀ r∈pr ts,r∈TX.wo cs:=by
  intro cs ts hl ih hc r hr
  obtain⟨i,t,ht,hrt⟩:=N5 hr
  have hi:=(List.getElem?_eq_some_iff.1 ht).1
  have JG:cs[i]?=some (cs[i]'(by omega)):=List.getElem?_eq_getElem (by omega)
  exact Wp JG (ih i _ t JG ht (Qu hc JG) r hrt)
 induction h with
 | undef t=>intro hc;cases hc
 | gone=>intro hc;cases hc
 | ptr id off=>intro _ r hr;exact hr
 | row id=>intro _ r hr;exact hr
 | bf id k off kk n h1=>intro _ r hr;exact hr
 | map id=>intro _ r hr;exact hr
 | bd id=>intro _ r hr;exact hr
 | bL id n=>intro _ r hr;exact hr
 | bD id t x xs h1=>intro _ r hr;exact hr
 | agg cs ts h1 _ ih=>intro hc r hr;exact key h1 ih hc r hr
 | aI cs ts h1 _ ih=>intro hc r hr;exact key h1 ih hc r hr
 | aL f cs ts h1 _ ih=>intro hc r hr;exact key h1 ih hc r hr
 | _=>intro _ r hr;simp[fy] at hr
end
variable [aC] [Λ:cZ] [cP] [dC] [bh] [qE] [R0:cd]
theorem T9 {ρ:aO} {σ:Sk} {s:St} (h:ba ρ σ s) (m:Nat):∃ ft:Tm,(∀ k,aj.get ft k = .undef∨aj.get ft k=aj.get s.t k)∧(∀ k,RX ρ (aT (rz m σ.t) k) (aj.get ft k))∧pq ft (iO (rz m σ.t)):=by
 have h0:=(yC m h).t
 have h0:∀ k,RX ρ (aT (lQ m σ.t 0) k) (aj.get s.t k):=h0
 have key:∀ (t:List (Nat×TX)),(∀ k,j4 k t=true→RX ρ (aT t k) (aj.get s.t k))→∃ ft:Tm,(∀ k,aj.get ft k = .undef∨aj.get ft k=aj.get s.t k)∧(∀ k,RX ρ (aT (t.map fun p=>(p.1,bif p.2.clean then p.2 else .undef)) k) (aj.get ft k))∧pq ft (iO (t.map fun p=>(p.1,bif p.2.clean then p.2 else .undef))):=by
  intro t ht
  have:∀ (
       t:List (Nat×TX)) (seen:List Nat),(∀ k,k∉seen→j4 k t=true→RX ρ (aT t k) (aj.get s.t k))→∃ ft:Tm,(∀ k,k∉seen→(aj.get ft k = .undef∨aj.get ft k=aj.get s.t k))∧(∀ k,k∉seen→RX ρ (aT (t.map fun p=>(p.1,bif p.2.clean then p.2 else .undef)) k) (aj.get ft k))∧∀ k,k∉seen→∀ r∈fy (aj.get ft k),r∈iO (t.map fun p=>(p.1,bif p.2.clean then p.2 else .undef)):=by
   intro t
   induction t with
   | nil=>intro seen _;exact⟨[],fun k _=> .inl rfl,fun k _=> .undef _,fun k _ r hr=>by simp[aj.get,fy] at hr⟩
   | cons p t ih=>
    intro seen ht
    obtain⟨i,u⟩:=p
    obtain⟨ft,f1,f2,f3⟩:=ih (i::seen) fun k hk hkt=>by
     simp only[List.mem_cons,not_or] at hk
     have:=ht k hk.2 (by simp[j4,hkt])
     simpa only[aT,beq_false (fun e:i=k=>hk.1 e.symm),cond_false] using this
    refine⟨(i,bif u.clean then aj.get s.t i else .undef)::ft,fun k hk=>?_,fun k hk=>?_,fun k hk r hr=>?_⟩
    ·simp only[aj.get]
     by_cases dP:i=k
     ·subst dP;rw[if_pos rfl];cases u.clean<;>simp
     rw[if_neg dP];exact f1 k (by simp[hk];exact fun e=>dP e.symm)
    ·simp only[aj.get,List.map_cons,aT]
     by_cases dP:i=k
     ·subst dP;rw[if_pos rfl,Nat.beq_refl]
      simp only[cond_true]
      cases hc:u.clean with
      | false=>exact .undef _
      | true=>
       have:=ht i hk (by simp[j4,Nat.beq_refl])
       simpa only[aT,Nat.beq_refl,cond_true] using this
     rw[if_neg dP,beq_false dP];exact f2 k (by simp[hk];exact fun e=>dP e.symm)
    simp only[aj.get] at hr
    simp only[List.map_cons,iO,List.mem_append]
    by_cases dP:i=k
    ·subst dP;rw[if_pos rfl] at hr
     cases hc:u.clean with
     | false=>rw[hc] at hr;simp[fy] at hr
     | true=>
      rw[hc] at hr
      simp only[cond_true] at hr ⊢
      have:=ht i hk (by simp[j4,Nat.beq_refl])
      simp only[aT,Nat.beq_refl,cond_true] at this
      exact .inl (Zq this hc r hr)
    rw[if_neg dP] at hr;exact .inr (f3 k (by simp[hk];exact fun e=>dP e.symm) r hr)
  obtain⟨ft,f1,f2,f3⟩:=this t [] fun k _=>ht k
  exact⟨ft,fun k=>f1 k (by simp),fun k=>f2 k (by simp),fun k=>f3 k (by simp)⟩
 exact key (lQ m σ.t 0) fun k _=>h0 k
section
variable {P:Program} {V:Env} {C:Cx} {ρ:aO} {σ:Sk} {s:St}
theorem GV (hC:ck P V C) (h:ba ρ σ s):∀ {rs:List ResultVar} {xs:List TX},rZ C σ rs=some xs→oU (rs.map fun v=>(jF V s v).2)∧F2 (RX ρ) xs (rs.map fun v=>(jF V s v).1)
 | [],xs,hx=>by
  simp only[rZ,Option.some.injEq] at hx;subst hx
  exact⟨trivial,.nil⟩
 | .tmp t::r,xs,hx=>by
  simp only[rZ,Option.map_eq_some_iff] at hx
  obtain⟨ys,h1,rfl⟩:=hx
  obtain⟨k1,k2⟩:=GV hC h h1
  exact⟨⟨trivial,k1⟩,.cons (h.t t) k2⟩
 | .cell a ty::r,xs,hx=>by
  simp only[rZ] at hx
  split at hx
  ·rename_i x hr
   simp only[Option.map_eq_some_iff] at hx
   obtain⟨ys,h1,rfl⟩:=hx
   obtain⟨k1,k2⟩:=GV hC h h1
   have ha:=h.t a
   unfold Ws at hr
   split at hr
   ·rename_i t id off dZ hg
    rw[hg] at ha
    split at hr
    ·rename_i qp fc an
     cases hle:Nat.ble (off+t.size) fc.length with
     | false=>rw[hle] at hr;cases hr
     | true=>
      rw[hle] at hr
      simp only[cond_true] at hr
      have hle:=Nat.le_of_ble_eq_true hle
      obtain⟨i,gk,ij,gy,hv,_⟩:=hC.info dZ
      obtain⟨ao,cH,dB⟩:=F2.left h.l an
      generalize hu:get s.t a=u at ha
      cases ha
      cases dB with
      | var _ _ ts gA=>
       have e:jF V s (.cell a ty)=(jy (cj t) ((ts.drop off).take t.size),True):=by
        simp only[jF,hu,iu,gk,cH]
        rw[if_pos (by rw[ij,←gA.len];exact hle),ij,gy]
        rfl
       refine⟨?_,?_⟩
       ·simp only[List.map_cons,e];exact⟨trivial,k1⟩
       simp only[List.map_cons,e];exact .cons (Fj hv ((gA.drop off).take t.size) hr) k2
    cases hr
   cases hr
  cases hx
end
def sB:Ex→Exit
 | .normal=> .normal
 | .ret=> .ret
 | .exit i=> .exit i
 | .gC _=> .goto 0
section
variable {P:Program} {V:Env} {C:Cx} {cs:List Callee} {n:Nat} {w0:World} {I0:aw}
def M6 (e:Ex) (M:Sk) (nh:Nat) (p:Sy.V→Prop) (Q:LQ):LQ:=fun e' σ ρ' J'=>if e=e' then ∃ xs v,instS M nh σ=some xs∧(gT xs).den ρ'=some v∧p v else Q e' σ ρ' J'
theorem ahz {e:Ex} {M:Sk} {nh:Nat} {p:Sy.V→Prop} {Q:LQ} (hQ:gw Q):gw (M6 e M nh p Q):=by
 intro e' σ ρ J1 J2 hj h
 unfold M6 at h ⊢
 by_cases he:e=e'
 ·rw[if_pos he] at h ⊢;exact h
 rw[if_neg he] at h ⊢;exact hQ e' σ ρ J1 J2 hj h
theorem bind_mono {f:Ex→Sk→Tr} {Q:LQ} (hQ:gw Q):gw (fun e σ ρ' J'=>Tr.wp cs (f e σ) ρ' Q J'):=fun _ _ _ _ _ hj h=>Tr.wp_mono hj hQ h
def mM (P:Program) (cs:List Callee) (n:Nat) (w0:World) (I0:aw) (L:List gu) (c:Code) (σ:Sk) (T:Tr):Prop:=
 ∀ (ρ:aO) (s:St) (Q:LQ) (J:LJ) (Qd:Exit→St→Prop),ba ρ σ s→LOk ρ L→gw Q→T.wp cs ρ Q J →
  (∀ e bE ρ' J',Q e bE ρ' J'→dy σ.n ρ ρ'→σ.n≤bE.n→∀ s',ba ρ' bE s'→Qd (sB e) s')→aV P w0 I0 n c s Qd
theorem mM.go {L:List gu} {c:Code} {σ:Sk} {T:Tr} (h:mM P cs n w0 I0 L c σ T) {ρ:aO} {s:St} {Q:LQ} {J:LJ} {Qd:Exit→St→Prop} (hs:ba ρ σ s) (hL:LOk ρ L) (hQ:gw Q) (hw:T.wp cs ρ Q J)
  (hK:∀ e bE ρ' J',Q e bE ρ' J'→dy σ.n ρ ρ'→σ.n≤bE.n→∀ s',ba ρ' bE s'→Qd (sB e) s'):aV P w0 I0 n c s Qd:=h ρ s Q J Qd hs hL hQ hw hK
theorem LOk.mono {ρ ρ':aO} {L:List gu} (h:LOk ρ L) (he:Ext ρ ρ'):LOk ρ' L:=fun x hx=>(h x hx).mono he
theorem Xt {K:St→Prop} {Q:Exit→St→Prop} {e:Ex} (h:e ≠ .normal) (s:St):Ck K Q (sB e) s=Q (sB e) s:=by
 cases e<;>first | rfl | exact absurd rfl h
def fF (cs:List Callee) (n0:Nat) (ρ:aO) (f:Sk→Tr) (Q:LQ):LQ:=fun e bE ρ' J'=>if e = .normal then(dy n0 ρ ρ'→n0≤bE.n→∀ s',ba ρ' bE s'→∃ τ mJ qn wU,Sub s' qn∧ba mJ τ qn∧dy n0 ρ mJ∧n0≤τ.n∧Tr.wp cs (f τ) mJ Q wU) else Q e bE ρ' J'
theorem yF {n0:Nat} {ρ:aO} {f:Sk→Tr} {Q:LQ} (hQ:gw Q):gw (fF cs n0 ρ f Q):=by
 intro e σ ρ' J1 J2 hj h
 unfold fF at h ⊢
 by_cases he:e = .normal
 ·rw[if_pos he] at h ⊢;exact h
 rw[if_neg he] at h ⊢;exact hQ e σ ρ' J1 J2 hj h
theorem WV {live n0:Nat} {T:Tr} {f:Sk→Tr} {ρ:aO} {Q:LQ} {J:LJ} (hb:fI n0 ρ) (hQ:gw Q) (hw:Tr.wp cs (yG live n0 T f) ρ Q J):∃ J0,Tr.wp cs T ρ (fF cs n0 ρ f Q) J0:=by
 have U6:leaves .normal T=[]→Tr.wp cs T ρ Q J→∃ J0,Tr.wp cs T ρ (fF cs n0 ρ f Q) J0:=fun hl hw=>
  ⟨_,Tr.wp_mono (fun _ _ h=>h) (fun e σ ρ' J1 J2 hj h=>by
   unfold fF
   rw[if_neg h.1];exact hQ e σ ρ' J1 J2 hj h.2) (afo hl hQ hw)⟩
 have To:Tr.wp cs (yG.EI live n0 T f) ρ Q J→∃ J0,Tr.wp cs T ρ (fF cs n0 ρ f Q) J0:=by
  intro hw
  unfold yG.EI at hw
  split at hw
  ·rename_i hl;exact U6 hl hw
  split at hw
  ·rename_i M ts hm
   cases hM:M.dn n0 ts.length with
   | false=>rw[hM] at hw;exact hw.elim
   | true=>
    rw[hM] at hw
    simp only[cond_true] at hw
    have hw:=Wu (p:=fun z=>∃ y':(aQ ts).den,z=⟨aQ ts,y'⟩∧Tr.wp cs (f (M.fill (xo n0 ts.length) (n0+1))) ((n0,⟨aQ ts,y'⟩)::ρ) Q J) hQ (fun v h=>h) hw
    refine⟨_,Tr.wp_mono (fun _ _ h=>h) (fun e σ ρ' J1 J2 hj h=>?_) hw⟩
    unfold fF
    by_cases he:Ex.normal=e
    ·subst he
     rw[if_pos rfl] at h ⊢
     obtain⟨xs,v,k1,k2,y',rfl,k3⟩:=h
     intro h3 h4 s' bl
     obtain⟨s2,m1,m2⟩:=instS_ok (ρ0:=ρ) bl k1 rfl k2 hM (fun i v hi hv=>by rw[←h3 i hi];exact hv) hb
     exact⟨_,_,s2,J,m1,m2,dy.push (Nat.le_refl n0) ρ _,Nat.le_succ n0,k3⟩
    rw[if_neg he] at h
    rw[if_neg fun hh=>he hh.symm]
    exact hQ e σ ρ' J1 J2 hj h
  exact hw.elim
 have plain:Tr.wp cs (fz (fun e σ=>match e with | .normal=>f σ | e=> .leaf e σ) T) ρ Q J→∃ J0,Tr.wp cs T ρ (fF cs n0 ρ f Q) J0:=by
  intro hw
  have hw:=l6 hQ hw
  refine⟨_,Tr.wp_mono (fun _ _ h=>h) (fun e σ ρ' J1 J2 hj h=>?_) hw⟩
  unfold fF
  by_cases he:e = .normal
  ·subst he
   rw[if_pos rfl]
   exact fun h3 h4 s' bl=>⟨σ,ρ',s',J1,Sub.refl s',bl,h3,h4,h⟩
  rw[if_neg he]
  cases e with
  | normal=>exact absurd rfl he
  | _=>exact hQ _ σ ρ' J1 J2 hj h
 unfold yG at hw
 split at hw
 ·rename_i hl;exact U6 hl hw
 ·cases hL:nG T with
  | true=>rw[hL] at hw;exact To hw
  | false=>
   rw[hL] at hw
   simp only[cond_false] at hw
   exact plain hw
 cases hL:(nG T || !sI T) with
 | true=>rw[hL] at hw;exact To hw
 | false=>
  rw[hL] at hw
  simp only[cond_false] at hw
  exact plain hw
theorem G4 {live n0:Nat} {T:Tr} {f:Sk→Tr} {ρ:aO} {Q:LQ} {J:LJ} (hb:fI n0 ρ) (hQ:gw Q) (hw:Tr.wp cs (wv live n0 T f) ρ Q J):∃ J0,Tr.wp cs T ρ (fF cs n0 ρ f Q) J0:=by
 unfold wv at hw
 cases hd:(leaves .normal T).any isDone with
 | false=>rw[hd] at hw;exact WV hb hQ hw
 | true=>
  rw[hd] at hw
  simp only[cond_true] at hw
  have hw:=l6 hQ hw
  obtain⟨Qp,zP,hw⟩:∃ Qp:LQ,Qp=_∧Tr.wp cs _ ρ Qp J:=⟨_,rfl,hw⟩
  have uN:gw Qp:=by rw[zP];exact bind_mono hQ
  have uZ:∀ e τ ρ J,Qp (.gC e) τ ρ J→Q e τ ρ J:=fun e τ ρ J h=>by rw[zP] at h;exact h
  obtain⟨J0,hw⟩:=WV hb uN hw
  have uO:=yF (cs:=cs) (n0:=n0) (ρ:=ρ) (f:=fun τ=>gC (f τ)) uN
  have hw:=l6 uO hw
  refine⟨J0,Tr.wp_mono (fun _ _ h=>h) (fun e σ ρ' J1 J2 hj h=>?_) hw⟩
  unfold fF
  by_cases he:e = .normal
  ·subst he
   rw[if_pos rfl]
   intro h3 h4 s' bl
   simp only[] at h
   cases xw:isDone σ with
   | true=>
    rw[xw] at h
    simp only[cond_true] at h
    have h:=l6 uO h
    refine⟨σ,ρ',s',J1,Sub.refl s',bl,h3,h4,Tr.wp_mono (fun _ _ h=>h) (fun e' τ ρ J3 J4 hj h=>?_) h⟩
    have h:fF cs n0 _ _ Qp (.gC e') τ ρ J3:=h
    unfold fF at h
    rw[if_neg (by intro h;cases h)] at h
    exact hQ _ _ _ _ _ hj (uZ _ _ _ _ h)
   | false=>
    rw[xw] at h
    have h:fF cs n0 ρ (fun τ=>gC (f τ)) Qp .normal σ ρ' J1:=h
    unfold fF at h
    rw[if_pos rfl] at h
    obtain⟨τ,mJ,qn,J3,k1,k2,k3,k4,k5⟩:=h h3 h4 s' bl
    have k5:=l6 uN k5
    exact⟨τ,mJ,qn,J3,k1,k2,k3,k4,Tr.wp_mono (fun _ _ h=>h) (fun e' τ ρ J3 J4 hj h=>hQ _ _ _ _ _ hj (uZ _ _ _ _ h)) k5⟩
  rw[if_neg he]
  have h:fF cs n0 ρ (fun τ=>gC (f τ)) Qp (.gC e) σ ρ' J1:=by
   cases e with
   | normal=>exact absurd rfl he
   | _=>exact h
  unfold fF at h
  rw[if_neg (by intro h;cases h)] at h
  exact hQ _ _ _ _ _ hj (uZ _ _ _ _ h)
theorem ahP {L:List gu} {x y:Code} {live:Nat} {σ:Sk} {T:Tr} {f:Sk→Tr} (hx:mM P cs n w0 I0 L x σ T) (hy:∀ τ,mM P cs n w0 I0 L y τ (f τ)):mM P cs n w0 I0 L (x.seq y) σ (wv live σ.n T f):=by
 intro ρ s Q J Qd hs hL hQ hw hK
 obtain⟨J0,hw⟩:=G4 hs.fT hQ hw
 refine aV.seq (hx.go hs hL (yF hQ) hw fun e bE ρ' J' hq h3 h4 s' bl=>?_)
 unfold fF at hq
 by_cases he:e = .normal
 ·subst he
  rw[if_pos rfl] at hq
  obtain⟨τ,mJ,qn,wU,k1,k2,k3,k4,k5⟩:=hq h3 h4 s' bl
  refine aV.sub k1 ((hy τ).go k2 (hL.mono (k3.ext hs.fT)) hQ k5 fun e ajx gD J3 q1 q2 q3 s3 As=>?_)
  exact hK e ajx gD J3 q1 (k3.trans q2 k4) (Nat.le_trans k4 q3) s3 As
 rw[if_neg he] at hq
 rw[Xt he]
 exact hK e bE ρ' J' hq h3 h4 s' bl
theorem LM {L:List gu} {x:Code} {live:Nat} {body:Sk→Tr} (hx:∀ τ,mM P cs n w0 I0 L x τ (body τ)):∀ (f:Nat) (σ A:Sk),mM P cs n w0 I0 L (.loop x) σ (AY live σ.n body f σ A)
 | 0,σ,A=>fun _ _ _ _ _ _ _ _ hw _=>hw.elim
 | f+1,σ,A=>by
  intro ρ s Q J Qd hs hL hQ hw hK
  simp only[AY] at hw
  split at hw
  ·rename_i M0 jf hm0
   split at hw
   ·rename_i M ts hm
    split at hw
    ·rename_i xs dw
     split at hw
     ·rename_i bA
      cases hM:M0.dn σ.n jf.length with
      | false=>rw[hM] at hw;exact hw.elim
      | true=>
       rw[hM] at hw
       simp only[cond_true] at hw
       obtain⟨z0,oM,m,Sq⟩:=hw
       generalize Aw:(fun(again:(aQ jf).den→Prop) (z:(aQ jf).den)=>Tr.wp cs (resolve .normal M0 jf.length 0 (body (M0.fill (xo σ.n jf.length) (σ.n+1)))) ((σ.n,⟨aQ jf,z⟩)::ρ) Q (jQ (fun z'=>∃ y:(aQ jf).den,z'=⟨aQ jf,y⟩∧again y) J))=step at Sq
       obtain⟨s0,m1,m2⟩:=instS_ok (ρ0:=ρ) hs dw rfl oM hM (fun i v _ hv=>hv) hs.fT
       refine aV.loop (X:=Nat×(aQ jf).den×St) (fun z=>z.2.2) (fun z=>vz step z.1 z.2.1∧ba ((σ.n,⟨aQ jf,z.2.1⟩)::ρ) (M0.fill (xo σ.n jf.length) (σ.n+1)) z.2.2) (fun z=>z.1) (m,z0,s0) ⟨Sq,m2⟩ m1 ?_
       rintro⟨k,z,s1⟩ ⟨h1,h2⟩
       cases k with
       | zero=>exact h1.elim
       | succ k=>
        have h1:step (vz step k) z:=h1
        rw[←Aw] at h1
        have h1:=Wu (p:=fun z'=>∃ y:(aQ jf).den,z'=⟨aQ jf,y⟩∧vz step k y) hQ (fun v h=>by rw[Aw] at h;exact h) h1
        refine(hx _).go h2 (hL.mono (Ext.push hs.fT _)) (ahz hQ) h1 fun e bE ρ' J' hq h3 h4 s' bl=>?_
        have RO:dy σ.n ρ ρ':=(dy.push (Nat.le_refl σ.n) ρ _).trans h3 (Nat.le_succ σ.n)
        unfold M6 at hq
        by_cases he:Ex.normal=e
        ·subst he
         rw[if_pos rfl] at hq
         obtain⟨xs',v,k1,k2,y,rfl,k3⟩:=hq
         obtain⟨s2,q1,q2⟩:=instS_ok (ρ0:=ρ) bl k1 rfl k2 hM (fun i v hi hv=>by rw[←RO i hi];exact hv) hs.fT
         exact⟨(k,y,s2),⟨k3,q2⟩,Nat.lt_succ_self k,q1⟩
        rw[if_neg he] at hq
        rw[Xt (fun h=>he h.symm)]
        exact hK e bE ρ' J' hq RO (Nat.le_trans (Nat.le_succ σ.n) h4) s' bl
     exact(LM hx f σ M).go hs hL hQ hw hK
    exact(LM hx f σ M).go hs hL hQ hw hK
   exact hw.elim
  exact hw.elim
end
end Go.Sy
namespace Go.Sy
open Go Go.aj
variable [aC] [cZ] [cP] [dC] [bh]
section
variable {P:Program} {V:Env} {C:Cx} {o:Oper} {ρT:Operand→T} {l:List AO} {lX:List AX} {ρ:aO} {ids:List Nat}
theorem aeD {w0 w:World} {I0 I:aw} {m:Nat→Value} (ah:aF w0 I0 w I m l) {id b:Nat} (hl:j7 l id=true) (hb:own (m id)=some b):b < w.heap.size:=by
 obtain⟨a,ha,hd⟩:=bN.1 (Lu hl)
 exact((ah.obj id a ha).lt hd hb).1
theorem bV.aez {g:FuncId} {as:List T} {ds:List D} {cs:List (List D)} {y:D} (hZ:Enters P g) (jT:eO V.E ρT o=some (g,as)) (dO:∀ id∈ids,j7 l id=true) (ff:as.mapM (vB ids l)=some ds)
  (aR:∀ id∈ids,∃ c∈cs,sv ids l id=some c) (jU:gg P g ds y) (JD:∀ c∈cs,jh c y=true):bV P o ρT l (.d y) l:=by
 refine⟨xf jT,fun w0 I0 w I m wP ah hx=>?_⟩
 obtain⟨args,bP,hlen,ch⟩:=su (P:=P) (w:=w) (ρ:=wP) hZ hx jT
 rw[bP]
 show Calls P g args w _
 obtain⟨z1,z2⟩:=A3 ff
 refine(jU w (kr w I m l ids) args (aeE ah dO) (by omega) (fun i v d hv hd=>?_)).mono ?_
 ·have hi:=(List.getElem?_eq_some_iff.1 hd).1
  have ht:as[i]?=some (as[i]'(by omega)):=List.getElem?_eq_getElem (by omega)
  exact aeB ah dO (ch i v _ hv ht) (z2 i _ d ht hd)
 rintro e qt ⟨v,J',he,zV,cK,du,Ar⟩
 obtain⟨p1,p2⟩:=aeF ah dO zV cK du
 refine⟨v,he,uJ J' (rC m ids),m,p2,p1,.d _ _ (ahu (cs:=cs) (fun b hb=>?_) Ar JD)⟩
 obtain⟨id,an,ae⟩:=hb
 obtain⟨c,hc,eU⟩:=aR id an
 refine⟨c,hc,fun o' u hu=>?_⟩
 rw[cK.cell b (aeD ah (dO id an) ae)] at hu
 obtain⟨y',q1,q2⟩:=ZF ah dO an ae eU hu
 exact⟨y',_,q1,q2⟩
theorem Uj (hl:RL ρ lX l) {x:TX} {u:T} {p:Ty×X} (hx:RX ρ x u) (h:E1 ids lX x=some p):∃ d,RC ρ p d∧p7 ids l u=some d:=by
 unfold E1 at h
 split at h
 ·rename_i t y
  injection h with h;subst h
  obtain⟨hv,v,k1,k2⟩:=l9 hx
  exact⟨_,⟨hv,v,k1,rfl⟩,by rw[k2];rfl⟩
 ·rename_i id
  have hu:u = .row id:=by cases hx;rfl
  subst hu
  cases hi:rp ids id with
  | false=>rw[hi] at h;cases h
  | true=>
   rw[hi] at h
   simp only[cond_true] at h
   split at h
   ·rename_i e u y an
    injection h with h;subst h
    obtain⟨o,ho,hr⟩:=F2.left hl an
    cases hr with
    | row _ _ _ xs h0 h1=>
     refine⟨_,⟨dF rfl,xs,h1,rfl⟩,?_⟩
     simp only[p7,hi,cond_true,ho]
     rfl
   cases h
 cases h
theorem E9 {f:TX→Option (Ty×X)} {g:T→Option D} (hf:∀ x u p,RX ρ x u→f x=some p→∃ d,RC ρ p d∧g u=some d):∀ {xs:List TX} {us:List T} {ps:List (Ty×X)},F2 (RX ρ) xs us→x2 f xs=some ps→∃ ds,F2 (RC ρ) ps ds∧us.mapM g=some ds
 | [],_,ps,.nil,h=>by
  simp only[x2,Option.some.injEq] at h;subst h
  exact⟨[],.nil,rfl⟩
 | x::xs,u::us,ps,.cons h1 h2,h=>by
  simp only[x2] at h
  split at h
  ·rename_i p tM hp iH
   injection h with h;subst h
   obtain⟨d,k1,k2⟩:=hf x u p h1 hp
   obtain⟨ds,k3,k4⟩:=E9 hf h2 iH
   exact⟨d::ds,.cons k1 k3,by simp[k2,k4]⟩
  cases h
theorem XQ (hl:RL ρ lX l) {ty:TypeId} {cs:List TX} {ts:List T} {p:Nat×X} (hc:F2 (RX ρ) cs ts) (h:Hu C ids lX ty cs=some p):∃ v:(Ty.st p.1).den,p.2.den ρ=some ⟨.st p.1,v⟩∧ts.mapM (p7 ids l)=some ((Ty.st p.1).enc v).cells:=by
 unfold Hu at h
 split at h
 ·rename_i i ps dZ iH
  rw[Option.map_eq_some_iff] at h
  obtain⟨x,hx,rfl⟩:=h
  obtain⟨ds,k1,k2⟩:=E9 (fun x u p hx h=>Uj hl hx h) hc iH
  obtain⟨v,v1,v2⟩:=A6 (dF rfl) hx k1
  exact⟨v,v1,by rw[k2,v2]⟩
 cases h
theorem Lq (hl:RL ρ lX l) {x:TX} {u:T} {p:Ty×X} (hx:RX ρ x u) (h:E2 C ids lX x=some p):∃ d,RC ρ p d∧p8 ids l u=some d:=by
 unfold E2 at h
 split at h
 ·rename_i id n
  have hu:u = .bL id n:=by cases hx;rfl
  subst hu
  cases hi:(rp ids id&&Nat.beq n 1) with
  | false=>rw[hi] at h;cases h
  | true=>
   rw[hi] at h
   simp only[cond_true] at h
   split at h
   ·rename_i ty cs an
    rw[Option.map_eq_some_iff] at h
    obtain⟨p,hp,rfl⟩:=h
    obtain⟨o,ho,hr⟩:=F2.left hl an
    cases hr with
    | var _ _ ts h1=>
     obtain⟨v,v1,v2⟩:=XQ hl h1 hp
     have JJ:(X.u2 .cons p.2 (.nil (.st p.1))).den ρ=some ⟨.list (.st p.1),[v]⟩:=by
      have JH:e9 (.st p.1) ⟨.st p.1,v⟩=some v:=by simp[e9]
      simp only[X.den,v1,dV,JH]
     refine⟨_,⟨dF rfl,[v],JJ,rfl⟩,?_⟩
     simp only[p8,hi,cond_true,ho,v2,Option.map_some]
     have e1:((Ty.st p.1).enc v).cells.length=(Ty.st p.1).size:=lx (dF rfl) v
     rw[e1];rfl
   cases h
 rename_i gO
 obtain⟨d,k1,k2⟩:=Uj (ids:=ids) hl hx h
 refine⟨d,k1,?_⟩
 rw[←k2]
 cases u<;>first | rfl | (cases hx<;>first | exact(gO _ _ rfl).elim | cases h)
theorem aeA (hl:RL ρ lX l) {t:Ty} {x:TX} {u:T} {y:X} (ht:isVal t) (hx:RX ρ x u) (h:Lr C ids lX t x=some y):∃ v:t.den,y.den ρ=some ⟨t,v⟩∧vB ids l u=some (t.enc v):=by
 unfold Lr at h
 split at h
 ·rename_i cs
  split at h
  ·rename_i ps iH
   cases c7:cj t with
   | false=>rw[c7] at h;cases h
   | true=>
    rw[c7] at h;simp only[cond_true] at h
    obtain⟨i,rfl⟩:∃ i,t = .st i:=by cases t<;>simp[cj] at c7;exact⟨_,rfl⟩
    have key:∀ {ts:List T} {ds:List D},F2 (RX ρ) cs ts→ts.mapM (p8 ids l)=some ds→F2 (RC ρ) ps ds→∃ v:(Ty.st i).den,y.den ρ=some ⟨.st i,v⟩∧D.agg ds=(Ty.st i).enc v:=by
     intro ts ds h1 h2 h3
     obtain⟨v,v1,v2⟩:=A6 ht h h3
     exact⟨v,v1,by rw[v2];rfl⟩
    cases hx with
    | agg _ ts h1 h2=>
     have hF:F2 (RX ρ) cs ts:=F2.of h1 h2
     obtain⟨ds,k1,k2⟩:=E9 (fun x u p hx h=>Lq hl hx h) hF iH
     obtain⟨v,v1,v2⟩:=key hF k2 k1
     exact⟨v,v1,by simp only[vB,k2,Option.map_some,v2]⟩
    | kD _ ds h1 h2=>
     have hF:F2 (RX ρ) cs (ds.map .d):=F2.of (by simpa using h1) fun i c t hc ht=>by
      rw[List.getElem?_map] at ht
      cases hd:ds[i]? with
      | none=>rw[hd] at ht;cases ht
      | some d=>rw[hd] at ht;simp at ht;subst ht;exact h2 i c d hc hd
     obtain⟨ox,k1,k2⟩:=E9 (fun x u p hx h=>Lq hl hx h) hF iH
     have e:(ds.map T.d).mapM (p8 ids l)=some ds:=by
      clear hF k1 k2 h1 h2 key
      induction ds with
      | nil=>rfl
      | cons d ds ih=>simp[ih,p8,p7]
     rw[e] at k2;injection k2 with k2;subst k2
     obtain⟨v,v1,v2⟩:=key hF e k1
     exact⟨v,v1,by simp only[vB,p8,p7,v2]⟩
  cases h
 rename_i gN
 split at h
 ·rename_i u' y' h1
  split at h
  ·rename_i hu;subst hu
   injection h with h;subst h
   obtain⟨d,⟨k0,v,k1,rfl⟩,k2⟩:=Lq hl hx h1
   refine⟨v,k1,?_⟩
   dsimp only at k2
   rw[←k2]
   cases u<;>first | rfl | (cases hx<;>first | exact(gN _ rfl).elim | cases h1)
  cases h
 cases h
theorem Un (hl:RL ρ lX l):∀ {fG:List Ty} {xs:List TX} {us:List T} {ys:List X},(∀ t∈fG,isVal t)→F2 (RX ρ) xs us→rB C ids lX fG xs=some ys →
  ∃ a:(aQ fG).den,lP ρ fG ys a∧us.mapM (vB ids l)=some (eT fG a)
 | [],[],[],ys,hv,hx,h=>by
  simp only[rB,Option.some.injEq] at h;subst h
  exact⟨(),⟨rfl,fun j t h=>by simp at h⟩,rfl⟩
 | [],_::_,_,ys,hv,hx,h=>by simp[rB] at h
 | _::_,[],_,ys,hv,hx,h=>by simp[rB] at h
 | t::fG,x::xs,u::us,ys,hv,.cons h1 h2,h=>by
  simp only[rB] at h
  split at h
  ·rename_i y ys' hy rm
   injection h with h;subst h
   obtain⟨v,k1,k2⟩:=aeA hl (hv t (by simp)) h1 hy
   obtain⟨a,k3,k4⟩:=Un hl (fun t ht=>hv t (List.mem_cons_of_mem _ ht)) h2 rm
   obtain⟨b,b1,b2⟩:=IP k1 k3
   exact⟨b,b1,by rw[b2];simp[k2,k4]⟩
  cases h
theorem ZE (hl:RL ρ lX l) {id:Nat} {p:Ty×X} (h:IF C ids lX id=some p):j7 l id=true∧∃ v:p.1.den,p.2.den ρ=some ⟨p.1,v⟩∧sv ids l id=some (IE (p.1.enc v)):=by
 unfold IF at h
 split at h
 ·rename_i e u x an
  injection h with h;subst h
  obtain⟨o,ho,hr⟩:=F2.left hl an
  cases hr with
  | row _ _ _ xs h0 h1=>exact⟨by simp[j7,ho],xs,h1,by simp only[sv,ho];rfl⟩
 ·rename_i ty cs an
  rw[Option.map_eq_some_iff] at h
  obtain⟨p,hp,rfl⟩:=h
  obtain⟨o,ho,hr⟩:=F2.left hl an
  cases hr with
  | var _ _ ts h1=>
   obtain⟨v,v1,v2⟩:=XQ hl h1 hp
   exact⟨by simp[j7,ho],v,v1,by simp only[sv,ho];exact v2⟩
 cases h
theorem Qz (hl:RL ρ lX l):∀ {is:List Nat} {ps:List (Ty×X)},Dh C ids lX is=some ps→∀ id∈is,j7 l id=true∧∃ p∈ps,∃ v:p.1.den,p.2.den ρ=some ⟨p.1,v⟩∧sv ids l id=some (IE (p.1.enc v))
 | [],ps,h,id,an=>by cases an
 | i::is,ps,h,id,an=>by
  simp only[Dh] at h
  split at h
  ·rename_i p tM hp iH
   injection h with h;subst h
   rcases List.mem_cons.1 an with rfl | an
   ·obtain⟨k1,v,k2,k3⟩:=ZE hl hp
    exact⟨k1,p,by simp,v,k2,k3⟩
   obtain⟨k1,q,hq,k2⟩:=Qz hl iH id an
   exact⟨k1,q,List.mem_cons_of_mem _ hq,k2⟩
  cases h
theorem Rc {g:FuncId} {ts:List TX}:∀ {ss:List kC} {k k':Nat} {xs:List X} {s:kC},uD C ids lX g ts ss k=some (k',xs,s)→∃ j,k'=k+j∧ss[j]?=some s∧s.f=g∧rB C ids lX s.args ts=some xs
 | [],k,k',xs,s,h=>by simp[uD] at h
 | s0::ss,k,k',xs,s,h=>by
  have oe:uD C ids lX g ts ss (k+1)=some (k',xs,s)→∃ j,k'=k+j∧(s0::ss)[j]?=some s∧s.f=g∧rB C ids lX s.args ts=some xs:=fun h=>by
   obtain⟨j,h1,h2,h3,h4⟩:=Rc h
   exact⟨j+1,by omega,by simpa using h2,h3,h4⟩
  simp only[uD] at h
  cases hg:Nat.beq s0.f g with
  | false=>simp only[hg,cond_false] at h;exact oe h
  | true=>
   simp only[hg,cond_true] at h
   split at h
   ·rename_i ys hd
    simp only[Option.some.injEq,Prod.mk.injEq] at h
    obtain⟨rfl,rfl,rfl⟩:=h
    exact⟨0,rfl,rfl,Nat.eq_of_beq_eq_true hg,hd⟩
   exact oe h
theorem Oe {cs:List Callee} {v:Nat} {T:Tr} {Q:LQ} {J:LJ}:∀ {ps:List (Ty×X)},Tr.wp cs (HB v ps T) ρ Q J→(∀ p∈ps,(X.u2 .apart (.var v) p.2).den ρ=some ⟨.bool,true⟩)∧Tr.wp cs T ρ Q J
 | [],h=>⟨(fun p hp=>by cases hp),h⟩
 | p::ps,h=>by
  obtain⟨h1,h2⟩:=h
  obtain⟨h3,h4⟩:=Oe (ps:=ps) h2
  refine⟨fun q hq=>?_,h4⟩
  rcases List.mem_cons.1 hq with rfl | hq
  ·exact h1
  exact h3 q hq
end
section
variable {P:Program} {V:Env} {C:Cx} {cs:List Callee} {n:Nat} {ops:List Oper} [qE] [cd]
theorem aeC (hC:ck P V C) (aR:kB P C cs) {σ:Sk} {s:St} {ρ:aO} {o:Oper} {g:FuncId} {ts:List TX} {us:List T} {F:(TX→Sk→Tr)→Tr} {Q:LQ} {J:LJ} {K:TX→Sk→Tr} {Kd:St→Prop} {pc:PC} (hF:Lt C σ g ts=some F) (hs:ba ρ σ s) (hd:eS n o.dst=true)
  (hg:eJ ops s.t o.guard=some pc) (hp:holds pc) (jT:eO V.E (bR s.t) o=some (g,us)) (gA:F2 (RX ρ) ts us) (hw:Tr.wp cs (F K) ρ Q J)
  (hK:∀ x τ ρ' J' u s',Tr.wp cs (K x τ) ρ' Q J'→dy σ.n ρ ρ'→σ.n≤τ.n→ba ρ' τ s'→RX ρ' x u→Kd ⟨aY s'.t o.dst u,s'.l⟩):nv P n ops o s Kd:=by
 unfold Lt at hF
 split at hF
 ·rename_i k xs s0 hf
  split at hF
  ·rename_i ps iH
   injection hF with hF;subst hF
   obtain⟨D,a,y,hD,hx,hy,hw⟩:=hw
   obtain⟨JD,hw⟩:=Oe hw
   obtain⟨j,e1,e2,e3,e4⟩:=Rc hf
   have J7:k=j:=by omega
   subst J7
   obtain⟨D',z1,z2,cr⟩:=aR.sigs _ _ e2
   rw[hD] at z1;injection z1 with z1;subst z1;subst z2
   obtain⟨a',m1,m2⟩:=Un hs.l (fun t ht=>cr.args t ht) gA e4
   have e:=(sa m1.1 m1.2).symm.trans hx
   injection e with e
   have e:a'=a:=by injection e
   subst e
   have e3:D.f=g:=e3
   subst e3
   have gM:dy σ.n ρ ((σ.n,⟨aQ D.res,y⟩)::ρ):= .push (Nat.le_refl _) ρ _
   have rk:=gM.ext hs.fT
   have hc:=Qz hs.l iH
   refine Ce hg hp (t:= .d ((aQ D.res).enc y)) (l':=s.l) (bV.aez cr.enters jT (cs:=(AT σ.l ts).map fun id=>(sv (AT σ.l ts) s.l id).getD []) (fun id an=>(hc id an).1) m2 (fun id an=>?_) (cr.kJ _ _ hy) fun c R8=>?_) hd
    (hK _ _ _ J _ s hw gM (Nat.le_succ _) ⟨hs.fT.push (Nat.lt_succ_self _) _,fun k=>(hs.t k).mono rk,RL.mono rk hs.l⟩ (Wt cr.res (ku _ _ ρ)))
   ·obtain⟨_,p,_,v,_,k2⟩:=hc id an
    exact⟨_,List.mem_map.2 ⟨id,an,rfl⟩,by rw[k2];rfl⟩
   obtain⟨id,an,rfl⟩:=List.mem_map.1 R8
   obtain⟨_,p,ra,v,k1,k2⟩:=hc id an
   rw[k2]
   have h1:=JD p ra
   have h2:=X.gW rk k1
   have ajK:(X.var σ.n).den ((σ.n,(⟨aQ D.res,y⟩:Sy.V))::ρ)=some ⟨aQ D.res,y⟩:=ku _ _ ρ
   simp only[X.den,h2,dV] at h1
   rw[show lk ((σ.n,(⟨aQ D.res,y⟩:Sy.V))::ρ) σ.n=some ⟨aQ D.res,y⟩ from ku _ _ ρ] at h1
   injection h1 with h1
   have h1:pt (aQ D.res) p.1 y v=true:=by injection h1
   exact h1
  cases hF
 cases hF
end
end Go.Sy
namespace Go.Sy
open Go Go.aj
variable [aC] [Λ:cZ] [cP] [dC] [bh] [qE] [R0:cd]
def sf (P:Program) (fs:List (Nat×Func)):Prop:=∀ g fn,findF g fs=some fn→P.funcs[g]?=some fn∧Enters P g∧fn.body=some (nA fn)
def yX (P:Program) (V:Env) (cs:List Callee) (fs:List (Nat×Func)) (run:Runner):Prop:=
 ∀ [cZ] [cd] (C:Cx) (L:List gu) (live:Lv) (c:Code) (σ:Sk) (w0:World) (I0:aw),ck P V C→kB P C cs→C.pF=fs→(C.nq=false→cd.r=none)→(∀ j,C.dep≤j→cZ.lam j=none)→mM P cs C.nt w0 I0 L c σ (run C L live c σ)
omit Λ R0 in
theorem ck.Hv {P:Program} {V:Env} {C:Cx} (h:ck P V C) (a b:Nat) (c:Bool):ck P V { C with nt:=a,dep:=b,nq:=c }:=⟨h.ok,h.E,h.eq,h.sub,h.ty⟩
theorem Nn {ρ:aO}:∀ {ts:List TX} {us:List T} {k:Nat},F2 (RX ρ) ts us→∀ q,RX ρ (aT (r8 k ts) q) (aj.get (nr k us) q)
 | [],us,k,h=>fun q=> .undef _
 | t::ts,us,k,h=>fun q=>by
  cases h with
  | cons h1 h2=>
   simp only[r8,nr,aT,aj.get]
   by_cases hk:k=q
   ·subst hk;rw[if_pos rfl,Nat.beq_refl];exact h1
   rw[if_neg hk,beq_false hk];exact Nn h2 q
theorem aiY {ρ:aO} {xs:List TX} {us:List T} (h:F2 (RX ρ) xs us):RX ρ (Hj xs) (Ny us):=by
 have gen:RX ρ (.aI xs) (.aI us):= .aI xs us h.len fun i c t hc ht=>h.get hc ht
 match xs,us,h,gen with
 | [],_,.nil,gen=>exact gen
 | [x],_,.cons h1 .nil,gen=>exact h1
 | _::_::_,_,.cons h1 (.cons h2 h3),gen=>exact gen
theorem K3 {ρ:aO} {j b:Nat} {lX:List AX} {l:List AO} (hl:RL ρ lX l) (h:mY j b lX=true):∃ vals ft,l[b]?=some (.frame b vals ft)∧Λ.lam j=some (.frame b vals ft):=by
 unfold mY at h
 split at h
 ·rename_i j' b' rs hb
  rw[Bool.and_eq_true] at h
  have e1:=Nat.eq_of_beq_eq_true h.1
  have e2:=Nat.eq_of_beq_eq_true h.2
  subst e1;subst e2
  obtain⟨o,ho,hr⟩:=F2.left hl hb
  cases hr with
  | eo _ _ _ vals ft h1 h2=>exact⟨vals,ft,ho,h1⟩
 cases h
theorem BW {Λ:cZ} {j:Nat} {x:LF}:(je Λ j x).lam j=some x:=if_pos rfl
theorem GF {Λ:cZ} {d:Nat} {x:LF}:∀ j,j < d→(je Λ d x).lam j=Λ.lam j:=fun j hj=>if_neg (by omega)
theorem GD {Λ:cZ} {d:Nat} {x:LF} (h:∀ j,d≤j→Λ.lam j=none):∀ j,d+1≤j→(je Λ d x).lam j=none:=fun j hj=>by
 show(if j=d then some x else Λ.lam j)=none
 rw[if_neg (by omega)];exact h j (by omega)
theorem ba.l' {Λ:cZ} {ρ:aO} {σ:Sk} {s:St} (h:@ba _ Λ ρ σ s):@RL _ Λ ρ σ.l s.l:=@ba.l _ Λ _ _ _ h
theorem ba.t' {Λ:cZ} {ρ:aO} {σ:Sk} {s:St} (h:@ba _ Λ ρ σ s):∀ k,RX ρ (aT σ.t k) (aj.get s.t k):=@ba.t _ Λ _ _ _ h
theorem ba.ov {Λ:cZ} {ρ:aO} {σ:Sk} {s:St} (h:@ba _ Λ ρ σ s):fI σ.n ρ:=@ba.fT _ Λ _ _ _ h
section
variable {P:Program} {V:Env} {C:Cx} {cs:List Callee} {fs:List (Nat×Func)} {run:Runner} {n:Nat} {ops:List Oper} {L:List gu}
theorem YZ (bP:yX P V cs fs run) (hC:ck P V C) (aR:kB P C cs) (hF:sf P fs) (ig:C.pF=fs) (hY:∀ j,C.dep≤j→Λ.lam j=none) {o:Oper} {g:FuncId} {fn:Func} {ts:List TX} {us:List T} {σ:Sk} {s:St} {ρ:aO} {t0:List (Nat×TX)} {ft:Tm} {Q:LQ} {J:LJ} {K:TX→Sk→Tr} {Kd:St→Prop} {pc:PC}
  (ic:findF g fs=some fn) (hs:ba ρ σ s) (hL:LOk ρ L) (hQ:gw Q) (hd:eS n o.dst=true) (hg:eJ ops s.t o.guard=some pc) (hp:holds pc) (ee:eO V.E (bR s.t) o=some (g,us)) (gA:F2 (RX ρ) ts us)
  (f1:∀ k,aj.get ft k = .undef∨aj.get ft k=aj.get s.t k) (f2:∀ k,RX ρ (aT t0 k) (aj.get ft k)) (f3:pq ft (iO t0))
  (hw:Tr.wp cs (Im run C L fn ts σ t0 K) ρ Q J)
  (hK:∀ x τ ρ' J' u s',Tr.wp cs (K x τ) ρ' Q J'→dy σ.n ρ ρ'→σ.n≤τ.n→ba ρ' τ s'→RX ρ' x u→Kd ⟨aY s'.t o.dst u,s'.l⟩):nv P n ops o s Kd:=by
 unfold Im at hw
 cases hle:Nat.ble ts.length fn.ntmps with
 | false=>rw[hle] at hw;exact hw.elim
 | true=>
  rw[hle] at hw
  simp only[Bool.not_true,cond_false] at hw
  obtain⟨e1,e2,e3⟩:=hF g fn ic
  refine ait (V:=V) hg hp hd ee f1 (uc.of hC.ok e2 e1 e3 (by rw[←gA.len];exact Nat.le_of_ble_eq_true hle) fun R hR w0 I0 vals Qe pI=>?_)
  have hlen:σ.l.length=s.l.length:=hs.l.len
  have pQ:jL Λ (je Λ C.dep (.frame s.l.length vals ft)):=jL.push (hY _ (Nat.le_refl _))
  have sS:@ba _ (je Λ C.dep (.frame s.l.length vals ft)) ρ ⟨σ.n,r8 0 ts,σ.l++[.eo C.dep σ.l.length (iO t0)]⟩ ⟨nr 0 us,s.l++[.frame s.l.length vals ft]⟩:=by
   refine @ba.mk _ (je Λ C.dep (.frame s.l.length vals ft)) _ _ _ hs.fT (Nn gA) (F2.app (M9 pQ hs.l) (.cons ?_ .nil))
   rw[hlen]
   exact @cu.eo _ (je Λ C.dep (.frame s.l.length vals ft)) ρ C.dep s.l.length _ vals ft BW f3
  obtain⟨J0,hw⟩:=G4 (Λ:=je Λ C.dep (.frame s.l.length vals ft)) (R0:=R) hs.fT hQ hw
  have hw:=l6 (yF (Λ:=je Λ C.dep (.frame s.l.length vals ft)) (R0:=R) hQ) hw
  have hr:=@bP (je Λ C.dep (.frame s.l.length vals ft)) R { C with nt:=fn.ntmps,dep:=C.dep+1,nq:=false } L ⟨oh fn.results.toList,[],oh fn.results.toList⟩ (nA fn) ⟨σ.n,r8 0 ts,σ.l++[.eo C.dep σ.l.length (iO t0)]⟩ w0 I0 (hC.Hv _ _ _) ⟨aR.sigs,aR.turns⟩ ig (fun _=>hR) (GD hY)
  refine mM.go (Λ:=je Λ C.dep (.frame s.l.length vals ft)) (R0:=R) hr sS (fun x hx=>ll.lam pQ (hL x hx)) (bind_mono (yF (Λ:=je Λ C.dep (.frame s.l.length vals ft)) (R0:=R) hQ)) hw ?_
  intro e bE ρ' J' hq h3 h4 s' bl
  have fin:fF (Λ:=je Λ C.dep (.frame s.l.length vals ft)) (R0:=R) cs σ.n ρ (fun τ=>match rZ C τ fn.results.toList with
   | some xs=>bif mY C.dep σ.l.length τ.l then K (Hj xs) ⟨τ.n,t0,τ.l.map (kf C.dep)⟩ else .bad 23
   | none=> .bad 22) Q .normal (bE.di (oh fn.results.toList)) ρ' J'→wV V s' fn.results.toList s.l.length vals ft fun u l'=>Kd ⟨aY ft o.dst u,l'⟩:=by
   intro hq
   unfold fF at hq
   rw[if_pos rfl] at hq
   obtain⟨τ,mJ,qn,wU,k1,k2,k3,k4,k5⟩:=hq h3 h4 s' (yC (Λ:=je Λ C.dep (.frame s.l.length vals ft)) (R0:=R) _ bl)
   simp only[] at k5
   split at k5
   ·rename_i xs dw
    cases eK:mY C.dep σ.l.length τ.l with
    | false=>rw[eK] at k5;exact k5.elim
    | true=>
     rw[eK] at k5
     simp only[cond_true] at k5
     obtain⟨XP,Rx,q1,q2⟩:=K3 (Λ:=je Λ C.dep (.frame s.l.length vals ft)) k2.l' eK
     rw[BW] at q2
     injection q2 with q2;injection q2 with q3 q4 q5
     subst q4;subst q5
     rw[hlen] at q1
     obtain⟨m1,m2⟩:=GV (Λ:=je Λ C.dep (.frame s.l.length vals ft)) hC k2 dw
     refine⟨qn,k1,m1,q1,?_⟩
     exact hK (Hj xs) ⟨τ.n,t0,τ.l.map (kf C.dep)⟩ mJ wU _ ⟨ft,qn.l⟩ k5 k3 k4 ⟨k2.ov,fun k=>(f2 k).mono (k3.ext hs.fT),Na GF k2.l'⟩ (aiY m2)
   exact k5.elim
  cases e with
  | normal=>exact pI _ _ (.inr rfl) (fin hq)
  | ret=>exact pI _ _ (.inl rfl) (fin hq)
  | exit i=>exact hq.elim
  | gC e=>exact hq.elim
theorem Wx {ρ:aO}:∀ {ps:List Nat} {xs:List TX} {us:List T} {t:List (Nat×TX)} {tm:Tm},ps.length=xs.length→F2 (RX ρ) xs us→(∀ k,RX ρ (aT t k) (aj.get tm k))→∀ k,RX ρ (aT (B6 ps xs t) k) (aj.get (tR ps us tm) k)
 | [],xs,us,t,tm,hl,hx,h=>by
  cases xs with
  | nil=>cases hx;exact h
  | cons=>simp at hl
 | p::ps,[],us,t,tm,hl,hx,h=>by simp at hl
 | p::ps,x::xs,us,t,tm,hl,hx,h=>by
  cases hx with
  | cons h1 h2=>
   have:∀ k,RX ρ (aT ((p,x)::t) k) (aj.get ((p,_)::tm) k):=fun k=>by
    simp only[aT,aj.get]
    by_cases hk:p=k
    ·subst hk;rw[if_pos rfl,Nat.beq_refl];exact h1
    rw[if_neg hk,beq_false hk];exact h k
   intro k
   exact Wx (ps:=ps) (xs:=xs) (t:=(p,x)::t) (tm:=(p,_)::tm) (by simpa using hl) h2 this k
theorem AZ {ρ:aO} {j b id:Nat} {rs:List Nat} {st:Ls} {lX:List AX} {l:List AO} (hl:RL ρ lX l) (h:lX[id]?=some (.lp j b rs st)):∃ k ps bp body tm,l[id]?=some (.loop b k ps bp body tm (th st) (vH st))∧Λ.lam j=some (.loop b k ps bp body tm)∧pq tm rs:=by
 obtain⟨o,ho,hr⟩:=F2.left hl h
 cases hr with
 | lp _ _ _ _ k ps bp body tm h1 h2=>exact⟨k,ps,bp,body,tm,ho,h1,h2⟩
theorem ajo (bP:yX P V cs fs run) (hC:ck P V C) (aR:kB P C cs) (ig:C.pF=fs) (hY:∀ j,C.dep≤j→Λ.lam j=none) {o:Oper} {id:Nat} {ts:List TX} {us:List T} {σ:Sk} {s:St} {ρ:aO} {t0:List (Nat×TX)} {ft:Tm} {Q:LQ} {J:LJ} {K:TX→Sk→Tr} {Kd:St→Prop} {pc:PC}
  (hs:ba ρ σ s) (hL:LOk ρ L) (hQ:gw Q) (hd:eS n o.dst=true) (hg:eJ ops s.t o.guard=some pc) (hp:holds pc) (hy:tY V.E (bR s.t) o=some (id,us)) (gA:F2 (RX ρ) ts us)
  (f1:∀ k,aj.get ft k = .undef∨aj.get ft k=aj.get s.t k) (f2:∀ k,RX ρ (aT t0 k) (aj.get ft k)) (f3:pq ft (iO t0))
  (hw:Tr.wp cs (NU run C L id ts σ t0 K) ρ Q J)
  (hK:∀ x τ ρ' J' u s',Tr.wp cs (K x τ) ρ' Q J'→dy σ.n ρ ρ'→σ.n≤τ.n→ba ρ' τ s'→RX ρ' x u→Kd ⟨aY s'.t o.dst u,s'.l⟩):nv P n ops o s Kd:=by
 unfold NU at hw
 split at hw
 ·rename_i pT j k ps bp body t outer j' b rs cG an
  obtain⟨fM,ajE⟩:=Rb cG
  cases hc:(Nat.beq j' j&&Nat.beq ps.length ts.length&&ps.all (fun p=>Nat.blt p k)) with
  | false=>rw[hc] at hw;exact hw.elim
  | true=>
   rw[hc] at hw
   simp only[cond_true] at hw
   rw[Bool.and_eq_true,Bool.and_eq_true] at hc
   obtain⟨⟨c1,c2⟩,c3⟩:=hc
   have c1:=Nat.eq_of_beq_eq_true c1
   have c2:=Nat.eq_of_beq_eq_true c2
   subst c1
   have kP:=hL _ fM
   cases kP with
   | mk _ _ _ _ _ _ _ _ b0 lf tm g1 g2 g3 g4=>
   obtain⟨k',tM,CN,CT,Hf,q1,q2,q3⟩:=AZ (ba.l' hs) an
   rw[g1] at q2
   injection q2 with q2;injection q2 with e1 e2 e3 e4 e5 e6
   subst e1;subst e2;subst e3;subst e4;subst e5;subst e6
   have hlen:σ.l.length=s.l.length:=(ba.l' hs).len
   have abS:lf.size=us.length:=by rw[←gA.len,←c2,←g2];simp
   refine aiv (V:=V) (tm:=tm) hg hp hd hy f1 q1 abS (by rw[g2,List.all_eq_true];intro p jY;have:=List.all_eq_true.1 c3 p jY;exact decide_eq_true (Nat.le_of_ble_eq_true this)) ?_
   intro R w0 I0 N vals Qe hN pI
   generalize JV:((N,T.bd id)::ft)=mP at pI ⊢
   have I2:pq mP (id::iO t0):=fun k r hr=>by
    rw[←JV] at hr
    simp only[aj.get] at hr
    by_cases hk:N=k
    ·rw[if_pos hk] at hr;simp[fy] at hr;subst hr;simp
    rw[if_neg hk] at hr;exact List.mem_cons_of_mem _ (f3 k r hr)
   generalize Et:je Λ C.dep (.frame s.l.length vals mP)=cn
   have pQ:jL Λ cn:=Et▸jL.push (hY _ (Nat.le_refl _))
   have Au:cn.lam C.dep=some (.frame s.l.length vals mP):=Et▸BW
   have aN:∀ j,j < C.dep→cn.lam j=Λ.lam j:=Et▸GF
   have sK:∀ j,C.dep+1≤j→cn.lam j=none:=Et▸GD hY
   have sS:@ba _ cn ρ ⟨σ.n,B6 ps ts t,σ.l++[.eo C.dep σ.l.length (id::iO t0)]⟩ ⟨tR lf.toList us tm,s.l++[.frame s.l.length vals mP]⟩:=by
    refine @ba.mk _ cn _ _ _ (show fI σ.n ρ from ba.ov hs) (by rw[g2];exact Wx c2 gA g3) (F2.app (M9 pQ (ba.l' hs)) (.cons ?_ .nil))
    rw[hlen]
    exact @cu.eo _ cn ρ C.dep s.l.length _ vals mP Au I2
   have RT:@LOk _ cn ρ outer:=fun x hx=>ll.lam pQ (g4 x hx)
   have hw:=l6 hQ hw
   obtain⟨Qp,zP,hw⟩:∃ Qp:LQ,Qp=_∧Tr.wp cs _ ρ Qp J:=⟨_,rfl,hw⟩
   have uN:gw Qp:=by rw[zP];exact bind_mono hQ
   obtain⟨J0,hw⟩:=G4 (Λ:=cn) (R0:=R) (ba.ov hs) uN hw
   have uO:=yF (Λ:=cn) (R0:=R) (cs:=cs) (n0:=σ.n) (ρ:=ρ) (f:=fun τ=>nE C id j' b0 rs σ.l.length t0 K .normal τ) uN
   have hw:=l6 uO hw
   have JA:=bind_mono (cs:=cs) (f:=fun e τ=>match e with | .normal=>Tr.leaf .normal τ | .ret=>nE C id j' b0 rs σ.l.length t0 K .ret τ | .exit i=>nE C id j' b0 rs σ.l.length t0 K (.exit i) τ | _=> .bad 26) uO
   obtain⟨J1,hw⟩:=G4 (Λ:=cn) (R0:=R) (ba.ov hs) JA hw
   have RU:=yF (Λ:=cn) (R0:=R) (cs:=cs) (n0:=σ.n) (ρ:=ρ) (f:=fun τ=>match τ.l[id]? with
       | some (.lp j2 b2 lg .ready)=>bif Nat.beq j2 j'&&Nat.beq b2 b0&&decide (lg=rs)&&mY C.dep σ.l.length τ.l then run { C with nt:=k,dep:=C.dep+1,nq:=true } outer ⟨0,[],0⟩ body ⟨τ.n,τ.t,τ.l.set id (.lp j' b0 rs .busy)⟩ else .bad 25
       | _=> .bad 25) JA
   have hw:=l6 RU hw
   have hQ5:=bind_mono (cs:=cs) (f:=fun e τ=>match e with | .normal=>Tr.leaf .normal τ | _=> .bad 21) RU
   have nQ:=@bP cn R { C with nt:=k,dep:=C.dep+1,nq:=true } outer ⟨ja body ⟨0,[],0⟩,[],0⟩ bp ⟨σ.n,B6 ps ts t,σ.l++[.eo C.dep σ.l.length (id::iO t0)]⟩ w0 I0 (hC.Hv _ _ _) ⟨aR.sigs,aR.turns⟩ ig (fun h=>by cases h) sK
   refine mM.go (Λ:=cn) (R0:=R) nQ sS RT hQ5 hw ?_
   intro e σ1 iB J2 hq h3 h4 s1 abZ
   cases e with
   | ret=>exact hq.elim
   | exit i=>exact hq.elim
   | gC e=>exact hq.elim
   | normal=>
   show ∃ s2,_
   have hq:fF (Λ:=cn) (R0:=R) _ _ _ _ _ .normal σ1 iB J2:=hq
   unfold fF at hq
   rw[if_pos rfl] at hq
   obtain⟨τ,lV,s2,J3,k1,k2,k3,k4,k5⟩:=hq h3 h4 s1 abZ
   simp only[] at k5
   split at k5
   ·rename_i j2 b2 lg abx
    cases hc:(Nat.beq j2 j'&&Nat.beq b2 b0&&decide (lg=rs)&&mY C.dep σ.l.length τ.l) with
    | false=>rw[hc] at k5;exact k5.elim
    | true=>
     rw[hc] at k5
     simp only[cond_true] at k5
     simp only[Bool.and_eq_true,decide_eq_true_eq] at hc
     obtain⟨⟨⟨d1,d2⟩,d3⟩,d4⟩:=hc
     have d1:=Nat.eq_of_beq_eq_true d1
     have d2:=Nat.eq_of_beq_eq_true d2
     subst d1;subst d2;subst d3
     have Si:∀ {ρ:aO} {lX:List AX} {l:List AO},@RL _ cn ρ lX l→mY C.dep σ.l.length lX=true→l[s.l.length]?=some (.frame s.l.length vals mP):=by
      intro ρ lX l hl hf
      obtain⟨XP,Rx,q1,q2⟩:=K3 (Λ:=cn) hl hf
      rw[Au] at q2
      injection q2 with q2;injection q2 with q3 q4 q5
      subst q4;subst q5
      rw[hlen] at q1;exact q1
     have SD:∀ {ρ:aO} {lX:List AX} {l:List AO} {st:Ls},@RL _ cn ρ lX l→lX[id]?=some (.lp j2 b2 lg st)→l[id]?=some (.loop b2 k lf bp body tm (th st) (vH st)):=by
      intro ρ lX l st hl hf
      obtain⟨k',tM,CN,CT,Hf,q1,q2,q3⟩:=AZ (Λ:=cn) hl hf
      rw[pQ _ _ g1] at q2
      injection q2 with q2;injection q2 with e1 e2 e3 e4 e5 e6
      subst e2;subst e3;subst e4;subst e5;subst e6
      exact q1
     refine⟨s2,k1,Si k2.l' d4,SD k2.l' abx,?_⟩
     have SC:∀ {ρ:aO} (st:Ls),@cu _ cn ρ (.lp j2 b2 lg st) (.loop b2 k lf bp body tm (th st) (vH st)):=fun {ρ} st=>@cu.lp _ cn ρ j2 b2 lg st k lf bp body tm (pQ _ _ g1) q3
     have xE:@ba _ cn lV ⟨τ.n,τ.t,τ.l.set id (.lp j2 b2 lg .busy)⟩ ⟨s2.t,s2.l.set id (.loop b2 k lf bp body tm .busy none)⟩:=
      @ba.mk _ cn _ _ _ k2.ov k2.t' (F2.set k2.l' (SC .busy) id)
     have Ee:=@bP cn R { C with nt:=k,dep:=C.dep+1,nq:=true } outer ⟨0,[],0⟩ body ⟨τ.n,τ.t,τ.l.set id (.lp j2 b2 lg .busy)⟩ w0 I0 (hC.Hv _ _ _) ⟨aR.sigs,aR.turns⟩ ig (fun h=>by cases h) sK
     refine mM.go (Λ:=cn) (R0:=R) Ee xE (LOk.mono (Λ:=cn) RT (k3.ext (ba.ov hs))) JA k5 ?_
     intro e yU gD J4 nP h5 h6 s3 As
     have h5:dy τ.n lV gD:=h5
     have h6:τ.n≤yU.n:=h6
     have x3:dy σ.n ρ gD:=k3.trans h5 k4
     have uZ:∀ e τ ρ J,Qp (.gC e) τ ρ J→Q e τ ρ J:=fun e τ ρ J h=>by rw[zP] at h;exact h
     have fin:∀ (e':Ex) (qy:Sk) (tZ:aO) (J5:LJ) (s4:St) (Qx:LQ),gw Qx→(e' = .normal∨e' = .ret∨∃ i,e' = .exit i)→Sub s3 s4→@ba _ cn tZ qy s4→dy σ.n ρ tZ→σ.n≤qy.n→(∀ e τ ρ J,Qx (.gC e) τ ρ J→Q e τ ρ J)→Tr.wp cs (nE C id j2 b2 lg σ.l.length t0 K e' qy) tZ Qx J5→Qe (sB e') s3:=by
      intro e' qy tZ J5 s4 Qx hQx he' m1 m2 m3 m4 m0 m5
      unfold nE at m5
      split at m5
      ·rename_i j5 b5 WB abw
       cases DT:(Nat.beq j5 j2&&Nat.beq b5 b2&&decide (WB=lg)&&mY C.dep σ.l.length qy.l) with
       | false=>rw[DT] at m5;exact m5.elim
       | true=>
        rw[DT] at m5
        simp only[cond_true] at m5
        simp only[Bool.and_eq_true,decide_eq_true_eq] at DT
        obtain⟨⟨⟨d1,d2⟩,d3⟩,d5⟩:=DT
        have d1:=Nat.eq_of_beq_eq_true d1
        have d2:=Nat.eq_of_beq_eq_true d2
        subst d1;subst d2;subst d3
        have m6:=Tr.wp_mono (J':=J5) (fun _ _ h=>h) (fun e τ ρ J1 J2 hj h=>hQ _ _ _ _ _ hj (m0 e τ ρ J1 h)) (l6 hQx m5)
        have jmp:∃ jump,EJ (sB e')=some jump∧jump=(if e' = .normal then none else some (Qy e')):=by
         rcases he' with rfl | rfl | ⟨i,rfl⟩
         ·exact⟨_,rfl,rfl⟩
         ·exact⟨_,rfl,rfl⟩
         exact⟨_,rfl,rfl⟩
        obtain⟨jump,hj1,pM⟩:=jmp
        refine pI _ jump _ hj1 ⟨s4,m1,Si m2.l' d5,SD m2.l' abw,?_⟩
        have c7:(if jump.isNone then LoopState.ready else .done)=th (if e' = .normal then Ls.ready else .done e')∧jump=vH (if e' = .normal then Ls.ready else .done e')∧jump.isNone=decide (e' = .normal):=by
         by_cases hn:e' = .normal
         ·rw[pM,if_pos hn,if_pos hn];exact⟨rfl,rfl,by simp[hn]⟩
         rw[pM,if_neg hn,if_neg hn];exact⟨rfl,rfl,by simp[hn]⟩
        rw[c7.1,c7.2.2]
        rw[show(AO.loop b5 k lf bp body tm (th (if e' = .normal then Ls.ready else .done e')) jump) = .loop b5 k lf bp body tm (th (if e' = .normal then Ls.ready else .done e')) (vH (if e' = .normal then Ls.ready else .done e')) by rw[←c7.2.1]]
        exact hK _ ⟨qy.n,t0,(qy.l.set id (.lp j5 b5 WB (if e' = .normal then Ls.ready else .done e'))).map (kf C.dep)⟩ tZ J5 _ ⟨ft,s4.l.set id (.loop b5 k lf bp body tm (th (if e' = .normal then Ls.ready else .done e')) (vH (if e' = .normal then Ls.ready else .done e')))⟩ m6 m3 m4
         (@ba.mk _ Λ _ _ _ (show fI qy.n tZ from ba.ov m2) (fun q=>(f2 q).mono (m3.ext (ba.ov hs))) (Na aN (F2.set m2.l' (SC _) id))) (gR rfl)
      exact m5.elim
     cases e with
     | normal=>
      have nP:fF (Λ:=cn) (R0:=R) _ _ _ _ _ .normal yU gD J4:=nP
      unfold fF at nP
      rw[if_pos rfl] at nP
      obtain⟨qy,tZ,s4,J5,m1,m2,m3,m4,m5⟩:=nP x3 (Nat.le_trans k4 h6) s3 As
      exact fin .normal qy tZ J5 s4 Qp uN (.inl rfl) m1 m2 m3 m4 uZ m5
     | ret=>
      have nP:Tr.wp cs (nE C id j2 b2 lg σ.l.length t0 K .ret yU) gD (fF (Λ:=cn) (R0:=R) cs σ.n ρ (fun τ=>nE C id j2 b2 lg σ.l.length t0 K .normal τ) Qp) J4:=nP
      exact fin .ret yU gD J4 s3 _ uO (.inr (.inl rfl)) (Sub.refl s3) As x3 (Nat.le_trans k4 h6) (fun e τ ρ J h=>uZ e τ ρ J (by unfold fF at h;rw[if_neg (by intro h;cases h)] at h;exact h)) nP
     | exit i=>
      have nP:Tr.wp cs (nE C id j2 b2 lg σ.l.length t0 K (.exit i) yU) gD (fF (Λ:=cn) (R0:=R) cs σ.n ρ (fun τ=>nE C id j2 b2 lg σ.l.length t0 K .normal τ) Qp) J4:=nP
      exact fin (.exit i) yU gD J4 s3 _ uO (.inr (.inr ⟨i,rfl⟩)) (Sub.refl s3) As x3 (Nat.le_trans k4 h6) (fun e τ ρ J h=>uZ e τ ρ J (by unfold fF at h;rw[if_neg (by intro h;cases h)] at h;exact h)) nP
     | gC e=>exact nP.elim
   exact k5.elim
 exact hw.elim
theorem aiu (hV:dI P V) {o:Oper} {s:St} {K:St→Prop} {pc:PC} {t t2 e size sz bt:Nat} {z els:List D} {x:Operand} (ho:o.op = .binOp .eql t x (.const (.slice none 0 0)) t2) (hE:V.E t=some ⟨sz,bt,z,.slice e⟩) (hx:bR s.t x = .d (.slice size els))
  (hg:eJ ops s.t o.guard=some pc) (hp:holds pc) (hd:eS n o.dst=true) (hK:∀ b,(b=true→els=[])→K ⟨aY s.t o.dst (.d (.bool b)),s.l⟩):nv P n ops o s K:=by
 intro w0 I0 a w Q Kn ah zN
 obtain⟨aK,I,m,hw,dY,ht⟩:=ah
 rw[if_pos ((tV ht hg).2 hp)]
 refine cz.wpIn (by simp[ho]) ?_
 have hv:=cy (by have:=qN hw.sat.dA ht x;rw[hx] at this;exact this)
 obtain⟨A,c,hA⟩:=W4 hv
 have hu:=mG hV.E hE
 have bP:(execOp a.eval o).run P w = .ok (.value (.bool A.isNone)) w:=by
  have abk:a.eval (.const (.slice none 0 0)) = .slice none 0 0:=rfl
  have h3:=Lib.run_eql_slice_nil (P:=P) w t e A els.length c 0 0 hu
  unfold execOp
  simp only[ho,hA,abk,Sem.run_bind,eqGuard]
  simp[h3]
 rw[bP]
 simp only[cz]
 refine zN _ _ _ (hK A.isNone ?_) ⟨by cases o.dst<;>simp[Act.put,aK],I,m,hw,dY.put (.refl I),o5 aK hd ht (.d _ _ (.bool _))⟩
 intro hb
 rw[hA] at hv
 cases A with
 | none=>
  generalize hl:els.length=q at hv
  cases hv
  rfl
 | some a=>cases hb
theorem abI (bP:yX P V cs fs run) (hC:ck P V C) (aR:kB P C cs) (hF:sf P fs) (ig:C.pF=fs) (hY:∀ j,C.dep≤j→Λ.lam j=none) {σ:Sk} {ρ:aO} (hL:LOk ρ L):N1 P cs n ops (Ag run C L) σ ρ:=by
 intro o m F s Q J K Kd pc iF hs hQ hd hg hp hw hK
 obtain⟨ft,f1,f2,f3⟩:=T9 hs m
 unfold Ag at iF
 split at iF
 ·rename_i op t x y t2 ho
  split at iF
  ·rename_i s1 s2 s3 e u xs hE hX
   injection iF with iF;subst iF
   obtain⟨u',zs,h1,h2,h3⟩:=hw
   have S5:=tz hs.t x
   rw[hX] at S5
   obtain⟨hv,v,k1,k2⟩:=l9 S5
   rw[h1] at k1
   injection k1 with k1;cases k1
   refine aiu (P:=P) hC.ok ho (by rw[hC.E];exact hE) (size:=u.size) (els:=List.map u.enc v) k2 hg hp hd fun b hb=>?_
   cases b with
   | true=>exact hK _ σ ρ J _ s (h2 (List.map_eq_nil_iff.1 (hb rfl))) (.refl _ _) (Nat.le_refl _) hs (gR rfl)
   | false=>exact hK _ σ ρ J _ s h3 (.refl _ _) (Nat.le_refl _) hs (gR rfl)
  cases iF
 ·rename_i c ho
  split at iF
  ·rename_i f cN
   have hf:=tz hs.t f
   have c9:∀ x∈c.args.toList,RX ρ (jD σ.t x) (bR s.t x):=fun x _=>tz hs.t x
   have dZ:F2 (RX ρ) (qq C.E c.argTypes.toList (c.args.toList.map (jD σ.t))) (iA V.E c.argTypes.toList (c.args.toList.map (bR s.t))):=NB hC (IZ c9)
   split at iF
   ·rename_i id an
    injection iF with iF;subst iF
    rw[an] at hf
    have S7:tY V.E (bR s.t) o=some (id,iA V.E c.argTypes.toList (c.args.toList.map (bR s.t))):=by
     generalize hv:bR s.t f=v at hf
     cases hf
     simp only[tY,ho,cN,hv]
    exact ajo bP hC aR ig hY hs hL hQ hd hg hp S7 dZ f1 f2 f3 hw hK
   split at iF
   ·rename_i g ts hgt
    obtain⟨us,k1,k2⟩:=IB hf hgt
    split at iF
    ·rename_i fn ic
     injection iF with iF;subst iF
     have jT:eO V.E (bR s.t) o=some (g,iA V.E c.argTypes.toList (c.args.toList.map (bR s.t))++us):=by
      rcases k2 with e | ⟨e,rfl⟩ | ⟨ds,e,rfl⟩
      ·simp only[eO,ho,cN,e]
      ·simp only[eO,ho,cN,e,List.append_nil]
      simp only[eO,ho,cN,e]
     rw[ig] at ic
     exact YZ bP hC aR hF ig hY ic hs hL hQ hd hg hp jT (dZ.app k1) f1 f2 f3 hw hK
    have jT:eO V.E (bR s.t) o=some (g,iA V.E c.argTypes.toList (c.args.toList.map (bR s.t))++us):=by
     rcases k2 with e | ⟨e,rfl⟩ | ⟨ds,e,rfl⟩
     ·simp only[eO,ho,cN,e]
     ·simp only[eO,ho,cN,e,List.append_nil]
     simp only[eO,ho,cN,e]
    exact aeC hC aR iF hs hd hg hp jT (dZ.app k1) hw hK
   cases iF
  cases iF
 cases iF
theorem M3 (bP:yX P V cs fs run) (hC:ck P V C) (aR:kB P C cs) (hF:sf P fs) (ig:C.pF=fs) (lK:R0.r=none) (hY:∀ j,C.dep≤j→Λ.lam j=none) {w0:World} {I0:aw} {g:Operand} {ps:Array Tmp} {bp body:Code} {live m:Nat} {σ:Sk} {s:St} {ρ:aO} {gf:FuncId} {cV:List TX} {fn:Func} {Q:LQ} {J:LJ} {Qd:Exit→St→Prop}
  (ee:nC (jD (rz m σ.t) g)=some (gf,cV)) (ic:findF gf C.pF=some fn) (hs:ba ρ σ s) (hL:LOk ρ L) (hQ:gw Q)
  (hw:Tr.wp cs (B0 run C L live fn cV ps.toList bp body σ (rz m σ.t)) ρ Q J)
  (hK:∀ e bE ρ' J',Q e bE ρ' J'→dy σ.n ρ ρ'→σ.n≤bE.n→∀ s',ba ρ' bE s'→Qd (sB e) s'):aV P w0 I0 C.nt (.rangeFunc g ps bp body) s Qd:=by
 obtain⟨ft,f1,f2,f3⟩:=T9 hs m
 generalize rz m σ.t=t0 at ee hw f2 f3
 have hlen:σ.l.length=s.l.length:=hs.l.len
 refine aV.sub (aiC f1) ?_
 have hgR:RX ρ (jD t0 g) (bR ft g):=tz f2 g
 obtain⟨us,k1,k2⟩:=IB hgR ee
 have hct:zm (bR ft g)=some (gf,us):=by
  rcases k2 with e | ⟨e,rfl⟩ | ⟨ds,e,rfl⟩<;>simp only[zm,e]
 unfold B0 at hw
 cases hle:(!Nat.ble (cV.length+1) fn.ntmps || !fn.results.toList.isEmpty || !Nat.ble σ.l.length σ.l.length) with
 | true=>rw[hle] at hw;exact hw.elim
 | false=>
  rw[hle] at hw
  simp only[cond_false] at hw
  simp only[Bool.or_eq_false_iff,Bool.not_eq_false'] at hle
  obtain⟨⟨c1,c2⟩,_⟩:=hle
  have c1:=Nat.le_of_ble_eq_true c1
  have c2:fn.results.toList=[]:=by simpa using c2
  rw[ig] at ic
  obtain⟨e1,e2,e3⟩:=hF gf fn ic
  refine ahp (s:=⟨ft,s.l⟩) lK hct fun N hN=>?_
  show uc P gf (.bd s.l.length::us) (s.l++[.loop s.l.length C.nt ps bp body ft .ready none]) ((N,.bd s.l.length)::ft) _
  refine uc.of hC.ok e2 e1 e3 (by simp only[List.length_cons,←k1.len];omega) fun R hR w1 I1 vals Qe pI=>?_
  have hN1:(s.l++[AO.loop s.l.length C.nt ps bp body ft .ready none]).length=s.l.length+1:=by simp
  rw[hN1] at pI ⊢
  have hN2:s.l++[AO.loop s.l.length C.nt ps bp body ft .ready none]++[AO.frame (s.l.length+1) vals ((N,.bd s.l.length)::ft)]=s.l++[AO.loop s.l.length C.nt ps bp body ft .ready none,AO.frame (s.l.length+1) vals ((N,.bd s.l.length)::ft)]:=by simp
  rw[hN2]
  generalize JV:((N,T.bd s.l.length)::ft)=mP at pI ⊢
  have I2:pq mP (s.l.length::iO t0):=fun k r hr=>by
   rw[←JV] at hr
   simp only[aj.get] at hr
   by_cases hk:N=k
   ·rw[if_pos hk] at hr;simp[fy] at hr;subst hr;simp
   rw[if_neg hk] at hr;exact List.mem_cons_of_mem _ (f3 k r hr)
  generalize Eu:je Λ C.dep (.loop s.l.length C.nt ps bp body ft)=Hx
  generalize Ev:je Hx (C.dep+1) (.frame (s.l.length+1) vals mP)=jK
  have Sm:∀ j,C.dep+1≤j→Hx.lam j=none:=Eu▸GD hY
  have abq:∀ j,C.dep+2≤j→jK.lam j=none:=Ev▸GD Sm
  have abD:jL Λ Hx:=Eu▸jL.push (hY _ (Nat.le_refl _))
  have Sw:jL Hx jK:=Ev▸jL.push (Sm _ (Nat.le_refl _))
  have pQ:jL Λ jK:=abD.trans Sw
  have SS:jK.lam C.dep=some (.loop s.l.length C.nt ps bp body ft):=Sw _ _ (Eu▸BW)
  have SU:jK.lam (C.dep+1)=some (.frame (s.l.length+1) vals mP):=Ev▸BW
  have aN:∀ j,j < C.dep→jK.lam j=Λ.lam j:=fun j hj=>by rw[←Ev,GF j (by omega),←Eu,GF j hj]
  have sS:@ba _ jK ρ ⟨σ.n,r8 0 (.bd σ.l.length::cV),σ.l++[.lp C.dep σ.l.length (iO t0) .ready,.eo (C.dep+1) (σ.l.length+1) (σ.l.length::iO t0)]⟩
    ⟨nr 0 (.bd s.l.length::us),s.l++[.loop s.l.length C.nt ps bp body ft .ready none,.frame (s.l.length+1) vals mP]⟩:=by
   rw[hlen]
   refine @ba.mk _ jK _ _ _ (show fI σ.n ρ from ba.ov hs) (Nn (.cons (.bd _) k1)) (F2.app (M9 pQ (ba.l' hs)) (.cons ?_ (.cons ?_ .nil)))
   ·exact @cu.lp _ jK ρ C.dep s.l.length _ .ready C.nt ps bp body ft SS f3
   exact @cu.eo _ jK ρ (C.dep+1) (s.l.length+1) _ vals mP SU I2
  have hL2:@LOk _ jK ρ (.mk σ.l.length C.dep C.nt ps.toList bp body t0 L::L):=fun x hx=>by
   have fE:∀ x,x∈L→@ll _ jK ρ x:=fun x hx=>ll.lam pQ (hL x hx)
   rcases List.mem_cons.1 hx with rfl | hx
   ·exact @ll.mk _ jK ρ σ.l.length C.dep C.nt ps.toList bp body t0 L s.l.length ps ft SS rfl f2 fE
   exact fE x hx
  have hw:=l6 hQ hw
  have hr:=@bP jK R { C with nt:=fn.ntmps,dep:=C.dep+2,nq:=false } (.mk σ.l.length C.dep C.nt ps.toList bp body t0 L::L) ⟨0,[],0⟩ (nA fn) ⟨σ.n,r8 0 (.bd σ.l.length::cV),σ.l++[.lp C.dep σ.l.length (iO t0) .ready,.eo (C.dep+1) (σ.l.length+1) (σ.l.length::iO t0)]⟩ w1 I1 (hC.Hv _ _ _) ⟨aR.sigs,aR.turns⟩ ig (fun _=>hR) abq
  refine mM.go (Λ:=jK) (R0:=R) hr sS hL2 (bind_mono hQ) hw ?_
  intro e bE ρ' J' hq h3 h4 s' bl
  have h3:dy σ.n ρ ρ':=h3
  have h4:σ.n≤bE.n:=h4
  have fin:Tr.wp cs (B0.fin C live σ t0 bE) ρ' Q J'→wV V s' fn.results.toList (s.l.length+1) vals mP fun _ l'=>@N7 _ R0 P w0 I0 C.nt Qd ⟨ft,s.l⟩ s.l.length l':=by
   intro hq
   unfold B0.fin at hq
   cases eK:mY (C.dep+1) (σ.l.length+1) bE.l with
   | false=>rw[eK] at hq;exact hq.elim
   | true=>
    rw[eK] at hq
    simp only[cond_true] at hq
    obtain⟨XP,Rx,q1,q2⟩:=K3 (Λ:=jK) (ba.l' bl) eK
    rw[SU] at q2
    injection q2 with q2;injection q2 with q3 q4 q5
    subst q4;subst q5
    rw[hlen] at q1
    refine⟨s',@Sub.refl _ R s',by rw[c2];trivial,q1,?_⟩
    have after:∀ {b:Nat} {rs:List Nat} {st:Ls} {X:AO},bE.l[σ.l.length]?=some (.lp C.dep b rs st)→Tk X=true→@ba _ Λ ρ' (Sk.di live ⟨bE.n,t0,bE.l.map (kf C.dep)⟩) ⟨ft,s'.l.set s.l.length X⟩:=by
     intro b rs st X kP hX
     refine yC (Λ:=Λ) (σ:=⟨bE.n,t0,bE.l.map (kf C.dep)⟩) (s:=⟨ft,s'.l.set s.l.length X⟩) live ?_
     refine @ba.mk _ Λ _ _ _ (show fI bE.n ρ' from ba.ov bl) (fun k=>(f2 k).mono (h3.ext (ba.ov hs))) ?_
     have hR':@RL _ Λ ρ' (bE.l.map (kf C.dep)) s'.l:=Na aN (ba.l' bl)
     have fY:=F2.set hR' (@cu.fE _ Λ ρ' X hX) s.l.length
     have e:(bE.l.map (kf C.dep)).set s.l.length .fE=bE.l.map (kf C.dep):=by
      apply List.ext_getElem?
      intro i
      rw[List.getElem?_set]
      by_cases hi:s.l.length=i
      ·subst hi
       rw[hlen] at kP
       have fB:=(List.getElem?_eq_some_iff.1 kP).1
       rw[if_pos rfl,if_pos (by simpa using fB),List.getElem?_map,kP]
       simp[kf,Nat.ble_eq_true_of_le (Nat.le_refl _)]
      rw[if_neg hi]
     rw[e] at fY
     exact fY
    split at hq
    ·rename_i j b rs kP
     cases hj:Nat.beq j C.dep with
     | false=>rw[hj] at hq;exact hq.elim
     | true=>
      rw[hj] at hq
      simp only[cond_true] at hq
      have:=Nat.eq_of_beq_eq_true hj
      subst this
      obtain⟨k',tM,CN,CT,Hf,p1,p2,p3⟩:=AZ (Λ:=jK) (ba.l' bl) kP
      rw[hlen] at p1
      exact⟨_,_,_,_,_,_,_,_,p1,(by intro h;cases h),hK .normal _ ρ' J' hq h3 h4 _ (after kP rfl)⟩
    ·rename_i j b rs kP
     cases hj:Nat.beq j C.dep with
     | false=>rw[hj] at hq;exact hq.elim
     | true=>
      rw[hj] at hq
      simp only[cond_true] at hq
      have:=Nat.eq_of_beq_eq_true hj
      subst this
      obtain⟨k',tM,CN,CT,Hf,p1,p2,p3⟩:=AZ (Λ:=jK) (ba.l' bl) kP
      rw[hlen] at p1
      exact⟨_,_,_,_,_,_,_,_,p1,(by intro h;cases h),(letI:cd:=R0;aV.ret (hK .ret _ ρ' J' hq h3 h4 _ (after kP rfl)))⟩
    ·rename_i j b rs i kP
     cases hj:Nat.beq j C.dep with
     | false=>rw[hj] at hq;exact hq.elim
     | true=>
      rw[hj] at hq
      simp only[cond_true] at hq
      have:=Nat.eq_of_beq_eq_true hj
      subst this
      obtain⟨k',tM,CN,CT,Hf,p1,p2,p3⟩:=AZ (Λ:=jK) (ba.l' bl) kP
      rw[hlen] at p1
      exact⟨_,_,_,_,_,_,_,_,p1,(by intro h;cases h),(letI:cd:=R0;aV.exit (hK (.exit i) _ ρ' J' hq h3 h4 _ (after kP rfl)))⟩
    exact hq.elim
  cases e with
  | normal=>exact pI _ _ (.inr rfl) (fin hq)
  | ret=>exact pI _ _ (.inl rfl) (fin hq)
  | exit i=>exact hq.elim
  | gC e=>exact hq.elim
omit Λ R0 in
theorem aaq (hF:sf P fs) (hm:P.follows .mixedOrders=true) (f:Nat):yX P V cs fs (exec f):=by
 induction f with
 | zero=>
  intro Λ R C L live c σ w0 I0 _ _ _ _ _ ρ s Q J Qd _ _ _ hw _
  exact hw.elim
 | succ f ih=>
  intro Λ R C L live c σ w0 I0 hC aR ig lK hY
  intro ρ s Q J Qd hs hL hQ hw hK
  cases c with
  | skip=>exact aV.skip (hK _ _ _ _ hw (.refl _ _) (Nat.le_refl _) s hs)
  | region id ops d=>
   obtain⟨s0,f1,f2,f3⟩:=Jl hC (js:=ow C ops.toList) hs
   refine aV.sub f1 ?_
   have hK:∀ e bE ρ' J',Q e bE ρ' J'→dy (mf C σ (ow C ops.toList)).n ρ ρ'→(mf C σ (ow C ops.toList)).n≤bE.n→∀ s',ba ρ' bE s'→Qd (sB e) s':=by rw[f3];exact hK
   have hs:=f2
   have hw:Tr.wp cs (fz (fun e τ=> .leaf e (τ.di live.out)) (bif d then o7 C ops.toList (mf C σ (ow C ops.toList)) ops.toList (mf C σ (ow C ops.toList)) [] [] else o8 C (Ag (exec f) C L) live.out ops.toList ops.toList (mf C σ (ow C ops.toList)))) ρ Q J:=hw
   generalize mf C σ (ow C ops.toList)=σ at hs hw hK
   cases d with
   | true=>
    have hw:Tr.wp cs (fz (fun e τ=> .leaf e (τ.di live.out)) (o7 C ops.toList σ ops.toList σ [] [])) ρ Q J:=hw
    have hw:=l6 hQ hw
    have e:Code.region id ops true=Code.region id ops.toList.toArray true:=by simp
    rw[e]
    exact ZZ (ops:=ops.toList) hC aR rfl hm hs hw fun bE ρ' J' h1 h2 h3 s' bl=>hK .normal _ ρ' J' h1 h2 h3 s' (yC live.out bl)
   | false=>
    have hw:Tr.wp cs (fz (fun e τ=> .leaf e (τ.di live.out)) (o8 C (Ag (exec f) C L) live.out ops.toList ops.toList σ)) ρ Q J:=hw
    have hw:=l6 hQ hw
    have hr:=G1 (K:=fun s'=>Qd .normal s') hC aR rfl (bind_mono hQ) (n0:=σ.n) (ρ0:=ρ) (fun σ1 iB hx hn=>abI @ih hC aR hF ig hY (hL.mono (hx.ext hs.fT))) ops.toList (dy.refl _ _) (Nat.le_refl _) hs hw fun bE ρ' J' h1 h2 h3 s' bl=>hK .normal _ ρ' J' h1 h2 h3 s' (yC live.out bl)
    intro a w ah
    have e:Code.region id ops false=Code.region id ops.toList.toArray false:=by simp
    rw[e]
    exact wpIn_region_lit (qB.wp (Q:=fun e a' w'=>∃ s',Qd e s'∧Rel w0 I0 C.nt s' a' w') (fun s' a w h1 h2=>⟨s',h1,h2⟩) ops.toList s0 a w ah hr)
  | seq a b=>exact(ahP (ih C L _ a σ w0 I0 hC aR ig lK hY) (fun τ=>ih C L live b τ w0 I0 hC aR ig lK hY)).go hs hL hQ hw hK
  | cond c a b=>
   simp only[exec] at hw
   have hr:=tz hs.t c
   split at hw
   ·rename_i hc
    rw[hc] at hr
    obtain⟨b',h1,h2⟩:=kG hr
    have:b'=true:=jO (h1.symm.trans (rfl:(X.bool true).den ρ=some ⟨.bool,true⟩))
    subst this
    exact aV.cond (by rw[h2];rfl) (fun _=>(ih C L live a σ w0 I0 hC aR ig lK hY).go hs hL hQ hw hK) (fun h=>by cases h)
   ·rename_i hc
    rw[hc] at hr
    obtain⟨b',h1,h2⟩:=kG hr
    have:b'=false:=jO (h1.symm.trans (rfl:(X.bool false).den ρ=some ⟨.bool,false⟩))
    subst this
    exact aV.cond (by rw[h2];rfl) (fun h=>by cases h) (fun _=>(ih C L live b σ w0 I0 hC aR ig lK hY).go hs hL hQ hw hK)
   ·rename_i x _ _ hc
    rw[hc] at hr
    obtain⟨b',h1,h2⟩:=kG hr
    obtain⟨c',k1,k2,k3⟩:=hw
    have:b'=c':=jO (h1.symm.trans k1)
    subst this
    exact aV.cond (b:=b') (by rw[h2];rfl) (fun h=>(ih C L live a σ w0 I0 hC aR ig lK hY).go hs hL hQ (k2 h) hK) (fun h=>(ih C L live b σ w0 I0 hC aR ig lK hY).go hs hL hQ (k3 h) hK)
   exact hw.elim
  | block id b=>
   have hw:Tr.wp cs (fz (fun e τ=>match e with | .exit i=>(bif Nat.beq i id then .leaf .normal τ else .leaf e τ) | e=> .leaf e τ) (exec f C L { live with ex:=(id,live.out)::live.ex } b σ)) ρ Q J:=hw
   refine aV.block ((ih C L _ b σ w0 I0 hC aR ig lK hY).go hs hL (bind_mono hQ) (l6 hQ hw) fun e bE ρ' J' hq h3 h4 s' bl=>?_)
   cases e with
   | normal=>exact hK .normal _ ρ' J' hq h3 h4 s' bl
   | ret=>exact hK .ret _ ρ' J' hq h3 h4 s' bl
   | gC e=>exact hK (.gC e) _ ρ' J' hq h3 h4 s' bl
   | exit i=>
    show if i=id then Qd .normal s' else Qd (.exit i) s'
    by_cases hi:i=id
    ·subst hi
     rw[if_pos rfl]
     simp only[Nat.beq_refl,cond_true] at hq
     exact hK .normal _ ρ' J' hq h3 h4 s' bl
    rw[if_neg hi]
    simp only[beq_false hi,cond_false] at hq
    exact hK (.exit i) _ ρ' J' hq h3 h4 s' bl
  | loop b=>exact(LM (fun τ=>ih C L _ b τ w0 I0 hC aR ig lK hY) 6 σ _).go hs hL hQ hw hK
  | exit id=>exact aV.exit (hK (.exit id) _ _ _ hw (.refl _ _) (Nat.le_refl _) s hs)
  | ret=>exact aV.ret (hK .ret _ _ _ hw (.refl _ _) (Nat.le_refl _) s hs)
  | rangeFunc g ps bp body=>
   simp only[exec] at hw
   cases Ku:C.nq with
   | true=>rw[Ku] at hw;exact hw.elim
   | false=>
    rw[Ku] at hw
    simp only[cond_false] at hw
    split at hw
    ·rename_i gf cV ee
     split at hw
     ·rename_i fn ic
      exact M3 @ih hC aR hF ig (lK Ku) hY ee ic hs hL hQ hw hK
     exact hw.elim
    exact hw.elim
  | _=>exact hw.elim
end
end Go.Sy
namespace Go.Sy
open Go Go.aj
variable [aC] [cP] [dC] [bh] [qE]
section
variable [cd]
def Fu:LQ:=fun _ _ _ _=>False
theorem ZW {cs:List Callee}:∀ {T:Tr} {sig:List Ty} {ρ:aO} {r:ua sig},Tr.den cs sig T ρ=some r→Tr.wp cs T ρ Fu (fun k v=>mX sig k v=some r):=by
 intro T
 induction T with
 | leaf e σ=>intro sig ρ r h;simp[Tr.den] at h
 | out k x=>
  intro sig ρ r h
  simp only[Tr.den] at h
  split at h
  ·rename_i v hv;exact⟨v,hv,h⟩
  cases h
 | bT x t ih=>
  intro sig ρ r h
  simp only[Tr.den] at h
  split at h
  ·rename_i b hb
   cases b with
   | true=>exact⟨hb,ih h⟩
   | false=>cases h
  cases h
 | get v xs k t ih=>
  intro sig ρ r h
  simp only[Tr.den] at h
  split at h
  ·rename_i u l kk i h1 h2
   cases he:av (α:=u.den) l i with
   | none=>rw[he] at h;cases h
   | some e=>rw[he] at h;exact⟨u,l,kk,i,e,h1,h2,he,ih h⟩
  cases h
 | call v c x t ih=>
  intro sig ρ r h
  simp only[Tr.den] at h
  split at h
  ·rename_i C hC
   split at h
   ·rename_i u hu
    split at h
    ·rename_i a ha
     cases hy:C.fn a with
     | none=>rw[hy] at h;cases h
     | some y=>
      rw[hy] at h
      have:=uo ha
      subst this
      exact⟨C,a,y,hC,hu,hy,ih h⟩
    cases h
   cases h
  cases h
 | iJ c a b dE dz=>
  intro sig ρ r h
  simp only[Tr.den] at h
  split at h
  ·rename_i b0 hb
   refine⟨b0,hb,fun e=>?_,fun e=>?_⟩
   ·subst e;exact dE h
   subst e;exact dz h
  cases h
 | jA c a b dE dz=>
  intro sig ρ r h
  simp only[Tr.den] at h
  split at h
  ·rename_i u xs hx
   refine⟨u,xs,hx,fun e=>?_,?_⟩
   ·subst e
    simp only[List.isEmpty_nil,rL] at h
    split at h
    ·rename_i dg;exact dE (dg.trans h)
    cases h
   cases xs with
   | nil=>
    simp only[List.isEmpty_nil,rL] at h
    split at h
    ·exact dz h
    cases h
   | cons y ys=>exact dz h
  cases h
 | join ty v a b dE dz=>
  intro sig ρ r h
  have Qq:∀ {w:Sy.V} {z:ty.den},e9 ty w=some z→Tr.den cs sig b ((v,⟨ty,z⟩)::ρ)=some r→∃ y:ty.den,w=⟨ty,y⟩∧Tr.wp cs b ((v,⟨ty,y⟩)::ρ) Fu (fun k v=>mX sig k v=some r):=fun hc hb=>⟨_,uo hc,dz hb⟩
  simp only[Tr.den] at h
  cases dg:ln 0 a with
  | false=>
   rw[dg] at h
   simp only[cond_false] at h
   cases hz:Tr.den cs [ty] a ρ with
   | none=>rw[hz] at h;cases h
   | some z=>
    rw[hz] at h
    have h:Tr.den cs sig b ((v,⟨ty,z⟩)::ρ)=some r:=h
    show Tr.wp cs a ρ _ (jQ _ _)
    refine Tr.wp_mono (fun k w hw=>?_) (fun _ _ _ _ _ _ h=>h) (dE hz)
    cases k with
    | zero=>exact Qq hw h
    | succ k=>simp[mX] at hw
  | true=>
   rw[dg] at h
   simp only[cond_true] at h
   cases hz:Tr.den cs (ty::sig) a ρ with
   | none=>rw[hz] at h;cases sig<;>cases h
   | some z=>
    rw[hz] at h
    cases sig with
    | nil=>exact r.elim
    | cons s rest=>
     show Tr.wp cs a ρ _ (jQ _ _)
     refine Tr.wp_mono (fun k w hw=>?_) (fun _ _ _ _ _ _ h=>h) (dE hz)
     match z,h with
     | .inl z,h=>
      have h:Tr.den cs (s::rest) b ((v,⟨ty,z⟩)::ρ)=some r:=h
      cases k with
      | zero=>
       simp only[mX] at hw
       split at hw
       ·rename_i z' AB
        injection hw with hw;injection hw with hw;subst hw
        exact Qq AB h
       cases hw
      | succ k=>
       simp only[mX] at hw
       split at hw
       ·injection hw with hw;cases hw
       cases hw
     | .inr z,h=>
      have h:some z=some r:=h
      injection h with h;subst h
      cases k with
      | zero=>
       simp only[mX] at hw
       split at hw
       ·injection hw with hw;cases hw
       cases hw
      | succ k=>
       simp only[mX] at hw
       split at hw
       ·rename_i y hy;injection hw with hw;injection hw with hw;subst hw;exact hy
       cases hw
 | loop ty v i b ih=>
  intro sig ρ r h
  cases sig with
  | nil=>simp[Tr.den] at h
  | cons s rest=>
   simp only[Tr.den] at h
   split at h
   ·rename_i u hu
    split at h
    ·rename_i z0 oM
     have:=uo oM
     subst this
     obtain⟨m,hm⟩:=E6 h
     refine⟨z0,hu,m,?_⟩
     clear oM h hu
     induction m generalizing z0 with
     | zero=>cases hm
     | succ m ihm=>
      simp only[mZ] at hm
      show Tr.wp cs b _ _ (jQ _ _)
      split at hm
      ·rename_i z' AB
       refine Tr.wp_mono (fun k w hw=>?_) (fun _ _ _ _ _ _ h=>h) (ih AB)
       cases k with
       | zero=>
        simp only[mX] at hw
        split at hw
        ·rename_i z2 kU
         injection hw with hw;injection hw with hw;subst hw
         exact⟨_,uo kU,ihm _ hm⟩
        cases hw
       | succ k=>
        simp only[mX] at hw
        split at hw
        ·injection hw with hw;cases hw
        cases hw
      ·rename_i y hy
       injection hm with hm;subst hm
       refine Tr.wp_mono (fun k w hw=>?_) (fun _ _ _ _ _ _ h=>h) (ih hy)
       cases k with
       | zero=>
        simp only[mX] at hw
        split at hw
        ·injection hw with hw;cases hw
        cases hw
       | succ k=>
        simp only[mX] at hw
        split at hw
        ·rename_i y' vn;injection hw with hw;injection hw with hw;subst hw;exact vn
        cases hw
      cases hm
    cases h
   cases h
 | bad w=>intro sig ρ r h;simp[Tr.den] at h
theorem aaD {cs:List Callee} {g:Sk→Option X} {p:Sy.V→Prop}:∀ {t:Tr} {k:Nat} {ρ:aO} {J:LJ},(∀ v,J k v→p v)→Tr.wp cs (lz g k t) ρ Fu J →
  Tr.wp cs t ρ (fun e σ ρ' _=>(e = .ret∨e = .normal)∧∃ x v,g σ=some x∧x.den ρ'=some v∧p v) J:=by
 intro t
 induction t with
 | leaf e σ=>
  intro k ρ J hp h
  cases e with
  | exit i=>exact h.elim
  | gC e=>exact h.elim
  | normal=>
   simp only[lz] at h
   split at h
   ·rename_i x hx;obtain⟨v,h1,h2⟩:=h;exact⟨.inr rfl,x,v,hx,h1,hp v h2⟩
   exact h.elim
  | ret=>
   simp only[lz] at h
   split at h
   ·rename_i x hx;obtain⟨v,h1,h2⟩:=h;exact⟨.inl rfl,x,v,hx,h1,hp v h2⟩
   exact h.elim
 | out k x=>intro _ ρ J hp h;exact h
 | bT x t ih=>intro k ρ J hp ⟨h1,h2⟩;exact⟨h1,ih hp h2⟩
 | get v xs i t ih=>intro k ρ J hp ⟨u,l,kk,j,e,h1,h2,h3,h4⟩;exact⟨u,l,kk,j,e,h1,h2,h3,ih hp h4⟩
 | call v c x t ih=>intro k ρ J hp ⟨C,a,y,h1,h2,h3,h4⟩;exact⟨C,a,y,h1,h2,h3,ih hp h4⟩
 | iJ c a b dE dz=>intro k ρ J hp ⟨b0,h1,h2,h3⟩;exact⟨b0,h1,fun h=>dE hp (h2 h),fun h=>dz hp (h3 h)⟩
 | jA c a b dE dz=>intro k ρ J hp ⟨u,xs,h1,h2,h3⟩;exact⟨u,xs,h1,fun h=>dE hp (h2 h),dz hp h3⟩
 | join ty v a b dE dz=>
  intro k ρ J hp h
  have:=dE (k:=k+1) (J:=jQ (fun z=>∃ y:ty.den,z=⟨ty,y⟩∧Tr.wp cs (lz g k b) ((v,⟨ty,y⟩)::ρ) Fu J) J) hp h
  show Tr.wp cs a ρ _ (jQ _ J)
  refine Tr.wp_mono (pC ?_ (fun _ _ h=>h)) (fun _ _ _ _ _ _ h=>h) this
  rintro z ⟨y,h1,h2⟩;exact⟨y,h1,dz hp h2⟩
 | loop ty v i b ih=>
  intro k ρ J hp ⟨z0,h1,n,h2⟩
  refine⟨z0,h1,n,xN ?_ h2⟩
  intro p' q z rb hz
  refine Tr.wp_mono (pC ?_ (fun _ _ h=>h)) (fun _ _ _ _ _ _ h=>h) (ih (k:=k+1) (J:=jQ _ J) hp hz)
  rintro z' ⟨y,h3,h4⟩;exact⟨y,h3,rb y h4⟩
 | bad w=>intro k ρ J hp h;exact h
section
variable {P:Program} {V:Env} {C:Cx} {cs:List Callee} {ρ:aO} {σ:Sk} {s:St}
theorem ahB (hC:ck P V C) (h:ba ρ σ s) {rs:List ResultVar} {res:List Ty} (hv:∀ t∈res,isVal t) {x:X} (hx:M8 C rs res σ=some x) {r:(aQ res).den} (hr:x.den ρ=some ⟨aQ res,r⟩):GY V s rs ((aQ res).enc r):=by
 unfold M8 at hx
 split at hx
 ·rename_i xs dw
  split at hx
  ·rename_i ys l' rm
   injection hx with hx;subst hx
   obtain⟨k1,k2⟩:=GV hC h dw
   obtain⟨a,l2,m1,m2,m3⟩:=yR h.l k2 rm
   have e:=(sa m1.1 m1.2).symm.trans hr
   injection e with e;injection e with _ e
   subst e
   refine⟨k1,?_⟩
   rw[m2]
   match res,a,hv with
   | [],a,_=>rfl
   | [t],a,_=>rfl
   | t::u::ts,a,hv=>
    have e:(aQ (t::u::ts)).enc a = .aI (eT (t::u::ts) a):=by rw[←Dp hv];rfl
    rw[e]
    cases ts<;>rfl
  cases hx
 cases hx
theorem QS:∀ {ts:List Ty} {a:(aQ ts).den} {k j:Nat} {v:Sy.V},dm ts a j=some v→lk (qM ts a k) (k+j)=some v
 | [],a,k,j,v,h=>by simp[dm] at h
 | [t],a,k,0,v,h=>by
  simp only[dm,Option.some.injEq] at h;subst h
  exact ku k _ _
 | [t],a,k,j+1,v,h=>by simp[dm] at h
 | t::u::ts,a,k,0,v,h=>by
  simp only[dm,Option.some.injEq] at h;subst h
  exact ku k _ _
 | t::u::ts,a,k,j+1,v,h=>by
  have:=QS (ts:=u::ts) (a:=a.2) (k:=k+1) (j:=j) h
  show lk ((k,_)::qM (u::ts) a.2 (k+1)) _=_
  rw[show k+(j+1)=k+1+j by omega]
  simp only[lk,beq_false (by omega:k≠k+1+j),cond_false]
  exact this
theorem QR:∀ {ts:List Ty} {a:(aQ ts).den} {k:Nat},fI (k+ts.length) (qM ts a k)
 | [],a,k=>fun p hp=>by simp[qM] at hp
 | [t],a,k=>fun p hp=>by simp[qM] at hp;subst hp;simp
 | t::u::ts,a,k=>fun p hp=>by
  simp only[qM,List.mem_cons] at hp
  rcases hp with rfl | hp
  ·simp
  have:=QR (ts:=u::ts) (a:=a.2) (k:=k+1) p hp
  simp at this ⊢;omega
theorem Xh:∀ {ts:List Ty} {a:(aQ ts).den} {k:Nat},(∀ t∈ts,isVal t)→(∀ j v,dm ts a j=some v→lk ρ (k+j)=some v)→∀ i,RX ρ (aT (yO k ts) i) (get (pe k (eT ts a)) i)
 | [],a,k,hv,h=>fun i=> .undef _
 | [t],a,k,hv,h=>fun i=>by
  show RX ρ (bif Nat.beq k i then .d t (.var k) else .undef) (if k=i then .d (t.enc a) else .undef)
  by_cases hk:k=i
  ·subst hk
   rw[if_pos rfl,Nat.beq_refl]
   exact .d t _ a (hv t (by simp)) (h 0 _ rfl)
  rw[if_neg hk,beq_false hk];exact .undef _
 | t::u::ts,a,k,hv,h=>fun i=>by
  show RX ρ (bif Nat.beq k i then .d t (.var k) else aT (yO (k+1) (u::ts)) i) (if k=i then .d (t.enc a.1) else get (pe (k+1) (eT (u::ts) a.2)) i)
  by_cases hk:k=i
  ·subst hk
   rw[if_pos rfl,Nat.beq_refl]
   exact .d t _ a.1 (hv t (by simp)) (h 0 _ rfl)
  rw[if_neg hk,beq_false hk]
  exact Xh (ts:=u::ts) (a:=a.2) (k:=k+1) (fun t ht=>hv t (List.mem_cons_of_mem _ ht)) (fun j v hj=>by
   have:=h (j+1) v hj
   rw[show k+1+j=k+(j+1) by omega];exact this) i
omit [cd] in
theorem QO:∀ (ws:List Ty) (b:(aQ ws).den),(eT ws b).length=ws.length
 | [],_=>rfl
 | [_],_=>rfl
 | t::u::ts,b=>by simp[eT,QO (u::ts) b.2]
end
end
theorem I7 {α:Type}:∀ (fS:List (Nat×α)) (t:Nat),fS.find? (fun p=>p.1 == t)=fS.find? fun p=>Nat.beq p.1 t
 | [],_=>rfl
 | p::r,t=>by
  have e:(p.1 == t)=Nat.beq p.1 t:=by
   rw[Bool.eq_iff_iff,beq_iff_eq]
   exact(Nat.beq_eq▸Iff.rfl)
  simp only[List.find?_cons,e,I7 r t]
omit [bh] [cP] [dC] in
theorem afH {C C':Cx} {fS:List (Nat×Ty)} (h:fS.all (fun p=>wI C p.1 p.2)=true) (e:∀ ty t,wI C' ty t=wI C ty t:=by intros;rfl):∀ ty t,(fS.find? fun p=>Nat.beq p.1 ty).map (·.2)=some t→wI C' ty t=true:=by
 intro ty t ht
 rw[Option.map_eq_some_iff] at ht
 obtain⟨p,h1,rfl⟩:=ht
 have h2:=List.find?_some h1
 have h3:=Nat.eq_of_beq_eq_true h2
 rw[e,←h3]
 exact List.all_eq_true.1 h p (List.mem_of_find?_eq_some h1)
section
variable {P:Program} {V:Env} {C:Cx} {cs:List Callee}
theorem aaJ {f:FuncId} {fn:Func} {c:Code} {args res:List Ty} {a:(aQ args).den} {r:(aQ res).den} (hC:ck P V C) (aR:kB P C cs) (hF:sf P C.pF) (hn:C.nt=fn.ntmps) (pR:P.follows .mixedOrders=true) (hf:P.funcs[f]?=some fn) (hb:fn.body=some c)
  (ha:∀ t∈args,isVal t) (hr:∀ t∈res,isVal t) (hl:args.length≤fn.ntmps) (h:zG cs (Ch C fn.results.toList c args res) args res a=some r):gg P f (eT args a) ((aQ res).enc r):=by
 haveI:cd:=cD
 refine gg.of hC.ok hf hb (by rw[QO];exact hl) fun R hR w0 I0=>?_
 have hw:=aaD (p:=fun v=>v=⟨aQ res,r⟩) (fun v hv=>by
  have hv:e9 (aQ res) v=some r:=hv
  exact uo hv) (ZW h)
 have hs:ba (qM args a 0) ⟨args.length,yO 0 args,[]⟩ ⟨pe 0 (eT args a),[]⟩:=
  ⟨by have:=QR (ts:=args) (a:=a) (k:=0);simpa using this,Xh ha fun j v hv=>QS hv,.nil⟩
 have hx:=aaq (V:=V) (cs:=cs) hF pR 400 C [] ⟨oh fn.results.toList,[],oh fn.results.toList⟩ c ⟨args.length,yO 0 args,[]⟩ w0 I0 hC aR rfl (fun _=>hR) (fun _ _=>rfl)
 rw[hn] at hx
 refine mM.go (Λ:=aeq) (R0:=R) hx hs (fun x hx=>by cases hx) (fun _ _ _ _ _ _ h=>h) hw ?_
 rintro e bE ρ' J' ⟨he,x,v,h1,h2,rfl⟩ _ _ s' bl
 refine⟨?_,ahB hC bl hr h1 h2⟩
 rcases he with rfl | rfl
 ·exact .inl rfl
 exact .inr rfl
def zF (fn:Func) (args res:List Ty):Bool:= !(fn.name == "runtime.NumGoroutine") && !fn.body.isNone&&args.all fP&&res.all fP&&Nat.ble args.length fn.ntmps
theorem Ql {f:FuncId} {fn:Func} {args res:List Ty} {g:(aQ args).den→Option (aQ res).den} (hC:ck P V C) (aR:kB P C cs) (hF:sf P C.pF) (hn:C.nt=fn.ntmps) (pR:P.follows .mixedOrders=true) (hf:P.funcs[f]?=some fn) (hk:zF fn args res=true)
  (h:∀ a,zG cs (Ch C fn.results.toList (nA fn) args res) args res a=g a):aB P ⟨f,args,res,g⟩:=by
 simp only[zF,Bool.and_eq_true,List.all_eq_true,Bool.not_eq_true'] at hk
 obtain⟨⟨⟨⟨k0,k1⟩,k2⟩,k3⟩,k4⟩:=hk
 have he:Enters P f:=Enters.of hf ⟨k0,k1⟩
 have ha:∀ t∈args,isVal t:=fun t ht=>dF (k2 t ht)
 have hr:∀ t∈res,isVal t:=fun t ht=>dF (k3 t ht)
 have hb:fn.body=some (nA fn):=by
  unfold nA
  cases hb:fn.body with
  | none=>rw[hb] at k1;cases k1
  | some c=>rfl
 exact⟨he,fun a r ju=>aaJ hC aR hF hn pR hf hb ha hr (Nat.le_of_ble_eq_true k4) (by rw[h];exact ju),ha,hr⟩
def Rl (fn:Func):Bool:= !(fn.name == "runtime.NumGoroutine") && !fn.body.isNone
theorem aaQ {P:Program} {fs:List (Nat×Func)} (h:fs.foldr (fun p q=>P.funcs[p.1]?=some p.2∧q) True) (hk:fs.all (fun p=>Rl p.2)=true):sf P fs:=by
 induction fs with
 | nil=>intro g fn h;cases h
 | cons c r ih=>
  intro g fn hg
  simp only[List.all_cons,Bool.and_eq_true] at hk
  simp only[findF] at hg
  cases e:Nat.beq c.1 g with
  | false=>rw[e] at hg;exact ih h.2 hk.2 g fn hg
  | true=>
   rw[e] at hg
   simp only[cond_true,Option.some.injEq] at hg
   subst hg
   have:=Nat.eq_of_beq_eq_true e
   subst this
   have k:=hk.1
   simp only[Rl,Bool.and_eq_true,Bool.not_eq_true'] at k
   refine⟨h.1,Enters.of h.1 k,?_⟩
   unfold nA
   cases hb:c.2.body with
   | none=>rw[hb] at k;cases k.2
   | some c=>rfl
def wH:List nw→Nat→List ny
 | [],_=>[]
 | c::r,k=>⟨c.f,c.t,c.args,k⟩::wH r (k+1)
theorem Y1 {P:Program} {cs:List Callee} (h:cs.foldr (fun c p=>aB P c∧p) True):∀ (j:Nat) (s:kC),(cs.map r7)[j]?=some s→∃ c:Callee,cs[j]?=some c∧r7 c=s∧aB P c:=by
 induction cs with
 | nil=>intro j s hs;simp at hs
 | cons c r ih=>
  intro j s hs
  cases j with
  | zero=>simp at hs;exact⟨c,rfl,hs,h.1⟩
  | succ j=>simpa using ih h.2 j s (by simpa using hs)
theorem XI {P:Program}:∀ {ts:List nw} {k:Nat},ts.foldr (fun c p=>ue P c.f c.t c.args c.fn∧p) True→∀ s∈wH ts k,∃ fn:(aQ (.list s.t::s.args)).den→Option (List s.t.den),k≤s.k∧((ts.map nw.um)[s.k - k]?=some (nw.mk s.f s.t s.args fn).um)∧ue P s.f s.t s.args fn
 | [],k,_,s,hs=>by simp[wH] at hs
 | c::r,k,h,s,hs=>by
  simp only[wH,List.mem_cons] at hs
  rcases hs with rfl | hs
  ·exact⟨c.fn,Nat.le_refl _,by simp,h.1⟩
  obtain⟨fn,h1,h2,h3⟩:=XI h.2 s hs
  refine⟨fn,by omega,?_,h3⟩
  rw[show s.k - k=(s.k - (k+1))+1 by omega]
  simpa using h2
theorem Qo {P:Program} {C:Cx} {cs:List Callee} {ts:List nw} (h:cs.foldr (fun c p=>aB P c∧p) True) (h2:ts.foldr (fun c p=>ue P c.f c.t c.args c.fn∧p) True) (e1:C.sigs=cs.map r7) (e2:C.turns=wH ts cs.length):kB P C (cs++ts.map nw.um):=by
 refine⟨fun j s hs=>?_,fun s hs=>?_⟩
 ·rw[e1] at hs
  obtain⟨c,h1,h2,h3⟩:=Y1 h j s hs
  exact⟨c,by rw[List.getElem?_append_left (List.getElem?_eq_some_iff.1 h1).1];exact h1,h2,h3⟩
 rw[e2] at hs
 obtain⟨fn,k1,k2,k3⟩:=XI h2 s hs
 exact⟨fn,by rw[List.getElem?_append_right k1];exact k2,k3⟩
end
end Go.Sy
namespace Go.aj
open Go Go.RowKit cE
variable [bh]
section
variable {w0 w:World} {I0 I:aw} {m:Nat→Value} {l:List AO}
variable [cd] {s:St}
end
theorem aeQ {k k':Nat} (h:k≤k') {t:T} (ht:t.tg k=true):t.tg k'=true:=by
 cases t<;>simp only[T.tg,decide_eq_true_eq] at ht ⊢<;>first | exact ht | omega | cases ht
theorem aeR {k k':Nat} (h:k≤k') {t:T} (ht:t.er k=true):t.er k'=true:=by
 cases t<;>simp only[T.er,decide_eq_true_eq] at ht ⊢<;>first | exact ht | omega | skip
 rw[List.all_eq_true] at *
 exact fun x hx=>aeQ h (ht x hx)
theorem Yg {k k':Nat} (h:k≤k') {o:AO} (ho:o.er k=true):o.er k'=true:=by
 cases o<;>simp only[AO.er,decide_eq_true_eq] at ho ⊢<;>first | exact ho | omega | skip
 rw[List.all_eq_true] at *
 exact fun x hx=>aeR h (ho x hx)
def sg (l:List AO):Prop:=l.all (AO.er l.length)=true
theorem sg.frame {l:List AO} (h:sg l) (vals:Nat→Value) (ft:Tm):sg (l++[.frame l.length vals ft]):=by
 unfold sg at *
 rw[List.all_append]
 simp only[List.length_append,List.length_singleton,List.all_cons,List.all_nil,Bool.and_true,Bool.and_eq_true]
 refine⟨?_,by simp[AO.er]⟩
 rw[List.all_eq_true] at *
 exact fun o ho=>Yg (Nat.le_succ _) (h o ho)
theorem Sub.wz [cd] {L:List AO} {t t':Tm} (hf:qS t t'):Sub ⟨t,L⟩ ⟨t',L⟩:=by
 intro w0 I0 n a w hr
 obtain⟨h1,I,m,h3,h2,h4⟩:=hr
 refine⟨h1,I,m,h3,h2,fun j=>?_⟩
 rcases Jh hf j with h | h
 ·rw[h];exact .undef _
 rw[h];exact h4 j
theorem Sub.drop [cd] {L extra:List AO} {t t':Tm} (h:sg L) (ht:t'.all (fun p=>T.er L.length p.2)=true) (hf:qS t t'):Sub ⟨t,L++extra⟩ ⟨t',L⟩:=
 Sub.ZG L.length (by simp) (by simp) (by unfold sg at h;simpa using h) ht hf
theorem aaT {L:List AO} {id:Nat} {o:AO} (h:L[id]?=some o) (x:List AO):(L++x)[id]?=some o:=by rw[List.getElem?_append_left (List.getElem?_eq_some_iff.1 h).1];exact h
end Go.aj
namespace Go.aj
open Go Go.RowKit cE Go.ChangeShapes Go.WideShapes
variable [bh]
open Classical in
noncomputable def allI (w:World):aw:=⟨fun b o=>w.cell? ⟨b,o,none⟩,fun b=>if h:∃ es,gd w.heap[b]? es then some (Classical.choose h) else none,fun _=>False⟩
theorem Yb (w:World) (hg:∀ g d,bh.l8 g=some d→Rd (allI w) (.pointer (some ⟨g,0,none⟩)) (.box d)):dH w (allI w):=by
 refine⟨fun _ _ _ h=>h,fun b es h=>?_,fun b h=>h.elim,hg⟩
 unfold allI at h
 simp only at h
 split at h
 ·rename_i hx
  cases h
  exact Classical.choose_spec hx
 cases h
theorem Zc (I:aw) {cs:List Value} {n:Nat} (h:cs.length=n):Cells I (cs.drop n) []:=by
 refine⟨by simp[h],by simp,fun i v d _ hd=>by simp at hd⟩
theorem Zb {I:aw} {cs:List Value} {o s:Nat} {ys zs:List D} (h1:Cells I ((cs.drop o).take s) ys) (h2:Cells I (cs.drop (o+s)) zs):Cells I (cs.drop o) (ys++zs):=by
 have e:cs.drop o=(cs.drop o).take s++cs.drop (o+s):=by rw[←List.drop_drop,List.take_append_drop]
 rw[e]
 obtain⟨a1,a2,a3⟩:=h1
 obtain⟨b1,b2,b3⟩:=h2
 refine⟨by simp only[List.length_append,a1,b1],fun d hd=>(List.mem_append.1 hd).elim (a2 d) (b2 d),fun i v d hv hd=>?_⟩
 by_cases hi:i < ys.length
 ·rw[List.getElem?_append_left (by omega)] at hv
  rw[List.getElem?_append_left hi] at hd
  exact a3 i v d hv hd
 rw[List.getElem?_append_right (by omega),a1] at hv
 rw[List.getElem?_append_right (by omega)] at hd
 exact b3 _ v d hv hd
theorem cells_one {I:aw} {v:Value} {d:D} (hd:d.one=true) (h:Rd I v d):Cells I [v] [d]:=
 ⟨rfl,by simpa using hd,fun i x y hx hy=>by
  rcases i with _ | i
  ·simp at hx hy;subst hx;subst hy;exact h
  simp at hx⟩
theorem X9 (b o k:Nat):(⟨b,o,none⟩:Addr).add k=⟨b,o+k,none⟩:=by
 unfold Addr.add;split
 ·rename_i h;subst h;rfl
 rfl
section
variable {P:Program} {t e:TypeId}
theorem afp {W:World} {r:Reach} {b:Nat} {v:Value} (h:Value.okWide P W r b t v) (hk:(match P.underlying t with | some (.struct _) | some (.array _ _)=>false | _=>true)=true):∀ cs,v ≠ .agg cs:=by
 rintro cs rfl
 cases hu:P.underlying t with
 | none=>simp[Value.okWide,hu,Cell.okWide,Cell.ok] at h
 | some d=>
  rw[hu] at hk
  cases d<;>first | (simp[Value.okWide,hu,Cell.okWide,Cell.ok] at h;done) | (simp at hk;done)
variable {H:Type} {en:TypeId×Value→H} {W:World} {base:Nat} {sp:Nat→Bool} {held:Bool} {v:Value} {d:DataW H} {ps:List MemPlace} {α:Type} [cE α] {ajB:(H:Type)→DataW H→α→Prop}
end
theorem wG {H:Type} {en:TypeId×Value→H} {P:Program} (hl:laidOutB P=true) {W W':World} (hb:Below W.heap.size W W') :
  ∀ {ts:List TypeId} {vs:List Value} {ds:List (DataW H)} {ps:List MemPlace},(ts.all fun t=>P.readableRec t&&decide (t < P.types.size))=true→DataW.TrodAll en P W 0 (fun _=>true) true ts vs ds ps→(∀ x∈ps,x.block < W.heap.size)→DataW.TrodAll en P W' 0 (fun b=>decide (b < W.heap.size)) true ts vs ds ps
 | [],[],[],_,_,h,_=>h
 | t::ts,v::vs,d::ds,_,ht,⟨p,q,h1,h2,e⟩,aN=>by
  simp only[List.all_cons,Bool.and_eq_true,decide_eq_true_eq] at ht
  exact⟨p,q,Below.trod hl ht.1.1 ht.1.2 h1 hb (fun x hx=>aN x (by rw[e];exact List.mem_append_left _ hx)),wG hl hb ht.2 h2 (fun x hx=>aN x (by rw[e];exact List.mem_append_right _ hx)),e⟩
 | [],_::_,_,_,_,h,_=>h.elim
 | [],[],_::_,_,_,h,_=>h.elim
 | _::_,[],_,_,_,h,_=>h.elim
 | _::_,_::_,[],_,_,h,_=>h.elim
theorem yD {P:Program} {f:FuncId} {ds:List D} {r:D} (h:gg P f ds r) {W:World} (hg:∀ g d,bh.l8 g=some d→Rd (allI W) (.pointer (some ⟨g,0,none⟩)) (.box d)) {vs:Array Value} (hs:vs.size=ds.length) (hr:∀ (i:Nat) v d,vs[i]?=some v→ds[i]?=some d→Rd (allI W) v d) :
  Calls P f vs W fun e w'=>∃ v J,e = .returned v∧Below W.heap.size W w'∧Rd J v r:=
 (h W (allI W) vs (Yb W hg) hs hr).mono fun _ _ ⟨v,J,h1,h2,_,_,h5⟩=>⟨v,J,h1,h2.below,h5⟩
end Go.aj
namespace Go.Sy
open Go Go.aj Go.RowKit Go.ChangeShapes Go.WideShapes
variable [aC]
structure wQ (bk:(H:Type)→DataW H→Nat) (lr:(H:Type)→List (DataW H)→Nat):Prop where
 str:∀ H bs,bk H (.lit (.string bs))=bs.length+1
 sl:∀ H a b,bk H (.slice a b)=lr H a+lr H b+1
 agg:∀ H a,bk H (.agg a)=lr H a+1
 nil:∀ H,lr H []=0
 cons:∀ H d r,lr H (d::r)=bk H d+lr H r
 one:∀ H d,1≤bk H d
def Cu (g:(t:Ty)→t.den→Nat):(ts:List Ty)→(aQ ts).den→Nat
 | [],_=>0
 | [t],x=>g t x
 | t::u::ts,x=>g t x.1+Cu g (u::ts) x.2
def cM:Nat→(t:Ty)→t.den→Nat
 | 0,_,_=>0
 | f+1,.list t,xs=>(List.map (fun x=>cM f t x) xs).sum+1
 | f+1,.st i,x=>Cu (fun t x=>cM f t x) (aC.cB i) (aC.un i x)+1
 | _+1,.str,s=>ByteArray.size s+1
 | _+1,_,_=>1
def FB (g:(t:Ty)→t.den→Prop):(ts:List Ty)→(aQ ts).den→Prop
 | [],_=>True
 | [t],x=>g t x
 | t::u::ts,x=>g t x.1∧FB g (u::ts) x.2
def ec:Nat→(t:Ty)→t.den→Prop
 | 0,_,_=>True
 | f+1,.list t,xs=>∀ x∈(show List t.den from xs),ec f t x
 | f+1,.st i,x=>FB (fun t x=>ec f t x) (aC.cB i) (aC.un i x)
 | _+1,.int k,n=>(Lit.int k n).wf=true
 | _+1,_,_=>True
def vU (P:Program) (g:TypeId→Ty→Bool) (Cp:Nat):List Field→List Ty→Nat→Bool
 | [],[],off=>Nat.beq off Cp
 | fd::fs,u::us,off=>Nat.beq fd.offset off&&Nat.beq (P.cellsOf fd.type) u.size&&g fd.type u&&vU P g Cp fs us (off+u.size)
 | _,_,_=>false
def rN (P:Program):Nat→TypeId→Ty→Bool
 | 0,_,_=>false
 | f+1,ty,t=>match t,P.underlying ty with
  | .int k,some (.int k')=>decide (k=k')
  | .bool,some .bool=>true
  | .str,some .string=>true
  | .list u,some (.slice e)=>Nat.beq (P.cellsOf e) u.size&&Nat.ble 1 u.size&&fP u&&rN P f e u
  | .st i,some (.struct fs)=>vU P (rN P f) (P.cellsOf ty) fs.toList (aC.cB i) 0
  | _,_=>false
def CE [bh] (P:Program) (bk:(H:Type)→DataW H→Nat) (f:Nat) (ty:TypeId) (t:Ty):Prop:=
 ∀ (H:Type) (en:TypeId×Value→H) (w:World) (base:Nat) (spare:Nat→Bool) (held:Bool) (fuel:Nat) (cs:List Value) (x:DataW H×List MemPlace),
  DataW.trod en P w base spare held fuel ty cs=some x→∃ a:t.den,cM f t a≤bk H x.1∧ec f t a∧Cells (allI w) cs (t.enc a).cells
theorem Xm {bk:(H:Type)→DataW H→Nat} {lr:(H:Type)→List (DataW H)→Nat} (hb:wQ bk lr) {α H:Type} {g:α→Nat}:∀ {l:List α} {ds:List (DataW H)},ds.length=l.length→(∀ (i:Nat) y d,l[i]?=some y→ds[i]?=some d→g y≤bk H d)→(l.map g).sum≤lr H ds
 | [],ds,_,_=>Nat.zero_le _
 | y::l,[],h,_=>by simp at h
 | y::l,d::ds,h,k=>by
  rw[List.map_cons,List.sum_cons,hb.cons]
  have h1:=k 0 y d rfl rfl
  have h2:=Xm hb (l:=l) (ds:=ds) (g:=g) (by simpa using h) fun i y d hy hd=>k (i+1) y d (by simpa using hy) (by simpa using hd)
  omega
variable [cP] [dC] [bh]
section
variable {P:Program} {bk:(H:Type)→DataW H→Nat} {lr:(H:Type)→List (DataW H)→Nat}
theorem Vu (hb:wQ bk lr) {f:Nat} {Cp:Nat} (ih:∀ ty t,rN P f ty t=true→CE P bk f ty t) {H:Type} {en:TypeId×Value→H} {w:World} {base:Nat} {spare:Nat→Bool} {held:Bool} {n:Nat} {cs:List Value} (aR:cs.length=Cp):∀ (fs:List Field) (us:List Ty) (off:Nat) (xs:List (DataW H×List MemPlace)),vU P (rN P f) Cp fs us off=true→xs.length=fs.length →
  (∀ (i:Nat) fd,fs[i]?=some fd→DataW.trod en P w base spare held n fd.type ((cs.drop fd.offset).take (P.cellsOf fd.type))=xs[i]?) →
  ∃ a:(aQ us).den,Cu (fun t x=>cM f t x) us a≤lr H (xs.map (·.1))∧FB (fun t x=>ec f t x) us a∧Cells (allI w) (cs.drop off) (cellsOf us a)
 | [],[],off,xs,h,hl,hf=>by
  simp only[vU] at h
  have:=Nat.eq_of_beq_eq_true h
  exact⟨(),Nat.zero_le _,trivial,Zc _ (by omega)⟩
 | fd::fs,[],off,xs,h,hl,hf=>by simp[vU] at h
 | [],_::_,off,xs,h,hl,hf=>by simp[vU] at h
 | fd::fs,u::us,off,[],h,hl,hf=>by simp at hl
 | fd::fs,u::us,off,x::xs,h,hl,hf=>by
  simp only[vU,Bool.and_eq_true] at h
  obtain⟨⟨⟨h1,h2⟩,h3⟩,h4⟩:=h
  have h1:=Nat.eq_of_beq_eq_true h1
  have h2:=Nat.eq_of_beq_eq_true h2
  have h0:=hf 0 fd rfl
  rw[h1,h2] at h0
  obtain⟨a,a1,a2,a3⟩:=ih _ _ h3 H en w base spare held n _ x h0
  obtain⟨b,b1,b2,b3⟩:=Vu hb ih aR fs us (off+u.size) xs h4 (by simpa using hl) fun i fd hi=>by
   have:=hf (i+1) fd (by simpa using hi)
   simpa using this
  have hc:=Zb a3 b3
  rw[List.map_cons,hb.cons]
  match us,b,b1,b2,hc with
  | [],b,b1,b2,hc=>
   refine⟨a,?_,a2,?_⟩
   ·show cM f u a≤_
    omega
   have e:(u.enc a).cells++cellsOf [] b=(u.enc a).cells:=List.append_nil _
   rw[e] at hc;exact hc
  | v::us,b,b1,b2,hc=>
   refine⟨(a,b),?_,⟨a2,b2⟩,hc⟩
   show cM f u a+Cu (fun t x=>cM f t x) (v::us) b≤_
   omega
theorem afO (hb:wQ bk lr) {f:Nat} {ty e:TypeId} {u:Ty} (ht:P.underlying ty=some (.slice e)) (aK:P.cellsOf e=u.size) (bO:1≤u.size) (hu:isVal u) (ho:CE P bk f e u):CE P bk (f+1) ty (.list u):=by
 intro H en w base spare held fuel cs x h
 have hlen:∀ y:u.den,(u.enc y).cells.length=u.size:=fun y=>lx hu y
 rcases Go.Deep.open_slice ht h with ⟨rfl,rfl⟩ | ⟨a,len,cap,m,n,D0,Pl,rfl,_,hl,hm,uV,sW,hi⟩
 ·exact⟨([]:List u.den),hb.one _ _,(fun x hx=>by cases hx),cells_one rfl (.lh _ _ _ (Nat.zero_le _))⟩
 have hlm:len≤m:=by rw[uV];split<;>omega
 rcases Nat.eq_zero_or_pos len with h0 | h0
 ·subst h0
  exact⟨([]:List u.den),hb.one _ _,(fun x hx=>by cases hx),cells_one rfl (.lh _ _ _ hm)⟩
 have eV:∀ i,i < len→∃ (y:u.den) (fc:List Value),(cM f u y≤bk H (D0 i)∧ec f u y)∧(∀ j,j < u.size→w.cell? (a.add (i*u.size+j))=fc[j]?)∧fc.length=u.size∧Cells (allI w) fc (u.enc y).cells:=fun i sL=>by
  obtain⟨fc,hc,oJ⟩:=hi i (by omega)
  obtain⟨y,hy,KP,aR⟩:=ho H en w base spare held n fc _ oJ
  rw[aK] at hc
  obtain⟨_,ee,ep⟩:=World.cells?_some hc
  exact⟨y,fc,⟨hy,KP⟩,fun j hj=>by rw[←ep j hj,Go.Deep.add_add],ee,aR⟩
 obtain⟨b,off,spot⟩:=a
 have ab3:spot=none:=by
  obtain⟨y,fc,_,ep,ee,_⟩:=eV 0 h0
  have h1:=ep 0 bO
  rw[List.getElem?_eq_getElem (by omega)] at h1
  simpa [Addr.add] using World.cell?_spot h1
 subst ab3
 have hex:∀ k,k≤len→∃ l:List u.den,l.length=k∧(∀ (i:Nat) y,l[i]?=some y→cM f u y≤bk H (D0 i)∧ec f u y)∧∀ (i:Nat) (y:u.den),l[i]?=some y→∀ j,j < u.size→∃ v d,w.cell? ⟨b,off+(i*u.size+j),none⟩=some v∧(u.enc y).cells[j]?=some d∧Rd (allI w) v d:=by
  intro k
  induction k with
  | zero=>exact fun _=>⟨[],rfl,by simp,by simp⟩
  | succ k ih=>
   intro hk
   obtain⟨l,h1,h2,h3⟩:=ih (by omega)
   obtain⟨y,fc,hy,ep,ee,aR⟩:=eV k (by omega)
   have SV:∀ (i:Nat) (z:u.den),(l++[y])[i]?=some z→l[i]?=some z∨(i=k∧z=y):=fun i z hz=>by
    by_cases sL:i < l.length
    ·rw[List.getElem?_append_left sL] at hz;exact .inl hz
    rw[List.getElem?_append_right (by omega)] at hz
    have dP:i=k:=by
     have:=(List.getElem?_eq_some_iff.1 hz).1
     simp at this;omega
    subst dP
    rw[h1] at hz
    simp at hz
    exact .inr ⟨rfl,hz.symm⟩
   refine⟨l++[y],by simp[h1],fun i z hz=>?_,fun i z hz j hj=>?_⟩
   ·rcases SV i z hz with hz | ⟨rfl,rfl⟩
    ·exact h2 i z hz
    exact hy
   rcases SV i z hz with hz | ⟨rfl,rfl⟩
   ·exact h3 i z hz j hj
   have hv:fc[j]?=some (fc[j]'(by omega)):=List.getElem?_eq_getElem (by omega)
   have hd:(u.enc z).cells[j]?=some ((u.enc z).cells[j]'(by rw[hlen];exact hj)):=List.getElem?_eq_getElem _
   refine⟨_,_,?_,hd,aR.2.2 j _ _ hv hd⟩
   have:=ep j hj
   rw[hv,X9] at this
   exact this
 obtain⟨l,h1,h2,h3⟩:=hex len (Nat.le_refl _)
 refine⟨l,?_,fun y hy=>?_,cells_one rfl ?_⟩
 ·rw[sW]
  show(l.map fun x=>cM f u x).sum+1≤bk H (.slice _ _)
  rw[hb.sl]
  have:=Xm hb (g:=fun x=>cM f u x) (l:=l) (ds:=(List.range len).map D0) (by simp[h1]) fun i y d hy hd=>by
   have sL:i < len:=by rw[←h1];exact(List.getElem?_eq_some_iff.1 hy).1
   rw[List.getElem?_map,List.getElem?_range sL] at hd
   injection hd with hd;subst hd
   exact(h2 i y hy).1
  omega
 ·obtain⟨i,hi⟩:=List.getElem?_of_mem hy
  exact(h2 i y hi).2
 show Rd (allI w) _ (.slice u.size (List.map u.enc l))
 have abn:(flat (l.map u.enc)).length=len*u.size:=by
  rw[jm (l.map u.enc) (size:=u.size) fun d hd=>by obtain⟨y,_,rfl⟩:=List.mem_map.1 hd;exact hlen y]
  simp[h1]
 have cG:∀ k,k < len*u.size→∃ v d,w.cell? ⟨b,off+k,none⟩=some v∧(flat (l.map u.enc))[k]?=some d∧Rd (allI w) v d:=fun k hk=>by
  have hi:k / u.size < len:=(Nat.div_lt_iff_lt_mul bO).2 hk
  have hj:k % u.size < u.size:=Nat.mod_lt _ bO
  have hy:l[k / u.size]?=some (l[k / u.size]'(by omega)):=List.getElem?_eq_getElem (by omega)
  obtain⟨v,d,k1,k2,k3⟩:=h3 _ _ hy _ hj
  refine⟨v,d,?_,?_,k3⟩
  ·rw[Nat.mul_comm,Nat.div_add_mod] at k1;exact k1
  rw[show k=k / u.size*u.size+k % u.size by rw[Nat.mul_comm];exact(Nat.div_add_mod k u.size).symm]
  rw[flat_get (l.map u.enc) (fun d hd=>by obtain⟨y,_,rfl⟩:=List.mem_map.1 hd;exact hlen y) _ _ (u.enc (l[k / u.size]'(by omega))) (by rw[List.getElem?_map,hy];rfl) hj]
  exact k2
 refine .slice b off len cap u.size _ (fun k=>(w.cell? ⟨b,off+k,none⟩).getD undef) (by simp[h1]) hl hm (fun d hd=>?_) (fun k hk=>?_) (fun k x hx=>?_)
 ·obtain⟨y,_,rfl⟩:=List.mem_map.1 hd
  exact⟨hlen y,xl hu y⟩
 ·obtain⟨v,d,k1,_,_⟩:=cG k hk
  show w.cell? ⟨b,off+k,none⟩=_
  simp[k1]
 have hk:k < len*u.size:=by rw[←abn];exact(List.getElem?_eq_some_iff.1 hx).1
 obtain⟨v,d,k1,k2,k3⟩:=cG k hk
 rw[hx] at k2;cases k2
 simpa [k1] using k3
theorem Mh (hb:wQ bk lr):∀ (f:Nat) (ty:TypeId) (t:Ty),rN P f ty t=true→CE P bk f ty t
 | 0,_,_,h=>by cases h
 | f+1,ty,t,h=>by
  simp only[rN] at h
  split at h
  ·rename_i k k' hu
   have:=of_decide_eq_true h
   subst this
   intro H en w base spare held fuel cs x h
   obtain⟨n,rfl,_,hw⟩:=DataW.trod_int hu h
   exact⟨n,hb.one _ _,hw,cells_one rfl (.int _ _)⟩
  ·rename_i hu
   intro H en w base spare held fuel cs x h
   obtain⟨n,rfl,_⟩:=DataW.trod_bool hu h
   exact⟨n,hb.one _ _,trivial,cells_one rfl (.bool _)⟩
  ·rename_i hu
   intro H en w base spare held fuel cs x h
   obtain⟨s,rfl,rfl,hs⟩:=DataW.trod_string hu h
   refine⟨s,?_,trivial,cells_one rfl (.str _)⟩
   show ByteArray.size s+1≤bk H (.lit (.string _))
   rw[hb.str]
   exact Nat.le_of_eq rfl
  ·rename_i u e hu
   simp only[Bool.and_eq_true] at h
   exact afO hb hu (Nat.eq_of_beq_eq_true h.1.1.1) (Nat.le_of_ble_eq_true h.1.1.2) (dF h.1.2) (Mh hb f e u h.2)
  ·rename_i i fs hu
   intro H en w base spare held fuel cs x hx
   obtain⟨xs,n,_,rfl,hl,j1,hf⟩:=DataW.trod_struct hu hx
   obtain⟨a,a1,a2,a3⟩:=Vu hb (fun ty t=>Mh hb f ty t) hl fs.toList (aC.cB i) 0 xs h (by simpa using j1) fun i fd hi=>hf i fd (by simpa using hi)
   rw[List.drop_zero] at a3
   refine⟨aC.fD i a,?_,?_,?_⟩
   ·show Cu _ (aC.cB i) (aC.un i (aC.fD i a))+1≤bk H (.agg _)
    rw[aC.sd,hb.agg];omega
   ·show FB _ (aC.cB i) (aC.un i (aC.fD i a))
    rw[aC.sd];exact a2
   show Cells (allI w) cs (aC.cells i (aC.fD i a))
   rw[cP.cells,aC.sd];exact a3
  cases h
variable {H:Type} {en:TypeId×Value→H} {W:World} {base:Nat} {sp:Nat→Bool} {held:Bool} {v:Value} {d:DataW H} {ps:List MemPlace}
theorem lq (hb:wQ bk lr) {f:Nat} {ty:TypeId} {t:Ty} (hO:rN P f ty t=true) (hv:fP t=true) {r:Reach} {b:Nat} (cr:Value.okWide P W r b ty v) (h:DataW.Trod en P W base sp held ty v d ps):∃ a:t.den,cM f t a≤bk H d∧ec f t a∧Rd (allI W) v (t.enc a):=by
 obtain⟨fuel,hf⟩:=h
 obtain⟨a,a1,a2,aR⟩:=Mh hb f ty t hO H en W base sp held fuel _ _ hf
 refine⟨a,a1,a2,?_⟩
 cases f with
 | zero=>cases hO
 | succ f=>
  by_cases c7:cj t=true
  ·obtain⟨i,rfl⟩:∃ i,t = .st i:=by cases t<;>simp[cj] at c7;exact⟨_,rfl⟩
   simp only[rN] at hO
   split at hO<;>first | contradiction | skip
   rename_i i' fs he hu
   obtain⟨cs,rfl,_⟩:=okWide_struct hu cr
   show Rd (allI W) _ (.agg (aC.cells i a))
   have h1:cs.toList.length=(aC.cells i a).length:=aR.1
   exact .agg cs _ (by simpa using h1) aR.2.1 fun i v d hv hd=>aR.2.2 i v d (by simpa [Value.cells] using hv) hd
  have c7:cj t=false:=by simpa using c7
  have hV:=dF hv
  obtain⟨e1,e2⟩:=nD c7 hV.1 hV.2 a
  rw[e1] at aR
  have gN:∀ cs,v ≠ .agg cs:=by
   refine afp cr ?_
   simp only[rN] at hO
   split at hO<;>simp_all [cj]
  have hc:v.cells.toList=[v]:=by cases v<;>first | rfl | exact absurd rfl (gN _)
  rw[hc] at aR
  exact aR.2.2 0 _ _ rfl rfl
end
end Go.Sy
