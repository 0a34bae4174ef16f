import Derived.Test.YtfhkmedbfiphbaaGreatDoorX3
set_option linter.all false
namespace Go.Sy
open Go Go.aj
variable [aC]
inductive RX (ρ:aO):TX→T→Prop
 | undef (t):RX ρ .undef t
 | gone:RX ρ .gone aj.gone
 | d (t x) (v:t.den):isVal t→x.den ρ=some ⟨t,v⟩→RX ρ (.d t x) (.d (t.enc v))
 | bC (s):RX ρ (.bC s) (.bC s)
 | fp:RX ρ .fp (.d (.map [] []))
 | ptr (id off):RX ρ (.ptr id off) (.ptr id off)
 | bw (t e b off size els k) (v:t.den):isVal t→e.den ρ=some ⟨t,v⟩→k < els.length→((fK els k).cells.drop b).take t.size=(t.enc v).cells→b+t.size≤size→(b=0→size=t.size→fK els k=t.enc v) →
   RX ρ (.bw t e off) (.bw size els k (b+off))
 | row (id):RX ρ (.row id) (.row id)
 | bf (id k off kk) (n:Int):k.den ρ=some ⟨.int kk,n⟩→RX ρ (.bf id k off) (.bf id n.toNat off)
 | map (id):RX ρ (.map id) (.map id)
 | bd (id):RX ρ (.bd id) (.bd id)
 | bL (id n):RX ρ (.bL id n) (.bL id n)
 | bD (id t x) (xs:List t.den):x.den ρ=some ⟨.list t,xs⟩→RX ρ (.bD id t x) (.bD id (.slice t.size (xs.map t.enc)))
 | agg (cs ts):cs.length=ts.length→(∀ (i:Nat) c t,cs[i]?=some c→ts[i]?=some t→RX ρ c t)→RX ρ (.agg cs) (.agg ts)
 | kD (cs) (ds:List D):cs.length=ds.length→(∀ (i:Nat) c d,cs[i]?=some c→ds[i]?=some d→RX ρ c (.d d))→RX ρ (.agg cs) (.d (.agg ds))
 | aI (cs ts):cs.length=ts.length→(∀ (i:Nat) c t,cs[i]?=some c→ts[i]?=some t→RX ρ c t)→RX ρ (.aI cs) (.aI ts)
 | jI (cs) (ds:List D):cs.length=ds.length→(∀ (i:Nat) c d,cs[i]?=some c→ds[i]?=some d→RX ρ c (.d d))→RX ρ (.aI cs) (.d (.aI ds))
 | lu (f cs) (ds:List D):cs.length=ds.length→(∀ (i:Nat) c d,cs[i]?=some c→ds[i]?=some d→RX ρ c (.d d))→RX ρ (.aL f cs) (.d (.aL f ds))
 | aL (f cs ts):cs.length=ts.length→(∀ (i:Nat) c t,cs[i]?=some c→ts[i]?=some t→RX ρ c t)→RX ρ (.aL f cs) (.aL f ts)
theorem RX.mono {ρ ρ':aO} (h:Ext ρ ρ') {c:TX} {t:T} (k:RX ρ c t):RX ρ' c t:=by
 induction k with
 | undef t=>exact .undef t
 | gone=>exact .gone
 | d t x v h1 h2=>exact .d t x v h1 (X.gW h h2)
 | bC s=>exact .bC s
 | fp=>exact .fp
 | ptr i o=>exact .ptr i o
 | bw t e b off size els k v h1 h2 h3 h4 h5 h6=>exact .bw t e b off size els k v h1 (X.gW h h2) h3 h4 h5 h6
 | row i=>exact .row i
 | bf id k off kk n h1=>exact .bf id k off kk n (X.gW h h1)
 | map i=>exact .map i
 | bd i=>exact .bd i
 | bL i n=>exact .bL i n
 | bD id t x xs h1=>exact .bD id t x xs (X.gW h h1)
 | agg cs ts h1 _ ih=>exact .agg cs ts h1 ih
 | kD cs ds h1 _ ih=>exact .kD cs ds h1 ih
 | aI cs ts h1 _ ih=>exact .aI cs ts h1 ih
 | jI cs ds h1 _ ih=>exact .jI cs ds h1 ih
 | lu f cs ds h1 _ ih=>exact .lu f cs ds h1 ih
 | aL f cs ts h1 _ ih=>exact .aL f cs ts h1 ih
inductive LF where
 | frame (b:Nat) (vals:Nat→Value) (ft:Tm)
 | loop (b k:Nat) (ps:Array Tmp) (bp body:Code) (tm:Tm)
class cZ where
 lam:Nat→Option LF
instance (priority:=low) aeq:cZ:=⟨fun _=>none⟩
def Qy:Ex→Code
 | .ret=> .ret
 | .exit i=> .exit i
 | _=> .skip
def th:Ls→LoopState
 | .ready=> .ready
 | .busy=> .busy
 | .done _=> .done
def vH:Ls→Option Code
 | .done e=>some (Qy e)
 | _=>none
def pq (ft:Tm) (rs:List Nat):Prop:=∀ k,∀ r∈fy (get ft k),r∈rs
def Tk:AO→Bool
 | .frame .. =>true
 | .loop .. =>true
 | _=>false
variable [cZ]
inductive cu (ρ:aO):AX→AO→Prop
 | dead:cu ρ .dead .dead
 | var (ty cs ts):F2 (RX ρ) cs ts→cu ρ (.var ty cs) (.var ty ts)
 | row (e t x) (xs:List t.den):isVal t→x.den ρ=some ⟨.list t,xs⟩→cu ρ (.row false e t x) (.row e t.size (xs.map t.enc))
 | bx (e t x) (xs:List t.den):isVal t→x.den ρ=some ⟨.list t,xs⟩→cu ρ (.row true e t x) (.bx e t.size (xs.map t.enc))
 | map (k v x) (m:List (k.den×v.den)):isVal k→isVal v→x.den ρ=some ⟨.map k v,m⟩→cu ρ (.map false k v x) (.map (m.map fun p=>k.enc p.1) (m.map fun p=>v.enc p.2))
 | eP (k v x) (m:List (k.den×v.den)):isVal k→isVal v→x.den ρ=some ⟨.map k v,m⟩→cu ρ (.map true k v x) (.eP (m.map fun p=>k.enc p.1) (m.map fun p=>v.enc p.2))
 | eo (j b rs vals ft):cZ.lam j=some (.frame b vals ft)→pq ft rs→cu ρ (.eo j b rs) (.frame b vals ft)
 | lp (j b rs st k ps bp body tm):cZ.lam j=some (.loop b k ps bp body tm)→pq tm rs→cu ρ (.lp j b rs st) (.loop b k ps bp body tm (th st) (vH st))
 | fE (o):Tk o=true→cu ρ .fE o
theorem cu.mono {ρ ρ':aO} (h:Ext ρ ρ') {a:AX} {o:AO} (k:cu ρ a o):cu ρ' a o:=by
 cases k with
 | dead=>exact .dead
 | var ty cs ts h1=>exact .var ty cs ts (h1.mono fun _ _=>RX.mono h)
 | row e t x xs h0 h1=>exact .row e t x xs h0 (X.gW h h1)
 | bx e t x xs h0 h1=>exact .bx e t x xs h0 (X.gW h h1)
 | map k v x m h0 h2 h1=>exact .map k v x m h0 h2 (X.gW h h1)
 | eP k v x m h0 h2 h1=>exact .eP k v x m h0 h2 (X.gW h h1)
 | eo j b rs vals ft h1 h2=>exact .eo j b rs vals ft h1 h2
 | lp j b rs st k ps bp body tm h1 h2=>exact .lp j b rs st k ps bp body tm h1 h2
 | fE o h=>exact .fE o h
abbrev RL (ρ:aO):List AX→List AO→Prop:=F2 (cu ρ)
theorem RL.mono {ρ ρ':aO} (h:Ext ρ ρ') {l:List AX} {m:List AO} (k:RL ρ l m):RL ρ' l m:=F2.mono (fun _ _=>cu.mono h) k
structure ba (ρ:aO) (σ:Sk) (s:St):Prop where
 fT:fI σ.n ρ
 t:∀ k,RX ρ (aT σ.t k) (get s.t k)
 l:RL ρ σ.l s.l
theorem Dm (t:Ty) (xs:List t.den):Ty.enc (.list t) xs = .slice t.size (xs.map t.enc):=rfl
theorem QE {t:TX} {p:Ty×X} (h:xh t=some p):t = .d p.1 p.2:=by
 cases t<;>simp[xh] at h
 subst h;rfl
theorem ahF {ρ:aO} {cs:List (Ty×X)} {ds:List D} (h:F2 (RC ρ) cs ds):F2 (RX ρ) (cs.map fun p=> .d p.1 p.2) (ds.map .d):=by
 induction h with
 | nil=>exact .nil
 | cons h1 _ ih=>
  obtain⟨h3,v,hv,rfl⟩:=h1
  exact .cons (.d _ _ v h3 hv) ih
theorem Wh {ρ:aO}:∀ {cs:List TX} {ts:List T} {ps:List (Ty×X)},F2 (RX ρ) cs ts→cs.mapM xh=some ps→∃ ds,ts=ds.map .d∧F2 (RC ρ) ps ds
 | [],[],ps,_,h=>by simp at h;subst h;exact⟨[],rfl,.nil⟩
 | c::cs,t::ts,ps,.cons hc aR,h=>by
  simp only[List.mapM_cons,Option.bind_eq_bind,Option.bind_eq_some_iff,Option.pure_def,Option.some.injEq] at h
  obtain⟨p,hp,qs,hq,rfl⟩:=h
  have:=QE hp
  subst this
  obtain⟨ds,rfl,ih⟩:=Wh aR hq
  cases hc with
  | d t x v hv hx=>exact⟨_::ds,rfl,.cons ⟨hv,v,hx,rfl⟩ ih⟩
theorem l9 {ρ:aO} {t:Ty} {x:X} {u:T} (h:RX ρ (.d t x) u):isVal t∧∃ v:t.den,x.den ρ=some ⟨t,v⟩∧u = .d (t.enc v):=by
 cases h with
 | d t x v h1 h2=>exact⟨h1,v,h2,rfl⟩
theorem Y9 (t:Ty) (v:t.den):bu (.d (t.enc v))=(t.enc v).cells.map .d:=rfl
theorem xl [cP] {t:Ty} (hv:isVal t) (v:t.den):∀ d∈(t.enc v).cells,d.one=true:=by
 by_cases hs:cj t=true
 ·cases t<;>simp[cj] at hs
  exact cP.FD _ v
 have:=nD (by simpa using hs) hv.1 hv.2 v
 rw[this.1];intro d hd;simp at hd;subst hd;exact this.2
theorem lx [cP] {t:Ty} (hv:isVal t) (v:t.den):(t.enc v).cells.length=t.size:=by
 by_cases hs:cj t=true
 ·cases t<;>simp[cj] at hs
  exact cP.len _ v
 rw[(nD (by simpa using hs) hv.1 hv.2 v).1]
 cases t<;>simp_all [cj,Ty.size]
theorem afJ [cP] {ρ:aO} {x:TX} {u:T} (h:RX ρ x u) (ho:Bb x=true):u.iM=true:=by
 cases h<;>simp[Bb] at ho<;>try rfl
 rename_i t x v hv hx
 exact(nD (by simpa using ho) hv.1 hv.2 v).2
theorem afK [cP] {ρ:aO} {xs:List TX} {us:List T} (h:F2 (RX ρ) xs us) (ho:xs.all Bb=true):us.all T.iM=true:=by
 induction h with
 | nil=>rfl
 | cons h1 _ ih=>
  simp only[List.all_cons,Bool.and_eq_true] at ho ⊢
  exact⟨afJ h1 ho.1,ih ho.2⟩
theorem Y8 [cP] [dC] {ρ:aO} {x:TX} {u:T} {cs:List TX} (h:RX ρ x u) (hc:kH x=some cs):F2 (RX ρ) cs (bu u):=by
 cases h with
 | undef t=>simp[kH] at hc
 | gone=>simp[kH] at hc
 | d t x v h1 h2=>
  simp only[kH,Option.map_eq_some_iff] at hc
  obtain⟨ps,hp,rfl⟩:=hc
  exact ahF (ur _ h1 h2 hp)
 | agg fc ts h1 h2=>
  simp only[kH,Option.some.injEq] at hc
  subst hc
  exact F2.of h1 h2
 | kD fc ds h1 h2=>
  simp only[kH,Option.some.injEq] at hc
  subst hc
  exact F2.of (by simpa [bu,D.cells] using h1) fun i c t hc ht=>by
   simp only[bu,D.cells,List.getElem?_map,Option.map_eq_some_iff] at ht
   obtain⟨d,hd,rfl⟩:=ht
   exact h2 i c d hc hd
 | aI fc ts h1 h2=>simp[kH] at hc
 | jI fc ts h1 h2=>simp[kH] at hc
 | fp=>simp only[kH,Option.some.injEq] at hc;subst hc;exact .cons .fp .nil
 | bw t e b off size els k v h1 h2 h3 h4 h5 h6=>simp only[kH,Option.some.injEq] at hc;subst hc;exact .cons (.bw t e b off size els k v h1 h2 h3 h4 h5 h6) .nil
 | bf id k off kk n h1=>simp only[kH,Option.some.injEq] at hc;subst hc;exact .cons (.bf id k off kk n h1) .nil
 | bD id t x xs h1=>simp only[kH,Option.some.injEq] at hc;subst hc;exact .cons (.bD id t x xs h1) .nil
 | lu f fc ds h1 h2=>simp only[kH,Option.some.injEq] at hc;subst hc;exact .cons (.lu f fc ds h1 h2) .nil
 | aL f fc ts h1 h2=>simp only[kH,Option.some.injEq] at hc;subst hc;exact .cons (.aL f fc ts h1 h2) .nil
 | _=>simp only[kH,Option.some.injEq] at hc;subst hc;exact .cons (by constructor) .nil
theorem Dd [cP] [dC] {ρ:aO} {x:TX} {u:T} {cs:List TX} (h:RX ρ x u) (hc:uq x=some cs):F2 (RX ρ) cs (bu u)∧(bu u).all T.iM=true:=by
 unfold uq at hc
 split at hc
 ·rename_i fc h0
  cases ho:fc.all Bb with
  | true=>
   simp only[ho,cond_true,Option.some.injEq] at hc
   subst hc
   have:=Y8 h h0
   exact⟨this,afK this ho⟩
  | false=>simp[ho] at hc
 cases hc
theorem LP:∀ {ts:List T} {ds:List D},ts.mapM gJ=some ds→ts=ds.map .d
 | [],ds,h=>by simp at h;subst h;rfl
 | t::ts,ds,h=>by
  simp only[List.mapM_cons,Option.bind_eq_bind,Option.bind_eq_some_iff,Option.pure_def,Option.some.injEq] at h
  obtain⟨x,hx,xs,dw,rfl⟩:=h
  rw[LP dw]
  cases t<;>simp[gJ] at hx
  subst hx;rfl
theorem Fj [cP] [dC] {ρ:aO} {t:Ty} (hv:isVal t) {cs:List TX} {ts:List T} {x:TX} (h:F2 (RX ρ) cs ts) (hm:vP t cs=some x):RX ρ x (jy (cj t) ts):=by
 unfold vP at hm
 cases hs:cj t with
 | true=>
  simp only[hs,cond_true] at hm
  obtain⟨i,rfl⟩:∃ i,t = .st i:=by cases t<;>simp_all [cj]
  split at hm
  ·rename_i ps hp
   obtain⟨ds,rfl,hr⟩:=Wh h hp
   simp only[Option.map_eq_some_iff] at hm
   obtain⟨y,hy,rfl⟩:=hm
   obtain⟨v,h1,h2⟩:=A6 hv hy hr
   have e:(ds.map T.d).mapM gJ=some ds:=by
    clear hp h hr hy h2
    induction ds with
    | nil=>rfl
    | cons d ds ih=>simp[gJ,ih]
   simp only[jy,e,if_true]
   have e2:D.agg ds=Ty.enc (.st i) v:=by rw[h2];rfl
   rw[e2]
   exact .d _ _ v hv h1
  simp only[Option.some.injEq] at hm
  subst hm
  simp only[jy,if_true]
  cases e:ts.mapM gJ with
  | none=>exact .agg cs ts h.len fun i c t hc ht=>h.get hc ht
  | some ds=>
   have:=LP e
   subst this
   refine .kD cs ds (by simpa using h.len) fun i c d hc hd=>h.get hc (by simp[hd])
 | false=>
  simp only[hs,cond_false] at hm
  split at hm
  ·rename_i c
   simp only[Option.some.injEq] at hm
   subst hm
   cases h with
   | cons h1 h2=>cases h2;simpa [jy] using h1
  cases hm
theorem s6 {t:Ty} (hs:cj t=true) (v:t.den):t.enc v = .agg (t.enc v).cells:=by
 cases t<;>simp[cj] at hs
 rfl
theorem VH [cP] [dC] {ρ:aO} {u t:Ty} {e:X} {v:u.den} {off:Nat} {x:TX} (hu:isVal u) (ht:isVal t) (he:e.den ρ=some ⟨u,v⟩) (h:wj u e off t=some x) :
  ∃ (y:X) (w:t.den),x = .d t y∧y.den ρ=some ⟨t,w⟩∧(t.enc w).cells=((u.enc v).cells.drop off).take t.size∧off+t.size≤u.size∧(off=0→t.size=u.size→t.enc w=u.enc v):=by
 unfold wj at h
 cases h0:(Nat.beq off 0&&decide (t=u)) with
 | true=>
  simp only[h0,cond_true,Option.some.injEq] at h
  simp only[Bool.and_eq_true,decide_eq_true_eq] at h0
  obtain⟨h1,rfl⟩:=h0
  have:=Nat.eq_of_beq_eq_true h1
  subst this
  exact⟨e,v,h.symm,he,by rw[List.drop_zero,List.take_of_length_le (by rw[lx hu];exact Nat.le_refl _)],by omega,fun _ _=>rfl⟩
 | false=>
  simp only[h0,cond_false] at h
  cases h1:(Nat.beq off 0&&Nat.beq t.size u.size&&(cj t != cj u)) with
  | true=>simp[h1] at h
  | false=>
   simp only[h1,cond_false] at h
   split at h
   ·rename_i cs aR
    have hc:=ur _ hu he aR
    cases h2:Nat.ble (off+t.size) cs.length with
    | false=>simp[h2] at h
    | true=>
     simp only[h2,cond_true,Option.map_eq_some_iff] at h
     obtain⟨y,hy,rfl⟩:=h
     have hle:=Nat.le_of_ble_eq_true h2
     have hlen:cs.length=u.size:=by rw[hc.len,lx hu]
     obtain⟨w,h3,h4⟩:=A6 ht hy ((hc.drop off).take t.size)
     refine⟨y,w,rfl,h3,h4.symm,by omega,fun e1 e2=>?_⟩
     subst e1
     rw[List.drop_zero,List.take_of_length_le (by rw[lx hu,e2];exact Nat.le_refl _)] at h4
     simp only[Nat.beq_refl,Bool.true_and,e2] at h1
     have xF:cj t=cj u:=by simpa using h1
     cases hs:cj u with
     | true=>rw[s6 hs v,s6 (xF.trans hs) w,h4]
     | false=>
      have k1:=(nD hs hu.1 hu.2 v).1
      have k2:=(nD (xF.trans hs) ht.1 ht.2 w).1
      rw[k1,k2] at h4
      simpa using h4.symm
   cases h
end Go.Sy
namespace Go.Sy
open Go Go.aj
variable [aC] [cZ]
inductive cU (cs:List Callee):Nat→aO→List Ins→aO→Prop
 | nil (n ρ):cU cs n ρ [] ρ
 | bT (n ρ x r ρ'):x.den ρ=some ⟨.bool,true⟩→cU cs n ρ r ρ'→cU cs n ρ (.bT x::r) ρ'
 | get (n ρ xs k r ρ') (t:Ty) (l:List t.den) (kk:IntKind) (i:Int) (e:t.den):xs.den ρ=some ⟨.list t,l⟩→k.den ρ=some ⟨.int kk,i⟩→av l i=some e→cU cs (n+1) ((n,⟨t,e⟩)::ρ) r ρ'→cU cs n ρ (.get xs k::r) ρ'
 | call (n ρ c x r ρ') (C:Callee) (a:(aQ C.args).den) (y:(aQ C.res).den):cs[c]?=some C→x.den ρ=some ⟨aQ C.args,a⟩→C.fn a=some y→cU cs (n+1) ((n,⟨aQ C.res,y⟩)::ρ) r ρ'→cU cs n ρ (.call c x::r) ρ'
theorem cU.ext {cs:List Callee} {n:Nat} {ρ ρ':aO} {is:List Ins} (h:cU cs n ρ is ρ'):fI n ρ→Ext ρ ρ'∧fI (ir n is) ρ':=by
 induction h with
 | nil n ρ=>intro hb;exact⟨.refl ρ,hb⟩
 | bT n ρ x r ρ' _ _ ih=>intro hb;exact ih hb
 | get n ρ xs k r ρ' t l kk i e _ _ _ _ ih=>
  intro hb
  obtain⟨h1,h2⟩:=ih (hb.push (Nat.lt_succ_self n) _)
  exact⟨(Ext.push hb _).trans h1,h2⟩
 | call n ρ c x r ρ' C a y _ _ _ _ ih=>
  intro hb
  obtain⟨h1,h2⟩:=ih (hb.push (Nat.lt_succ_self n) _)
  exact⟨(Ext.push hb _).trans h1,h2⟩
def eT:(ts:List Ty)→(aQ ts).den→List D
 | [],_=>[]
 | [t],x=>[t.enc x]
 | t::u::ts,x=>t.enc x.1::eT (u::ts) x.2
variable [bh]
structure aB (P:Program) (C:Callee):Prop where
 enters:Enters P C.f
 kJ:∀ a r,C.fn a=some r→gg P C.f (eT C.args a) ((aQ C.res).enc r)
 args:∀ t∈C.args,isVal t
 res:∀ t∈C.res,isVal t
structure ue (P:Program) (f:FuncId) (t:Ty) (args:List Ty) (fn:(aQ (.list t::args)).den→Option (List t.den)):Prop where
 enters:Enters P f
 val:isVal t
 kJ:∀ (a:(aQ (.list t::args)).den) (r:List t.den),fn a=some r→∀ (l:List AO) (id e:Nat) (els ds:List D),eT (.list t::args) a = .slice t.size els::ds→l[id]?=some (.row e t.size els)→CB P f (.row id::ds.map .d) l (.d (.aI [])) (l.set id (.row e t.size (r.map t.enc)))
structure nw where
 f:FuncId
 t:Ty
 args:List Ty
 fn:(aQ (.list t::args)).den→Option (List t.den)
def nw.um (c:nw):Callee:=⟨c.f,.list c.t::c.args,[.list c.t],c.fn⟩
def bV (P:Program) (o:Oper) (ρT:Operand→T) (l:List AO) (t:T) (l':List AO):Prop:=
 (
  ∀ c,o.op ≠ .defer c)∧∀ (w0:World) (I0:aw) (w:World) (I:aw) (m:Nat→Value) (ρ:Operand→Value),aF w0 I0 w I m l→(∀ x∈o.op.operands,aq I m l (ρ x) (ρT x)) →
  cz P ((execOp ρ o).run P w) fun v w'=>∃ J m',Le I m l J m' l'∧aF w0 I0 w' J m' l'∧aq J m' l' v t
section
variable {P:Program} {V:Env} {o:Oper} {ρT:Operand→T} {l:List AO} {nid:Nat}
theorem bV.none (hV:dI P V) {r:R} (hr:evalOp V ρT l nid o=r) (ae:r.ob) (he:r.bn = .none):bV P o ρT l r.t l:=by
 subst hr
 refine⟨uA ae,fun w0 I0 w I m ρ ah hx=>?_⟩
 have hs:=qO hV ah (fw.refl _) hx ae
 unfold bW at hs
 rw[he] at hs
 exact hs.mono fun v w' ⟨J,h1,h2,h3⟩=>⟨J,m,h1,h2,h3⟩
theorem bV.aP (hV:dI P V) {r:R} (hr:evalOp V ρT l nid o=r) (ae:r.ob) {l':List AO} (he:r.bn = .aP l') (hn:nid=l.length):bV P o ρT l r.t l':=by
 subst hr
 refine⟨uA ae,fun w0 I0 w I m ρ ah hx=>?_⟩
 have hs:=qO hV ah (fw.refl _) hx ae
 unfold bW at hs
 rw[he] at hs
 exact(hs rfl hn).mono fun v w' ⟨J,m',h1,h2,h3⟩=>⟨J,m',h1,h2,h3⟩
theorem bV.set (hV:dI P V) {r:R} (hr:evalOp V ρT l nid o=r) (ae:r.ob) {a:AO} (he:r.bn = .new a) (hn:l[nid]?=some .dead):bV P o ρT l r.t (l.set nid a):=by
 subst hr
 refine⟨uA ae,fun w0 I0 w I m ρ ah hx=>?_⟩
 have hs:=qO hV ah (fw.refl _) hx ae
 unfold bW at hs
 rw[he] at hs
 exact(hs hn).mono fun v w' ⟨m',h1,h2,h3⟩=>⟨I,m',h1,h2,h3⟩
theorem bV.new (hV:dI P V) {r:R} (hr:evalOp V ρT l nid o=r) (ae:r.ob) {a:AO} (he:r.bn = .new a) (hn:nid=l.length):bV P o ρT l r.t (l++[a]):=by
 subst hr;subst hn
 refine⟨uA ae,fun w0 I0 w I m ρ ah hx=>?_⟩
 obtain⟨nT,iV⟩:=ah.push
 have hs:=qO (nid:=l.length) hV nT (L:=l++[.dead]) (fun id an=>List.getElem?_append_left an) (fun x h=>(hx x h).mono iV) ae
 unfold bW at hs
 rw[he] at hs
 have fY:(l++[AO.dead]).set l.length a=l++[a]:=by simp
 dsimp only at hs
 rw[fY] at hs
 exact(hs (by simp)).mono fun v w' ⟨m',h1,h2,h3⟩=>⟨I,m',iV.trans h1,h2,h3⟩
end
def ed (P:Program) (o:Oper) (ρT:Operand→T) (l:List AO) (nid:Nat) (ρ':aO) (q:fx):Prop:=∃ t,RX ρ' q.t t∧match q.bn with
 | .none=>bV P o ρT l t l
 | .new a=>∃ a',cu ρ' a a'∧(nid=l.length→bV P o ρT l t (l++[a']))∧(l[nid]?=some .dead→bV P o ρT l t (l.set nid a'))
 | .aP kq=>∃ l',RL ρ' kq l'∧(nid=l.length→bV P o ρT l t l')
theorem dF {t:Ty} (h:fP t=true):isVal t:=by
 cases t<;>simp_all [fP,isVal]
def Cv (p:Ty×X) (d:D):Bool:=match p.1,p.2,d with
 | .int k,.int k' n,.int k'' m=>decide (k=k')&&decide (k'=k'')&&decide (n=m)
 | .bool,.bool b,.bool c=>b == c
 | .str,.str [],.str s=>s.data.toList.isEmpty
 | .list t,.nil u,.slice s []=>decide (t=u)&&Nat.beq s t.size
 | .map k v,.rM k' v',.map [] []=>decide (k=k')&&decide (v=v')
 | _,_,_=>false
def qw:List (Ty×X)→List D→Bool
 | [],[]=>true
 | x::xs,d::ds=>Cv x d&&qw xs ds
 | _,_=>false
def wO (t:Ty) (ds:List D):Bool:=match qx kK t with
 | some x=>match iS kK t x with
  | some ps=>qw ps ds
  | none=>false
 | none=>false
def uy (C:Cx) (t:Ty) (d:TD):Bool:=match t,d with
 | .int k,.eX k'=>decide (k=k')
 | .str,.string=>true
 | .bool,.aH=>true
 | .list u,.slice e=>decide (C.ty e=some u)&&fP u&&Nat.ble 1 u.size&&(C.E e).isSome
 | .map k v,.map kt vt=>decide (C.ty kt=some k)&&decide (C.ty vt=some v)&&fP k&&fP v&&(C.E kt).isSome&&(C.E vt).isSome
 | .st _,.struct fs=>fs.all fun f=>(C.E f.2).isSome
 | _,_=>false
def wI (C:Cx) (ty:TypeId) (t:Ty):Bool:=match C.E ty with
 | some i=>Nat.beq i.size t.size&&(i.desc.agg == cj t)&&fP t&&uy C t i.desc&&wO t i.zero
 | none=>false
structure ck (P:Program) (V:Env) (C:Cx):Prop where
 ok:dI P V
 E:V.E=C.E
 eq:V.lO=C.eqs
 sub:V.sub=false
 ty:∀ ty t,C.ty ty=some t→wI C ty t=true
theorem ajw {ρ:aO} {p:Ty×X} {d:D} (h:Cv p d=true):RX ρ (Cw p) (lU d):=by
 obtain⟨t,x⟩:=p
 unfold Cv at h
 split at h
 ·rename_i e1 e2;simp only at e1 e2;subst e1;subst e2
  simp only[Bool.and_eq_true,decide_eq_true_eq] at h
  obtain⟨⟨rfl,rfl⟩,rfl⟩:=h
  exact .d (.int _) _ _ (dF rfl) rfl
 ·rename_i e1 e2;simp only at e1 e2;subst e1;subst e2
  simp only[beq_iff_eq] at h;subst h
  exact .d .bool _ _ (dF rfl) rfl
 ·rename_i s e1 e2;simp only at e1 e2;subst e1;subst e2
  have:s=⟨⟨[]⟩⟩:=by
   cases s with | mk d=>cases d with | mk l=>simp at h;subst h;rfl
  subst this
  exact .d .str _ _ (dF rfl) rfl
 ·rename_i e1 e2;simp only at e1 e2;subst e1;subst e2
  simp only[Bool.and_eq_true,decide_eq_true_eq] at h
  obtain⟨rfl,h2⟩:=h
  have:=Nat.eq_of_beq_eq_true h2
  subst this
  simp only[Cw,if_true]
  exact .bC _
 ·rename_i k v k' v' e1 e2;simp only at e1 e2;subst e1;subst e2
  simp only[Bool.and_eq_true,decide_eq_true_eq] at h
  obtain⟨rfl,rfl⟩:=h
  exact .d (.map k v) (.rM k v) ([]:List (k.den×v.den)) (dF rfl) rfl
 cases h
theorem aju {ρ:aO} {p:Ty×X} {d e:D} (h:Cv p e=true) (hr:RC ρ p d):e=d:=by
 obtain⟨t,x⟩:=p
 obtain⟨_,v,hv,rfl⟩:=hr
 simp only at v hv ⊢
 unfold Cv at h
 split at h
 ·rename_i e1 e2;simp only at e1 e2;subst e1;subst e2
  simp only[Bool.and_eq_true,decide_eq_true_eq] at h
  obtain⟨⟨rfl,rfl⟩,rfl⟩:=h
  simp only[X.den,Option.some.injEq] at hv;cases hv;rfl
 ·rename_i e1 e2;simp only at e1 e2;subst e1;subst e2
  simp only[beq_iff_eq] at h;subst h
  simp only[X.den,Option.some.injEq] at hv;cases hv;rfl
 ·rename_i s e1 e2;simp only at e1 e2;subst e1;subst e2
  have:s=⟨⟨[]⟩⟩:=by
   cases s with | mk d=>cases d with | mk l=>simp at h;subst h;rfl
  subst this
  simp only[X.den,Option.some.injEq] at hv;cases hv;rfl
 ·rename_i e1 e2;simp only at e1 e2;subst e1;subst e2
  simp only[Bool.and_eq_true,decide_eq_true_eq] at h
  obtain⟨rfl,h2⟩:=h
  have:=Nat.eq_of_beq_eq_true h2
  subst this
  simp only[X.den,Option.some.injEq] at hv;cases hv;rfl
 ·rename_i k v k' v' e1 e2;simp only at e1 e2;subst e1;subst e2
  simp only[Bool.and_eq_true,decide_eq_true_eq] at h
  obtain⟨rfl,rfl⟩:=h
  simp only[X.den,Option.some.injEq] at hv;cases hv;rfl
 cases h
theorem X3 {ρ:aO}:∀ {ps:List (Ty×X)} {ds:List D},qw ps ds=true→F2 (RX ρ) (ps.map Cw) (ds.map lU)
 | [],[],_=> .nil
 | p::ps,d::ds,h=>by
  simp only[qw,Bool.and_eq_true] at h
  exact .cons (ajw h.1) (X3 h.2)
 | [],_::_,h=>by simp[qw] at h
 | _::_,[],h=>by simp[qw] at h
theorem X2 {ρ:aO}:∀ {ps:List (Ty×X)} {ds es:List D},qw ps es=true→F2 (RC ρ) ps ds→es=ds
 | [],[],[],_,_=>rfl
 | p::ps,d::ds,e::es,h,.cons h1 h2=>by
  simp only[qw,Bool.and_eq_true] at h
  rw[aju h.1 h1,X2 h.2 h2]
 | [],[],_::_,h,_=>by simp[qw] at h
 | _::_,_::_,[],h,_=>by simp[qw] at h
 | [],_::_,_,_,h=>by cases h
 | _::_,[],_,_,h=>by cases h
theorem XZ {ρ:aO} {t:Ty} {ds:List D} (h:wO t ds=true):∃ z,zeroCells t=some z∧F2 (RX ρ) z (ds.map lU):=by
 unfold wO at h
 split at h
 ·rename_i x hx
  split at h
  ·rename_i ps hp
   exact⟨ps.map Cw,by simp[zeroCells,hx,hp],X3 h⟩
  cases h
 cases h
section
variable {P:Program} {V:Env} {C:Cx}
theorem ck.info (h:ck P V C) {ty:TypeId} {t:Ty} (ht:C.ty ty=some t):∃ i,V.E ty=some i∧i.size=t.size∧i.desc.agg=cj t∧isVal t∧uy C t i.desc=true∧wO t i.zero=true:=by
 have k:=h.ty ty t ht
 unfold wI at k
 split at k
 ·rename_i i hi
  simp only[Bool.and_eq_true,beq_iff_eq] at k
  obtain⟨⟨⟨⟨k1,k2⟩,k3⟩,k4⟩,k5⟩:=k
  exact⟨i,by rw[h.E];exact hi,Nat.eq_of_beq_eq_true k1,k2,dF k3,k4,k5⟩
 cases k
end
end Go.Sy
namespace Go.Sy
open Go Go.aj
variable [aC] [cZ] [cP] [dC] [bh]
section
variable {P:Program} {V:Env} {C:Cx} {o:Oper} {ρX:Operand→TX} {ρT:Operand→T} {lX:List AX} {l:List AO} {n nid:Nat} {cs:List Callee} {ρ ρ':aO} {q:fx}
theorem ai5 {u:Ty} {x:X} (v:u.den) (hx:x.den ρ=some ⟨.box u,v⟩):RX ρ (kl (.d (.box u) x)) (unbox (.d (Ty.enc (.box u) v))):=by
 cases hb:fP u with
 | false=>
  have:kl (.d (.box u) x) = .undef:=by simp[kl,hb]
  rw[this];exact .undef _
 | true=>
  have hu:=dF hb
  have key:∀ e:X,e.den ρ=some ⟨u,v⟩→RX ρ (.bw u e 0) (unbox (.d (Ty.enc (.box u) v))):=fun e he=>by
   have:unbox (.d (Ty.enc (.box u) v)) = .bw (u.enc v).cells.length [u.enc v] 0 (0+0):=rfl
   rw[this,lx hu]
   exact .bw u e 0 0 u.size [u.enc v] 0 v hu he (by simp) (by simp only[fK,List.getElem?_cons_zero,Option.getD_some,List.drop_zero];rw[List.take_of_length_le (by rw[lx hu];exact Nat.le_refl _)]) (by omega) (fun _ _=>rfl)
  by_cases cK:∃ e,x = .box e
  ·obtain⟨e,rfl⟩:=cK
   have:kl (.d (.box u) (.box e)) = .bw u e 0:=by simp[kl,hb]
   rw[this]
   refine key e ?_
   simp only[X.den] at hx
   cases he:X.den ρ e with
   | none=>simp[he] at hx
   | some w=>simp only[he,Option.some.injEq] at hx;cases hx;rfl
  have:kl (.d (.box u) x) = .bw u (.u1 .unbox x) 0:=by
   cases x<;>simp[kl,hb]
   exact absurd ⟨_,rfl⟩ cK
  rw[this]
  exact key _ (by simp only[X.den,hx];rfl)
theorem NC {x:TX} {t:T} (h:RX ρ x t):RX ρ (kl x) (unbox t):=by
 cases h with
 | d t x v hv hx=>
  cases t with
  | box u=>exact ai5 (u:=u) v hx
  | _=>exact .d _ x v hv hx
 | fp=>exact .fp
 | kD cs ds h1 h2=>exact .kD cs ds h1 h2
 | jI cs ds h1 h2=>exact .jI cs ds h1 h2
 | undef t=>exact .undef _
 | bw t e b off size els k v h1 h2 h3 h4 h5 h6=>exact .bw t e b off size els k v h1 h2 h3 h4 h5 h6
 | bf id k off kk n h1=>exact .bf id k off kk n h1
 | bD id t x xs h1=>exact .bD id t x xs h1
 | agg cs ts h1 h2=>exact .agg cs ts h1 h2
 | aI cs ts h1 h2=>exact .aI cs ts h1 h2
 | lu f cs ts h1 h2=>exact .lu f cs ts h1 h2
 | aL f cs ts h1 h2=>exact .aL f cs ts h1 h2
 | gone=>exact .gone
 | _=>constructor
theorem L1 {t:Ty} (hv:isVal t) (w:t.den):fR (cj t) (t.enc w).cells=t.enc w:=by
 cases hs:cj t with
 | true=>exact(s6 hs w).symm
 | false=>rw[(nD hs hv.1 hv.2 w).1];rfl
theorem acA {t:Ty} (hv:isVal t) (w:t.den):xM (t.enc w)=cj t:=by
 cases hs:cj t with
 | true=>rw[s6 hs w];rfl
 | false=>
  have:=(nD hs hv.1 hv.2 w).2
  cases h:t.enc w<;>simp_all [xM,D.one]
theorem Ux {u t:Ty} {e:X} {b off size k:Nat} {els:List D} {v:u.den} {x:TX} {i:TI} (hu:isVal u) (ht:isVal t) (he:e.den ρ=some ⟨u,v⟩) (hk:k < els.length)
  (h4:((fK els k).cells.drop b).take u.size=(u.enc v).cells) (h5:b+u.size≤size) (h6:b=0→size=u.size→fK els k=u.enc v) (hp:wj u e off t=some x) (ij:i.size=t.size) (gy:i.desc.agg=cj t) :
  ∃ r,kX i size els k (b+off)=r∧r.ob∧r.bn = .none∧RX ρ x r.t:=by
 obtain⟨y,w,rfl,hy,hc,hle,heq⟩:=VH hu ht he hp
 unfold kX
 by_cases hh:size=i.size∧b+off=0
 ·rw[if_pos hh]
  have hb:b=0:=by omega
  have ho:off=0:=by omega
  have aK:t.size=u.size:=by omega
  have eV:=h6 hb (by omega)
  refine⟨_,rfl,⟨hk,?_⟩,rfl,?_⟩
  ·rw[eV,←heq ho aK,acA ht,gy]
  rw[eV,←heq ho aK];exact .d t y w ht hy
 rw[if_neg hh]
 refine⟨_,rfl,⟨hk,by omega⟩,rfl,?_⟩
 have:((fK els k).cells.drop (b+off)).take i.size=(t.enc w).cells:=by
  rw[ij,hc,←h4,List.drop_take,List.take_take,List.drop_drop]
  congr 1;omega
 rw[this,gy,L1 ht]
 exact .d t y w ht hy
theorem y2 {α:Type} {l:List α} {i:Int} {e:α} (h:av l i=some e):0≤i∧i.toNat < l.length∧l[i.toNat]?=some e:=by
 unfold av at h
 split at h
 ·rename_i h0
  exact⟨h0,(List.getElem?_eq_some_iff.1 h).1,h⟩
 cases h
theorem IM {t:Ty} {xs:List t.den} {k:Nat} {e:t.den} (h:xs[k]?=some e):fK (xs.map t.enc) k=t.enc e:=by
 simp[fK,h]
theorem aeI (hC:ck P V C) {ty:TypeId} {a:Operand} (ho:o.op = .load ty a) (hl:RL ρ lX l) (ha:RX ρ (ρX a) (ρT a)) (h:LH C ty lX n (kl (ρX a))=some q) (hi:cU cs n ρ q.ins ρ') (hb:Ext ρ ρ'):ed P o ρT l nid ρ' q:=by
 have he:evalOp V ρT l nid o=iu V.E ty l (unbox (ρT a)):=by simp only[evalOp,ho]
 have kM:=NC ha
 unfold LH at h
 cases dZ:C.ty ty with
 | none=>
  simp only[dZ] at h
  generalize kl (ρX a)=A at h kM
  generalize unbox (ρT a)=U at he kM
  split at h
  ·rename_i id off i hE
   cases kM
   split at h
   ·rename_i qp fc an
    obtain⟨ao,cH,dB⟩:=F2.left hl an
    cases dB with
    | var _ _ ts hx=>
     cases jS:(Nat.beq i.size 1 && !i.desc.agg) with
     | false=>rw[jS] at h;cases h
     | true=>
      rw[jS] at h
      simp only[cond_true,Option.map_eq_some_iff] at h
      obtain⟨v,hv,rfl⟩:=h
      cases hi
      rw[Bool.and_eq_true,Bool.not_eq_true'] at jS
      have h1:=Nat.eq_of_beq_eq_true jS.1
      obtain⟨u,hu,Aq⟩:=hx.left hv
      have aN:=(List.getElem?_eq_some_iff.1 hu).1
      have e2:(ts.drop off).take 1=[u]:=by
       rw[List.take_one,List.head?_drop,hu];rfl
      simp only[iu,hC.E,hE,cH,h1,jS.2] at he
      rw[if_pos (by omega),e2] at he
      exact⟨u,Aq,bV.none hC.ok he trivial rfl⟩
   cases h
  cases h
 | some t=>
  obtain⟨i,gk,ij,gy,hv,_⟩:=hC.info dZ
  simp only[dZ] at h
  generalize kl (ρX a)=A at h kM
  generalize unbox (ρT a)=U at he kM
  cases kM with
  | ptr id off=>
   simp only at h
   cases an:lX[id]? with
   | none=>simp[an] at h
   | some ax=>
    obtain⟨ao,cH,dB⟩:=F2.left hl an
    simp only[an] at h
    cases dB with
    | var qp xs ts hx=>
     simp only at h
     cases hle:Nat.ble (off+t.size) xs.length with
     | false=>simp[hle] at h
     | true=>
      simp only[hle,cond_true,Option.map_eq_some_iff] at h
      obtain⟨v,bQ,rfl⟩:=h
      have hle:=Nat.le_of_ble_eq_true hle
      cases hi
      have hm:=Fj hv ((hx.drop off).take t.size) bQ
      simp only[iu,gk,cH] at he
      rw[if_pos (by rw[ij,←hx.len];exact hle),ij,gy] at he
      exact⟨_,hm,bV.none hC.ok he trivial rfl⟩
    | _=>simp at h
  | bw u e b off size els k v h1 h2 h3 h4 h5 h6=>
   simp only[Option.map_eq_some_iff] at h
   obtain⟨x,hx,rfl⟩:=h
   cases hi
   simp only[iu,gk] at he
   obtain⟨r,k1,k2,k3,k4⟩:=Ux h1 hv h2 h3 h4 h5 h6 hx ij gy
   exact⟨_,k4,bV.none hC.ok (he.trans k1) k2 k3⟩
  | bf id k off kk m h1=>
   simp only at h
   cases an:lX[id]? with
   | none=>simp[an] at h
   | some ax=>
    obtain⟨ao,cH,dB⟩:=F2.left hl an
    simp only[an] at h
    have key:∀ (u:Ty) (y:X) (zs:List u.den),isVal u→y.den ρ=some ⟨.list u,zs⟩→(wj u (.var n) off t).map (fun v=>(⟨[.get y k],v,.none⟩:fx))=some q→iu V.E ty l (.bf id m.toNat off)=kX i u.size (zs.map u.enc) m.toNat off→ed P o ρT l nid ρ' q:=by
     intro u y zs hu hy hq hL
     simp only[Option.map_eq_some_iff] at hq
     obtain⟨x,hx,rfl⟩:=hq
     cases hi with
     | get _ _ _ _ _ _ t2 l2 EY i2 e2 g1 g2 g3 g4=>
      cases g4
      rw[hy] at g1;injection g1 with g1;cases g1
      rw[h1] at g2;injection g2 with g2;cases g2
      obtain⟨q1,q2,q3⟩:=y2 g3
      have eV:=IM q3
      obtain⟨r,k1,k2,k3,k4⟩:=Ux (ρ:=(n,⟨u,e2⟩)::ρ) (b:=0) (off:=off) (size:=u.size) (k:=m.toNat) (els:=zs.map u.enc) hu hv (show(X.var n).den _=_ from ku n ⟨u,e2⟩ ρ) (by simpa using q2) (by rw[eV,List.drop_zero,List.take_of_length_le (by rw[lx hu];exact Nat.le_refl _)]) (by omega) (fun _ _=>eV) hx ij gy
      rw[Nat.zero_add] at k1
      exact⟨_,k4,bV.none hC.ok (he.trans (hL.trans k1)) k2 k3⟩
    cases dB with
    | row e u y zs h0 hy=>exact key u y zs h0 hy h (by simp only[iu,gk,cH])
    | bx e u y zs h0 hy=>exact key u y zs h0 hy h (by simp only[iu,gk,cH])
    | _=>simp at h
  | _=>simp at h
theorem WX {xs ys:List TX} {ts us:List T} {off:Nat} (h:F2 (RX ρ) xs ts) (k:F2 (RX ρ) ys us):F2 (RX ρ) (G5 xs off ys) (setAt ts off us):=by
 unfold G5 setAt
 rw[k.len]
 exact((h.take off).app k).app (h.drop _)
theorem ahQ {xs ys:List (Ty×X)} {ts us:List D} {off:Nat} (h:F2 (RC ρ) xs ts) (k:F2 (RC ρ) ys us):F2 (RC ρ) (xs.take off++ys++xs.drop (off+ys.length)) (setAt ts off us):=by
 unfold setAt
 rw[k.len]
 exact((h.take off).app k).app (h.drop _)
theorem ah2 {u:Ty} (h:1 < u.size):cj u=true:=by
 cases u<;>simp_all [Ty.size,cj]
theorem Np (
         hC:ck P V C) {ty:TypeId} {a x:Operand} (ho:o.op = .store ty a x) (hl:RL ρ lX l) (ha:RX ρ (ρX a) (ρT a)) (hx:RX ρ (ρX x) (ρT x)) (h:No C ty lX n (ρX a) (ρX x)=some q) (hi:cU cs n ρ q.ins ρ') (hb:Ext ρ ρ'):ed P o ρT l nid ρ' q:=by
 have gM:=hb
 unfold No at h
 cases dZ:C.ty ty with
 | none=>simp[dZ] at h
 | some t=>
  obtain⟨i,gk,ij,gy,hv,_⟩:=hC.info dZ
  cases hc:uq (ρX x) with
  | none=>simp[dZ,hc] at h
  | some vs=>
   obtain⟨aR,jr⟩:=Dd hx hc
   cases hg:(Nat.beq vs.length t.size&&Nat.ble 1 vs.length) with
   | false=>simp[dZ,hc,hg] at h
   | true=>
    simp only[dZ,hc,hg,cond_true] at h
    simp only[Bool.and_eq_true] at hg
    have g1:=Nat.eq_of_beq_eq_true hg.1;have g2:=Nat.le_of_ble_eq_true hg.2
    have aK:bq V.E ty=t.size:=by simp[bq,gk,ij]
    have he:evalOp V ρT l nid o=tU l (ρT a) (ρT x):=by
     simp only[evalOp,ho]
     rw[if_pos ⟨by rw[aK,←aR.len,g1],by rw[aK];omega⟩]
    generalize ρX a=A at h ha
    generalize ρT a=U at he ha
    cases ha with
    | ptr id off=>
     simp only at h
     cases an:lX[id]? with
     | none=>simp[an] at h
     | some ax=>
      obtain⟨ao,cH,dB⟩:=F2.left hl an
      simp only[an] at h
      cases dB with
      | var qp xs ts dw=>
       simp only at h
       cases hle:Nat.ble (off+vs.length) xs.length with
       | false=>simp[hle] at h
       | true=>
        simp only[hle,cond_true,Option.some.injEq] at h
        subst h
        have hle:=Nat.le_of_ble_eq_true hle
        cases hi
        simp only[tU,cH] at he
        rw[if_pos (by rw[←aR.len,←dw.len];exact hle)] at he
        exact⟨_,.undef _,_,F2.set hl (.var qp _ _ (WX dw aR)) id,fun hn=>bV.aP hC.ok he jr rfl hn⟩
      | _=>simp at h
    | bf id k off kk m h1=>
     cases an:lX[id]? with
     | none=>simp[an] at h
     | some ax=>
      obtain⟨ao,cH,dB⟩:=F2.left hl an
      simp only[an] at h
      cases dB with
      | row e u y zs h0 hy=>
       cases S6:ρX x with
       | d tv y0=>
        rw[S6] at hx h
        obtain⟨xH,w0,SZ,RV⟩:=l9 hx
        rw[RV] at he
        simp only at h
        by_cases hw:off=0∧tv=u
        ·rw[if_pos hw] at h
         obtain⟨rfl,e1⟩:=hw
         subst e1
         simp only[Option.some.injEq] at h
         subst h
         cases hi with
         | get _ _ _ _ _ _ t2 l2 EY i2 e2 q1 q2 q3 q4=>
          cases q4
          rw[hy] at q1;injection q1 with q1;cases q1
          rw[h1] at q2;injection q2 with q2;cases q2
          obtain⟨p1,p2,p3⟩:=y2 q3
          simp only[tU,cH] at he
          rw[if_pos (lx xH w0)] at he
          refine⟨_,.undef _,_,F2.set (RL.mono gM hl) (a:= .row false e tv (.u3 .set y k y0)) (b:= .row e tv.size ((zs.set m.toNat w0).map tv.enc)) (.row e tv _ (zs.set m.toNat w0) h0 ?_) id,fun hn=>bV.aP hC.ok he ⟨?_,?_,by simpa using p2⟩ (by rw[List.map_set]) hn⟩
          ·simp only[X.den,X.gW gM hy,X.gW gM h1,X.gW gM SZ,yS,l7]
          ·exact lx xH w0
          rw[List.all_eq_true];exact fun d hd=>xl xH w0 d hd
        rw[if_neg hw] at h
        cases kO:iS kK u (.var n) with
        | none=>simp[kO] at h
        | some c1=>
         cases kn:iS kK tv y0 with
         | none=>simp[kO,kn] at h
         | some c2=>
          cases hle:(Nat.ble (off+c2.length) c1.length && !(Nat.beq off 0&&Nat.beq c2.length c1.length)) with
          | false=>simp only[kO,kn,hle,cond_false,reduceCtorEq] at h
          | true=>
           simp only[kO,kn,hle,cond_true,Option.map_eq_some_iff] at h
           obtain⟨y',vn,rfl⟩:=h
           rw[Bool.and_eq_true] at hle
           have xB:=hle.2
           have hle:=Nat.le_of_ble_eq_true hle.1
           cases hi with
           | get _ _ _ _ _ _ t2 l2 EY i2 e2 q1 q2 q3 q4=>
            cases q4
            rw[hy] at q1;injection q1 with q1;cases q1
            rw[h1] at q2;injection q2 with q2;cases q2
            obtain⟨p1,p2,p3⟩:=y2 q3
            have hE:(X.var n).den ((n,⟨u,e2⟩)::ρ)=some ⟨u,e2⟩:=ku n ⟨u,e2⟩ ρ
            have r1:=ur _ h0 hE kO
            have r2:=ur _ xH (X.gW gM SZ) kn
            have jW:=r1.len;have dQ:=r2.len
            rw[lx h0] at jW
            obtain⟨w,j0,nT⟩:=A6 h0 vn (ahQ r1 r2 (off:=off))
            have bO:0 < c2.length:=by
             have ee:=aR.len
             rw[RV,Y9] at ee
             simp only[List.length_map] at ee
             omega
            have bc:off≠0∨c2.length≠c1.length:=by
             apply Classical.byContradiction;intro hc
             have e1:off=0:=Classical.byContradiction fun h=>hc (.inl h)
             have e2:c2.length=c1.length:=Classical.byContradiction fun h=>hc (.inr h)
             rw[e1,e2] at xB;simp at xB
            have c7:cj u=true:=ah2 (by omega)
            have eV:=IM p3
            rw[s6 c7 e2] at eV
            cases off with
            | zero=>
             simp only[tU,cH,eV] at he
             rw[if_neg (by rw[←dQ];omega)] at he
             refine⟨_,.undef _,_,F2.set (RL.mono gM hl) (a:= .row false e u (.u3 .set y k y')) (b:= .row e u.size ((zs.set m.toNat w).map u.enc)) (.row e u _ (zs.set m.toNat w) h0 ?_) id,fun hn=>bV.aP hC.ok he ⟨?_,?_,by simpa using p2⟩ ?_ hn⟩
             ·simp only[X.den,X.gW gM hy,X.gW gM h1,j0,yS,l7]
             ·rw[←dQ];omega
             ·rw[List.all_eq_true];exact fun d hd=>xl xH w0 d hd
             rw[List.map_set,s6 c7 w,←nT]
            | succ off=>
             simp only[tU,cH,eV] at he
             refine⟨_,.undef _,_,F2.set (RL.mono gM hl) (a:= .row false e u (.u3 .set y k y')) (b:= .row e u.size ((zs.set m.toNat w).map u.enc)) (.row e u _ (zs.set m.toNat w) h0 ?_) id,fun hn=>bV.aP hC.ok he ⟨?_,?_,by simpa using p2⟩ ?_ hn⟩
             ·simp only[X.den,X.gW gM hy,X.gW gM h1,j0,yS,l7]
             ·rw[←dQ];omega
             ·rw[List.all_eq_true];exact fun d hd=>xl xH w0 d hd
             rw[List.map_set,s6 c7 w,←nT]
       | _=>rw[S6] at h;simp at h
      | bx e u y zs h0 hy=>simp at h
      | _=>simp at h
    | _=>simp at h
end
end Go.Sy
namespace Go.Sy
open Go Go.aj
variable [aC] [cZ] [cP] [dC] [bh]
section
variable {P:Program} {V:Env} {C:Cx} {o:Oper} {ρX:Operand→TX} {ρT:Operand→T} {lX:List AX} {l:List AO} {n nid:Nat} {cs:List Callee} {ρ ρ':aO} {q:fx}
theorem ed.val (hV:dI P V) {x:TX} {r:R} (he:evalOp V ρT l nid o=r) (ae:r.ob) (hf:r.bn = .none) (hx:RX ρ' x r.t) {is:List Ins}:ed P o ρT l nid ρ' ⟨is,x,.none⟩:=⟨_,hx,bV.none hV he ae hf⟩
theorem Ho (hC:ck P V C) {x:TX} {t:T} (h:RX ρ x t) (ty:TypeId):RX ρ (wJ C.E ty x) (typed V.E ty t):=by
 rw[hC.E]
 cases h with
 | bC s=>exact .bC _
 | undef t=>exact .undef _
 | d t x v h1 h2=>
  have:typed C.E ty (.d (t.enc v)) = .d (t.enc v):=rfl
  rw[this];exact .d t x v h1 h2
 | gone=>exact .gone
 | fp=>exact .fp
 | ptr=>exact .ptr _ _
 | bw t e b off size els k v h1 h2 h3 h4 h5 h6=>exact .bw t e b off size els k v h1 h2 h3 h4 h5 h6
 | row=>exact .row _
 | bf id k off kk n h1=>exact .bf id k off kk n h1
 | map=>exact .map _
 | bd=>exact .bd _
 | bL=>exact .bL _ _
 | bD id t x xs h1=>exact .bD id t x xs h1
 | agg cs ts h1 h2=>exact .agg cs ts h1 h2
 | kD cs ts h1 h2=>exact .kD cs ts h1 h2
 | aI cs ts h1 h2=>exact .aI cs ts h1 h2
 | jI cs ts h1 h2=>exact .jI cs ts h1 h2
 | lu f cs ts h1 h2=>exact .lu f cs ts h1 h2
 | aL f cs ts h1 h2=>exact .aL f cs ts h1 h2
theorem kZ {t:TX} (h:gp t=some q):q=⟨[],t,.none⟩:=by
 simp only[gp,Option.some.injEq] at h;exact h.symm
theorem UT (hC:ck P V C) {x:Operand} (ho:o.op = .move x∨o.op = .assign x) (hx:RX ρ (ρX x) (ρT x)) (h:gp (wJ C.E o.type (ρX x))=some q) (hi:cU cs n ρ q.ins ρ'):ed P o ρT l nid ρ' q:=by
 have:=kZ h;subst this
 cases hi
 have he:evalOp V ρT l nid o = .ok (typed V.E o.type (ρT x)):=by rcases ho with ho | ho<;>simp only[evalOp,ho]
 exact .val hC.ok he trivial rfl (Ho hC hx _)
theorem kG {x:X} {u:T} (h:RX ρ (.d .bool x) u):∃ b:Bool,x.den ρ=some ⟨.bool,b⟩∧u = .d (.bool b):=by
 obtain⟨_,v,h1,h2⟩:=l9 h
 exact⟨v,h1,h2⟩
theorem lN {k:IntKind} {x:X} {u:T} (h:RX ρ (.d (.int k) x) u):∃ n:Int,x.den ρ=some ⟨.int k,n⟩∧u = .d (.int k n):=by
 obtain⟨_,v,h1,h2⟩:=l9 h
 exact⟨v,h1,h2⟩
theorem Nq {x:X} {u:T} (h:RX ρ (.d .str x) u):∃ s:ByteArray,x.den ρ=some ⟨.str,s⟩∧u = .d (.str s):=by
 obtain⟨_,v,h1,h2⟩:=l9 h
 exact⟨v,h1,h2⟩
theorem LC {t:Ty} {x:X} {u:T} (h:RX ρ (.d (.list t) x) u):∃ xs:List t.den,x.den ρ=some ⟨.list t,xs⟩∧u = .d (.slice t.size (xs.map t.enc)):=by
 obtain⟨_,v,h1,h2⟩:=l9 h
 exact⟨v,h1,h2⟩
theorem aeY {k v:Ty} {x:X} {u:T} (h:RX ρ (.d (.map k v) x) u):∃ m:List (k.den×v.den),x.den ρ=some ⟨.map k v,m⟩∧u = .d (.map (m.map fun p=>k.enc p.1) (m.map fun p=>v.enc p.2)):=by
 obtain⟨_,m,h1,h2⟩:=l9 h
 exact⟨m,h1,h2⟩
theorem gR {x:X} {b:Bool} (h:x.den ρ=some ⟨.bool,b⟩):RX ρ (.d .bool x) (.d (.bool b)):= .d .bool x b (dF rfl) h
theorem lR {k:IntKind} {x:X} {n:Int} (h:x.den ρ=some ⟨.int k,n⟩):RX ρ (.d (.int k) x) (.d (.int k n)):= .d (.int k) x n (dF rfl) h
theorem ahG {x:X} {s:ByteArray} (h:x.den ρ=some ⟨.str,s⟩):RX ρ (.d .str x) (.d (.str s)):= .d .str x s (dF rfl) h
theorem wu {t:Ty} {x:X} {xs:List t.den} (h:x.den ρ=some ⟨.list t,xs⟩):RX ρ (.d (.list t) x) (.d (.slice t.size (xs.map t.enc))):= .d (.list t) x xs (dF rfl) h
theorem Jv {u:T} (h:RX ρ .gone u):u=aj.gone:=by cases h;rfl
theorem acB {t:TX} {b:Bool} (h:isLit t=some b):t = .d .bool (.bool b):=by
 unfold isLit at h
 split at h
 ·simp only[Option.some.injEq] at h;subst h;rfl
 cases h
theorem MR (hC:ck P V C) {c a b:Operand} (ho:o.op = .pick c a b) (hX:∀ x∈o.op.operands,RX ρ (ρX x) (ρT x)) (h:dK C ρX lX n nid o=some q) (hi:cU cs n ρ q.ins ρ'):ed P o ρT l nid ρ' q:=by
 have hc:=hX c (by simp[ho,Op.operands]);have ha:=hX a (by simp[ho,Op.operands]);have hb:=hX b (by simp[ho,Op.operands])
 have he:evalOp V ρT l nid o=rU (ρT c) (ρT a) (ρT b):=by simp only[evalOp,ho]
 simp only[dK,ho] at h
 have key:∀ (cv:Bool) (x:X),isLit (ρX c)=some cv→(if cv then ρX a else ρX b) = .d .bool x→gp (.d .bool x)=some q→((∃ y,(if cv then ρX b else ρX a) = .d .bool y)∨(if cv then ρX b else ρX a) = .gone)→ed P o ρT l nid ρ' q:=by
  intro cv x hl hx hq kR
  have:=kZ hq;subst this
  cases hi
  rw[acB hl] at hc
  obtain⟨c',kO,kn⟩:=kG hc
  simp only[X.den,Option.some.injEq] at kO
  have:c'=cv:=by cases kO;rfl
  subst this
  cases c' with
  | true=>
   simp only[if_true] at hx kR
   rw[hx] at ha
   obtain⟨v,bX,gQ⟩:=kG ha
   rcases kR with ⟨y,hy⟩ | hy<;>rw[hy] at hb
   ·obtain⟨u,eW,oK⟩:=kG hb
    rw[kn,gQ,oK] at he
    exact .val hC.ok he ⟨trivial,trivial⟩ rfl (gR bX)
   rw[kn,gQ,Jv hb] at he
   exact .val hC.ok he ⟨rfl,trivial⟩ rfl (gR bX)
  | false=>
   simp only[Bool.false_eq_true,if_false] at hx kR
   rw[hx] at hb
   obtain⟨v,bX,gQ⟩:=kG hb
   rcases kR with ⟨y,hy⟩ | hy<;>rw[hy] at ha
   ·obtain⟨u,eW,oK⟩:=kG ha
    rw[kn,gQ,oK] at he
    exact .val hC.ok he ⟨trivial,trivial⟩ rfl (gR bX)
   rw[kn,gQ,Jv ha] at he
   exact .val hC.ok he ⟨rfl,trivial⟩ rfl (gR bX)
 split at h
 ·rename_i hl
  split at h
  ·rename_i x y e1 e2
   exact key true x hl (by simpa using e1) h (.inl ⟨y,by simpa using e2⟩)
  ·rename_i x e1 e2
   exact key true x hl (by simpa using e1) h (.inr (by simpa using e2))
  cases h
 ·rename_i hl
  split at h
  ·rename_i x y e1 e2
   exact key false x hl (by simpa using e1) h (.inl ⟨y,by simpa using e2⟩)
  ·rename_i x e1 e2
   exact key false x hl (by simpa using e1) h (.inr (by simpa using e2))
  cases h
 cases h
theorem YH (hC:ck P V C) {e:TypeId} {x:Operand} (ho:o.op = .box e x) (hx:RX ρ (ρX x) (ρT x)) (h:dK C ρX lX n nid o=some q) (hi:cU cs n ρ q.ins ρ'):ed P o ρT l nid ρ' q:=by
 have he:evalOp V ρT l nid o=⟨.ptr nid 0,.new (.var e (bu (ρT x))),((bu (ρT x)).all T.iM)=true⟩:=by simp only[evalOp,ho]
 simp only[dK,ho,Option.map_eq_some_iff] at h
 obtain⟨ds,hd,rfl⟩:=h
 cases hi
 obtain⟨h1,h2⟩:=Dd hx hd
 exact⟨_,.ptr nid 0,_,.var e _ _ h1,fun hn=>bV.new hC.ok he h2 rfl hn,fun hn=>bV.set hC.ok he h2 rfl hn⟩
theorem Yf (hC:ck P V C) {e:TypeId} (ho:o.op = .alloc e) (h:dK C ρX lX n nid o=some q) (hi:cU cs n ρ q.ins ρ'):ed P o ρT l nid ρ' q:=by
 simp only[dK,ho] at h
 cases dZ:C.ty e with
 | none=>simp[dZ] at h
 | some t=>
  obtain⟨i,gk,ij,gy,hv,_,oM⟩:=hC.info dZ
  obtain⟨z,AD,kU⟩:=XZ (ρ:=ρ) oM
  simp only[dZ,AD,Option.map_some,Option.some.injEq] at h
  subst h
  cases hi
  have he:evalOp V ρT l nid o=⟨.ptr nid 0,.new (.var e (i.zero.map lU)),True⟩:=by simp only[evalOp,ho,gk]
  exact⟨_,.ptr nid 0,_,.var e _ _ kU,fun hn=>bV.new hC.ok he trivial rfl hn,fun hn=>bV.set hC.ok he trivial rfl hn⟩
theorem aaw (hC:ck P V C) {s:TypeId} {x:Operand} {f:Nat} (ho:o.op = .fieldAddr s x f) (hx:RX ρ (ρX x) (ρT x)) (h:I4 C s f (kl (ρX x))=some q) (hi:cU cs n ρ q.ins ρ'):ed P o ρT l nid ρ' q:=by
 have he:evalOp V ρT l nid o=nF V.E s f (unbox (ρT x)):=by simp only[evalOp,ho]
 have ha:=NC hx
 unfold I4 at h
 rw[hC.E] at he
 generalize kl (ρX x)=A at h ha
 generalize unbox (ρT x)=U at he ha
 split at h
 ·rename_i s1 s2 s3 fs hE
  cases hf:fs[f]? with
  | none=>simp[hf] at h
  | some p=>
   simp only[hf] at h
   cases hp:Nat.ble 1 (bq C.E p.2) with
   | false=>simp[hp] at h
   | true=>
    simp only[hp,cond_true] at h
    have jY:0 < bq C.E p.2:=Nat.le_of_ble_eq_true hp
    cases ha with
    | ptr id off=>
     have:=kZ h;subst this;cases hi
     simp only[nF,hE,hf,if_pos jY] at he
     exact .val hC.ok he trivial rfl (.ptr _ _)
    | bw u e b off size els k v h1 h2 h3 h4 h5 h6=>
     have:=kZ h;subst this;cases hi
     simp only[nF,hE,hf,if_pos jY] at he
     rw[Nat.add_assoc] at he
     exact .val hC.ok he trivial rfl (.bw u e b (off+p.1) size els k v h1 h2 h3 h4 h5 h6)
    | bf id k off kk m h1=>
     have:=kZ h;subst this;cases hi
     simp only[nF,hE,hf,if_pos jY] at he
     exact .val hC.ok he trivial rfl (.bf id k (off+p.1) kk m h1)
    | _=>simp at h
 cases h
theorem aay (hC:ck P V C) {s:TypeId} {x:Operand} {f:Nat} (ho:o.op = .field s x f) (hx:RX ρ (ρX x) (ρT x)) (h:I5 C s f (ρX x)=some q) (hi:cU cs n ρ q.ins ρ'):ed P o ρT l nid ρ' q:=by
 have he:evalOp V ρT l nid o=pD V.E s f (ρT x):=by simp only[evalOp,ho]
 unfold I5 at h
 split at h
 ·rename_i s1 s2 s3 fs u e hE hA
  rw[hA] at hx
  obtain⟨hu,v,bX,gQ⟩:=l9 hx
  rw[gQ] at he
  cases hf:fs[f]? with
  | none=>simp[hf] at h
  | some p=>
   cases dZ:C.ty p.2 with
   | none=>simp[hf,dZ] at h
   | some t=>
    obtain⟨i,gk,ij,gy,hv,_⟩:=hC.info dZ
    simp only[hf,dZ] at h
    cases hg:(cj u&&Nat.ble 1 t.size) with
    | false=>simp[hg] at h
    | true=>
     simp only[hg,cond_true,Option.map_eq_some_iff] at h
     obtain⟨w,hw,rfl⟩:=h
     cases hi
     simp only[Bool.and_eq_true] at hg
     have g2:=Nat.le_of_ble_eq_true hg.2
     obtain⟨y,b,rfl,hy,hc,hle,_⟩:=VH hu hv bX hw
     rw[s6 hg.1 v] at he
     rw[hC.E] at he
     have abv:C.E p.2=some i:=by rw[←hC.E];exact gk
     simp only[pD,hE,hf,abv] at he
     rw[if_pos ⟨by rw[lx hu,ij];exact hle,by omega⟩,ij,←hc,gy,L1 hv] at he
     exact .val hC.ok he trivial rfl (.d t y b hv hy)
 cases h
end
end Go.Sy
namespace Go.Sy
open Go Go.aj
variable [aC] [cZ] [cP] [dC] [bh]
section
variable {P:Program} {V:Env} {C:Cx} {o:Oper} {ρT:Operand→T} {l:List AO} {nid:Nat}
theorem bV.aiG (hE:cp P V.E) {t e:TypeId} {sz bt:Nat} {z:List D} {ie:TI} {x i:Operand} {id n j:Nat} (ho:o.op = .indexAddr t x i) (hs:V.E t=some ⟨sz,bt,z,.slice e⟩) (hi:V.E e=some ie) (hx:ρT x = .bL id n) (hj:ρT i = .d (.int .i64 j)) (JY:j < n):bV P o ρT l (.ptr id (j*ie.size)) l:=by
 refine⟨by simp[ho],fun w0 I0 w I m ρ ah hr=>?_⟩
 have h1:=hr x (by simp[ho,Op.operands])
 have h2:=hr i (by simp[ho,Op.operands])
 rw[hx] at h1;rw[hj] at h2
 have Ax:ρ i = .int .i64 j:=by
  have h3:=cy h2
  generalize ρ i=u at h3
  cases h3;rfl
 generalize hv:ρ x=v at h1
 cases h1 with
 | bL _ b _ c q1 q2 q3 q4=>
  have hu:=mG hE hs
  have bP:(Instr.indexAt t (ρ x) (ρ i)).run P w = .ok (.pointer (some ⟨b,j*ie.size,Option.none⟩)) w:=by
   rw[hv,Ax]
   have:¬ n≤j:=by omega
   simp[Instr.indexAt,run_underlying hu,asIntOf,this,mz hE hi,Addr.add_mid]
  have hex:(execOp ρ o).run P w = .ok (.value (.pointer (some ⟨b,j*ie.size,Option.none⟩))) w:=by unfold execOp;simp[ho,bP]
  rw[hex]
  simp only[cz]
  exact⟨I,m,.refl ..,ah,.ptr id b _ q1 q2⟩
theorem WE (hE:cp P V.E) {w:World} {t e:TypeId} {sz bt:Nat} {z:List D} {ie:TI} (hs:V.E t=some ⟨sz,bt,z,.slice e⟩) (hi:V.E e=some ie) (bO:0 < ie.size) (jX:ie.size≤16777216) {v:Value} (hv:v.cells.size=ie.size) :
  (Instr.buildSlice t 1 #[(0,v)]).run P w = .ok (.slice (some ⟨w.heap.size,0,Option.none⟩) 1 1) (w.alloc (.cells v.cells e)):=by
 have hu:=mG hE hs
 obtain⟨x,zv,k1,k2,k3,k4,k5,k6,k7,k8⟩:=ga (hE e ie hi)
 obtain⟨r,hf,eR,Kt⟩:=Great.fill_dense bO [v] 0 ((Array.range (1*ie.size)).map (zv.cells[· % zv.cells.size]!)) (by simpa using hv) (by simp)
 have bP:=run_buildSlice (P:=P) w t e 1 #[(0,v)] r x zv hu k1 k4 (by rw[k2];omega) (by rw[k2];omega) (by rw[k2];simpa using hf)
 have hr:r=v.cells:=by
  apply Array.ext_getElem?
  intro k
  rw[Kt k]
  by_cases hk:k < ie.size
  ·rw[if_pos (by simp;exact hk),Nat.div_eq_of_lt hk,Nat.mod_eq_of_lt hk];simp
  have hz:((Array.range (1*ie.size)).map (zv.cells[· % zv.cells.size]!)).size≤k:=by simp;omega
  rw[if_neg (by simp;omega),Array.getElem?_eq_none hz,Array.getElem?_eq_none (by omega)]
 rw[hr] at bP
 exact bP
theorem bV.app {t:T} {a:AO} (h:bV P o ρT (l++[AO.dead]) t ((l++[AO.dead]).set l.length a)):bV P o ρT l t (l++[a]):=by
 refine⟨h.1,fun w0 I0 w I m ρ ah hx=>?_⟩
 obtain⟨nT,iV⟩:=ah.push
 have fY:(l++[AO.dead]).set l.length a=l++[a]:=by simp
 have:=h.2 w0 I0 w I m ρ nT fun x hh=>(hx x hh).mono iV
 rw[fY] at this
 exact this.mono fun v w' ⟨J,m',h1,h2,h3⟩=>⟨J,m',iV.trans h1,h2,h3⟩
theorem bV.OJ (hE:cp P V.E) {t e:TypeId} {sz bt:Nat} {z:List D} {ie:TI} {parts:Array (Nat×Operand)} {x:Operand} (ho:o.op = .buildSlice t 1 parts) (hp:parts = #[(0,x)]) (hs:V.E t=some ⟨sz,bt,z,.slice e⟩) (hi:V.E e=some ie) (bO:0 < ie.size) (jX:ie.size≤16777216)
  (h1:(bu (ρT x)).all T.iM=true) (hl:(bu (ρT x)).length=ie.size) (hn:l[nid]?=some .dead):bV P o ρT l (.bL nid 1) (l.set nid (.var e (bu (ρT x)))):=by
 subst hp
 refine⟨by simp[ho],fun w0 I0 w I m ρ ah hr=>?_⟩
 have hx:=hr x (by simp[ho,Op.operands])
 obtain⟨c1,c2,c3⟩:=Iw hx h1
 have bP:=WE (P:=P) (w:=w) hE hs hi bO jX (v:=ρ x) (by rw[←hl,←c1,Array.length_toList])
 have hex:(execOp ρ o).run P w = .ok (.value (.slice (some ⟨w.heap.size,0,Option.none⟩) 1 1)) (w.alloc (.cells (ρ x).cells e)):=by unfold execOp;simp[ho,bP]
 rw[hex]
 simp only[cz]
 obtain⟨m',q1,q2,q3⟩:=L6 ah hn (ty:=e) c1 c2 c3
 generalize xC:0=off at q3
 have key:∀ {b off:Nat} {v:Value},v = .pointer (some ⟨b,off,Option.none⟩)→aq I m' (l.set nid (.var e (bu (ρT x)))) v (.ptr nid off)→aj.isVar (l.set nid (.var e (bu (ρT x)))) nid=true∧m' nid = .pointer (some ⟨b,0,Option.none⟩):=by
  intro b off v hv hr
  cases hr with
  | ptr _ _ _ p1 p2=>injection hv with hv;injection hv with hv;injection hv with hv;subst hv;exact⟨p1,p2⟩
 subst xC
 obtain⟨p1,p2⟩:=key rfl q3
 exact⟨I,m',q1,q2,.bL nid _ 1 1 p1 p2 (Nat.le_refl _) (by unfold maxLen;omega)⟩
theorem bV.YJ (hE:cp P V.E) {t e:TypeId} {sz bt:Nat} {z:List D} {ie:TI} {parts:Array (Nat×Operand)} {x:Operand} {d:D} (ho:o.op = .buildSlice t 1 parts) (hp:parts = #[(0,x)]) (hs:V.E t=some ⟨sz,bt,z,.slice e⟩) (hi:V.E e=some ie) (bO:0 < ie.size) (jX:ie.size≤16777216)
  (hx:ρT x = .d d) (hd:d.cells.length=ie.size) (h1:∀ y∈d.cells,y.one=true):bV P o ρT l (.row l.length) (l++[.row e ie.size [d]]):=by
 subst hp
 refine⟨by simp[ho],fun w0 I0 w I m ρ ah hr=>?_⟩
 have hv:=hr x (by simp[ho,Op.operands])
 rw[hx] at hv
 have hc:=Wj (cy hv) (List.all_eq_true.2 h1)
 have bP:=WE (P:=P) (w:=w) hE hs hi bO jX (v:=ρ x) (by rw[←hd,←hc.1,Array.length_toList])
 have hex:(execOp ρ o).run P w = .ok (.value (.slice (some ⟨w.heap.size,0,Option.none⟩) 1 1)) (w.alloc (.cells (ρ x).cells e)):=by unfold execOp;simp[ho,bP]
 rw[hex]
 simp only[cz]
 have aK:(ρ x).cells.size=ie.size:=by rw[←hd,←hc.1,Array.length_toList]
 obtain⟨q1,q2,q3⟩:=ah.BX (w':=w.alloc (.cells (ρ x).cells e)) (v:= .slice (some ⟨w.heap.size,0,Option.none⟩) 1 1) (row:=Option.none) (lo:=l) (e:=e) (size:=ie.size) (els:=[d]) (xs:=(ρ x).cells.toList) rfl (fun k a ha=> .inr ha) (fun _ _ _ h=>h)
  (World.grownBy_alloc w _ _) (Nat.le_refl _) (fun b hb=>by cases hb) (fun b hb=>by cases hb)
  (
   fun b hb=>by
   simp[own] at hb;subst hb
   refine⟨ah.below.size,ah.sat.eZ (Nat.le_refl _),fun k hk he=>?_⟩
   obtain⟨a,ha,jo⟩:=bN.1 hk
   have:=((ah.obj k a ha).lt jo he).1;omega)
  ⟨by simp[aK],.inr ⟨w.heap.size,1,(ρ x).cells,rfl,ah.below.size,heap_alloc_new w _,Nat.le_refl _,by unfold maxLen;omega,by simp[aK],by rw[List.length_singleton,Nat.one_mul,←aK,←Array.length_toList,List.take_length]⟩⟩
  (fun d' aS=>by simp only[List.mem_singleton] at aS;subst aS;exact⟨hd,h1⟩)
  (
   fun j u y hu hy=>by
   have:flat [d]=d.cells:=by simp[flat]
   rw[this] at hy
   exact hc.2.2 j u y hu hy) ⟨_,_,_,rfl⟩
 exact⟨I,_,q1,q2,q3⟩
end
end Go.Sy
namespace Go.Sy
open Go Go.aj
variable [aC] [cZ] [cP] [dC] [bh]
section
variable {P:Program} {V:Env} {C:Cx} {o:Oper} {ρX:Operand→TX} {ρT:Operand→T} {lX:List AX} {l:List AO} {n nid:Nat} {cs:List Callee} {ρ ρ':aO} {q:fx}
theorem jO {a b:Ty.den .bool} (h:(some (⟨.bool,a⟩:Sy.V))=some ⟨.bool,b⟩):a=b:=by
 injection h with h
 injection h
theorem aco {k xs:X} {m:Int} {kk:IntKind} {t:Ty} {zs:List t.den} (hk:k.den ρ=some ⟨.int kk,m⟩) (hx:xs.den ρ=some ⟨.list t,zs⟩) (h:(Ew k (rA xs)).den ρ=some ⟨.bool,true⟩):0≤m∧m < zs.length:=by
 simp only[Ew,rA,iX,X.den,hk,hx,ki,dV] at h
 have h:(leI 0 m&&aA m (zs.length:Int))=true:=jO h
 simpa using h
theorem oB {x:X} {r:List Ins} (h:cU cs n ρ (.bT x::r) ρ'):x.den ρ=some ⟨.bool,true⟩∧cU cs n ρ r ρ':=by
 cases h with | bT _ _ _ _ _ h1 h2=>exact⟨h1,h2⟩
theorem acr (hC:ck P V C) {t:TypeId} {x i:Operand} (ho:o.op = .indexAddr t x i) (hl:RL ρ lX l) (hx:RX ρ (ρX x) (ρT x)) (hj:RX ρ (ρX i) (ρT i)) (h:K0 C t lX n (kl (ρX x)) (ρX i)=some q) (hi:cU cs n ρ q.ins ρ') (hb:Ext ρ ρ'):ed P o ρT l nid ρ' q:=by
 have gM:=hb
 have he:evalOp V ρT l nid o=mW V.E t l (unbox (ρT x)) (ρT i):=by simp only[evalOp,ho]
 have ha:=NC hx
 rw[hC.E] at he
 unfold K0 at h
 generalize kl (ρX x)=A at h ha
 generalize zQ:unbox (ρT x)=U at he ha
 split at h
 ·rename_i s1 s2 s3 e kk k hE hI
  rw[hI] at hj
  obtain⟨m,gl,jq⟩:=lN hj
  have hm:eg (ρT i)=some (kk,m):=by rw[jq];rfl
  cases A with
  | d tt xs=>
   cases tt with
   | list u=>
    simp only at h
    obtain⟨zs,AD,kU⟩:=LC ha
    cases hg:(Nat.beq (bq C.E e) u.size&&Nat.ble 1 u.size&&fP u) with
    | false=>simp[hg] at h
    | true=>
     simp only[hg,cond_true,Option.some.injEq] at h
     subst h
     simp only[Bool.and_eq_true] at hg
     have g1:=Nat.eq_of_beq_eq_true hg.1.1;have g2:=Nat.le_of_ble_eq_true hg.1.2
     cases hi with
     | get _ _ _ _ _ _ t2 l2 EY i2 e2 q1 q2 q3 q4=>
      cases q4
      rw[AD] at q1;injection q1 with q1;cases q1
      rw[gl] at q2;injection q2 with q2;cases q2
      obtain⟨p1,p2,p3⟩:=y2 q3
      have eV:=IM p3
      rw[kU] at he
      simp only[mW,hE,hm] at he
      rw[if_pos ⟨g1.symm,by omega⟩] at he
      have hu:isVal u:=dF hg.2
      exact .val hC.ok he ⟨p1,by simp;omega⟩ rfl (.bw u (.var n) 0 0 u.size _ m.toNat e2 hu (ku n ⟨u,e2⟩ ρ) (by simpa using p2) (by rw[eV,List.drop_zero,List.take_of_length_le (by rw[lx hu];exact Nat.le_refl _)]) (by omega) (fun _ _=>eV))
   | _=>simp at h
  | row id=>
   have hU:U = .row id:=by cases ha;rfl
   rw[hU] at he
   simp only at h
   cases an:lX[id]? with
   | none=>simp[an] at h
   | some ax=>
    obtain⟨ao,cH,dB⟩:=F2.left hl an
    simp only[an] at h
    have key:∀ (u:Ty) (y:X) (zs:List u.den),y.den ρ=some ⟨.list u,zs⟩→(bif Nat.beq (bq C.E e) u.size&&Nat.ble 1 u.size then some (⟨[.bT (Ew k (rA y))],.bf id k 0,.none⟩:fx) else none)=some q→(∀ s els,u.size=s→zs.map u.enc=els→mW C.E t l (.row id) (ρT i)=if s=bq C.E e∧0 < s then⟨.bf id m.toNat 0,.none,0≤m∧m < els.length⟩ else .bad)→ed P o ρT l nid ρ' q:=by
     intro u y zs hy hq hL
     cases hg:(Nat.beq (bq C.E e) u.size&&Nat.ble 1 u.size) with
     | false=>simp[hg] at hq
     | true=>
      simp only[hg,cond_true,Option.some.injEq] at hq
      subst hq
      simp only[Bool.and_eq_true] at hg
      have g1:=Nat.eq_of_beq_eq_true hg.1;have g2:=Nat.le_of_ble_eq_true hg.2
      obtain⟨k1,k2⟩:=oB hi
      cases k2
      have:=aco gl hy k1
      rw[hL _ _ rfl rfl,if_pos ⟨g1.symm,by omega⟩] at he
      exact .val hC.ok he ⟨this.1,by simpa using this.2⟩ rfl (.bf id k 0 kk m gl)
    cases dB with
    | row e2 u y zs h0 hy=>exact key u y zs hy h (by rintro _ _ rfl rfl;simp only[mW,hE,hm,cH])
    | bx e2 u y zs h0 hy=>exact key u y zs hy h (by rintro _ _ rfl rfl;simp only[mW,hE,hm,cH])
    | _=>simp at h
  | bL id nn=>
   have hU:U = .bL id nn:=by cases ha;rfl
   have hxT:ρT x = .bL id nn:=by
    rw[hU] at zQ
    unfold unbox at zQ
    split at zQ
    ·cases zQ
    exact zQ
   simp only at h
   split at h
   ·rename_i j
    cases hg:(Nat.blt j nn&&Nat.ble 1 (bq C.E e)&&(C.E e).isSome) with
    | false=>simp[hg] at h
    | true=>
     simp only[hg,cond_true,gp,Option.some.injEq] at h
     subst h
     cases hi
     simp only[Bool.and_eq_true] at hg
     have g1:j < nn:=Nat.le_of_ble_eq_true hg.1.1
     obtain⟨ie,fV⟩:=Option.isSome_iff_exists.1 hg.2
     have aK:bq C.E e=ie.size:=by simp[bq,fV]
     rw[aK]
     have uV:(some (⟨.int .i64,Int.ofNat j⟩:Sy.V))=some ⟨.int kk,m⟩:=gl
     injection uV with uV
     cases uV
     exact⟨_,.ptr _ _,bV.aiG hC.ok.E ho (by rw[hC.E];exact hE) (by rw[hC.E];exact fV) hxT jq g1⟩
   cases h
  | _=>simp at h
 cases h
theorem Uu:∀ (ls:List Int),(E4 ls).den ρ=some ⟨.list (.int .i64),ls⟩
 | []=>rfl
 | x::xs=>by
  simp only[E4,X.den,Uu xs,iX,dV,e9]
  rfl
theorem acq (hC:ck P V C) {t:TypeId} {g:Nat} {i:Operand} (ho:o.op = .indexAddr t (.global g) i) (hG:∀ g ls,aC.fS g=some ls→ρT (.global g) = .bw ls.length [.agg (ls.map (.int .i64))] 0 0) (hj:RX ρ (ρX i) (ρT i)) (h:KZ C t g n (ρX i)=some q) (hi:cU cs n ρ q.ins ρ') (hb:Ext ρ ρ'):ed P o ρT l nid ρ' q:=by
 have he:evalOp V ρT l nid o=mW V.E t l (unbox (ρT (.global g))) (ρT i):=by simp only[evalOp,ho]
 rw[hC.E] at he
 unfold KZ at h
 split at h
 ·rename_i s1 s2 s3 len e ls kk k hE hT hI
  rw[hI] at hj
  obtain⟨m,gl,jq⟩:=lN hj
  have hm:eg (ρT i)=some (kk,m):=by rw[jq];rfl
  cases hg:(Nat.beq len ls.length&&Nat.beq (bq C.E e) 1&&Nat.ble 2 len&&(C.E e).isSome) with
  | false=>rw[hg] at h;cases h
  | true=>
   rw[hg] at h
   simp only[cond_true,Option.some.injEq] at h
   subst h
   simp only[Bool.and_eq_true] at hg
   obtain⟨⟨⟨g1,g2⟩,g3⟩,g4⟩:=hg
   have g1:=Nat.eq_of_beq_eq_true g1
   have g2:=Nat.eq_of_beq_eq_true g2
   have g3:=Nat.le_of_ble_eq_true g3
   rw[hG g ls hT] at he
   cases hi with
   | get _ _ _ _ _ _ t2 l2 EY i2 e2 q1 q2 q3 q4=>
    cases q4
    rw[Uu] at q1;injection q1 with q1;cases q1
    rw[gl] at q2;injection q2 with q2;cases q2
    obtain⟨p1,p2,p3⟩:=y2 q3
    simp only[unbox,mW,hE,hm,g4,if_true,g2,Nat.mul_one,Nat.zero_add] at he
    have p2':m.toNat < ls.length:=p2
    have p3':ls[m.toNat]?=some (show Int from e2):=p3
    refine .val hC.ok he ⟨p1,by omega⟩ rfl ?_
    have gx:((fK [D.agg (List.map (D.int .i64) ls)] 0).cells.drop m.toNat).take 1=[D.int .i64 (show Int from e2)]:=by
     show((List.map (D.int .i64) ls).drop m.toNat).take 1=_
     rw[List.take_one,List.head?_drop,List.getElem?_map,p3'];rfl
    exact .bw (.int .i64) (.var n) m.toNat 0 ls.length _ 0 e2 (dF rfl) (ku n ⟨.int .i64,e2⟩ ρ) (by simp) gx (by show m.toNat+1≤_;omega) (fun h1 h2=>by have:ls.length=1:=h2;omega)
 cases h
theorem Th {x:X} {k:IntKind} {m:Int} (hx:x.den ρ=some ⟨.int k,m⟩) (h:(X.u1 .kW x).den ρ=some ⟨.bool,true⟩) : -9223372036854775808≤m∧m≤9223372036854775807:=by
 simp only[X.den,hx,ki] at h
 have h:az m=true:=jO h
 simpa [aj.kW] using h
theorem CL {k:IntKind} {x:X} {m:Int} (hx:x.den ρ=some ⟨.int k,pw k m⟩) (h:cU cs n ρ (y1 k x) ρ'):(arith k m).2∧(arith k m).1 = .int k (pw k m)∧ρ'=ρ:=by
 cases k with
 | i64=>
  obtain⟨h1,h2⟩:=oB h
  cases h2
  exact⟨Th hx h1,rfl,rfl⟩
 | _=>cases h;exact⟨trivial,rfl,rfl⟩
theorem LB:∀ {ls:List Lf} {ps:List (Ty×X)} {ds:List D},F2 (RC ρ) ps ds→vC ls ps=true→iL ls ds=true
 | [],[],[],_,_=>rfl
 | a::r,p::s,d::ds,.cons h1 h2,h=>by
  simp only[vC,Bool.and_eq_true] at h
  obtain⟨_,v,_,rfl⟩:=h1
  simp only[iL,Bool.and_eq_true]
  refine⟨?_,LB h2 h.2⟩
  obtain⟨t,x⟩:=p
  have h3:=h.1
  cases a<;>cases t<;>simp_all [Us,xW,Ty.enc,Ty.fU]
 | [],_::_,_,_,h=>by simp[vC] at h
 | _::_,[],_,_,h=>by simp[vC] at h
theorem YB (hC:ck P V C) {op:BinOp} {ty XJ:TypeId} {x y:Operand} (ho:o.op = .binOp op ty x y XJ) (hx:RX ρ (ρX x) (ρT x)) (hy:RX ρ (ρX y) (ρT y)) (h:dK C ρX lX n nid o=some q) (hi:cU cs n ρ q.ins ρ'):ed P o ρT l nid ρ' q:=by
 have lE:∀ a b,ρT x = .d a→ρT y = .d b→evalOp V ρT l nid o=oV (gH V.lO op ty a b):=by intro a b e1 e2;simp only[evalOp,ho,e1,e2]
 simp only[dK,ho,Option.map_eq_some_iff] at h
 obtain⟨⟨is,tx⟩,h,rfl⟩:=h
 unfold OC at h
 split at h
 ·rename_i k a k' b e1 e2
  rw[e1] at hx;rw[e2] at hy
  obtain⟨u,eW,oK⟩:=lN hx
  obtain⟨v,bX,gQ⟩:=lN hy
  have he:=lE _ _ oK gQ
  split at h
  ·cases h
  rename_i hk
  have hk:k=k':=by simpa using hk
  subst hk
  cases op with
  | add=> 
   simp only[Option.some.injEq,Prod.mk.injEq] at h
   obtain⟨rfl,rfl⟩:=h
   have hd:(X.u2 (.add k) a b).den ρ=some ⟨.int k,pw k (u+v)⟩:=by simp only[X.den,eW,bX,dV];rfl
   obtain⟨k1,k2,rfl⟩:=CL hd hi
   simp only[gH,ne_eq,not_true_eq_false,if_false] at he
   exact .val hC.ok he k1 rfl (by show RX ρ' _ (.d (arith k (u+v)).1);rw[k2];exact lR hd)
  | sub=>
   simp only[Option.some.injEq,Prod.mk.injEq] at h
   obtain⟨rfl,rfl⟩:=h
   have hd:(X.u2 (.sub k) a b).den ρ=some ⟨.int k,pw k (u - v)⟩:=by simp only[X.den,eW,bX,dV];rfl
   obtain⟨k1,k2,rfl⟩:=CL hd hi
   simp only[gH,ne_eq,not_true_eq_false,if_false] at he
   exact .val hC.ok he k1 rfl (by show RX ρ' _ (.d (arith k (u - v)).1);rw[k2];exact lR hd)
  | mul=>
   simp only[Option.some.injEq,Prod.mk.injEq] at h
   obtain⟨rfl,rfl⟩:=h
   have hd:(X.u2 (.mul k) a b).den ρ=some ⟨.int k,pw k (u*v)⟩:=by simp only[X.den,eW,bX,dV];rfl
   obtain⟨k1,k2,rfl⟩:=CL hd hi
   simp only[gH,ne_eq,not_true_eq_false,if_false] at he
   exact .val hC.ok he k1 rfl (by show RX ρ' _ (.d (arith k (u*v)).1);rw[k2];exact lR hd)
  | quo=>
   cases k with
   | i64=>
    simp only[Option.some.injEq,Prod.mk.injEq] at h
    obtain⟨rfl,rfl⟩:=h
    have hd:(X.u2 (.quo .i64) a b).den ρ=some ⟨.int .i64,u.tdiv v⟩:=by simp only[X.den,eW,bX,dV]
    obtain⟨k1,k2⟩:=oB hi
    obtain⟨k3,k4⟩:=oB k2
    cases k4
    have bc:v≠0:=by
     simp only[X.den,bX,iX,ki,dV] at k1
     have k1:(!ay v 0)=true:=jO k1
     simpa using k1
    simp only[gH,ne_eq,not_true_eq_false,if_false] at he
    exact .val hC.ok he ⟨bc,Th hd k3⟩ rfl (lR hd)
   | _=>simp at h
  | rem=>
   simp only[Option.some.injEq,Prod.mk.injEq] at h
   obtain⟨rfl,rfl⟩:=h
   have hd:(X.u2 (.rem k) a b).den ρ=some ⟨.int k,u.tmod v⟩:=by simp only[X.den,eW,bX,dV]
   obtain⟨k1,k2⟩:=oB hi
   cases k2
   have bc:v≠0:=by
    simp only[X.den,bX,ki,dV] at k1
    have k1:(!ay v 0)=true:=jO k1
    simpa using k1
   simp only[gH,ne_eq,not_true_eq_false,if_false] at he
   exact .val hC.ok he bc rfl (lR hd)
  | eql=>
   simp only[Option.some.injEq,Prod.mk.injEq] at h
   obtain⟨rfl,rfl⟩:=h
   cases hi
   simp only[gH,ne_eq,not_true_eq_false,if_false] at he
   exact .val hC.ok he trivial rfl (gR (b:=decide (u=v)) (by simp only[X.den,eW,bX,dV]))
  | neq=>
   simp only[Option.some.injEq,Prod.mk.injEq] at h
   obtain⟨rfl,rfl⟩:=h
   cases hi
   simp only[gH,ne_eq,not_true_eq_false,if_false] at he
   exact .val hC.ok he trivial rfl (gR (b:= !decide (u=v)) (by simp only[X.den,eW,bX,dV,ki]))
  | lss=>
   simp only[Option.some.injEq,Prod.mk.injEq] at h
   obtain⟨rfl,rfl⟩:=h
   cases hi
   simp only[gH,ne_eq,not_true_eq_false,if_false] at he
   exact .val hC.ok he trivial rfl (gR (b:=decide (u < v)) (by simp only[X.den,eW,bX,dV]))
  | leq=>
   simp only[Option.some.injEq,Prod.mk.injEq] at h
   obtain⟨rfl,rfl⟩:=h
   cases hi
   simp only[gH,ne_eq,not_true_eq_false,if_false] at he
   exact .val hC.ok he trivial rfl (gR (b:=decide (u≤v)) (by simp only[X.den,eW,bX,dV]))
  | gtr=>
   simp only[Option.some.injEq,Prod.mk.injEq] at h
   obtain⟨rfl,rfl⟩:=h
   cases hi
   simp only[gH,ne_eq,not_true_eq_false,if_false] at he
   exact .val hC.ok he trivial rfl (gR (b:=decide (v < u)) (by simp only[X.den,eW,bX,dV]))
  | geq=>
   simp only[Option.some.injEq,Prod.mk.injEq] at h
   obtain⟨rfl,rfl⟩:=h
   cases hi
   simp only[gH,ne_eq,not_true_eq_false,if_false] at he
   exact .val hC.ok he trivial rfl (gR (b:=decide (v≤u)) (by simp only[X.den,eW,bX,dV]))
  | _=>simp at h
 ·rename_i a b e1 e2
  rw[e1] at hx;rw[e2] at hy
  obtain⟨u,eW,oK⟩:=kG hx
  obtain⟨v,bX,gQ⟩:=kG hy
  have he:=lE _ _ oK gQ
  rw[hC.eq] at he
  cases hg:decide (C.eqs ty=some [.bool]) with
  | false=>simp[hg] at h
  | true=>
   simp only[hg,cond_true] at h
   have hg:=of_decide_eq_true hg
   cases op with
   | eql=>
    simp only[Option.some.injEq,Prod.mk.injEq] at h
    obtain⟨rfl,rfl⟩:=h
    cases hi
    simp only[gH,if_pos hg] at he
    exact .val hC.ok he trivial rfl (gR (b:=u == v) (by simp only[X.den,eW,bX,dV]))
   | neq=>
    simp only[Option.some.injEq,Prod.mk.injEq] at h
    obtain⟨rfl,rfl⟩:=h
    cases hi
    simp only[gH,if_pos hg] at he
    exact .val hC.ok he trivial rfl (gR (b:= !(u == v)) (by simp only[X.den,eW,bX,dV,ki]))
   | _=>simp at h
 ·rename_i a b e1 e2
  rw[e1] at hx;rw[e2] at hy
  obtain⟨u,eW,oK⟩:=Nq hx
  obtain⟨v,bX,gQ⟩:=Nq hy
  have he:=lE _ _ oK gQ
  cases op with
  | eql=>
   simp only[Option.some.injEq,Prod.mk.injEq] at h
   obtain⟨rfl,rfl⟩:=h
   cases hi
   simp only[gH] at he
   exact .val hC.ok he trivial rfl (gR (b:=u == v) (by simp only[X.den,eW,bX,dV]))
  | neq=>
   simp only[Option.some.injEq,Prod.mk.injEq] at h
   obtain⟨rfl,rfl⟩:=h
   cases hi
   simp only[gH] at he
   exact .val hC.ok he trivial rfl (gR (b:= !(u == v)) (by simp only[X.den,eW,bX,dV,ki]))
  | add=>
   simp only[Option.some.injEq,Prod.mk.injEq] at h
   obtain⟨rfl,rfl⟩:=h
   obtain⟨k1,k2⟩:=oB hi
   cases k2
   simp only[X.den,eW,bX,dV] at k1
   have k1:decide ((u.size:Int)+(v.size:Int)≤9223372036854775807)=true:=jO k1
   simp only[gH] at he
   exact .val hC.ok he (show(u.size:Int)+(v.size:Int)≤9223372036854775807 by simpa using k1) rfl (ahG (s:=u++v) (by simp only[X.den,eW,bX,dV];rfl))
  | _=>simp at h
 ·rename_i i a j b e1 e2
  cases hg:(Nat.beq i j&&IW C ty i a b) with
  | false=>simp[hg] at h
  | true=>
   simp only[hg,cond_true] at h
   simp only[Bool.and_eq_true] at hg
   have:=Nat.eq_of_beq_eq_true hg.1
   subst this
   rw[e1] at hx;rw[e2] at hy
   obtain⟨mn,u,eW,oK⟩:=l9 hx
   obtain⟨_,v,bX,gQ⟩:=l9 hy
   have g2:=hg.2
   unfold IW at g2
   split at g2
   ·rename_i ls pa pb SE hpa hpb
    simp only[Bool.and_eq_true] at g2
    have r1:=LB (ur _ mn eW hpa) g2.1.1
    have r2:=LB (ur _ mn bX hpb) g2.1.2
    have bc:ls≠[.bool]:=by simpa using g2.2
    have s1:Ty.enc (.st i) u = .agg (aC.cells i u):=rfl
    have s2:Ty.enc (.st i) v = .agg (aC.cells i v):=rfl
    have he:=lE _ _ oK gQ
    rw[s1,s2,hC.eq] at he
    cases op with
    | eql=>
     simp only[Option.some.injEq,Prod.mk.injEq] at h
     obtain⟨rfl,rfl⟩:=h
     cases hi
     simp only[gH,SE,if_neg bc] at he
     refine .val hC.ok he ⟨r1,r2⟩ rfl (gR (b:=dJ (aC.cells i u) (aC.cells i v)) ?_)
     simp only[X.den,eW,bX,dV]
     rw[l7 (.st i) u,l7 (.st i) v]
    | neq=>
     simp only[Option.some.injEq,Prod.mk.injEq] at h
     obtain⟨rfl,rfl⟩:=h
     cases hi
     simp only[gH,SE,if_neg bc] at he
     refine .val hC.ok he ⟨r1,r2⟩ rfl (gR (b:= !(dJ (aC.cells i u) (aC.cells i v))) ?_)
     simp only[X.den,eW,bX,dV]
     rw[l7 (.st i) u,l7 (.st i) v]
     rfl
    | _=>simp at h
   cases g2
 cases h
end
end Go.Sy
namespace Go.Sy
open Go Go.aj
variable [aC] [cZ] [cP] [dC] [bh]
section
variable {P:Program} {V:Env} {C:Cx} {o:Oper} {ρX:Operand→TX} {ρT:Operand→T} {lX:List AX} {l:List AO} {n nid:Nat} {cs:List Callee} {ρ ρ':aO} {q:fx}
theorem afq {a:X} {b:Bool} (h:a.den ρ=some ⟨.bool,b⟩):(L9 a).den ρ=some ⟨.bool,!b⟩:=by
 unfold L9
 split
 ·have:_=b:=jO ((rfl:(X.bool _).den ρ=_).symm.trans h)
  subst this;rfl
 simp only[X.den,h,ki]
theorem ai4 (hC:ck P V C) {op:UnOp} {ty:TypeId} {x:Operand} (ho:o.op = .unOp op ty x) (hx:RX ρ (ρX x) (ρT x)) (h:dK C ρX lX n nid o=some q) (hi:cU cs n ρ q.ins ρ'):ed P o ρT l nid ρ' q:=by
 have lE:∀ a,ρT x = .d a→evalOp V ρT l nid o=oV (Cr op a):=by intro a e1;simp only[evalOp,ho,e1]
 simp only[dK,ho] at h
 split at h
 ·rename_i a e1
  rw[e1] at hx
  obtain⟨b,h1,h2⟩:=kG hx
  have:=kZ h;subst this;cases hi
  exact .val hC.ok (lE _ h2) trivial rfl (gR (b:= !b) (afq h1))
 ·rename_i k a e1
  rw[e1] at hx
  obtain⟨u,h1,h2⟩:=lN hx
  simp only[Option.some.injEq] at h;subst h
  have hd:(X.u1 (.neg k) a).den ρ=some ⟨.int k,pw k (0 - u)⟩:=by simp only[X.den,h1,ki]
  obtain⟨k1,k2,rfl⟩:=CL hd hi
  exact .val hC.ok (lE _ h2) k1 rfl (by show RX ρ' _ (.d (arith k (0 - u)).1);rw[k2];exact lR hd)
 cases h
theorem aar (hC:ck P V C) {x:Operand} {i:Nat} (ho:o.op = .extract x i) (hx:RX ρ (ρX x) (ρT x)) (h:dK C ρX lX n nid o=some q) (hi:cU cs n ρ q.ins ρ'):ed P o ρT l nid ρ' q:=by
 simp only[dK,ho] at h
 split at h
 ·rename_i ts e1
  rw[e1] at hx
  simp only[Option.map_eq_some_iff] at h
  obtain⟨t,ht,rfl⟩:=h
  cases hi
  generalize hU:ρT x=U at hx
  cases hx with
  | aI _ us h1 h2=>
   have aN:i < us.length:=by rw[←h1];exact(List.getElem?_eq_some_iff.1 ht).1
   have hu:us[i]?=some us[i]:=List.getElem?_eq_getElem aN
   have he:evalOp V ρT l nid o = .ok us[i]:=by simp only[evalOp,ho,hU,hu]
   exact .val hC.ok he trivial rfl (h2 i _ _ ht hu)
  | jI _ us h1 h2=>
   have aN:i < us.length:=by rw[←h1];exact(List.getElem?_eq_some_iff.1 ht).1
   have hu:us[i]?=some us[i]:=List.getElem?_eq_getElem aN
   have he:evalOp V ρT l nid o = .ok (.d us[i]):=by simp only[evalOp,ho,hU,hu]
   exact .val hC.ok he trivial rfl (h2 i _ _ ht hu)
 cases h
theorem UK (hl:RL ρ lX l) {k v:Ty} {x:TX} {u:T} {m:X} (hx:RX ρ x u) (h:Fb lX k v x=some m):∃ mm:List (k.den×v.den),m.den ρ=some ⟨.map k v,mm⟩∧mapOf l u=some (mm.map fun p=>k.enc p.1,mm.map fun p=>v.enc p.2):=by
 unfold Fb at h
 split at h
 ·rename_i k' v' y
  split at h
  ·rename_i e
   obtain⟨rfl,rfl⟩:=e
   simp only[Option.some.injEq] at h;subst h
   obtain⟨mm,h1,rfl⟩:=aeY hx
   exact⟨mm,h1,rfl⟩
  cases h
 ·simp only[Option.some.injEq] at h;subst h
  cases hx
  exact⟨[],rfl,rfl⟩
 ·rename_i id
  have hu:u = .map id:=by cases hx;rfl
  subst hu
  split at h
  ·rename_i fr k' v' y an
   split at h
   ·rename_i e
    obtain⟨rfl,rfl⟩:=e
    simp only[Option.some.injEq] at h;subst h
    obtain⟨ao,cH,dB⟩:=F2.left hl an
    cases dB with
    | map _ _ _ mm _ _ hm=>exact⟨mm,hm,by simp only[mapOf,cH]⟩
    | eP _ _ _ mm _ _ hm=>exact⟨mm,hm,by simp only[mapOf,cH]⟩
   cases h
  cases h
 cases h
theorem Fa {t:TypeId} {k v:Ty} (h:vJ C t=some (k,v)):C.ty t=some (.map k v):=by
 unfold vJ at h
 split at h
 ·rename_i e;simp only[Option.some.injEq,Prod.mk.injEq] at h;obtain⟨rfl,rfl⟩:=h;exact e
 cases h
theorem aey (hC:ck P V C) {c:Call} {x:Operand} {t:TypeId} (ho:o.op = .call c) (hc:c.callee = .builtin .len) (ha:c.args.toList=[x]) (ht:c.argTypes.toList=[t]) (hl:RL ρ lX l) (hx:RX ρ (ρX x) (ρT x)) (h:Ln C t lX (ρX x)=some q) (hi:cU cs n ρ q.ins ρ'):ed P o ρT l nid ρ' q:=by
 have he:evalOp V ρT l nid o=nd V.E t l (ρT x):=by simp only[evalOp,ho,hc,ha,ht]
 rw[hC.E] at he
 unfold Ln at h
 generalize ρX x=A at h hx
 generalize ρT x=U at he hx
 split at h
 ·rename_i s1 s2 s3 s hE
  obtain⟨v,h1,rfl⟩:=Nq hx
  have:=kZ h;subst this;cases hi
  simp only[nd,hE] at he
  exact .val hC.ok he trivial rfl (lR (by simp only[X.den,h1,ki]))
 ·rename_i s1 s2 s3 e u xs hE
  obtain⟨v,h1,rfl⟩:=LC hx
  have:=kZ h;subst this;cases hi
  simp only[nd,hE,List.length_map] at he
  exact .val hC.ok he trivial rfl (lR (by simp only[X.den,h1,ki]))
 ·rename_i s1 s2 s3 e s hE
  cases hx
  have:=kZ h;subst this;cases hi
  simp only[nd,hE] at he
  exact .val hC.ok he trivial rfl (lR rfl)
 ·rename_i s1 s2 s3 e id hE
  have hU:U = .row id:=by cases hx;rfl
  subst hU
  split at h
  ·rename_i fr e' u xs an
   obtain⟨ao,cH,dB⟩:=F2.left hl an
   have:=kZ h;subst this;cases hi
   cases dB with
   | row _ _ _ zs _ hz=>
    simp only[nd,hE,cH,List.length_map] at he
    exact .val hC.ok he trivial rfl (lR (by simp only[X.den,hz,ki]))
   | bx _ _ _ zs _ hz=>
    simp only[nd,hE,cH,List.length_map] at he
    exact .val hC.ok he trivial rfl (lR (by simp only[X.den,hz,ki]))
  cases h
 ·rename_i s1 s2 s3 kt vt A' hE
  split at h
  ·rename_i k v hm
   simp only[Option.map_eq_some_iff] at h
   obtain⟨m,pR,rfl⟩:=h
   cases hi
   obtain⟨mm,h1,h2⟩:=UK hl hx pR
   simp only[nd,hE,h2,List.length_map] at he
   exact .val hC.ok he trivial rfl (lR (by simp only[X.den,h1,ki]))
  cases h
 cases h
theorem IG (hC:ck P V C) {src t:TypeId} {x:Operand} (ho:o.op = .convert src t x) (hx:RX ρ (ρX x) (ρT x)) (h:dK C ρX lX n nid o=some q) (hi:cU cs n ρ q.ins ρ'):ed P o ρT l nid ρ' q:=by
 have he:evalOp V ρT l nid o=uw V.E src t (ρT x):=by simp only[evalOp,ho]
 rw[hC.E] at he
 simp only[dK,ho] at h
 split at h
 ·rename_i a1 a2 a3 k0 b1 b2 b3 k k2 a e1 e2 e3
  rw[e3] at hx
  obtain⟨u,h1,h2⟩:=lN hx
  have:=kZ h;subst this;cases hi
  simp only[uw,e1,e2,h2] at he
  exact .val hC.ok he trivial rfl (lR (by simp only[X.den,h1,ki]))
 cases h
theorem UM (hC:ck P V C) {c:Call} (ho:o.op = .call c) (hX:∀ x∈o.op.operands,RX ρ (ρX x) (ρT x)) (hc:c.callee = .builtin .max∨c.callee = .builtin .min) (h:dK C ρX lX n nid o=some q) (hi:cU cs n ρ q.ins ρ'):ed P o ρT l nid ρ' q:=by
 have mj:∀ x∈c.args.toList,RX ρ (ρX x) (ρT x):=fun x hx=>hX x (by simp[ho,Op.operands,Call.operands,hx];rcases hc with e | e<;>simp[e]<;>simpa using hx)
 have key:∀ (k k':IntKind) (a b:X),c.args.toList.map ρX=[.d (.int k) a,.d (.int k') b]→∃ u v:Int,a.den ρ=some ⟨.int k,u⟩∧b.den ρ=some ⟨.int k',v⟩∧c.args.toList.map ρT=[.d (.int k u),.d (.int k' v)]:=by
  intro k k' a b e
  generalize c.args.toList=as at e mj
  rcases as with _ | ⟨x,_ | ⟨y,_ | ⟨z,w⟩⟩⟩
  ·simp at e
  ·simp at e
  ·simp only[List.map_cons,List.map_nil,List.cons.injEq,and_true] at e
   have h1:=mj x (by simp);have h2:=mj y (by simp)
   rw[e.1] at h1;rw[e.2] at h2
   obtain⟨u,p1,p2⟩:=lN h1
   obtain⟨v,p3,p4⟩:=lN h2
   exact⟨u,v,p1,p3,by simp[p2,p4]⟩
  simp at e
 rcases hc with hc | hc
 ·simp only[dK,ho,hc] at h
  split at h
  ·rename_i k a k' b e
   obtain⟨u,v,h1,h2,h3⟩:=key k k' a b e
   split at h
   ·rename_i e2;subst e2
    have:=kZ h;subst this;cases hi
    have he:evalOp V ρT l nid o = .ok (.d (.int k (max u v))):=by simp only[evalOp,ho,hc,h3,if_true]
    exact .val hC.ok he trivial rfl (lR (by simp only[X.den,h1,h2,dV]))
   cases h
  cases h
 simp only[dK,ho,hc] at h
 split at h
 ·rename_i k a k' b e
  obtain⟨u,v,h1,h2,h3⟩:=key k k' a b e
  split at h
  ·rename_i e2;subst e2
   have:=kZ h;subst this;cases hi
   have he:evalOp V ρT l nid o = .ok (.d (.int k (min u v))):=by simp only[evalOp,ho,hc,h3,if_true]
   exact .val hC.ok he trivial rfl (lR (by simp only[X.den,h1,h2,dV]))
  cases h
 cases h
theorem Nw (hl:RL ρ lX l) {t:Ty} {x:TX} {u:T} {y:X} {kq:List AX} (hx:RX ρ x u) (h:kg lX t x=some (y,kq)) (gN:∀ cs,x ≠ .agg cs):∃ (v:t.den) (l':List AO),y.den ρ=some ⟨t,v⟩∧dp l u=some (t.enc v,l')∧ei l u=some (t.enc v,l')∧RL ρ kq l':=by
 cases hx with
 | d t' x v h1 h2=>
  simp only[kg] at h
  split at h
  ·rename_i e;subst e
   simp only[Option.some.injEq,Prod.mk.injEq] at h
   obtain⟨rfl,rfl⟩:=h
   exact⟨v,l,h2,rfl,rfl,hl⟩
  cases h
 | bC s=>
  simp only[kg] at h
  split at h
  ·rename_i u
   cases hs:Nat.beq s u.size with
   | false=>simp[hs] at h
   | true=>
    simp only[hs,cond_true,Option.some.injEq,Prod.mk.injEq] at h
    obtain⟨rfl,rfl⟩:=h
    have:=Nat.eq_of_beq_eq_true hs
    subst this
    exact⟨([]:List u.den),l,rfl,rfl,rfl,hl⟩
  cases h
 | fp=>
  simp only[kg] at h
  split at h
  ·rename_i k v
   simp only[Option.some.injEq,Prod.mk.injEq] at h
   obtain⟨rfl,rfl⟩:=h
   exact⟨([]:List (k.den×v.den)),l,rfl,rfl,rfl,hl⟩
  cases h
 | row id=>
  simp only[kg] at h
  split at h
  ·rename_i fr e u y' an
   split at h
   ·rename_i e;subst e
    simp only[Option.some.injEq,Prod.mk.injEq] at h
    obtain⟨rfl,rfl⟩:=h
    obtain⟨ao,cH,dB⟩:=F2.left hl an
    cases dB with
    | row _ _ _ zs h0 hz=>exact⟨zs,l.set id (.bx e u.size (zs.map u.enc)),hz,by simp only[dp,cH];rfl,by simp only[ei,dp,cH];rfl,F2.set hl (.bx e u _ zs h0 hz) id⟩
    | bx _ _ _ zs h0 hz=>exact⟨zs,l,hz,by simp only[dp,cH];rfl,by simp only[ei,dp,cH];rfl,hl⟩
   cases h
  cases h
 | bD id t' x xs h1=>
  simp only[kg] at h
  split at h
  ·rename_i e;subst e
   simp only[Option.some.injEq,Prod.mk.injEq] at h
   obtain⟨rfl,rfl⟩:=h
   exact⟨xs,l,h1,rfl,rfl,hl⟩
  cases h
 | map id=>
  simp only[kg] at h
  split at h
  ·rename_i fr k v y' an
   split at h
   ·rename_i e;subst e
    simp only[Option.some.injEq,Prod.mk.injEq] at h
    obtain⟨rfl,rfl⟩:=h
    obtain⟨ao,cH,dB⟩:=F2.left hl an
    cases dB with
    | map _ _ _ mm h0 h1 hm=>exact⟨mm,l.set id (.eP (mm.map fun p:k.den×v.den=>k.enc p.1) (mm.map fun p:k.den×v.den=>v.enc p.2)),hm,by simp only[dp,cH];rfl,by simp only[ei,dp,cH];rfl,F2.set hl (.eP k v _ mm h0 h1 hm) id⟩
    | eP _ _ _ mm h0 h1 hm=>exact⟨mm,l,hm,by simp only[dp,cH];rfl,by simp only[ei,dp,cH];rfl,hl⟩
   cases h
  cases h
 | agg cs ts h1 h2=>exact absurd rfl (gN cs)
 | kD cs ts h1 h2=>exact absurd rfl (gN cs)
 | _=>simp[kg] at h
theorem Oh:∀ (a b:List T) (l l1 l2:List AO) (xs ys:List D),dW l a=some (xs,l1)→dW l1 b=some (ys,l2)→dW l (a++b)=some (xs++ys,l2)
 | [],b,l,l1,l2,xs,ys,h1,h2=>by simp[dW] at h1;obtain⟨rfl,rfl⟩:=h1;exact h2
 | t::a,b,l,l1,l2,xs,ys,h1,h2=>by
  simp only[dW] at h1
  cases ht:dp l t with
  | none=>simp[ht] at h1
  | some p=>
   obtain⟨x,l'⟩:=p
   simp only[ht] at h1
   cases ha:dW l' a with
   | none=>simp[ha] at h1
   | some p=>
    obtain⟨zs,kp⟩:=p
    simp only[ha,Option.some.injEq,Prod.mk.injEq] at h1
    obtain⟨rfl,rfl⟩:=h1
    simp only[List.cons_append,dW,ht,Oh a b l' kp l2 zs ys ha h2]
theorem Iv {t:Ty} {ts:List Ty} {x:X} {xs:List X} {v:t.den} {a:(aQ ts).den} (hx:x.den ρ=some ⟨t,v⟩) (hp:lP ρ ts xs a):∃ b:(aQ (t::ts)).den,lP ρ (t::ts) (x::xs) b∧cellsOf (t::ts) b=(t.enc v).cells++cellsOf ts a:=by
 cases ts with
 | nil=>
  refine⟨v,⟨by simp[hp.1],fun j w hw=>?_⟩,by simp[cellsOf]⟩
  cases j with
  | zero=>simp at hw;subst hw;exact⟨x,rfl,by simpa [dm] using hx⟩
  | succ j=>simp at hw
 | cons u ts=>
  refine⟨(v,a),⟨by simp[hp.1],fun j w hw=>?_⟩,rfl⟩
  cases j with
  | zero=>simp at hw;subst hw;exact⟨x,rfl,by simpa [dm] using hx⟩
  | succ j=>
   obtain⟨y,hy,hd⟩:=hp.2 j w (by simpa using hw)
   exact⟨y,by simpa using hy,by simpa [dm] using hd⟩
theorem aiW:∀ (f:Nat) {lX:List AX} {l:List AO} {fG:List Ty} {cs r:List TX} {ts:List T} {xs:List X} {kq:List AX},(∀ t∈fG,isVal t)→RL ρ lX l→F2 (RX ρ) cs ts→mF f lX fG cs=some (xs,r,kq) →
  ∃ (a:(aQ fG).den) (Cq Hi:List T) (l':List AO),ts=Cq++Hi∧lP ρ fG xs a∧dW l Cq=some (cellsOf fG a,l')∧F2 (RX ρ) r Hi∧RL ρ kq l':=by
 intro f
 induction f with
 | zero=>intro lX l fG cs r ts xs kq _ _ _ h;simp[mF] at h
 | succ f ih=>
  intro lX l fG cs r ts xs kq hv hl aR h
  cases fG with
  | nil=>
   simp only[mF,Option.some.injEq,Prod.mk.injEq] at h
   obtain⟨rfl,rfl,rfl⟩:=h
   exact⟨(),[],ts,l,rfl,⟨rfl,fun j t h=>by simp at h⟩,rfl,aR,hl⟩
  | cons t fG=>
   by_cases c7:∃ i,t = .st i
   ·obtain⟨i,rfl⟩:=c7
    simp only[mF] at h
    cases h1:mF f lX (aC.cB i) cs with
    | none=>simp[h1] at h
    | some p=>
     obtain⟨ys,r1,l1⟩:=p
     simp only[h1] at h
     cases h2:mF f l1 fG r1 with
     | none=>simp[h2] at h
     | some p=>
      obtain⟨zs,r2,l2⟩:=p
      simp only[h2,Option.some.injEq,Prod.mk.injEq] at h
      obtain⟨rfl,rfl,rfl⟩:=h
      obtain⟨a,Cq,Hi,la,rfl,k1,k2,k3,k4⟩:=ih (fun t ht=>dC.val i t ht) hl aR h1
      obtain⟨b,NJ,NK,lb,rfl,m1,m2,m3,m4⟩:=ih (fun t ht=>hv t (by simp[ht])) k4 k3 h2
      obtain⟨c,c1,c2⟩:=Iv (t:= .st i) (v:=aC.fD i a) (Dt k1) m1
      refine⟨c,Cq++NJ,NK,lb,by simp,c1,?_,m3,m4⟩
      rw[c2]
      have e:((Ty.st i).enc (aC.fD i a)).cells=cellsOf (aC.cB i) (aC.un i (aC.fD i a)):=cP.cells i (aC.fD i a)
      rw[e,aC.sd]
      exact Oh _ _ _ _ _ _ _ k2 m2
   cases aR with
   | nil=>exfalso;cases t<;>simp_all [mF]
   | cons hc hr=>
    rename_i c u cs us
    have hm:mF (f+1) lX (t::fG) (c::cs)=match kg lX t c with
     | some (x,l1)=>(match mF f l1 fG cs with | some (ys,r,l2)=>some (x::ys,r,l2) | none=>none)
     | none=>none:=by cases t<;>first | rfl | exact absurd ⟨_,rfl⟩ c7
    rw[hm] at h
    cases h1:kg lX t c with
    | none=>simp[h1] at h
    | some p=>
     obtain⟨x,l1⟩:=p
     simp only[h1] at h
     cases h2:mF f l1 fG cs with
     | none=>simp[h2] at h
     | some p=>
      obtain⟨ys,r1,l2⟩:=p
      simp only[h2,Option.some.injEq,Prod.mk.injEq] at h
      obtain⟨rfl,rfl,rfl⟩:=h
      obtain⟨v,la,k1,k2,_,k4⟩:=Nw hl hc h1 (fun cs e=>by subst e;simp[kg] at h1)
      obtain⟨b,NJ,NK,lb,rfl,m1,m2,m3,m4⟩:=ih (fun t ht=>hv t (by simp[ht])) k4 hr h2
      obtain⟨c',c1,c2⟩:=Iv k1 m1
      refine⟨c',u::NJ,NK,lb,rfl,c1,?_,m3,m4⟩
      have hs:cj t=false:=by cases t<;>simp_all [cj]
      have SY:=hv t (by simp)
      rw[c2,(nD hs SY.1 SY.2 v).1]
      simp only[dW,k2,m2]
      rfl
theorem Hg (hl:RL ρ lX l) {t:Ty} {x:TX} {u:T} {y:X} {kq:List AX} (hx:RX ρ x u) (h:ph lX t x=some (y,kq)):∃ (v:t.den) (l':List AO),y.den ρ=some ⟨t,v⟩∧ei l u=some (t.enc v,l')∧RL ρ kq l':=by
 by_cases ha:∃ cs,x = .agg cs
 ·obtain⟨cs,rfl⟩:=ha
  simp only[ph] at h
  split at h
  ·rename_i i
   split at h
   ·rename_i xs l1 h1
    simp only[Option.some.injEq,Prod.mk.injEq] at h
    obtain⟨rfl,rfl⟩:=h
    have main:∀ ts:List T,F2 (RX ρ) cs ts→∃ (a:(aQ (aC.cB i)).den) (l':List AO),lP ρ (aC.cB i) xs a∧dW l ts=some (cellsOf (aC.cB i) a,l')∧RL ρ l1 l':=by
     intro ts gA
     obtain⟨a,Cq,Hi,la,rfl,k1,k2,k3,k4⟩:=aiW _ (fun t ht=>dC.val i t ht) hl gA h1
     cases k3
     exact⟨a,la,k1,by simpa using k2,k4⟩
    have eq:∀ a:(aQ (aC.cB i)).den,D.agg (cellsOf (aC.cB i) a)=Ty.enc (.st i) (aC.fD i a):=fun a=>by
     have e:Ty.enc (.st i) (aC.fD i a) = .agg (aC.cells i (aC.fD i a)):=rfl
     rw[e,cP.cells,aC.sd]
    cases hx with
    | agg _ ts h2 h3=>
     obtain⟨a,la,k1,k2,k3⟩:=main ts (F2.of h2 h3)
     exact⟨aC.fD i a,la,Dt k1,by simp only[ei,k2];rw[eq],k3⟩
    | kD _ ds h2 h3=>
     obtain⟨a,la,k1,k2,k3⟩:=main (ds.map .d) (F2.of (by simpa using h2) fun j c t hc ht=>by
      simp only[List.getElem?_map,Option.map_eq_some_iff] at ht
      obtain⟨d,hd,rfl⟩:=ht
      exact h3 j c d hc hd)
     have hd:∀ ds:List D,dW l (ds.map .d)=some (ds,l):=by
      intro ds
      induction ds with
      | nil=>rfl
      | cons d ds ih=>simp only[List.map_cons,dW,dp,ih]
     rw[hd] at k2
     simp only[Option.some.injEq,Prod.mk.injEq] at k2
     obtain⟨e1,rfl⟩:=k2
     exact⟨aC.fD i a,l,Dt k1,by rw[←eq,←e1];rfl,k3⟩
   cases h
  cases h
 have:ph lX t x=kg lX t x:=by
  cases x<;>simp_all [ph]
 rw[this] at h
 obtain⟨v,l',h1,_,h3,h4⟩:=Nw hl hx h (fun cs e=>ha ⟨cs,e⟩)
 exact⟨v,l',h1,h3,h4⟩
end
end Go.Sy
namespace Go.Sy
open Go Go.aj
variable [aC] [cZ] [cP] [dC] [bh]
section
variable {P:Program} {V:Env} {C:Cx} {o:Oper} {ρX:Operand→TX} {ρT:Operand→T} {lX:List AX} {l:List AO} {n nid:Nat} {cs:List Callee} {ρ ρ':aO} {q:fx}
theorem vA {a b:X} {i j:IntKind} {u v:Int} (h1:a.den ρ=some ⟨.int i,u⟩) (h2:b.den ρ=some ⟨.int j,v⟩):(X.u2 .le a b).den ρ=some ⟨.bool,leI u v⟩:=by simp only[X.den,h1,h2,dV]
theorem CK {a b:X} {u v:Bool} (h1:a.den ρ=some ⟨.bool,u⟩) (h2:b.den ρ=some ⟨.bool,v⟩):(X.u2 .and a b).den ρ=some ⟨.bool,u&&v⟩:=by simp only[X.den,h1,h2,dV]
theorem Lo {a:X} {t:Ty} {zs:List t.den} (h:a.den ρ=some ⟨.list t,zs⟩):(rA a).den ρ=some ⟨.int .i64,(zs.length:Int)⟩:=by simp only[rA,X.den,h,ki]
theorem KT (m:Int):(iX m).den ρ=some ⟨.int .i64,m⟩:=rfl
theorem W3 {u:Ty} {zs:List u.den} {xs y:X} {lo hi:Option Operand} {is:List Ins} (hx:xs.den ρ=some ⟨.list u,zs⟩) (fm:∀ a,lo=some a→RX ρ (ρX a) (ρT a)) (lH:∀ a,hi=some a→RX ρ (ρX a) (ρT a))
  (h:G7 xs (lo.map ρX) (hi.map ρX)=some (is,y)) (dN:cU cs n ρ is ρ'):ρ'=ρ∧∃ r,mB (.d (.slice u.size (zs.map u.enc))) (lo.map ρT) (hi.map ρT)=r∧r.ob∧r.bn = .none∧RX ρ (.d (.list u) y) r.t:=by
 unfold G7 at h
 split at h
 ·rename_i e1 e2
  simp only[Option.some.injEq,Prod.mk.injEq] at h
  obtain⟨rfl,rfl⟩:=h
  cases dN
  have:lo=none:=by simpa using e1
  subst this
  have:hi=none:=by simpa using e2
  subst this
  exact⟨rfl,_,rfl,trivial,rfl,wu hx⟩
 ·rename_i k a e1 e2
  simp only[Option.some.injEq,Prod.mk.injEq] at h
  obtain⟨rfl,rfl⟩:=h
  have:hi=none:=by simpa using e2
  subst this
  obtain⟨la,rfl,uU⟩:=Option.map_eq_some_iff.1 e1
  have ha:=fm la rfl
  rw[uU] at ha
  obtain⟨m,gl,jq⟩:=lN ha
  obtain⟨k1,k2⟩:=oB dN
  cases k2
  rw[CK (vA (KT 0) gl) (vA gl (Lo hx))] at k1
  have k1:(leI 0 m&&leI m (zs.length:Int))=true:=jO k1
  refine⟨rfl,⟨.d (.slice u.size ((zs.map u.enc).drop m.toNat)),.none,0≤m∧m≤(zs.map u.enc).length⟩,by simp only[mB,Option.map_some,Option.map_none,jq,eg],by simpa using k1,rfl,?_⟩
  show RX _ _ (.d (.slice u.size ((zs.map u.enc).drop m.toNat)))
  rw[←List.map_drop]
  exact wu (by simp only[X.den,hx,gl,dV])
 ·rename_i k b e1 e2
  simp only[Option.some.injEq,Prod.mk.injEq] at h
  obtain⟨rfl,rfl⟩:=h
  have:lo=none:=by simpa using e1
  subst this
  obtain⟨lb,rfl,Ad⟩:=Option.map_eq_some_iff.1 e2
  have hb:=lH lb rfl
  rw[Ad] at hb
  obtain⟨m,gl,jq⟩:=lN hb
  obtain⟨k1,k2⟩:=oB dN
  cases k2
  rw[CK (vA (KT 0) gl) (vA gl (Lo hx))] at k1
  have k1:(leI 0 m&&leI m (zs.length:Int))=true:=jO k1
  refine⟨rfl,⟨.d (.slice u.size ((zs.map u.enc).take m.toNat)),.none,0≤m∧m≤(zs.map u.enc).length⟩,by simp only[mB,Option.map_some,Option.map_none,jq,eg],by simpa using k1,rfl,?_⟩
  show RX _ _ (.d (.slice u.size ((zs.map u.enc).take m.toNat)))
  rw[←List.map_take]
  exact wu (by simp only[X.den,hx,gl,dV])
 ·rename_i k a k' b e1 e2
  simp only[Option.some.injEq,Prod.mk.injEq] at h
  obtain⟨rfl,rfl⟩:=h
  obtain⟨la,rfl,uU⟩:=Option.map_eq_some_iff.1 e1
  obtain⟨lb,rfl,Ad⟩:=Option.map_eq_some_iff.1 e2
  have ha:=fm la rfl
  rw[uU] at ha
  obtain⟨m,gl,jq⟩:=lN ha
  have hb:=lH lb rfl
  rw[Ad] at hb
  obtain⟨m',Kg,hm4⟩:=lN hb
  obtain⟨k1,k2⟩:=oB dN
  cases k2
  rw[CK (vA (KT 0) gl) (CK (vA gl Kg) (vA Kg (Lo hx)))] at k1
  have k1:(leI 0 m&&(leI m m'&&leI m' (zs.length:Int)))=true:=jO k1
  refine⟨rfl,⟨.d (.slice u.size (((zs.map u.enc).take m'.toNat).drop m.toNat)),.none,0≤m∧m≤m'∧m'≤(zs.map u.enc).length⟩,by simp only[mB,Option.map_some,jq,hm4,eg],by simpa using k1,rfl,?_⟩
  show RX _ _ (.d (.slice u.size (((zs.map u.enc).take m'.toNat).drop m.toNat)))
  rw[←List.map_take,←List.map_drop]
  exact wu (by simp only[X.den,hx,gl,Kg,dV])
 cases h
theorem ck.list (hC:ck P V C) {t:TypeId} {u:Ty} (ht:C.ty t=some (.list u)):∃ sz bt z e i,V.E t=some ⟨sz,bt,z,.slice e⟩∧V.E e=some i∧i.size=u.size∧i.desc.agg=cj u∧isVal u∧0 < u.size∧C.ty e=some u:=by
 obtain⟨i,gk,ij,gy,hv,hd,hz⟩:=hC.info ht
 clear hz
 obtain⟨sz,bt,z,d⟩:=i
 cases d<;>simp[uy] at hd
 rename_i e
 obtain⟨⟨⟨h1,h2⟩,h3⟩,h4⟩:=hd
 obtain⟨i,k0,k1,k2,k3,_⟩:=hC.info h1
 exact⟨sz,bt,z,e,i,gk,k0,k1,k2,k3,by omega,h1⟩
theorem Nb {id:Nat} {u:T} (h:RX ρ (.row id) u):u = .row id:=by cases h;rfl
theorem UL {id:Nat} {u:T} (h:RX ρ (.map id) u):u = .map id:=by cases h;rfl
theorem ah4 (hC:ck P V C) {t:TypeId} {x:Operand} {lo hi:Option Operand} (ho:o.op = .slice t x lo hi none) (hl:RL ρ lX l) (hX:∀ x∈o.op.operands,RX ρ (ρX x) (ρT x)) (h:dK C ρX lX n nid o=some q) (dN:cU cs n ρ q.ins ρ'):ed P o ρT l nid ρ' q:=by
 have hx:=hX x (by simp[ho,Op.operands])
 have fm:∀ a,lo=some a→RX ρ (ρX a) (ρT a):=fun a e=>hX a (by subst e;simp[ho,Op.operands])
 have lH:∀ a,hi=some a→RX ρ (ρX a) (ρT a):=fun a e=>hX a (by subst e;simp[ho,Op.operands])
 simp only[dK,ho] at h
 split at h
 ·rename_i u u' xs dZ e1
  split at h
  ·rename_i e2;subst e2
   obtain⟨sz,bt,z,e,i,g1,g2,g3,g4,g5,g6,_⟩:=hC.list dZ
   simp only[Option.map_eq_some_iff] at h
   obtain⟨⟨is,y⟩,hs,rfl⟩:=h
   rw[e1] at hx
   obtain⟨zs,h1,h2⟩:=LC hx
   obtain⟨rfl,r,k1,k2,k3,k4⟩:=W3 h1 fm lH hs dN
   have he:evalOp V ρT l nid o=r:=by
    simp only[evalOp,ho,g1,h2]
    rw[if_pos ⟨by simp[bq,g2,g3],by simp[g2]⟩]
    exact k1
   exact .val hC.ok he k2 k3 k4
  cases h
 ·rename_i u id dZ e1
  obtain⟨sz,bt,z,e,i,g1,g2,g3,g4,g5,g6,_⟩:=hC.list dZ
  split at h
  ·rename_i xs l' hd
   simp only[Option.map_eq_some_iff] at h
   obtain⟨⟨is,y⟩,hs,rfl⟩:=h
   rw[e1] at hx
   have hT:ρT x = .row id:=Nb hx
   rw[hT] at hx
   obtain⟨v,la,h1,_,h3,h4⟩:=Nw hl hx hd (fun _ e=>by cases e)
   obtain⟨rfl,r,k1,k2,k3,k4⟩:=W3 (u:=u) (zs:=v) h1 fm lH hs dN
   have h3:ei l (.row id)=some (.slice u.size (List.map u.enc v),la):=h3
   have he:evalOp V ρT l nid o=⟨r.t,.aP la,r.ob⟩:=by
    simp only[evalOp,ho,g1,hT,hC.sub,h3]
    rw[if_neg (by simp)]
    rw[if_pos ⟨by simp[bq,g2,g3],by simp[g2]⟩,k1]
   exact⟨_,k4,la,h4,fun hn=>bV.aP hC.ok he k2 rfl hn⟩
  cases h
 cases h
theorem VJ {place:Nat→Option (Nat×Nat)}:∀ {ps:List (Nat×Operand)} {cX C0:List TX} {cT:List T},(∀ p∈ps,RX ρ (ρX p.2) (ρT p.2))→F2 (RX ρ) cX cT→BT place cX (ps.map fun p=>(p.1,ρX p.2))=some C0 →
  ∃ CZ,oy place cT (ps.map fun p=>(p.1,ρT p.2))=some CZ∧F2 (RX ρ) C0 CZ
 | [],cX,C0,cT,_,hc,h=>by simp[BT] at h;subst h;exact⟨cT,rfl,hc⟩
 | p::ps,cX,C0,cT,hp,hc,h=>by
  simp only[List.map_cons,BT] at h
  split at h
  ·rename_i off size vs e1 e2
   cases hg:(Nat.beq vs.length size&&Nat.ble (off+size) cX.length) with
   | false=>simp[hg] at h
   | true=>
    simp only[hg,cond_true] at h
    simp only[Bool.and_eq_true] at hg
    have g1:=Nat.eq_of_beq_eq_true hg.1;have g2:=Nat.le_of_ble_eq_true hg.2
    obtain⟨k1,k2⟩:=Dd (hp p (by simp)) e2
    obtain⟨CZ,h1,h2⟩:=VJ (fun q hq=>hp q (by simp[hq])) (WX (off:=off) hc k1) h
    refine⟨CZ,?_,h2⟩
    simp only[List.map_cons,oy,e1]
    rw[if_pos ⟨by rw[←k1.len,g1],by rw[←hc.len];exact g2,k2⟩]
    exact h1
  cases h
theorem YM (hC:ck P V C) {t:TypeId} {parts:Array (Nat×Operand)} (ho:o.op = .build t parts) (hX:∀ x∈o.op.operands,RX ρ (ρX x) (ρT x)) (h:dK C ρX lX n nid o=some q) (hi:cU cs n ρ q.ins ρ'):ed P o ρT l nid ρ' q:=by
 have hp:∀ p∈parts.toList,RX ρ (ρX p.2) (ρT p.2):=fun p hp=>hX p.2 (by simp[ho,Op.operands];exact⟨p.1,by simpa using hp⟩)
 simp only[dK,ho] at h
 split at h
 ·rename_i s1 s2 z fs u hE dZ
  obtain⟨i,gk,ij,gy,hv,hd,oM⟩:=hC.info dZ
  obtain⟨zc,AD,kU⟩:=XZ (ρ:=ρ) oM
  rw[hC.E,hE] at gk
  simp only[Option.some.injEq] at gk
  subst gk
  rw[AD] at h
  simp only[Option.bind_eq_some_iff,Option.map_eq_some_iff] at h
  obtain⟨ds,h1,v,h2,rfl⟩:=h
  cases hi
  obtain⟨dT,k1,k2⟩:=VJ (ρX:=ρX) (ρT:=ρT) hp kU h1
  have hu:cj u=true:=by
   have:(TD.struct fs).agg=true:=rfl
   rw[←gy];rfl
  have bA:fs.all (fun f=>(V.E f.2).isSome)=true:=by
   rw[hC.E]
   cases u<;>first | exact hd | (simp[uy] at hd;done) | (simp[cj] at hu;done)
  have hm:=Fj hv k2 h2
  rw[hu] at hm
  have he:evalOp V ρT l nid o = .ok (jy true dT):=by
   simp only[evalOp,ho,hC.E,hE]
   rw[hC.E] at bA
   rw[if_pos bA,k1]
  exact .val hC.ok he trivial rfl hm
 cases h
theorem yR:∀ {fG:List Ty} {xs:List TX} {us:List T} {ys:List X} {lX kq:List AX} {l:List AO},RL ρ lX l→F2 (RX ρ) xs us→kh lX fG xs=some (ys,kq) →
  ∃ (a:(aQ fG).den) (l':List AO),lP ρ fG ys a∧gG l us=some (eT fG a,l')∧RL ρ kq l'
 | [],[],[],ys,lX,kq,l,hl,hx,h=>by
  simp only[kh,Option.some.injEq,Prod.mk.injEq] at h
  obtain⟨rfl,rfl⟩:=h
  exact⟨(),l,⟨rfl,fun j t h=>by simp at h⟩,rfl,hl⟩
 | t::ts,x::xs,u::us',ys,lX,kq,l,hl,.cons hx dw,h=>by
  simp only[kh] at h
  cases h1:ph lX t x with
  | none=>simp[h1] at h
  | some p=>
   obtain⟨y,l1⟩:=p
   simp only[h1] at h
   cases h2:kh l1 ts xs with
   | none=>simp[h2] at h
   | some p=>
    obtain⟨zs,l2⟩:=p
    simp only[h2,Option.some.injEq,Prod.mk.injEq] at h
    obtain⟨rfl,rfl⟩:=h
    obtain⟨v,la,k1,k2,k3⟩:=Hg hl hx h1
    obtain⟨a,lb,m1,m2,m3⟩:=yR k3 dw h2
    cases ts with
    | nil=>
     refine⟨v,lb,⟨by simp[m1.1],fun j w hw=>?_⟩,?_,m3⟩
     ·cases j with
      | zero=>simp at hw;subst hw;exact⟨y,rfl,by simpa [dm] using k1⟩
      | succ j=>simp at hw
     simp only[gG,k2,m2,eT]
    | cons t' ts=>
     refine⟨(v,a),lb,⟨by simp[m1.1],fun j w hw=>?_⟩,?_,m3⟩
     ·cases j with
      | zero=>simp at hw;subst hw;exact⟨y,rfl,by simpa [dm] using k1⟩
      | succ j=>
       obtain⟨z,hz,hd⟩:=m1.2 j w (by simpa using hw)
       exact⟨z,by simpa using hz,by simpa [dm] using hd⟩
     simp only[gG,k2,m2];rfl
 | [],[],_::_,_,_,_,_,_,hx,_=>by cases hx
 | _::_,_::_,[],_,_,_,_,_,hx,_=>by cases hx
 | [],_::_,_,_,_,_,_,_,_,h=>by simp[kh] at h
 | _::_,[],_,_,_,_,_,_,_,h=>by simp[kh] at h
theorem Ut {u:Ty}:∀ {k:Nat} {xs:List X} {a:(aQ (List.replicate k u)).den},lP ρ (List.replicate k u) xs a→∃ zs:List u.den,(AV u xs).den ρ=some ⟨.list u,zs⟩∧eT (List.replicate k u) a=zs.map u.enc∧zs.length=k
 | 0,xs,a,h=>by
  have:xs=[]:=by simpa using h.1
  subst this
  exact⟨[],rfl,rfl,rfl⟩
 | 1,xs,a,h=>by
  obtain⟨x,rfl⟩:∃ x,xs=[x]:=by
   have:=h.1
   match xs,this with
   | [x],_=>exact⟨x,rfl⟩
  obtain⟨y,hy,hd⟩:=h.2 0 u rfl
  simp at hy;subst hy
  refine⟨[a],?_,rfl,rfl⟩
  have hd:x.den ρ=some ⟨u,a⟩:=hd
  have hc:e9 u ⟨u,a⟩=some a:=l7 u a
  simp only[AV,X.den,hd,dV,hc]
 | k+2,xs,a,h=>by
  obtain⟨x,r,rfl⟩:∃ x r,xs=x::r:=by
   have:=h.1
   match xs,this with
   | x::r,_=>exact⟨x,r,rfl⟩
  obtain⟨y,hy,hd⟩:=h.2 0 u (by simp[List.replicate_succ])
  simp at hy;subst hy
  have hd:x.den ρ=some ⟨u,a.1⟩:=hd
  obtain⟨zs,h1,h2,h3⟩:=Ut (k:=k+1) (xs:=r) (a:=a.2) ⟨by have:=h.1;simpa using this,fun j t ht=>by
   obtain⟨z,hz,KQ⟩:=h.2 (j+1) t (by simpa [List.replicate_succ] using ht)
   exact⟨z,by simpa using hz,by simpa [dm,List.replicate_succ] using KQ⟩⟩
  refine⟨a.1::zs,?_,?_,by simp[h3]⟩
  ·have hc:e9 u ⟨u,a.1⟩=some a.1:=l7 u a.1
   simp only[AV,X.den,hd,h1,dV,hc]
  show u.enc a.1::eT (List.replicate (k+1) u) a.2=_
  rw[h2];rfl
end
end Go.Sy
namespace Go.Sy
open Go Go.aj
variable [aC] [cZ] [cP] [dC] [bh]
section
variable {P:Program} {V:Env} {C:Cx} {o:Oper} {ρX:Operand→TX} {ρT:Operand→T} {lX:List AX} {l:List AO} {n nid:Nat} {cs:List Callee} {ρ ρ':aO} {q:fx}
theorem af2 (hC:ck P V C) {t:TypeId} {len:Nat} {parts:Array (Nat×Operand)} (ho:o.op = .buildSlice t len parts) (hl:RL ρ lX l) (hX:∀ x∈o.op.operands,RX ρ (ρX x) (ρT x)) (h:Mk C lX nid t len (parts.toList.map fun p=>(p.1,ρX p.2))=some q) (hi:cU cs n ρ q.ins ρ'):ed P o ρT l nid ρ' q:=by
 have hp:∀ p∈parts.toList,RX ρ (ρX p.2) (ρT p.2):=fun p hp=>hX p.2 (by simp[ho,Op.operands];exact⟨p.1,by simpa using hp⟩)
 unfold Mk at h
 split at h
 ·rename_i s1 s2 z e u p hE dZ iH
  obtain⟨sz,bt,z',e',i,g1,g2,g3,g4,g5,g6,g7⟩:=hC.list dZ
  have DO:=hE
  rw[←hC.E] at DO
  rw[hC.E,hE] at g1
  simp only[Option.some.injEq,TI.mk.injEq,TD.slice.injEq] at g1
  obtain⟨rfl,rfl,rfl,rfl⟩:=g1
  obtain⟨x,Ed,KO⟩:∃ x,parts = #[(0,x)]∧ρX x=p:=by
   obtain⟨ps⟩:=parts
   match ps,iH with
   | [(k,x)],iH=>
    simp only[List.map_cons,List.map_nil,List.cons.injEq,Prod.mk.injEq,and_true] at iH
    obtain⟨rfl,rfl⟩:=iH
    exact⟨x,rfl,rfl⟩
  have hx:=hp (0,x) (by rw[Ed];simp)
  dsimp only at hx
  rw[KO] at hx
  cases hg:(Nat.beq len 1&&cj u&&Nat.ble u.size 16777216) with
  | false=>simp[hg] at h
  | true=>
   simp only[hg,cond_true] at h
   simp only[Bool.and_eq_true] at hg
   obtain⟨⟨DW,DX⟩,hg3⟩:=hg
   have hlen:=Nat.eq_of_beq_eq_true DW
   subst hlen
   have jX:=Nat.le_of_ble_eq_true hg3
   cases hb:(C.CV.any fun i=>Nat.beq i t) with
   | true=>
    simp only[hb,cond_true] at h
    split at h
    ·rename_i cs aR
     cases hn:Nat.beq cs.length u.size with
     | false=>simp[hn] at h
     | true=>
      simp only[hn,cond_true,Option.some.injEq] at h
      subst h
      cases hi
      obtain⟨k1,k2⟩:=Dd hx aR
      have ee:(bu (ρT x)).length=i.size:=by rw[←k1.len,Nat.eq_of_beq_eq_true hn,g3]
      refine⟨.bL nid 1,.bL _ _,.var e (bu (ρT x)),.var _ _ _ k1,fun mi=>?_,fun hd=>?_⟩
      ·subst mi
       exact bV.app (bV.OJ hC.ok.E ho Ed DO g2 (by omega) (by omega) k2 ee (by simp))
      exact bV.OJ hC.ok.E ho Ed DO g2 (by omega) (by omega) k2 ee hd
    cases h
   | false=>
    simp only[hb,cond_false] at h
    split at h
    ·rename_i u' y
     split at h
     ·rename_i hu;subst hu
      simp only[Option.some.injEq] at h
      subst h
      cases hi
      obtain⟨hv,v,k1,k2⟩:=l9 hx
      have JJ:(X.u2 .cons y (.nil u')).den ρ=some ⟨.list u',[v]⟩:=by
       have JH:e9 u' ⟨u',v⟩=some v:=by simp[e9]
       simp only[X.den,k1,dV,JH]
      refine⟨.row nid,.row _,l++[.row e u'.size ([v].map u'.enc)],F2.app hl (.cons (.row e u' _ [v] hv JJ) .nil),fun mi=>?_⟩
      subst mi
      have:=bV.YJ (l:=l) hC.ok.E ho Ed DO g2 (by omega) (by omega) k2 (by rw[lx hv,g3]) (xl hv v)
      rw[g3] at this
      exact this
     cases h
    cases h
 cases h
end
end Go.Sy
namespace Go.Sy
open Go Go.aj
variable [aC] [cZ] [cP] [dC] [bh]
section
variable {P:Program} {V:Env} {C:Cx} {o:Oper} {ρX:Operand→TX} {ρT:Operand→T} {lX:List AX} {l:List AO} {n nid:Nat} {cs:List Callee} {ρ ρ':aO} {q:fx}
theorem XL:∀ {us:List T} {ds:List D},us.mapM kj=some ds→gG l us=some (ds,l)
 | [],ds,h=>by simp at h;subst h;rfl
 | u::us,ds,h=>by
  simp only[List.mapM_cons,Option.bind_eq_bind,Option.bind_eq_some_iff,Option.pure_def,Option.some.injEq] at h
  obtain⟨x,hx,xs,dw,rfl⟩:=h
  have:ei l u=some (x,l):=by
   cases u<;>simp[kj] at hx<;>subst hx<;>rfl
  simp only[gG,this,XL dw]
theorem aas {ps:List (Nat×Operand)} (h:∀ p∈ps,RX ρ (ρX p.2) (ρT p.2)):F2 (RX ρ) (ps.map fun p=>ρX p.2) (ps.map fun p=>ρT p.2):=by
 induction ps with
 | nil=>exact .nil
 | cons p ps ih=>exact .cons (h p (by simp)) (ih fun q hq=>h q (by simp[hq]))
theorem YK (hC:ck P V C) {t:TypeId} {len:Nat} {parts:Array (Nat×Operand)} (ho:o.op = .buildSlice t len parts) (hl:RL ρ lX l) (hX:∀ x∈o.op.operands,RX ρ (ρX x) (ρT x)) (h:dK C ρX lX n nid o=some q) (hi:cU cs n ρ q.ins ρ'):ed P o ρT l nid ρ' q:=by
 have hp:∀ p∈parts.toList,RX ρ (ρX p.2) (ρT p.2):=fun p hp=>hX p.2 (by simp[ho,Op.operands];exact⟨p.1,by simpa using hp⟩)
 simp only[dK,ho] at h
 cases dt:Vv C t with
 | true=>
  rw[dt] at h;simp only[cond_true] at h
  exact af2 hC ho hl hX h hi
 | false=>
 rw[dt] at h;simp only[cond_false] at h
 split at h
 ·rename_i s1 s2 z e u hE dZ
  obtain⟨sz,bt,z',e',i,g1,g2,g3,g4,g5,g6,g7⟩:=hC.list dZ
  rw[hC.E,hE] at g1
  simp only[Option.some.injEq,TI.mk.injEq,TD.slice.injEq] at g1
  obtain⟨rfl,rfl,rfl,rfl⟩:=g1
  have aK:bq V.E e=u.size:=by simp[bq,g2,g3]
  cases hlen:Nat.beq len 0 with
  | true=>
   have:=Nat.eq_of_beq_eq_true hlen
   subst this
   simp only[Nat.beq_refl,cond_true] at h
   cases nO:parts.toList.isEmpty with
   | false=>simp[nO] at h
   | true=>
    simp only[nO,cond_true,Option.some.injEq] at h
    subst h
    cases hi
    have he:evalOp V ρT l nid o=⟨.row nid,.aP (l++[.row e (bq V.E e) []]),parts.toList.isEmpty=true⟩:=by
     simp only[evalOp,ho,hC.E,hE]
     rw[if_pos (by rw[←hC.E];exact⟨by simp[g2],by rw[aK];exact g6⟩)]
     simp
    rw[aK] at he
    exact⟨_,.row nid,_,F2.app hl (.cons (.row e u _ ([]:List u.den) g5 rfl) .nil),fun hn=>bV.aP hC.ok he nO rfl hn⟩
  | false=>
   simp only[hlen,cond_false] at h
   cases hg:(decide (parts.toList.map (·.1)=List.range len)&&Nat.ble (len*u.size) 16777216) with
   | false=>simp[hg] at h
   | true=>
    simp only[hg,cond_true] at h
    simp only[Bool.and_eq_true,decide_eq_true_eq] at hg
    have k2:=Nat.le_of_ble_eq_true hg.2
    split at h
    ·rename_i xs l1 hd
     simp only[Option.some.injEq] at h
     subst h
     cases hi
     obtain⟨a,la,m1,m2,m3⟩:=yR hl (aas (ρX:=ρX) (ρT:=ρT) hp) hd
     obtain⟨zs,c1,c2,c3⟩:=Ut m1
     have SB:len≠0:=by rintro rfl;simp at hlen
     have bA:(zs.map u.enc).all (fun d=>d.cells.length == u.size&&d.cells.all D.one)=true:=by
      rw[List.all_eq_true]
      intro d hd
      obtain⟨z,_,rfl⟩:=List.mem_map.1 hd
      rw[lx g5]
      simp only[beq_self_eq_true,Bool.true_and,List.all_eq_true]
      exact xl g5 z
     rw[c2] at m2
     have fe:parts.toList.map (·.1)=List.range len∧len*u.size≤16777216∧(zs.map u.enc).all (fun d=>d.cells.length == u.size&&d.cells.all D.one)=true:=⟨hg.1,k2,bA⟩
     cases hm:parts.toList.mapM (fun p=>kj (ρT p.2)) with
     | some ds=>
      have Kf:(parts.toList.map fun p=>ρT p.2).mapM kj=some ds:=by rw[List.mapM_map];exact hm
      have:=XL (l:=l) Kf
      rw[this] at m2
      simp only[Option.some.injEq,Prod.mk.injEq] at m2
      obtain⟨rfl,rfl⟩:=m2
      have he:evalOp V ρT l nid o = .ok (.d (.slice u.size (zs.map u.enc))):=by
       simp only[evalOp,ho,hC.E,hE,hm]
       rw[if_pos (by rw[←hC.E];exact⟨by simp[g2],by rw[aK];exact g6⟩),if_neg SB,←hC.E,aK,if_pos fe]
      exact⟨_,wu c1,_,m3,fun hn=>bV.none hC.ok he trivial rfl⟩
     | none=>
      have he:evalOp V ρT l nid o=⟨.d (.slice u.size (zs.map u.enc)),.aP la,True⟩:=by
       simp only[evalOp,ho,hC.E,hE,hm,m2]
       rw[if_pos (by rw[←hC.E];exact⟨by simp[g2],by rw[aK];exact g6⟩),if_neg SB,←hC.E,aK,if_pos fe]
      exact⟨_,wu c1,_,m3,fun hn=>bV.aP hC.ok he trivial rfl hn⟩
    cases h
 cases h
theorem bV.NS {iB lV:Operand→T} {t t':T} {l':List AO} (h:bV P o iB l t l') (hx:∀ (w0:World) (I0:aw) (w:World) (I:aw) (m:Nat→Value) x v,aF w0 I0 w I m l→aq I m l v (lV x)→aq I m l v (iB x))
  (ht:∀ (I:aw) (m:Nat→Value) v,aq I m l' v t→aq I m l' v t'):bV P o lV l t' l':=
 ⟨h.1,fun w0 I0 w I m ρ hr AE=>(h.2 w0 I0 w I m ρ hr fun x Es=>hx w0 I0 w I m x _ hr (AE x Es)).mono fun v w' ⟨J,m',h1,h2,h3⟩=>⟨J,m',h1,h2,ht _ _ _ h3⟩⟩
def pX (l:List AO):T→T
 | .row id=>match l[id]? with
  | some (.bx _ s els)=> .bD id (.slice s els)
  | _=> .row id
 | t=>t
theorem aeo {w0 w:World} {I0 I:aw} {m:Nat→Value} {v:Value} {t:T} (ah:aF w0 I0 w I m l) (h:aq I m l v t):aq I m l v (pX l t):=by
 unfold pX
 split
 ·rename_i id
  split
  ·rename_i e s els ho
   have h2:=h
   cases h with
   | row A n c _ h1 h3=>
    have hr:isRow l id=true:=by simp[isRow,ho,AO.isRow]
    obtain⟨xs,k1,k2,k3,k4⟩:=ah.obj id _ ho
    have hm:=h3 hr
    rw[hm] at k1 k4
    exact .bD _ _ _ _ _ h1 h3 (yB k1 k2 k3 fun b hb j x hx=>(k4 b hb).2.1 j x hx)
  exact h
 exact h
theorem aep (t:T):ei l (pX l t)=ei l t:=by
 unfold pX
 split
 ·rename_i id
  cases h:l[id]? with
  | none=>rfl
  | some o=>cases o<;>simp[ei,dp,h]
 rfl
theorem I9 {y:X} {b:Nat} {t:Ty} {zs:List t.den} (hy:y.den ρ=some ⟨.list t,zs⟩) (h:(X.u1 (.fit b) y).den ρ=some ⟨.bool,true⟩):zs.length*b≤140737488355328∧zs.length≤9223372036854775807:=by
 simp only[X.den,hy,ki] at h
 have h:decide (zs.length*b≤140737488355328∧zs.length≤9223372036854775807)=true:=jO h
 simpa using h
theorem Of {x y:X} {t:Ty} {xs ys:List t.den} (h1:x.den ρ=some ⟨.list t,xs⟩) (h2:y.den ρ=some ⟨.list t,ys⟩):(X.u2 .app x y).den ρ=some ⟨.list t,xs++ys⟩:=by
 have hc:e9 (.list t) ⟨.list t,ys⟩=some ys:=l7 (.list t) ys
 simp only[X.den,h1,h2,dV,hc]
 rfl
theorem Xy {t:T} {d:D} {l':List AO} {id e s:Nat} {els:List D} (hl:l[id]?=some (.bx e s els)) (h:dp l t=some (d,l')):l'[id]?=some (.bx e s els):=by
 cases t with
 | d x=>simp only[dp,Option.some.injEq,Prod.mk.injEq] at h;rw[←h.2];exact hl
 | bC s=>simp only[dp,Option.some.injEq,Prod.mk.injEq] at h;rw[←h.2];exact hl
 | bD i x=>simp only[dp,Option.some.injEq,Prod.mk.injEq] at h;rw[←h.2];exact hl
 | row i=>
  simp only[dp] at h
  split at h
  ·simp only[Option.some.injEq,Prod.mk.injEq] at h;rw[←h.2];exact hl
  ·rename_i ho
   simp only[Option.some.injEq,Prod.mk.injEq] at h;rw[←h.2]
   have:i≠id:=by rintro rfl;rw[hl] at ho;cases ho
   rw[List.getElem?_set_ne this];exact hl
  cases h
 | map i=>
  simp only[dp] at h
  split at h
  ·simp only[Option.some.injEq,Prod.mk.injEq] at h;rw[←h.2];exact hl
  ·rename_i ho
   simp only[Option.some.injEq,Prod.mk.injEq] at h;rw[←h.2]
   have:i≠id:=by rintro rfl;rw[hl] at ho;cases ho
   rw[List.getElem?_set_ne this];exact hl
  cases h
 | _=>simp[dp] at h
theorem Oj {id e s:Nat} {els:List D}:∀ {ts:List T} {ds:List D} {l l':List AO},l[id]?=some (.bx e s els)→dW l ts=some (ds,l')→l'[id]?=some (.bx e s els)
 | [],ds,l,l',hl,h=>by simp only[dW,Option.some.injEq,Prod.mk.injEq] at h;rw[←h.2];exact hl
 | t::ts,ds,l,l',hl,h=>by
  simp only[dW] at h
  cases h1:dp l t with
  | none=>simp[h1] at h
  | some p=>
   obtain⟨x,la⟩:=p
   simp only[h1] at h
   cases h2:dW la ts with
   | none=>simp[h2] at h
   | some p=>
    obtain⟨xs,lb⟩:=p
    simp only[h2,Option.some.injEq,Prod.mk.injEq] at h
    rw[←h.2]
    exact Oj (Xy hl h1) h2
theorem aiU {t:T} {d:D} {l':List AO} {id e s:Nat} {els:List D} (hl:l[id]?=some (.bx e s els)) (h:ei l t=some (d,l')):l'[id]?=some (.bx e s els):=by
 by_cases ht:∃ ts,t = .agg ts
 ·obtain⟨ts,rfl⟩:=ht
  obtain⟨ds,_,h2⟩:=Cm h
  exact Oj hl h2
 rw[Cn (fun ts e=>ht ⟨ts,e⟩)] at h
 exact Xy hl h
theorem Fq {k:Nat} {u:T} (h:RX ρ (.bC k) u):u = .bC k:=by cases h;rfl
theorem Ym (hC:ck P V C) {c:Call} {s x:Operand} {t:TypeId} (ho:o.op = .call c) (hc:c.callee = .builtin .append) (ha:c.args.toList=[s,x]) (ep:c.argTypes.toList=[t,t]) (hl:RL ρ lX l) (hs:RX ρ (ρX s) (ρT s)) (hx:RX ρ (ρX x) (ρT x))
  (h:HC C t lX nid (ρX s) (ρX x)=some q) (hi:cU cs n ρ q.ins ρ'):ed P o ρT l nid ρ' q:=by
 have lE:∀ ρT:Operand→T,evalOp V ρT l nid o=kE V.E t l nid (ρT s) (ρT x):=by intro ρT;simp only[evalOp,ho,hc,ha,ep,if_true]
 unfold HC at h
 split at h
 ·rename_i s1 s2 z e u hE dZ
  obtain⟨sz,bt,z',e',i,g1,g2,g3,g4,g5,g6,g7⟩:=hC.list dZ
  have DN:V.E t=some ⟨s1,s2,z,.slice e⟩:=by rw[hC.E];exact hE
  rw[DN] at g1
  simp only[Option.some.injEq,TI.mk.injEq,TD.slice.injEq] at g1
  obtain⟨rfl,rfl,rfl,rfl⟩:=g1
  have sJ:bytesOf C.E e=i.bytes:=by rw[←hC.E];simp[bytesOf,g2]
  split at h
  ·rename_i y l1 hd
   obtain⟨new,la,c1,c2,c3⟩:∃ (new:List u.den) (la:List AO),y.den ρ=some ⟨.list u,new⟩∧ei l (ρT x)=some (.slice u.size (List.map u.enc new),la)∧RL ρ l1 la:=Hg hl hx hd
   have fe:(u.size=i.size∨(List.map u.enc new).isEmpty=true)∧0 < i.size:=⟨.inl g3.symm,by omega⟩
   cases KC:ρX s with
   | bC k=>
    rw[KC] at hs h
    have hT:ρT s = .bC k:=Fq hs
    simp only[Option.some.injEq] at h
    subst h
    obtain⟨k1,k2⟩:=oB hi
    cases k2
    have:=I9 c1 k1
    have he:evalOp V ρT l nid o=⟨.row nid,.aP (la++[.row e i.size (List.map u.enc new)]),(List.map u.enc new).length*i.bytes≤140737488355328∧(List.map u.enc new).length≤9223372036854775807⟩:=by
     rw[lE,hT]
     simp only[kE,DN,g2,c2]
     rw[if_pos fe]
    rw[g3] at he
    exact⟨_,.row nid,_,F2.app c3 (.cons (.row e u y new g5 c1) .nil),fun hn=>bV.aP hC.ok he (by rw[sJ] at this;show(List.map u.enc new).length*i.bytes≤140737488355328∧(List.map u.enc new).length≤9223372036854775807;rw[List.length_map];exact this) rfl hn⟩
   | row id=>
    rw[KC] at hs h
    have hT:=Nb hs
    simp only at h
    split at h
    ·rename_i fr e2 u2 zx an
     split at h
     ·rename_i eU
      obtain⟨rfl,rfl⟩:=eU
      cases eL:(Nat.beq nid l1.length&&(Ji lX id == fr)) with
      | false=>simp[eL] at h
      | true=>
       simp only[eL,cond_true,Option.some.injEq] at h
       simp only[Bool.and_eq_true] at eL
       have eK:=eL.2
       have eL:=Nat.eq_of_beq_eq_true eL.1
       subst h
       obtain⟨k1,k2⟩:=oB hi
       cases k2
       obtain⟨ao,cH,dB⟩:=F2.left c3 an
       have iY:nid=la.length:=by rw[eL];exact c3.len
       have ff:(l1.set id .dead).length=(la.set id .dead).length:=by simp[c3.len]
       cases dB with
       | row _ _ _ zs _ hz=>
        have kU:=Of hz c1
        have hf:=I9 kU k1
        have he:evalOp V ρT l nid o=⟨.row nid,.aP (la.set id .dead++[.row e2 u2.size (List.map u2.enc zs++List.map u2.enc new)]),((List.map u2.enc zs).length+(List.map u2.enc new).length)*i.bytes≤140737488355328∧(List.map u2.enc zs).length+(List.map u2.enc new).length≤9223372036854775807⟩:=by
         rw[lE,hT]
         simp only[kE,DN,g2,c2]
         rw[if_pos fe]
         simp only[cH]
         rw[if_pos ⟨trivial,g3.symm,iY⟩]
        have Kh:List.map u2.enc zs++List.map u2.enc new=List.map u2.enc (zs++new):=List.map_append.symm
        rw[Kh] at he
        exact⟨_,.row nid,_,F2.app (F2.set c3 .dead id) (.cons (.row e2 u2 _ (zs++new) g5 kU) .nil),fun hn=>bV.aP hC.ok he (by rw[sJ] at hf;simpa using hf) rfl hn⟩
       | bx _ _ _ zs _ hz=>
        have kU:=Of hz c1
        have hf:=I9 kU k1
        have fm:l[id]?=some (.bx e2 u2.size (zs.map u2.enc)):=by
         unfold Ji at eK
         split at eK
         ·rename_i fr0 e0 u0 z0 h0
          have:fr0=true:=by simpa using eK
          subst this
          obtain⟨ao0,zR,aa7⟩:=F2.left hl h0
          cases aa7 with
          | bx _ _ _ zs0 _ oM=>
           have:=aiU zR c2
           rw[cH] at this
           rw[zR,←this]
         simp at eK
        have hTk:pX l (ρT s) = .bD id (.slice u2.size (zs.map u2.enc)):=by rw[hT];simp only[pX,fm]
        have AA:ei l (pX l (ρT x))=some (.slice u2.size (List.map u2.enc new),la):=by rw[aep,c2]
        have he:evalOp V (fun y=>pX l (ρT y)) l nid o=⟨.bD nid (.slice u2.size (List.map u2.enc zs++List.map u2.enc new)),.aP (la.set id .dead++[.bx e2 u2.size (List.map u2.enc zs++List.map u2.enc new)]),((List.map u2.enc zs).length+(List.map u2.enc new).length)*i.bytes≤140737488355328∧(List.map u2.enc zs).length+(List.map u2.enc new).length≤9223372036854775807⟩:=by
         rw[lE]
         show kE V.E t l nid (pX l (ρT s)) (pX l (ρT x))=_
         rw[hTk]
         simp only[kE,DN,g2,AA]
         rw[if_pos fe]
         simp only[cH]
         rw[if_pos ⟨trivial,g3.symm,iY⟩]
        have Kh:List.map u2.enc zs++List.map u2.enc new=List.map u2.enc (zs++new):=List.map_append.symm
        rw[Kh] at he
        refine⟨.row nid,.row nid,_,F2.app (F2.set c3 .dead id) (.cons (.bx e2 u2 _ (zs++new) g5 kU) .nil),fun hn=>?_⟩
        refine(bV.aP hC.ok he (by rw[sJ] at hf;simpa using hf) rfl hn).NS (fun w0 I0 w I m x v hr hv=>aeo hr hv) (fun I m v hv=>?_)
        cases hv with
        | bD A a b _ _ p1 p2 p3=>exact .row A a b _ p1 p2
     cases h
    cases h
   | _=>rw[KC] at h;simp at h
  cases h
 cases h
end
end Go.Sy
namespace Go.Sy
open Go Go.aj
variable [aC] [cZ] [cP] [dC] [bh]
theorem EW {α:Type} {kk:IntKind} {n:Int}:∀ {m:List (Int×α)} {i j:Nat},jw n (m.map fun p=>D.int kk p.1) i=some j→∃ k e,j=i+k∧m[k]?=some e∧e.1=n∧(∀ d,bB m n d=e.2)∧fh m n=true∧(∀ y,bz m n y=m.set k (n,y))∧oR m n=m.eraseIdx k
 | [],i,j,h=>by simp[jw] at h
 | p::m,i,j,h=>by
  simp only[List.map_cons,jw] at h
  by_cases e:n=p.1
  ·rw[if_pos e] at h
   simp only[Option.some.injEq] at h
   exact⟨0,p,by omega,rfl,e.symm,fun d=>by simp[bB,e],by simp[fh,e],fun y=>by simp[bz,e],by simp[oR,e]⟩
  rw[if_neg e] at h
  obtain⟨k,e',h1,h2,h3,h4,h5,h6,h7⟩:=EW h
  have e2:¬ p.1=n:=fun x=>e x.symm
  exact⟨k+1,e',by omega,by simpa using h2,h3,fun d=>by have:=h4 d;simpa [bB,List.find?_cons,e2] using this,by simpa [fh,e2] using h5,fun y=>by simp[bz,e2,h6],by simp[oR,e2,h7]⟩
theorem EV {α:Type} {kk:IntKind} {n:Int}:∀ {m:List (Int×α)} {i:Nat},jw n (m.map fun p=>D.int kk p.1) i=none→(∀ d,bB m n d=d)∧fh m n=false∧(∀ y,bz m n y=m++[(n,y)])∧oR m n=m
 | [],i,h=>⟨fun d=>rfl,rfl,fun y=>rfl,rfl⟩
 | p::m,i,h=>by
  simp only[List.map_cons,jw] at h
  by_cases e:n=p.1
  ·rw[if_pos e] at h;cases h
  rw[if_neg e] at h
  obtain⟨h4,h5,h6,h7⟩:=EV h
  have e2:¬ p.1=n:=fun x=>e x.symm
  exact⟨fun d=>by have:=h4 d;simpa [bB,List.find?_cons,e2] using this,by simpa [fh,e2] using h5,fun y=>by simp[bz,e2,h6],by simp[oR,e2,h7]⟩
theorem EX {α:Type} {kk:IntKind} (m:List (Int×α)):td kk (m.map fun p=>D.int kk p.1)=true:=by
 simp[td]
theorem agp {α:Type} {kk:IntKind} {m:Int} {w:α} (zs:List (Int×α)) (f:α→D):(match jw m (zs.map fun p=>D.int kk p.1) 0 with | some j=>AO.map (zs.map fun p=>D.int kk p.1) ((zs.map fun p=>f p.2).set j (f w)) | none=>AO.map ((zs.map fun p=>D.int kk p.1)++[.int kk m]) ((zs.map fun p=>f p.2)++[f w])) =
  AO.map ((bz zs m w).map fun p=>D.int kk p.1) ((bz zs m w).map fun p=>f p.2):=by
 cases dD:jw m (zs.map fun p=>D.int kk p.1) 0 with
 | some j=>
  obtain⟨k',e',e1,e2,e3,_,_,e6,_⟩:=EW dD
  have:j=k':=by omega
  subst this
  simp only
  rw[e6]
  congr 1
  ·rw[List.map_set]
   refine List.ext_getElem? fun q=>?_
   rw[List.getElem?_set]
   split
   ·rename_i hq
    subst hq
    have:=(List.getElem?_eq_some_iff.1 e2).1
    rw[List.getElem?_map,e2,if_pos (by simpa using this)]
    simp only[Option.map_some];rw[←e3]
   rfl
  rw[List.map_set]
 | none=>
  obtain⟨_,_,e6,_⟩:=EV dD
  simp only
  rw[e6]
  simp
theorem IX {α β:Type} (f:α→β):∀ (l:List α) (k:Nat),(l.eraseIdx k).map f=(l.map f).eraseIdx k
 | [],k=>by simp
 | x::l,0=>rfl
 | x::l,k+1=>by simp[IX f l k]
theorem ZT {α:Type} {kk:IntKind} {m:Int} (zs:List (Int×α)) (f:α→D):(match jw m (zs.map fun p=>D.int kk p.1) 0 with | some j=>AO.map ((zs.map fun p=>D.int kk p.1).eraseIdx j) ((zs.map fun p=>f p.2).eraseIdx j) | none=>AO.map (zs.map fun p=>D.int kk p.1) (zs.map fun p=>f p.2)) =
  AO.map ((oR zs m).map fun p=>D.int kk p.1) ((oR zs m).map fun p=>f p.2):=by
 cases dD:jw m (zs.map fun p=>D.int kk p.1) 0 with
 | some j=>
  obtain⟨k',e',e1,e2,e3,_,_,_,e7⟩:=EW dD
  have:j=k':=by omega
  subst this
  simp only
  rw[e7,IX,IX]
 | none=>
  obtain⟨_,_,_,e7⟩:=EV dD
  simp only
  rw[e7]
section
variable {P:Program} {V:Env} {C:Cx} {o:Oper} {ρX:Operand→TX} {ρT:Operand→T} {lX:List AX} {l:List AO} {n nid:Nat} {cs:List Callee} {ρ ρ':aO} {q:fx}
theorem ajt:∀ (f:Nat) {t:Ty} {x:X},qx f t=some x→∃ v:t.den,x.den ρ=some ⟨t,v⟩:=by
 intro f
 induction f with
 | zero=>intro t x h;simp[qx] at h
 | succ f ih=>
  intro t x h
  cases t with
  | st i=>
   simp only[qx,Option.map_eq_some_iff] at h
   obtain⟨xs,dw,rfl⟩:=h
   have key:∀ (ts:List Ty) (xs:List X),ts.mapM (qx f)=some xs→∃ a:(aQ ts).den,lP ρ ts xs a:=by
    intro ts
    induction ts with
    | nil=>intro xs h;simp at h;subst h;exact⟨(),rfl,fun j t h=>by simp at h⟩
    | cons t ts rn=>
     intro xs h
     simp only[List.mapM_cons,Option.bind_eq_bind,Option.bind_eq_some_iff,Option.pure_def,Option.some.injEq] at h
     obtain⟨x,hx,ys,rm,rfl⟩:=h
     obtain⟨v,hv⟩:=ih hx
     obtain⟨a,ha⟩:=rn ys rm
     obtain⟨b,hb,_⟩:=Iv hv ha
     exact⟨b,hb⟩
   obtain⟨a,ha⟩:=key _ _ dw
   exact⟨aC.fD i a,UR (sa ha.1 ha.2)⟩
  | _=>simp[qx] at h<;>subst h<;>exact⟨_,rfl⟩
theorem ajv {v:Ty} {i:TI} {z:X} (hv:isVal v) (hz:wO v i.zero=true) (h2:i.desc.agg=cj v) (hx:qx kK v=some z):∃ zv:v.den,z.den ρ=some ⟨v,zv⟩∧fR i.desc.agg i.zero=v.enc zv:=by
 obtain⟨zv,Ta⟩:=ajt (ρ:=ρ) _ hx
 refine⟨zv,Ta,?_⟩
 unfold wO at hz
 rw[hx] at hz
 simp only at hz
 split at hz
 ·rename_i ps hp
  rw[X2 hz (ur _ hv Ta hp),h2,L1 hv]
 cases hz
theorem ck.map (hC:ck P V C) {t:TypeId} {kk:IntKind} {v:Ty} (ht:C.ty t=some (.map (.int kk) v)):∃ i,vI V.E t=some (kk,i)∧tn V.E t=none∧isVal v∧i.desc.agg=cj v∧wO v i.zero=true:=by
 obtain⟨i,gk,ij,gy,hv,hd,hz⟩:=hC.info ht
 clear hz
 obtain⟨sz,bt,z,d⟩:=i
 cases d<;>simp[uy] at hd
 rename_i kt vt
 obtain⟨⟨⟨⟨⟨h1,h2⟩,h3⟩,h4⟩,h5⟩,h6⟩:=hd
 obtain⟨ik,a0,a1,a2,a3,a4,_⟩:=hC.info h1
 obtain⟨iv,b0,b1,b2,b3,b4,b5⟩:=hC.info h2
 obtain⟨ksz,kbt,kz,kd⟩:=ik
 cases kd<;>simp[uy] at a4
 subst a4
 exact⟨iv,by simp only[vI,gk,a0,b0],by simp only[tn,gk,a0,b0],b3,b2,b5⟩
theorem aeL (hC:ck P V C) {t:TypeId} {x k:Operand} {ok:Bool} (ho:o.op = .lookup t x k ok) (hl:RL ρ lX l) (hx:RX ρ (ρX x) (ρT x)) (hk:RX ρ (ρX k) (ρT k)) (h:dK C ρX lX n nid o=some q) (hi:cU cs n ρ q.ins ρ'):ed P o ρT l nid ρ' q:=by
 have he:evalOp V ρT l nid o=vF V.E t l (ρT x) (ρT k) ok:=by simp only[evalOp,ho]
 simp only[dK,ho] at h
 split at h
 ·rename_i kk v jx key hm e1
  rw[e1] at hk
  obtain⟨m,gl,jq⟩:=lN hk
  split at h
  ·rename_i e2;subst e2
   obtain⟨i,g1,g2,g3,g4,g5⟩:=hC.map (Fa hm)
   split at h
   ·rename_i mx z pR hz
    have:=kZ h;subst this;cases hi
    obtain⟨mm,c1,c2⟩:=UK hl hx pR
    have c2:mapOf l (ρT x)=some (mm.map (fun p=>D.int kk p.1),mm.map fun p=>v.enc p.2):=c2
    obtain⟨zv,z1,z2⟩:=ajv (ρ:=ρ) g3 g5 g4 hz
    have hc:e9 v ⟨v,zv⟩=some zv:=l7 v zv
    have bF:(X.u3 .x4 mx key z).den ρ=some ⟨v,bB mm m zv⟩:=by
     simp only[X.den,c1,gl,z1,yS,hc]
    have abt:(X.u2 .A4 mx key).den ρ=some ⟨.bool,fh mm m⟩:=by
     simp only[X.den,c1,gl,dV]
    have hint:eg (ρT k)=some (kk,m):=by rw[jq];rfl
    simp only[vF,g2,Option.isSome_none,Bool.false_eq_true,if_false,xX,g1,c2,hint,if_true] at he
    have fin:∀ (a:D) (b:Bool),a=v.enc (bB mm m zv)→b=fh mm m→RX ρ (bif ok then TX.aI [.d v (.u3 .x4 mx key z),.d .bool (.u2 .A4 mx key)] else .d v (.u3 .x4 mx key z)) (if ok then .d (.aI [a,.bool b]) else .d a):=by
     rintro a b rfl rfl
     cases ok with
     | true=>
      refine .jI _ _ rfl fun j c d hc hd=>?_
      rcases j with _ | _ | j
      ·simp at hc hd;subst hc;subst hd;exact .d v _ _ g3 bF
      ·simp at hc hd;subst hc;subst hd;exact gR abt
      simp at hc
     | false=>exact .d v _ _ g3 bF
    cases dD:jw m (mm.map fun p=>D.int kk p.1) 0 with
    | some j=>
     obtain⟨k',e',e1,e2,e3,e4,e5,_,_⟩:=EW dD
     rw[dD] at he
     simp only at he
     have eV:fK (mm.map fun p=>v.enc p.2) j=v.enc (bB mm m zv):=by
      rw[e4]
      have:j=k':=by omega
      subst this
      have uV:(mm.map fun p=>v.enc p.2)[j]?=some (v.enc e'.2):=by rw[List.getElem?_map];exact congrArg (Option.map _) e2
      show((mm.map fun p=>v.enc p.2)[j]?).getD .eY=_
      rw[uV]
      rfl
     exact .val hC.ok he (EX mm) rfl (fin _ _ eV e5.symm)
    | none=>
     obtain⟨e4,e5,_,_⟩:=EV dD
     rw[dD] at he
     simp only at he
     exact .val hC.ok he (EX mm) rfl (fin _ _ (by rw[e4];exact z2) e5.symm)
   cases h
  cases h
 cases h
theorem LO (hC:ck P V C) {t:TypeId} (ho:o.op = .makeMap t none) (hl:RL ρ lX l) (h:dK C ρX lX n nid o=some q) (hi:cU cs n ρ q.ins ρ'):ed P o ρT l nid ρ' q:=by
 have he:evalOp V ρT l nid o=⟨.map nid,.aP (l++[.map [] []]),True⟩:=by simp only[evalOp,ho]
 simp only[dK,ho] at h
 split at h
 ·rename_i k v hm
  simp only[Option.some.injEq] at h
  subst h
  cases hi
  obtain⟨i,gk,ij,gy,hv,hd,_⟩:=hC.info (Fa hm)
  have Sv:isVal k∧isVal v:=by
   obtain⟨sz,bt,z,d⟩:=i
   cases d<;>simp[uy] at hd
   exact⟨dF hd.1.1.1.2,dF hd.1.1.2⟩
  exact⟨_,.map nid,_,F2.app hl (.cons (.map k v _ ([]:List (k.den×v.den)) Sv.1 Sv.2 rfl) .nil),fun hn=>bV.aP hC.ok he trivial rfl hn⟩
 cases h
theorem aga {v:Ty} {x:TX} {u:T} {y:X} (hx:RX ρ x u) (h:BV v x=some y):∃ w:v.den,y.den ρ=some ⟨v,w⟩∧kj u=some (v.enc w):=by
 cases hx with
 | d t x w h1 h2=>
  simp only[BV] at h
  split at h
  ·rename_i e;subst e
   simp only[Option.some.injEq] at h;subst h
   exact⟨w,h2,rfl⟩
  cases h
 | bC s=>
  simp only[BV] at h
  split at h
  ·rename_i u
   cases hs:Nat.beq s u.size with
   | false=>simp[hs] at h
   | true=>
    simp only[hs,cond_true,Option.some.injEq] at h
    subst h
    have:=Nat.eq_of_beq_eq_true hs
    subst this
    exact⟨([]:List u.den),rfl,rfl⟩
  cases h
 | _=>simp[BV] at h
theorem UJ (hC:ck P V C) {t:TypeId} {mo k x:Operand} (ho:o.op = .mapUpdate t mo k x∨o.op = .insert t mo k x) (hl:RL ρ lX l) (hm:RX ρ (ρX mo) (ρT mo)) (hk:RX ρ (ρX k) (ρT k)) (hx:RX ρ (ρX x) (ρT x)) (h:GJ C t lX (ρX mo) (ρX k) (ρX x)=some q) (hi:cU cs n ρ q.ins ρ'):ed P o ρT l nid ρ' q:=by
 have he:evalOp V ρT l nid o=yv V.E t l (ρT mo) (ρT k) (ρT x):=by rcases ho with ho | ho<;>simp only[evalOp,ho]
 unfold GJ at h
 split at h
 ·rename_i kk v id jx key Ki e1 e2
  rw[e1] at hm;rw[e2] at hk
  obtain⟨m,gl,jq⟩:=lN hk
  have hT:=UL hm
  split at h
  ·rename_i y k' v' mm hp an
   split at h
   ·rename_i e3
    obtain⟨rfl,rfl,rfl⟩:=e3
    simp only[Option.some.injEq] at h;subst h
    cases hi
    obtain⟨i,g1,g2,g3,g4,g5⟩:=hC.map (Fa Ki)
    obtain⟨w,w1,w2⟩:=aga hx hp
    obtain⟨ao,cH,dB⟩:=F2.left hl an
    cases dB with
    | map _ _ _ zs h0 h1 hz=>
     have hint:eg (ρT k)=some (kk,m):=by rw[jq];rfl
     have hc:e9 v ⟨v,w⟩=some w:=l7 v w
     have Ec:(X.u3 .Fk mm key y).den ρ=some ⟨.map (.int kk) v,bz zs m w⟩:=by
      simp only[X.den,hz,gl,w1,yS,hc]
     have JC:l[id]?=some (.map (zs.map fun p=>D.int kk p.1) (zs.map fun p=>v.enc p.2)):=cH
     simp only[yv,g2,Option.isSome_none,Bool.false_eq_true,if_false,qd,g1,hT,hint,w2,if_true,JC] at he
     refine⟨_,.undef _,_,F2.set hl (.map (.int kk) v _ (bz zs m w) h0 h1 Ec) id,fun hn=>bV.aP hC.ok he (EX zs) ?_ hn⟩
     exact congrArg (fun x=>wS.aP (l.set id x)) (agp (kk:=kk) (m:=m) (w:=w) zs v.enc)
   cases h
  cases h
 cases h
theorem ZV (hC:ck P V C) {c:Call} {t t':TypeId} {mo k:Operand} (ho:o.op = .call c) (hc:c.callee = .builtin .delete) (ha:c.args.toList=[mo,k]) (ep:c.argTypes.toList=[t,t']) (hl:RL ρ lX l) (hm:RX ρ (ρX mo) (ρT mo)) (hk:RX ρ (ρX k) (ρT k)) (h:IK C t lX (ρX mo) (ρX k)=some q) (hi:cU cs n ρ q.ins ρ'):ed P o ρT l nid ρ' q:=by
 have he:evalOp V ρT l nid o=rF V.E t l (ρT mo) (ρT k):=by simp only[evalOp,ho,hc,ha,ep]
 unfold IK at h
 split at h
 ·rename_i kk v id jx key Ki e1 e2
  rw[e1] at hm;rw[e2] at hk
  obtain⟨m,gl,jq⟩:=lN hk
  have hT:=UL hm
  split at h
  ·rename_i k' v' mm an
   split at h
   ·rename_i e3
    obtain⟨rfl,rfl,rfl⟩:=e3
    simp only[Option.some.injEq] at h;subst h
    cases hi
    obtain⟨i,g1,g2,g3,g4,g5⟩:=hC.map (Fa Ki)
    obtain⟨ao,cH,dB⟩:=F2.left hl an
    cases dB with
    | map _ _ _ zs h0 h1 hz=>
     have hint:eg (ρT k)=some (kk,m):=by rw[jq];rfl
     have abf:(X.u2 .Fc mm key).den ρ=some ⟨.map (.int kk) v,oR zs m⟩:=by
      simp only[X.den,hz,gl,dV]
     have JC:l[id]?=some (.map (zs.map fun p=>D.int kk p.1) (zs.map fun p=>v.enc p.2)):=cH
     simp only[rF,g1,hT,hint,if_true,JC] at he
     refine⟨_,.jI [] [] rfl (fun j c d hc=>by simp at hc),_,F2.set hl (.map (.int kk) v _ (oR zs m) h0 h1 abf) id,fun hn=>bV.aP hC.ok he (EX zs) ?_ hn⟩
     exact congrArg (fun x=>wS.aP (l.set id x)) (ZT (kk:=kk) (m:=m) zs v.enc)
   cases h
  cases h
 cases h
end
end Go.Sy
namespace Go.Sy
open Go Go.aj
variable [aC] [cZ] [cP] [dC] [bh]
section
variable {P:Program} {V:Env} {C:Cx} {o:Oper} {ρX:Operand→TX} {ρT:Operand→T} {lX:List AX} {l:List AO} {n nid:Nat} {cs:List Callee} {ρ ρ':aO} {q:fx}
theorem Z9 {t:Ty} (h:isVal t) (v:t.den):(t.fU v).2=[t.enc v]:=by
 cases t<;>first | rfl | exact absurd rfl (h.1 _ _) | exact absurd rfl h.2
theorem Dp:∀ {ts:List Ty} {a:(aQ ts).den},(∀ t∈ts,isVal t)→((aQ ts).fU a).2=eT ts a
 | [],a,_=>rfl
 | [t],a,h=>Z9 (h t (by simp)) a
 | t::u::ts,a,h=>by
  show(t.fU a.1).1::((aQ (u::ts)).fU a.2).2=_
  rw[Dp (ts:=u::ts) (fun w hw=>h w (List.mem_cons_of_mem _ hw))]
  rfl
theorem XH:∀ {xs:List TX} {us:List T} {ps:List (Ty×X)},F2 (RX ρ) xs us→xs.mapM xh=some ps→∃ a:(aQ (ps.map (·.1))).den,lP ρ (ps.map (·.1)) (ps.map (·.2)) a∧us=(eT (ps.map (·.1)) a).map .d∧∀ t∈ps.map (·.1),isVal t
 | [],us,ps,hx,h=>by
  cases hx
  simp at h;subst h
  exact⟨(),⟨rfl,fun j t h=>by simp at h⟩,rfl,fun t h=>by simp at h⟩
 | x::xs,us,ps,hx,h=>by
  cases hx with
  | cons h1 h2=>
   simp only[List.mapM_cons,Option.bind_eq_bind,Option.bind_eq_some_iff,Option.pure_def,Option.some.injEq] at h
   obtain⟨p,hp,qs,hq,rfl⟩:=h
   have:=QE hp
   subst this
   obtain⟨a,k1,k2,k3⟩:=XH h2 hq
   obtain⟨hv,v,v1,v2⟩:=l9 h1
   have e:∀ (ts:List Ty) (a:(aQ ts).den) (ys:List X),lP ρ ts ys a→∃ b:(aQ (p.1::ts)).den,lP ρ (p.1::ts) (p.2::ys) b∧eT (p.1::ts) b=p.1.enc v::eT ts a:=by
    intro ts a ys hp
    cases ts with
    | nil=>
     refine⟨v,⟨by simp[hp.1],fun j w hw=>?_⟩,rfl⟩
     cases j with
     | zero=>simp at hw;subst hw;exact⟨p.2,rfl,by simpa [dm] using v1⟩
     | succ j=>simp at hw
    | cons u ts=>
     refine⟨(v,a),⟨by simp[hp.1],fun j w hw=>?_⟩,rfl⟩
     cases j with
     | zero=>simp at hw;subst hw;exact⟨p.2,rfl,by simpa [dm] using v1⟩
     | succ j=>
      obtain⟨y,hy,hd⟩:=hp.2 j w (by simpa using hw)
      exact⟨y,by simpa using hy,by simpa [dm] using hd⟩
   obtain⟨b,b1,b2⟩:=e _ a _ k1
   refine⟨b,b1,?_,?_⟩
   ·have b3:eT (List.map (fun x:Ty×X=>x.1) (p::qs)) b=p.1.enc v::eT (qs.map fun x:Ty×X=>x.1) a:=b2
    rw[b3,v2,k2];rfl
   intro t ht
   rcases List.mem_cons.1 ht with rfl | ht
   ·exact hv
   exact k3 t ht
theorem IZ {xs:List Operand} (h:∀ x∈xs,RX ρ (ρX x) (ρT x)):F2 (RX ρ) (xs.map ρX) (xs.map ρT):=by
 induction xs with
 | nil=>exact .nil
 | cons x xs ih=>exact .cons (h x (by simp)) (ih fun y hy=>h y (by simp[hy]))
theorem aeT (hC:ck P V C) {g:FuncId} {first cV:Array Operand} (ho:o.op = .makeFunc (.func g) first cV) (hX:∀ x∈o.op.operands,RX ρ (ρX x) (ρT x)) (h:dK C ρX lX n nid o=some q) (hi:cU cs n ρ q.ins ρ'):ed P o ρT l nid ρ' q:=by
 have nH:∀ x∈cV.toList,RX ρ (ρX x) (ρT x):=fun x hx=>hX x (by simp[ho,Op.operands];right;simpa using hx)
 have hf:=IZ nH
 simp only[dK,ho] at h
 cases lE:first.isEmpty with
 | false=>simp[lE] at h
 | true=>
  have he:evalOp V ρT l nid o = .ok (pz g (cV.toList.map ρT)):=by simp only[evalOp,ho,lE,if_true]
  simp only[lE,cond_true] at h
  split at h
  ·rename_i ps iH
   have:=kZ h;subst this;cases hi
   obtain⟨a,k1,k2,k3⟩:=XH hf iH
   have e:pz g (cV.toList.map ρT) = .d (Ty.enc (.aL g (aQ (ps.map fun x:Ty×X=>x.1))) a):=by
    have hm:∀ ds:List D,(ds.map T.d).mapM gJ=some ds:=by
     intro ds
     induction ds with
     | nil=>rfl
     | cons d ds ih=>simp[gJ,ih]
    rw[k2]
    unfold pz
    rw[hm]
    show T.d (.aL g _)=T.d (.aL g _)
    rw[Dp k3]
   refine .val hC.ok he trivial rfl ?_
   show RX ρ _ (pz g (cV.toList.map ρT))
   rw[e]
   refine .d (.aL g (aQ (ps.map fun x:Ty×X=>x.1))) _ a (dF rfl) ?_
   simp only[X.den,sa k1.1 k1.2]
  have:=kZ h;subst this;cases hi
  refine .val hC.ok he trivial rfl ?_
  show RX ρ _ (pz g (cV.toList.map ρT))
  unfold pz
  cases hm:(cV.toList.map ρT).mapM gJ with
  | none=>exact .aL g _ _ hf.len fun i c t hc ht=>hf.get hc ht
  | some ds=>
   have:=LP hm
   rw[this] at hf
   exact .lu g _ ds (by simpa using hf.len) fun i c d hc hd=>hf.get hc (by simp[hd])
theorem ZA:∀ {t:Ty} {x:X} {v:t.den} {r:List TX},x.den ρ=some ⟨t,v⟩→qK t x=some r→F2 (RX ρ) r ((t.fU v).2.map .d):=by
 intro t
 induction t with
 | aI a b _ dz=>
  intro x v r hx h
  simp only[qK] at h
  cases ha:fP a with
  | false=>simp[ha] at h
  | true=>
   simp only[ha,cond_true] at h
   split at h
   ·rename_i r' hr
    simp only[Option.some.injEq] at h;subst h
    have h1:=Rw (p:=v) hx
    have h2:=W6 (p:=v) hx
    exact .cons (.d a _ v.1 (dF ha) h1) (dz h2 hr)
   cases h
 | unit=>intro x v r hx h;simp only[qK,Option.some.injEq] at h;subst h;exact .nil
 | _=>intro x v r hx h;simp only[qK,Option.some.injEq] at h;subst h;exact .cons (.d _ x v (dF rfl) hx) .nil
theorem IB {x:TX} {u:T} {g:FuncId} {r:List TX} (hx:RX ρ x u) (h:nC x=some (g,r)) :
  ∃ us:List T,F2 (RX ρ) r us∧((u = .aL g us)∨(u = .d (.fn g)∧us=[])∨∃ ds,u = .d (.aL g ds)∧us=ds.map .d):=by
 cases hx with
 | aL f cs ts h1 h2=>
  simp only[nC,Option.some.injEq,Prod.mk.injEq] at h
  obtain⟨rfl,rfl⟩:=h
  exact⟨ts,F2.of h1 h2,.inl rfl⟩
 | lu f cs ds h1 h2=>
  simp only[nC,Option.some.injEq,Prod.mk.injEq] at h
  obtain⟨rfl,rfl⟩:=h
  exact⟨ds.map .d,F2.of (by simpa using h1) (fun i c t hc ht=>by
   simp only[List.getElem?_map,Option.map_eq_some_iff] at ht
   obtain⟨d,hd,rfl⟩:=ht
   exact h2 i c d hc hd),.inr (.inr ⟨ds,rfl,rfl⟩)⟩
 | d t x v h1 h2=>
  cases t with
  | fn g'=>
   simp only[nC,Option.some.injEq,Prod.mk.injEq] at h
   obtain⟨rfl,rfl⟩:=h
   exact⟨[],.nil,.inr (.inl ⟨rfl,rfl⟩)⟩
  | aL g' t=>
   have key:∀ y:X,y.den ρ=some ⟨t,v⟩→(qK t y).map (fun r=>(g',r))=some (g,r)→∃ us:List T,F2 (RX ρ) r us∧((T.d (Ty.enc (.aL g' t) v) = .aL g us)∨(T.d (Ty.enc (.aL g' t) v) = .d (.fn g)∧us=[])∨∃ ds,T.d (Ty.enc (.aL g' t) v) = .d (.aL g ds)∧us=ds.map .d):=by
    intro y hy hq
    simp only[Option.map_eq_some_iff,Prod.mk.injEq] at hq
    obtain⟨r',hr,rfl,rfl⟩:=hq
    exact⟨_,ZA (t:=t) (v:=v) hy hr,.inr (.inr ⟨(t.fU v).2,rfl,rfl⟩)⟩
   by_cases S2:∃ f y,x = .aL f y
   ·obtain⟨f,y,rfl⟩:=S2
    simp only[nC] at h
    refine key y ?_ h
    simp only[X.den] at h2
    cases hy:X.den ρ y with
    | none=>simp[hy] at h2
    | some w=>simp only[hy,Option.some.injEq] at h2;cases h2;rfl
   have e:nC (.d (.aL g' t) x)=(qK t (.u1 .NF x)).map fun r=>(g',r):=by
    cases x<;>first | rfl | exact absurd ⟨_,_,rfl⟩ S2
   rw[e] at h
   exact key _ (by simp only[X.den,h2];rfl) h
  | _=>simp[nC] at h
 | _=>simp[nC] at h
theorem NB (hC:ck P V C):∀ {ts:List TypeId} {xs:List TX} {us:List T},F2 (RX ρ) xs us→F2 (RX ρ) (qq C.E ts xs) (iA V.E ts us)
 | [],xs,us,h=>by cases h<;>exact by first | exact .nil | (rename_i h1 h2;exact .cons h1 h2)
 | t::ts,[],us,h=>by cases h;exact .nil
 | t::ts,x::xs,us,h=>by
  cases h with
  | cons h1 h2=>exact .cons (Ho hC h1 t) (NB hC h2)
def r7 (c:Callee):kC:=⟨c.f,c.args,c.res⟩
theorem Rf (hl:RL ρ lX l) {g:FuncId} {ts:List TX} {us:List T} (hx:F2 (RX ρ) ts us):∀ {ss:List kC} {k k':Nat} {xs:List X} {l':List AX} {s:kC},uF lX g ts ss k=some (k',xs,l',s) →
  ∃ j,k'=k+j∧ss[j]?=some s∧s.f=g∧kh lX s.args ts=some (xs,l')
 | [],k,k',xs,l',s,h=>by simp[uF] at h
 | s0::ss,k,k',xs,l',s,h=>by
  have oe:uF lX g ts ss (k+1)=some (k',xs,l',s)→∃ j,k'=k+j∧(s0::ss)[j]?=some s∧s.f=g∧kh lX s.args ts=some (xs,l'):=fun h=>by
   obtain⟨j,h1,h2,h3,h4⟩:=Rf hl hx h
   exact⟨j+1,by omega,by simpa using h2,h3,h4⟩
  simp only[uF] at h
  cases hg:Nat.beq s0.f g with
  | false=>simp only[hg,cond_false] at h;exact oe h
  | true=>
   simp only[hg,cond_true] at h
   split at h
   ·rename_i ys l1 hd
    simp only[Option.some.injEq,Prod.mk.injEq] at h
    obtain⟨rfl,rfl,rfl,rfl⟩:=h
    exact⟨0,rfl,rfl,Nat.eq_of_beq_eq_true hg,hd⟩
   exact oe h
theorem Wt {v:X} {ts:List Ty} {a:(aQ ts).den} (hv:∀ t∈ts,isVal t) (h:v.den ρ=some ⟨aQ ts,a⟩):RX ρ (o6 v ts) (.d ((aQ ts).enc a)):=by
 match ts,a,hv,h with
 | [],a,_,_=>exact .jI [] [] rfl fun i c d hc=>by simp at hc
 | [t],a,hv,h=>exact .d t v a (hv t (by simp)) h
 | t::u::ts,a,hv,h=>
  have e:(aQ (t::u::ts)).enc a = .aI (eT (t::u::ts) a):=by
   rw[←Dp hv];rfl
  rw[e]
  have key:∀ (m:Nat) (ws:List Ty) (b:(aQ ws).den) (j:Nat),j+ws.length=(t::u::ts).length→(∀ w∈ws,isVal w)→(∀ k w,ws[k]?=some w→(vS (t::u::ts).length (j+k) v).den ρ=dm ws b k)→∀ (i:Nat) c d,(o6.pA (t::u::ts).length v ws j)[i]?=some c→(eT ws b)[i]?=some d→RX ρ c (.d d):=by
   intro m ws
   induction ws with
   | nil=>intro b j _ _ _ i c d hc;simp[o6.pA] at hc
   | cons w ws ih=>
    intro b j hj hw hd i c d hc aS
    have h0:=hd 0 w rfl
    cases i with
    | zero=>
     simp only[o6.pA,List.getElem?_cons_zero,Option.some.injEq] at hc
     subst hc
     cases ws with
     | nil=>
      simp[eT] at aS;subst aS
      exact .d w _ b (hw w (by simp)) (by simpa [dm] using h0)
     | cons w2 ws=>
      simp[eT] at aS;subst aS
      exact .d w _ b.1 (hw w (by simp)) (by simpa [dm] using h0)
    | succ i=>
     cases ws with
     | nil=>simp[o6.pA] at hc
     | cons w2 ws=>
      simp only[o6.pA,List.getElem?_cons_succ] at hc
      exact ih b.2 (j+1) (by simp at hj ⊢;omega) (fun w eE=>hw w (List.mem_cons_of_mem _ eE)) (fun k z hz=>by
       have:=hd (k+1) z (by simpa using hz)
       rw[show j+1+k=j+(k+1) by omega]
       simpa [dm] using this) i c d hc (by simpa [eT] using aS)
  refine .jI _ _ ?_ (key 0 (t::u::ts) a 0 (by simp) hv fun k w hw=>by
   rw[Nat.zero_add]
   exact Fx k h (List.getElem?_eq_some_iff.1 hw).1)
  have l1:∀ (m:Nat) (ws:List Ty) (j:Nat),(o6.pA m v ws j).length=ws.length:=by
   intro m ws
   induction ws with
   | nil=>intro j;rfl
   | cons w ws ih=>intro j;simp[o6.pA,ih]
  have l2:∀ (ws:List Ty) (b:(aQ ws).den),(eT ws b).length=ws.length:=by
   intro ws
   induction ws with
   | nil=>intro b;rfl
   | cons w ws ih=>
    intro b
    cases ws with
    | nil=>rfl
    | cons w2 ws=>simp[eT,ih]
  show(o6.pA _ v _ 0).length=_
  rw[l1,l2]
structure kB (P:Program) (C:Cx) (cs:List Callee):Prop where
 sigs:∀ (j:Nat) (s:kC),C.sigs[j]?=some s→∃ c:Callee,cs[j]?=some c∧r7 c=s∧aB P c
 turns:∀ s∈C.turns,∃ fn:(aQ (.list s.t::s.args)).den→Option (List s.t.den),cs[s.k]?=some (nw.mk s.f s.t s.args fn).um∧ue P s.f s.t s.args fn
theorem IP {t:Ty} {ts:List Ty} {x:X} {xs:List X} {v:t.den} {a:(aQ ts).den} (hx:x.den ρ=some ⟨t,v⟩) (hp:lP ρ ts xs a):∃ b:(aQ (t::ts)).den,lP ρ (t::ts) (x::xs) b∧eT (t::ts) b=t.enc v::eT ts a:=by
 cases ts with
 | nil=>
  have:xs=[]:=by simpa using hp.1
  subst this
  refine⟨v,⟨rfl,fun j u hj=>?_⟩,rfl⟩
  cases j with
  | zero=>simp at hj;subst hj;exact⟨x,rfl,hx⟩
  | succ j=>simp at hj
 | cons u us=>
  refine⟨(v,a),⟨by simp[hp.1],fun j w hj=>?_⟩,rfl⟩
  cases j with
  | zero=>simp at hj;subst hj;exact⟨x,rfl,hx⟩
  | succ j=>
   obtain⟨y,h1,h2⟩:=hp.2 j w (by simpa using hj)
   exact⟨y,by simpa using h1,h2⟩
theorem Rg {g:FuncId} {t:Ty} {ts:List TX}:∀ {ss:List ny} {s:ny} {xs:List X} {l':List AX},sC lX g t ts ss=some (s,xs,l')→s∈ss∧s.t=t∧s.f=g∧kh lX s.args ts=some (xs,l')
 | [],s,xs,l',h=>by simp[sC] at h
 | s0::ss,s,xs,l',h=>by
  have oe:sC lX g t ts ss=some (s,xs,l')→s∈s0::ss∧s.t=t∧s.f=g∧kh lX s.args ts=some (xs,l'):=fun h=>by
   obtain⟨h1,h2⟩:=Rg h
   exact⟨List.mem_cons_of_mem _ h1,h2⟩
  simp only[sC] at h
  split at h
  ·rename_i ht
   cases hg:Nat.beq s0.f g with
   | false=>simp only[hg,cond_false] at h;exact oe h
   | true=>
    simp only[hg,cond_true] at h
    split at h
    ·rename_i ys l1 hd
     simp only[Option.some.injEq,Prod.mk.injEq] at h
     obtain⟨rfl,rfl,rfl⟩:=h
     exact⟨List.mem_cons_self,ht,Nat.eq_of_beq_eq_true hg,hd⟩
    exact oe h
  exact oe h
theorem Re {g:FuncId} {ts:List TX}:∀ {ss:List ny} {s:ny} {xs:List X} {l':List AX},uE lX g ts ss=some (s,xs,l')→s∈ss∧s.f=g∧kh lX s.args ts=some (xs,l')
 | [],s,xs,l',h=>by simp[uE] at h
 | s0::ss,s,xs,l',h=>by
  have oe:uE lX g ts ss=some (s,xs,l')→s∈s0::ss∧s.f=g∧kh lX s.args ts=some (xs,l'):=fun h=>by
   obtain⟨h1,h2⟩:=Re h
   exact⟨List.mem_cons_of_mem _ h1,h2⟩
  simp only[uE] at h
  cases hg:Nat.beq s0.f g with
  | false=>simp only[hg,cond_false] at h;exact oe h
  | true=>
   simp only[hg,cond_true] at h
   split at h
   ·rename_i ys l1 hd
    simp only[Option.some.injEq,Prod.mk.injEq] at h
    obtain⟨rfl,rfl,rfl⟩:=h
    exact⟨List.mem_cons_self,Nat.eq_of_beq_eq_true hg,hd⟩
   exact oe h
theorem aiZ (
         aR:kB P C cs) (hl:RL ρ lX l) {g:FuncId} {XD:List TX} {as:List T} (bA:F2 (RX ρ) XD as) (jT:eO V.E ρT o=some (g,as)) (h:NA C lX n g XD=some q) (hi:cU cs n ρ q.ins ρ') (hb:Ext ρ ρ'):ed P o ρT l nid ρ' q:=by
 have gM:=hb
 unfold NA at h
 split at h
 ·rename_i id rest
  obtain⟨u0,us,rfl,vj,KF⟩:∃ u0 us,as=u0::us∧RX ρ (.row id) u0∧F2 (RX ρ) rest us:=by
   cases bA with
   | cons h1 h2=>exact⟨_,_,rfl,h1,h2⟩
  have vj:=Nb vj
  subst vj
  split at h
  ·rename_i e t x an
   split at h
   ·rename_i s xs l' hs
    split at h
    ·rename_i e' t' x' qY
     split at h
     ·rename_i he
      obtain⟨rfl,rfl⟩:=he
      simp only[Option.some.injEq] at h
      subst h
      obtain⟨e1,e2,e3,e4⟩:=Rg hs
      subst e2;subst e3
      obtain⟨a,la,m1,m2,m3⟩:=yR hl KF e4
      obtain⟨ao,cH,dB⟩:=F2.left m3 qY
      cases dB with
      | row _ _ _ zs v0 v1=>
      obtain⟨b,b1,b2⟩:=IP v1 m1
      cases hi with
      | call _ _ _ _ _ _ D a' y q1 q2 q3 q4=>
       cases q4
       obtain⟨fn,z1,hT⟩:=aR.turns s e1
       rw[q1] at z1
       injection z1 with z1
       subst z1
       have:=(sa b1.1 b1.2).symm.trans q2
       injection this with this
       have ha:b=a':=by injection this
       subst ha
       refine⟨.d (.aI []),.jI [] [] rfl (fun i c d hc=>by simp at hc),la.set id (.row e' s.t.size (List.map s.t.enc y)),F2.set (RL.mono gM m3) (.row e' s.t (.var n) y v0 (show lk _ n=_ from ku n ⟨.list s.t,y⟩ ρ)) id,fun hn=>?_⟩
       refine⟨xf jT,fun w0 I0 w I m wP ah hx=>?_⟩
       obtain⟨args,bP,hlen,ch⟩:=su (P:=P) (w:=w) (ρ:=wP) hT.enters hx jT
       rw[bP]
       show Calls P s.f args w _
       obtain⟨yT,vs,hv⟩:∃ v0 vs,args.toList=v0::vs:=by
        cases hq:args.toList with
        | nil=>
             have:args.toList.length=us.length+1:=by simpa using hlen
             rw[hq] at this;simp at this
        | cons a b=>exact⟨a,b,rfl⟩
       have ko:vs.length=us.length:=by
        have:args.toList.length=us.length+1:=by simpa using hlen
        rw[hv] at this;simpa using this
       have bF:∀ (i:Nat),args[i]?=(yT::vs)[i]?:=fun i=>by rw[←hv];simp
       obtain⟨J,gm,r1,jW,An,_⟩:=qF us l I vs _ la ah ko (fun i v x bQ cK=>ch (i+1) v x (by rw[bF];simpa using bQ) (by simpa using cK)) m2
       have jU:=hT.kJ b y q3 la id e' (List.map s.t.enc zs) (eT s.args a) (by rw[b2,Dm]) cH
       refine(jU w0 I0 w J m args r1 (by rw[←Array.length_toList,hv];simpa using jW) fun i v x bQ cK=>?_).mono ?_
       ·rw[bF] at bQ
        cases i with
        | zero=>
         simp at bQ cK;subst bQ;subst cK
         exact(ch 0 yT (.row id) (by rw[bF];rfl) rfl).mono gm
        | succ i=>
         simp only[List.getElem?_cons_succ] at bQ cK
         rw[List.getElem?_map,Option.map_eq_some_iff] at cK
         obtain⟨d,hd,rfl⟩:=cK
         exact .d _ _ (An i v d bQ hd)
       rintro e qt ⟨v,he,J',m',p1,p2,p3⟩
       exact⟨v,he,J',m',gm.trans p1,p2,p3⟩
     cases h
    cases h
   cases h
  cases h
 ·rename_i sz rest
  obtain⟨u0,us,rfl,vj,KF⟩:∃ u0 us,as=u0::us∧RX ρ (.bC sz) u0∧F2 (RX ρ) rest us:=by
   cases bA with
   | cons h1 h2=>exact⟨_,_,rfl,h1,h2⟩
  have vj:=Fq vj
  subst vj
  split at h
  ·rename_i s xs l' hs
   simp only[Option.some.injEq] at h
   subst h
   obtain⟨e1,e3,e4⟩:=Re hs
   subst e3
   obtain⟨a,la,m1,m2,m3⟩:=yR hl KF e4
   obtain⟨b,b1,b2⟩:=IP (t:= .list s.t) (x:= .nil s.t) (v:=([]:List s.t.den)) rfl m1
   cases hi with
   | call _ _ _ _ _ _ D a' y q1 q2 q3 q4=>
    cases q4
    obtain⟨fn,z1,hT⟩:=aR.turns s e1
    rw[q1] at z1
    injection z1 with z1
    subst z1
    have:=(sa b1.1 b1.2).symm.trans q2
    injection this with this
    have ha:b=a':=by injection this
    subst ha
    refine⟨.d (.aI []),.jI [] [] rfl (fun i c d hc=>by simp at hc),la++[.row 0 s.t.size (List.map s.t.enc y)],F2.app (RL.mono gM m3) (.cons (show cu ((n,⟨.list s.t,y⟩)::ρ) _ _ from .row 0 s.t (.var n) y hT.val (ku n ⟨.list s.t,y⟩ ρ)) .nil),fun hn=>?_⟩
    refine⟨xf jT,fun w0 I0 w I m wP ah hx=>?_⟩
    obtain⟨args,bP,hlen,ch⟩:=su (P:=P) (w:=w) (ρ:=wP) hT.enters hx jT
    rw[bP]
    show Calls P s.f args w _
    obtain⟨yT,vs,hv⟩:∃ v0 vs,args.toList=v0::vs:=by
     cases hq:args.toList with
     | nil=>
          have:args.toList.length=us.length+1:=by simpa using hlen
          rw[hq] at this;simp at this
     | cons a b=>exact⟨a,b,rfl⟩
    have ko:vs.length=us.length:=by
     have:args.toList.length=us.length+1:=by simpa using hlen
     rw[hv] at this;simpa using this
    have bF:∀ (i:Nat),args[i]?=(yT::vs)[i]?:=fun i=>by rw[←hv];simp
    obtain⟨J,gm,r1,jW,An,_⟩:=qF us l I vs _ la ah ko (fun i v x bQ cK=>ch (i+1) v x (by rw[bF];simpa using bQ) (by simpa using cK)) m2
    haveI:=cD
    obtain⟨m1',r2,te,hm⟩:=r1.Wy 0 s.t.size
    have mn:yT = .slice none 0 0:=by
     have:=ch 0 yT (.bC sz) (by rw[bF];rfl) rfl
     cases this;rfl
    have lL:(la++[AO.row 0 s.t.size []])[la.length]?=some (.row 0 s.t.size []):=by simp
    have jU:=hT.kJ b y q3 (la++[.row 0 s.t.size []]) la.length 0 [] (eT s.args a) (by rw[b2,Dm];rfl) lL
    have fY:(la++[AO.row 0 s.t.size []]).set la.length (.row 0 s.t.size (List.map s.t.enc y))=la++[.row 0 s.t.size (List.map s.t.enc y)]:=by simp
    rw[fY] at jU
    refine(jU w0 I0 w J m1' args r2 (by rw[←Array.length_toList,hv];simpa using jW) fun i v x bQ cK=>?_).mono ?_
    ·rw[bF] at bQ
     cases i with
     | zero=>
      simp at bQ cK;subst bQ;subst cK
      rw[mn]
      exact .row none 0 0 la.length (by simp) (fun _=>hm)
     | succ i=>
      simp only[List.getElem?_cons_succ] at bQ cK
      rw[List.getElem?_map,Option.map_eq_some_iff] at cK
      obtain⟨d,hd,rfl⟩:=cK
      exact .d _ _ ((An i v d bQ hd).mono te.eF)
    rintro e qt ⟨v,he,J',m',p1,p2,p3⟩
    exact⟨v,he,J',m',gm.trans (te.trans p1),p2,p3⟩
  cases h
 cases h
theorem Y0 (hC:ck P V C) (aR:kB P C cs) {c:Call} {f:Operand} (ho:o.op = .call c) (hc:c.callee = .value f) (hl:RL ρ lX l) (hX:∀ x∈o.op.operands,RX ρ (ρX x) (ρT x)) (h:dK C ρX lX n nid o=some q) (hi:cU cs n ρ q.ins ρ') (hb:Ext ρ ρ'):ed P o ρT l nid ρ' q:=by
 have gM:=hb
 have hf:=hX f (by simp[ho,Op.operands,Call.operands,hc])
 have c9:∀ x∈c.args.toList,RX ρ (ρX x) (ρT x):=fun x hx=>hX x (by simp[ho,Op.operands,Call.operands,hc];right;simpa using hx)
 simp only[dK,ho,hc] at h
 split at h
 ·rename_i g ts hg
  obtain⟨us,k1,k2⟩:=IB hf hg
  have bA:F2 (RX ρ) (qq C.E c.argTypes.toList (c.args.toList.map ρX)++ts) (iA V.E c.argTypes.toList (c.args.toList.map ρT)++us):=(NB hC (IZ c9)).app k1
  have jT:eO V.E ρT o=some (g,iA V.E c.argTypes.toList (c.args.toList.map ρT)++us):=by
   rcases k2 with e | ⟨e,rfl⟩ | ⟨ds,e,rfl⟩
   ·simp only[eO,ho,hc,e]
   ·simp only[eO,ho,hc,e,List.append_nil]
   simp only[eO,ho,hc,e]
  generalize iA V.E c.argTypes.toList (c.args.toList.map ρT)++us=as at bA jT
  cases xv:Io C lX n g (qq C.E c.argTypes.toList (c.args.toList.map ρX)++ts) with
  | none=>rw[xv] at h;exact aiZ aR hl bA jT h hi hb
  | some q0=>
  rw[xv] at h
  simp only[Option.some.injEq] at h
  subst h
  have h:=xv
  unfold Io at h
  split at h
  ·rename_i k xs l' s hs
   simp only[Option.some.injEq] at h;subst h
   obtain⟨j,e1,e2,e3,e4⟩:=Rf hl bA hs
   obtain⟨a,la,m1,m2,m3⟩:=yR hl bA e4
   cases hi with
   | call _ _ _ _ _ _ D a' y q1 q2 q3 q4=>
    cases q4
    have J7:k=j:=by omega
    subst J7
    obtain⟨D',z1,z2,hD⟩:=aR.sigs _ _ e2
    rw[q1] at z1
    injection z1 with z1
    subst z1
    subst z2
    have:=(sa m1.1 m1.2).symm.trans q2
    injection this with this
    have ha:a=a':=by injection this
    subst ha
    have e3:D.f=g:=e3
    subst e3
    refine⟨_,Wt hD.res (ku n _ ρ),la,RL.mono gM m3,fun hn=>?_⟩
    refine⟨xf jT,fun w0 I0 w I m wP ah hx=>?_⟩
    obtain⟨args,bP,hlen,ch⟩:=su (P:=P) (w:=w) (ρ:=wP) hD.enters hx jT
    rw[bP]
    show Calls P D.f args w _
    obtain⟨J,gm,r1,jW,An,_⟩:=qF as l I args.toList _ la ah (by simpa using hlen) (fun i v x hv hx=>ch i v x (by simpa using hv) hx) m2
    refine(hD.kJ a y q3 w J args r1.sat (by rw[←Array.length_toList];exact jW) (fun i v d hv hd=>An i v d (by simpa using hv) hd)).mono ?_
    rintro e qt ⟨v,J',he,zV,cK,du,Ar⟩
    obtain⟨p1,p2⟩:=r1.call zV cK du
    exact⟨v,he,J',m,gm.trans p2,p1,.d _ _ Ar⟩
  cases h
 cases h
theorem ed.NS {NY:Operand→T} (h:ed P o NY l nid ρ' q) (hw:∀ I m v x,x∈o.op.operands→aq I m l v (ρT x)→aq I m l v (NY x)):ed P o ρT l nid ρ' q:=by
 have key:∀ {t:T} {l':List AO},bV P o NY l t l'→bV P o ρT l t l':=fun h=>⟨h.1,fun w0 I0 w I m ρ ah hx=>h.2 w0 I0 w I m ρ ah fun x Es=>hw I m _ x Es (hx x Es)⟩
 obtain⟨t,h1,h2⟩:=h
 refine⟨t,h1,?_⟩
 split at h2
 ·exact key h2
 ·obtain⟨a',k1,k2,k3⟩:=h2
  exact⟨a',k1,fun h=>key (k2 h),fun h=>key (k3 h)⟩
 obtain⟨l',k1,k2⟩:=h2
 exact⟨l',k1,fun h=>key (k2 h)⟩
theorem Q2 (hC:ck P V C) (aR:kB P C cs) (hl:RL ρ lX l) (hX:∀ x∈o.op.operands,RX ρ (ρX x) (ρT x)) (hG:∀ g ls,aC.fS g=some ls→ρT (.global g) = .bw ls.length [.agg (ls.map (.int .i64))] 0 0) (hb:Ext ρ ρ') (h:dK C ρX lX n nid o=some q) (hi:cU cs n ρ q.ins ρ'):ed P o ρT l nid ρ' q:=by
 have h0:=h
 unfold dK at h
 split at h
 ·rename_i x ho;exact UT hC (.inl ho) (hX x (by simp[ho,Op.operands])) h hi
 ·rename_i x ho;exact UT hC (.inr ho) (hX x (by simp[ho,Op.operands])) h hi
 ·rename_i c a b ho;exact MR hC ho hX h0 hi
 ·rename_i e x ho;exact YH hC ho (hX x (by simp[ho,Op.operands])) h0 hi
 ·rename_i e ho;exact Yf hC ho h0 hi
 ·rename_i t a ho;exact aeI hC ho hl (hX a (by simp[ho,Op.operands])) h hi hb
 ·rename_i t a x ho;exact(Np (ρX:=fun y=>wJ C.E t (ρX y)) (ρT:=fun y=>typed V.E t (ρT y)) hC ho hl (Ho hC (hX a (by simp[ho,Op.operands])) t) (Ho hC (hX x (by simp[ho,Op.operands])) t) h hi hb).NS fun I m v y _ hv=>Hp hv
 ·rename_i s x f ho;exact aaw hC ho (hX x (by simp[ho,Op.operands])) h hi
 ·rename_i s x f ho;exact aay hC ho (hX x (by simp[ho,Op.operands])) h hi
 ·rename_i op ty x y XJ ho;exact YB hC ho (hX x (by simp[ho,Op.operands])) (hX y (by simp[ho,Op.operands])) h0 hi
 ·rename_i op ty x ho;exact ai4 hC ho (hX x (by simp[ho,Op.operands])) h0 hi
 ·rename_i t x i ho
  split at h
  ·exact acq hC ho hG (hX i (by simp[ho,Op.operands])) h hi hb
  exact acr hC ho hl (hX x (by simp[ho,Op.operands])) (hX i (by simp[ho,Op.operands])) h hi hb
 ·rename_i t x lo dN ho;exact ah4 hC ho hl hX h0 hi
 ·rename_i t parts ho;exact YM hC ho hX h0 hi
 ·rename_i t len parts ho;exact YK hC ho hl hX h0 hi
 ·rename_i x i ho;exact aar hC ho (hX x (by simp[ho,Op.operands])) h0 hi
 ·rename_i c ho
  split at h
  ·rename_i f hc;exact Y0 hC aR ho hc hl hX h0 hi hb
  ·rename_i hc
   split at h
   ·rename_i x t ha ht
    exact aey hC ho hc ha ht hl (hX x (by simp[ho,Op.operands,Call.operands,hc,←Array.mem_toList_iff,ha])) h hi
   cases h
  ·rename_i hc
   split at h
   ·rename_i s x t t' ha ht
    split at h
    ·rename_i e;subst e
     exact Ym hC ho hc ha ht hl (hX s (by simp[ho,Op.operands,Call.operands,hc,←Array.mem_toList_iff,ha])) (hX x (by simp[ho,Op.operands,Call.operands,hc,←Array.mem_toList_iff,ha])) h hi
    cases h
   cases h
  ·rename_i hc;exact UM hC ho hX (.inl hc) h0 hi
  ·rename_i hc;exact UM hC ho hX (.inr hc) h0 hi
  ·rename_i hc
   split at h
   ·rename_i x k t t' ha ht
    exact ZV hC ho hc ha ht hl (hX x (by simp[ho,Op.operands,Call.operands,hc,←Array.mem_toList_iff,ha])) (hX k (by simp[ho,Op.operands,Call.operands,hc,←Array.mem_toList_iff,ha])) h hi
   cases h
  cases h
 ·rename_i t ho;exact LO hC ho hl h0 hi
 ·rename_i t m k x ho;exact UJ hC (.inl ho) hl (hX m (by simp[ho,Op.operands])) (hX k (by simp[ho,Op.operands])) (hX x (by simp[ho,Op.operands])) h hi
 ·rename_i t m k x ho;exact UJ hC (.inr ho) hl (hX m (by simp[ho,Op.operands])) (hX k (by simp[ho,Op.operands])) (hX x (by simp[ho,Op.operands])) h hi
 ·rename_i t x k ok ho;exact aeL hC ho hl (hX x (by simp[ho,Op.operands])) (hX k (by simp[ho,Op.operands])) h0 hi
 ·rename_i src t x ho;exact IG hC ho (hX x (by simp[ho,Op.operands])) h0 hi
 ·rename_i g first cV ho;exact aeT hC ho hX h0 hi
 cases h
end
end Go.Sy
namespace Go.Sy
open Go Go.aj
variable [aC] [cZ] [cP] [dC] [bh] [cd]
section
variable {s:St}
theorem Sub.ZK (j:Nat) {d:D} {l':List AO} (h:ei s.l (get s.t j)=some (d,l')):Sub s ⟨(j,.d d)::s.t,l'⟩:=by
 intro w0 I0 n a w hr
 obtain⟨h1,I,m,h3,h2,h4⟩:=hr
 obtain⟨J,hle,hw,ch,_⟩:=wF h3 (h4 j) h
 refine⟨h1,J,m,hw,h2.mono hle.eF,fun k=>?_⟩
 show aq J m l' _ (if j=k then .d d else aj.get s.t k)
 split
 ·rename_i e;subst e;exact .d _ _ ch
 exact(h4 k).mono hle
theorem XB {l:List AO} {t:T} {d:D} {l':List AO} {id:Nat} {ty:TypeId} {cs:List T} (hl:l[id]?=some (.var ty cs)) (h:ei l t=some (d,l')):l'[id]?=some (.var ty cs):=by
 have:=Hh h id (by unfold aj.isVar;rw[hl];rfl)
 rw[this];exact hl
theorem Sub.ZM (id k:Nat) {ty:TypeId} {cs:List T} {t:T} {d:D} {l':List AO} (ho:s.l[id]?=some (.var ty cs)) (hk:cs[k]?=some t) (h:ei s.l t=some (d,l')):Sub s ⟨s.t,l'.set id (.var ty (cs.set k (.d d)))⟩:=by
 intro w0 I0 n a w hr
 obtain⟨h1,I,m,h3,h2,h4⟩:=hr
 obtain⟨b,vs,q1,q2,q3,q4,q5,q6⟩:=h3.obj id _ ho
 have aN:k < vs.size:=by rw[q4];exact(List.getElem?_eq_some_iff.1 hk).1
 obtain⟨J,hle,r1,ch,_⟩:=wF h3 (q5 k _ _ (Array.getElem?_eq_getElem aN) hk).1 h
 have bK:=XB ho h
 have iV:Le J m l' J m (l'.set id (.var ty (cs.set k (.d d)))):=Le.setKind bK rfl rfl (fun e size els h=>by rcases h with h | h<;>cases h)
 obtain⟨b,XT,p1,p2,p3,p4,p5,p6⟩:=r1.obj id _ bK
 rw[q1] at p1;injection p1 with p1;injection p1 with p1;injection p1 with p1;subst p1
 rw[q3] at p3;injection p3 with p3;injection p3 with p3 _ _;subst p3
 refine⟨h1,J,m,r1.sb bK (by simp) (b:=_) (by rw[q1];rfl) p6 rfl rfl iV rfl rfl rfl (Nat.le_refl _) (Nat.le_refl _) (fun _ _=>rfl) ⟨_,vs,q1,p2,q3,by simpa using q4,fun i x t hx ht=>?_,p6⟩,h2.mono hle.eF,fun j=>((h4 j).mono hle).mono iV⟩
 rw[List.getElem?_set] at ht
 split at ht
 ·rename_i dD
  subst dD
  split at ht
  ·injection ht with ht;subst ht
   rw[Array.getElem?_eq_getElem aN] at hx
   injection hx with hx;subst hx
   exact⟨.d _ _ ch,(q5 k _ _ (Array.getElem?_eq_getElem aN) hk).2⟩
  cases ht
 exact⟨(p5 i x t hx ht).1.mono iV,(p5 i x t hx ht).2⟩
theorem Sub.aaO {id e size:Nat} {els:List D} (ho:s.l[id]?=some (.row e size els)):Sub s ⟨s.t,s.l.set id (.bx e size els)⟩:=by
 intro w0 I0 n a w hr
 obtain⟨h1,I,m,h3,h2,h4⟩:=hr
 obtain⟨xs,k1,k2,k3,k4⟩:=h3.obj id _ ho
 obtain⟨_,A,nn,c,hv⟩:=x9 k1
 have ht:aq I m s.l (m id) (.row id):=by
  rw[hv];exact .row A nn c id (List.getElem?_eq_some_iff.1 ho).1 (fun _=>hv)
 obtain⟨J,hle,hw,_,_⟩:=wF h3 ht (x:= .slice size els) (l':=s.l.set id (.bx e size els)) (by simp only[ei,dp,ho])
 exact⟨h1,J,m,hw,h2.mono hle.eF,fun k=>(h4 k).mono hle⟩
end
section
variable {P:Program} {V:Env} {C:Cx} {ρ ρ':aO} {σ bE:Sk} {s:St}
theorem WY:∀ (t:List (Nat×TX)) (j:Nat) (x:TX) (k:Nat),aT (pd j x t) k=aT t k∨(k=j∧aT (pd j x t) k=x)
 | [],j,x,k=>Or.inl rfl
 | (i,u)::r,j,x,k=>by
  simp only[pd]
  cases cm:Nat.beq i j with
  | true=>
   have:=Nat.eq_of_beq_eq_true cm
   subst this
   simp only[cond_true,aT]
   cases dP:Nat.beq i k with
   | true=>exact .inr ⟨(Nat.eq_of_beq_eq_true dP).symm,by simp⟩
   | false=>exact .inl (by simp)
  | false=>
   simp only[cond_false,aT]
   cases dP:Nat.beq i k with
   | true=>exact .inl (by simp)
   | false=>simpa using WY r j x k
theorem ba.slot {j:Nat} {x:TX} {u:T} {lX:List AX} {l':List AO} (h:∀ k,RX ρ (aT σ.t k) (get s.t k)) (hx:RX ρ x u) (hb:fI σ.n ρ) (hl:RL ρ lX l'):ba ρ ⟨σ.n,pd j x σ.t,lX⟩ ⟨(j,u)::s.t,l'⟩:=by
 refine⟨hb,fun k=>?_,hl⟩
 show RX ρ (aT (pd j x σ.t) k) (if j=k then u else get s.t k)
 rcases WY σ.t j x k with e | ⟨rfl,e⟩
 ·by_cases hk:j=k
  ·subst hk
   rw[if_pos rfl]
   rcases WZ σ.t j x with e2 | e2
   ·rw[e2];exact hx
   rw[e2];exact .undef _
  rw[if_neg hk,e];exact h k
 rw[if_pos rfl,e];exact hx
where WZ:∀ (t:List (Nat×TX)) (j:Nat) (x:TX),aT (pd j x t) j=x∨aT (pd j x t) j = .undef
 | [],j,x=> .inr rfl
 | (i,u)::r,j,x=>by
  simp only[pd]
  cases cm:Nat.beq i j with
  | true=>simp only[cond_true,aT,cm];exact .inl trivial
  | false=>simp only[cond_false,aT,cm];exact WZ r j x
theorem Og (
          h:ba ρ σ s) {p:Pl} {c:Co} (hc:wY σ p c=some bE):∃ s',Sub s s'∧ba ρ bE s'∧bE.n=σ.n:=by
 cases c with
 | wW e t=>
  simp only[wY] at hc
  cases hv:fP t with
  | false=>simp[hv] at hc
  | true=>
   simp only[hv,Bool.not_true,cond_false] at hc
   split at hc
   ·rename_i z hz
    simp only[Option.some.injEq] at hc;subst hc
    have hlen:σ.l.length=s.l.length:=h.l.len
    cases p with
    | slot j=>
     have hj:get s.t j = .bC z:=by
      have:=h.t j
      simp only[so] at hz
      rw[hz] at this
      exact Fq this
     refine⟨_,Sub.wW j e t.size hj,?_,rfl⟩
     show ba ρ ⟨σ.n,pd j (.row σ.l.length) σ.t,_⟩ _
     rw[hlen]
     exact ba.slot h.t (.row _) h.fT (F2.app h.l (.cons (.row e t _ ([]:List t.den) (dF hv) rfl) .nil))
    | cell id k=>
     simp only[so] at hz
     cases an:σ.l[id]? with
     | none=>simp[an] at hz
     | some ax=>
      obtain⟨ao,cH,dB⟩:=F2.left h.l an
      cases dB with
      | var ty xs ts dw=>
       simp only[an] at hz
       have hk:xs[k]?=some (.bC z):=by
        cases hq:xs[k]? with
        | none=>rw[hq] at hz;simp at hz
        | some y=>rw[hq] at hz;simp at hz;rw[hz]
       obtain⟨u,hu,Aq⟩:=dw.left hk
       have:=Fq Aq
       subst this
       refine⟨_,Sub.Ya id k e t.size cH hu,?_,?_⟩
       ·have qY:(σ.l++[AX.row false e t (.nil t)])[id]?=some (.var ty xs):=by
         rw[List.getElem?_append_left (List.getElem?_eq_some_iff.1 an).1];exact an
        simp only[yH,qY]
        refine⟨h.fT,h.t,?_⟩
        rw[hlen]
        exact F2.set (F2.app h.l (.cons (.row e t _ ([]:List t.den) (dF hv) rfl) .nil)) (.var ty _ _ (dw.set (.row _) k)) id
       simp only[yH];split<;>rfl
      | _=>simp[an] at hz
   cases hc
 | data t=>
  simp only[wY] at hc
  cases hv:fP t with
  | false=>simp[hv] at hc
  | true=>
   simp only[hv,Bool.not_true,cond_false] at hc
   split at hc
   ·rename_i x l' hd
    simp only[Option.some.injEq] at hc;subst hc
    cases p with
    | slot j=>
     simp only[so] at hd
     obtain⟨v,la,k1,k2,k3⟩:=Hg h.l (h.t j) hd
     exact⟨_,Sub.ZK j k2,ba.slot h.t (.d t x v (dF hv) k1) h.fT k3,rfl⟩
    | cell id k=>
     simp only[so] at hd
     cases an:σ.l[id]? with
     | none=>simp only[an] at hd;simp[ph,kg] at hd
     | some ax=>
      obtain⟨ao,cH,dB⟩:=F2.left h.l an
      cases dB with
      | var ty xs ts dw=>
       simp only[an] at hd
       cases hq:xs[k]? with
       | none=>rw[hq] at hd;simp[ph,kg] at hd
       | some y=>
        rw[hq] at hd
        obtain⟨u,hu,Aq⟩:=dw.left hq
        obtain⟨v,la,k1,k2,k3⟩:=Hg h.l Aq hd
        refine⟨_,Sub.ZM id k cH hu k2,?_,?_⟩
        ·have uU:=XB cH k2
         obtain⟨ax',aba,aa6⟩:=F2.right k3 uU
         simp only[yH]
         cases aa6 with
         | var _ xs' _ vm=>
          simp only[aba]
          exact⟨h.fT,h.t,F2.set k3 (.var ty _ _ (vm.set (.d t x v (dF hv) k1) k)) id⟩
         | fE _ hq=>cases hq
        simp only[yH];split<;>rfl
      | _=>simp only[an] at hd;simp[ph,kg] at hd
   cases hc
 | DF=>
  simp only[wY] at hc
  split at hc
  ·rename_i id hz
   split at hc
   ·rename_i e t x an
    simp only[Option.some.injEq] at hc;subst hc
    obtain⟨ao,cH,dB⟩:=F2.left h.l an
    cases dB with
    | row _ _ _ zs h0 hx=>exact⟨_,Sub.aaO cH,⟨h.fT,h.t,F2.set h.l (.bx e t x zs h0 hx) id⟩,rfl⟩
   cases hc
  cases hc
theorem Sub.trans' {a b c:St} (h:Sub a b) (k:Sub b c):Sub a c:=fun w0 I0 n x w hr=>k w0 I0 n x w (h w0 I0 n x w hr)
theorem ae8:∀ (f:Nat) {A B A' B':Sk} {ps:mK} {s:St},ba ρ B s→meet f A B=some (A',B',ps)→∃ s',Sub s s'∧ba ρ B' s'∧B'.n=B.n:=by
 intro f
 induction f with
 | zero=>intro A B A' B' ps s _ h;simp[meet] at h
 | succ f ih=>
  intro A B A' B' ps s hB h
  simp only[meet] at h
  split at h
  ·simp only[Option.some.injEq,Prod.mk.injEq] at h
   obtain⟨_,rfl,_⟩:=h
   exact⟨s,Sub.refl s,hB,rfl⟩
  rename_i pa pb ca cb _
  split at h
  ·rename_i A1 B1 _ hb
   cases cb with
   | none=>
    simp only[Dl,Option.some.injEq] at hb
    subst hb
    exact ih hB h
   | some c=>
    simp only[Dl] at hb
    obtain⟨s1,k1,k2,k3⟩:=Og hB hb
    obtain⟨s2,m1,m2,m3⟩:=ih k2 h
    exact⟨s2,Sub.trans' k1 m1,m2,m3.trans k3⟩
  cases h
end
end Go.Sy
namespace Go.Sy
open Go Go.aj
variable [aC] [cZ] [cP] [dC] [bh] [cd]
section
variable {P:Program} {V:Env} {C:Cx} {ρ ρ':aO} {σ bE:Sk} {s:St}
theorem pU (id:Nat):∀ (ids:List Nat) (k:Nat),xJ id ids k=aj.idx id ids k
 | [],k=>rfl
 | x::xs,k=>by
  simp only[xJ,aj.idx]
  by_cases h:x=id
  ·subst h;simp
  have:Nat.beq x id=false:=by
   cases e:Nat.beq x id with
   | false=>rfl
   | true=>exact absurd (Nat.eq_of_beq_eq_true e) h
  rw[this,if_neg h];exact pU id xs (k+1)
theorem Wm {ids:List Nat} {c:TX} {t:T} (h:RX ρ c t) (hf:uG c=true):RX ρ (GR ids c) (t.wq ids):=by
 cases h with
 | d t x v h1 h2=>exact .d t x v h1 h2
 | ptr id off=>
  simp only[GR,T.wq,iz,pU]
  cases aj.idx id ids 0<;>constructor
 | bd id=>
  simp only[GR,T.wq,iz,pU]
  cases aj.idx id ids 0<;>constructor
 | _=>simp[uG] at hf
theorem rY {ids:List Nat} {c:TX} {t:T} (h:RX ρ c t):RX ρ (rX ids c) (t.eH ids):=by
 cases h with
 | d t x v h1 h2=>exact .d t x v h1 h2
 | undef t=>exact .undef _
 | gone=>exact .undef _
 | bC s=>exact .bC s
 | fp=>exact .fp
 | ptr id off=>simp only[rX,T.eH,iz,pU];cases aj.idx id ids 0<;>constructor
 | bw t e b off size els k v h1 h2 h3 h4 h5 h6=>exact .bw t e b off size els k v h1 h2 h3 h4 h5 h6
 | row id=>simp only[rX,T.eH,iz,pU];cases aj.idx id ids 0<;>constructor
 | bf id k off kk n h1=>
  simp only[rX,T.eH,iz,pU]
  cases aj.idx id ids 0 with
  | some j=>exact .bf _ k off kk n h1
  | none=>exact .undef _
 | map id=>simp only[rX,T.eH,iz,pU];cases aj.idx id ids 0<;>constructor
 | bd id=>simp only[rX,T.eH,iz,pU];cases aj.idx id ids 0<;>constructor
 | bL id n=>simp only[rX,T.eH,iz,pU];cases aj.idx id ids 0<;>constructor
 | bD id t x xs h1=>
  simp only[rX,T.eH,pU]
  cases aj.idx id ids 0 with
  | some j=>exact .bD _ t x xs h1
  | none=>exact wu h1
 | agg cs ts h1 h2=>exact .undef _
 | kD cs ds h1 h2=>exact .undef _
 | aI cs ts h1 h2=>exact .undef _
 | jI cs ds h1 h2=>exact .undef _
 | aL f cs ts h1 h2=>exact .undef _
 | lu f cs ds h1 h2=>exact .undef _
theorem GS {ids:List Nat} {c:TX} {t:T} (h:RX ρ c t):RX ρ (c.re ids) (t.dU ids):=by
 cases h with
 | d t x v h1 h2=>exact .d t x v h1 h2
 | undef t=>exact .undef _
 | gone=>exact .undef _
 | bC s=>exact .bC s
 | fp=>exact .fp
 | ptr id off=>exact rY (.ptr id off)
 | bw t e b off size els k v h1 h2 h3 h4 h5 h6=>exact .bw t e b off size els k v h1 h2 h3 h4 h5 h6
 | row id=>exact rY (.row id)
 | bf id k off kk n h1=>exact rY (.bf id k off kk n h1)
 | map id=>exact rY (.map id)
 | bd id=>exact rY (.bd id)
 | bL id n=>exact rY (.bL id n)
 | bD id t x xs h1=>exact rY (.bD id t x xs h1)
 | agg cs ts h1 h2=>
  refine .agg _ _ (by simpa using h1) fun i c t hc ht=>?_
  simp only[List.getElem?_map,Option.map_eq_some_iff] at hc ht
  obtain⟨c',hc,rfl⟩:=hc
  obtain⟨t',ht,rfl⟩:=ht
  exact rY (h2 i c' t' hc ht)
 | kD cs ds h1 h2=>
  refine .kD _ _ (by simpa using h1) fun i c d hc hd=>?_
  simp only[List.getElem?_map,Option.map_eq_some_iff] at hc
  obtain⟨c',hc,rfl⟩:=hc
  exact rY (ids:=ids) (h2 i c' d hc hd)
 | aI cs ts h1 h2=>
  simp only[TX.re]
  cases ha:cs.all ED with
  | false=>exact .undef _
  | true=>
   have:ts.all T.data=true:=by
    rw[List.all_eq_true] at ha ⊢
    intro t ht
    obtain⟨i,hi,rfl⟩:=List.mem_iff_getElem.1 ht
    have hc:cs[i]?=some (cs[i]'(by omega)):=List.getElem?_eq_getElem (by omega)
    have h3:=h2 i _ _ hc (List.getElem?_eq_getElem hi)
    have h4:=ha _ (List.getElem_mem (by omega:i < cs.length))
    generalize cs[i]'(by omega)=c at h3 h4
    generalize ts[i]=t at h3
    cases h3<;>first | rfl | (simp[ED] at h4;done)
   simp only[cond_true,T.dU,this,if_true]
   exact .aI cs ts h1 h2
 | jI cs ds h1 h2=>
  simp only[TX.re]
  cases ha:cs.all ED with
  | false=>exact .undef _
  | true=>exact .jI cs ds h1 h2
 | aL f cs ts h1 h2=>
  simp only[TX.re]
  cases ha:cs.all uG with
  | false=>exact .undef _
  | true=>
   have bA:∀ (i:Nat) c,cs[i]?=some c→uG c=true:=fun i c hc=>by
    rw[List.all_eq_true] at ha;exact ha c (List.mem_of_getElem? hc)
   have:ts.all T.flat=true:=by
    rw[List.all_eq_true]
    intro t ht
    obtain⟨i,hi,rfl⟩:=List.mem_iff_getElem.1 ht
    have hc:cs[i]?=some (cs[i]'(by omega)):=List.getElem?_eq_getElem (by omega)
    have h3:=h2 i _ _ hc (List.getElem?_eq_getElem hi)
    have h4:=bA i _ hc
    generalize cs[i]'(by omega)=c at h3 h4
    generalize ts[i]=t at h3
    cases h3<;>first | rfl | (simp[uG] at h4;done)
   have e:(T.aL f ts).dU ids = .aL f (ts.map (T.wq ids)):=by
    simp only[T.dU,T.eH,this,if_true]
   rw[e]
   refine .aL f _ _ (by simpa using h1) fun i c t hc ht=>?_
   simp only[List.getElem?_map,Option.map_eq_some_iff] at hc ht
   obtain⟨c',hc,rfl⟩:=hc
   obtain⟨t',ht,rfl⟩:=ht
   exact Wm (h2 i c' t' hc ht) (bA i c' hc)
 | lu f cs ds h1 h2=>
  simp only[TX.re]
  cases ha:cs.all uG with
  | false=>exact .undef _
  | true=>
   refine .lu f _ _ (by simpa using h1) fun i c d hc hd=>?_
   simp only[List.getElem?_map,Option.map_eq_some_iff] at hc
   obtain⟨c',hc,rfl⟩:=hc
   rw[List.all_eq_true] at ha
   exact Wm (ids:=ids) (h2 i c' d hc hd) (ha c' (List.mem_of_getElem? hc))
theorem Ft:∀ {ids:List Nat},oT ids=true→ids.Nodup
 | [],_=>List.nodup_nil
 | x::xs,h=>by
  simp only[oT,Bool.and_eq_true,Bool.not_eq_true'] at h
  refine List.nodup_cons.2 ⟨fun hm=>?_,Ft h.2⟩
  have:(xs.any fun y=>Nat.beq x y)=true:=List.any_eq_true.2 ⟨x,hm,Nat.beq_refl x⟩
  rw[this] at h;simp at h
theorem Yo {ids:List Nat} {a:AX} {o:AO} (h:cu ρ a o):cu ρ (a.re ids) (o.dU ids):=by
 cases h with
 | dead=>exact .dead
 | var ty cs ts h1=>
  refine .var ty _ _ (F2.of (by simp[h1.len]) fun i c t hc ht=>?_)
  simp only[List.getElem?_map,Option.map_eq_some_iff] at hc ht
  obtain⟨c',hc,rfl⟩:=hc
  obtain⟨t',ht,rfl⟩:=ht
  exact GS (h1.get hc ht)
 | row e t x xs h0 h1=>exact .row e t x xs h0 h1
 | bx e t x xs h0 h1=>exact .bx e t x xs h0 h1
 | map k v x m h0 h2 h1=>exact .map k v x m h0 h2 h1
 | eP k v x m h0 h2 h1=>exact .eP k v x m h0 h2 h1
 | eo j b rs vals ft h1 h2=>exact .eo j b rs vals ft h1 h2
 | lp j b rs st k ps bp body tm h1 h2=>exact .lp j b rs st k ps bp body tm h1 h2
 | fE o h=>exact(by cases o<;>first | exact .fE _ h | cases h)
theorem DI (f:TX→TX) (hf:f .undef = .undef):∀ (t:List (Nat×TX)) (k:Nat),aT (t.map fun p=>(p.1,f p.2)) k=f (aT t k)
 | [],k=>hf.symm
 | (i,u)::r,k=>by
  simp only[List.map_cons,aT]
  cases Nat.beq i k with
  | true=>rfl
  | false=>exact DI f hf r k
theorem Sk.Wn {ids:List Nat} (h:ba ρ σ s) (hn:ids.Nodup) (hf:uI ids σ.l=true):∃ s':St,(yW ids s.l∧eI ids s.l=s'.l∧sD ids s.t s'.t)∧ba ρ (σ.re ids) s':=by
 have eK:yW ids s.l:=by
  intro id an o b t ho mh
  unfold uI at hf
  rw[List.all_eq_true] at hf
  have:=hf id an
  obtain⟨a,ha,dB⟩:=F2.right h.l ho
  rw[ha] at this
  have fin:∀ rs,(Nat.ble b ids.length&&rs.all fun r=>Nat.blt r b&&(match ids[r]? with | some i=>Nat.beq i r | none=>false))=true→pq t rs→b≤ids.length∧∀ k,∀ r∈fy (aj.get t k),r < b∧ids[r]?=some r:=by
   intro rs h1 h2
   rw[Bool.and_eq_true,List.all_eq_true] at h1
   refine⟨Nat.le_of_ble_eq_true h1.1,fun k r hr=>?_⟩
   have h3:=h1.2 r (h2 k r hr)
   rw[Bool.and_eq_true] at h3
   refine⟨Nat.le_of_ble_eq_true h3.1,?_⟩
   have h4:=h3.2
   split at h4
   ·rename_i i hi
    have:=Nat.eq_of_beq_eq_true h4
    subst this;exact hi
   cases h4
  cases dB with
  | eo j b' rs vals ft h1 h2=>cases mh;exact fin rs this h2
  | lp j b' rs st k ps bp body tm h1 h2=>cases mh;exact fin rs this h2
  | fE o h=>cases this
  | _=>cases mh
 refine⟨⟨σ.t.map fun p=>(p.1,(aj.get s.t p.1).dU ids),eI ids s.l⟩,⟨eK,rfl,?_⟩,h.fT,fun k=>?_,?_⟩
 ·have:∀ (r:List (Nat×TX)),sD ids s.t (r.map fun p=>(p.1,(aj.get s.t p.1).dU ids)):=by
   intro r
   induction r with
   | nil=>trivial
   | cons p r ih=>exact⟨rfl,ih⟩
  exact this _
 ·show RX ρ (aT (σ.t.map fun p=>(p.1,p.2.re ids)) k) _
  rw[DI (TX.re ids) rfl]
  have key:∀ (r:List (Nat×TX)),(aj.get (r.map fun p=>(p.1,(aj.get s.t p.1).dU ids)) k=(aj.get s.t k).dU ids)∨aT r k = .undef:=by
   intro r
   induction r with
   | nil=>exact .inr rfl
   | cons p r ih=>
    obtain⟨i,u⟩:=p
    simp only[List.map_cons,aj.get,aT]
    by_cases dP:i=k
    ·subst dP;rw[if_pos rfl];exact .inl rfl
    have:Nat.beq i k=false:=by
     cases e:Nat.beq i k with
     | false=>rfl
     | true=>exact absurd (Nat.eq_of_beq_eq_true e) dP
    rw[if_neg dP,this];exact ih
  rcases key σ.t with e | e
  ·rw[e];exact Go.Sy.GS (h.t k)
  rw[e];exact .undef _
 show F2 (cu ρ) (ids.map fun id=>((σ.l[id]?).getD .dead).re ids) (ids.map fun id=>((s.l[id]?).getD .dead).dU ids)
 have:∀ is:List Nat,F2 (cu ρ) (is.map fun id=>((σ.l[id]?).getD .dead).re ids) (is.map fun id=>((s.l[id]?).getD .dead).dU ids):=by
  intro is
  induction is with
  | nil=>exact .nil
  | cons id is ih=>
   refine .cons (Yo ?_) ih
   cases ha:σ.l[id]? with
   | none=>rw[F2.none h.l ha];exact .dead
   | some a=>
    obtain⟨o,ho,dB⟩:=F2.left h.l ha
    rw[ho];exact dB
 exact this ids
theorem Sk.GS {ids:List Nat} (h:ba ρ σ s) (hn:oT ids=true) (hf:uI ids σ.l=true):∃ s',Sub s s'∧ba ρ (σ.re ids) s':=by
 obtain⟨s',⟨h1,h2,h3⟩,h4⟩:=Sk.Wn h (Ft hn) hf
 exact⟨s',aiF ids (Ft hn) h1 h2 h3,h4⟩
end
end Go.Sy
namespace Go.Sy
open Go Go.aj
variable [aC] [Λ:cZ] [cP] [dC] [bh] [R0:cd]
section
variable {P:Program} {V:Env} {C:Cx} {ρ ρ':aO} {σ bE:Sk} {s:St}
theorem beq_false {i j:Nat} (h:i≠j):Nat.beq i j=false:=by
 cases e:Nat.beq i j with
 | false=>rfl
 | true=>exact absurd (Nat.eq_of_beq_eq_true e) h
theorem xu (m k j:Nat):hasB (lY m k) j=(hasB m j||decide (k=j)):=by
 have h:∀ m j:Nat,hasB m j=m.testBit j:=fun m j=>by
  unfold hasB Nat.testBit
  have:∀ x:Nat,Nat.beq (Nat.land x 1) 1=(1 &&& x != 0):=fun x=>by
   show Nat.beq (x &&& 1) 1=_
   rw[Nat.and_comm 1 x,Nat.and_one_is_mod]
   have:=Nat.mod_two_eq_zero_or_one x
   rcases this with h | h<;>rw[h]<;>rfl
  exact this _
 rw[h,h]
 show(m ||| (1 <<< k)).testBit j=_
 rw[Nat.testBit_or]
 congr 1
 rw[Nat.testBit_shiftLeft]
 by_cases e:k=j
 ·subst e;simp
 simp[e]
 intro hle
 have:j - k≠0:=by omega
 obtain⟨q,hq⟩:∃ q,j - k=q+1:=⟨j - k - 1,by omega⟩
 rw[hq,Nat.testBit_succ]
 simp
def j4 (k:Nat):List (Nat×TX)→Bool
 | []=>false
 | (i,_)::r=>Nat.beq i k||j4 k r
theorem Jq {k:Nat}:∀ {t:List (Nat×TX)},j4 k t=false→aT t k = .undef
 | [],_=>rfl
 | (i,u)::r,h=>by
  simp only[j4,Bool.or_eq_false_iff] at h
  simp only[aT,h.1,cond_false]
  exact Jq h.2
theorem EA (j:Nat) (x:TX):∀ (t:List (Nat×TX)) (k:Nat),k≠j→aT (ru j x t) k=aT t k∧j4 k (ru j x t)=j4 k t
 | [],k,h=>by
  have:=beq_false (fun e:j=k=>h e.symm)
  simp[ru,aT,j4,this]
 | (i,u)::r,k,h=>by
  have hj:=beq_false (fun e:j=k=>h e.symm)
  simp only[ru]
  cases h1:Nat.ble j i with
  | true=>
   cases h2:Nat.beq j i with
   | true=>simp
   | false=>simp[aT,j4,hj]
  | false=>
   simp only[cond_false,aT,j4]
   obtain⟨k1,k2⟩:=EA j x r k h
   rw[k1,k2];exact⟨rfl,rfl⟩
theorem Tj (j:Nat) (x:TX):∀ (t:List (Nat×TX)),j4 j t=false→aT (ru j x t) j=x
 | [],_=>by simp[ru,aT]
 | (i,u)::r,h=>by
  simp only[j4,Bool.or_eq_false_iff] at h
  simp only[ru]
  cases h1:Nat.ble j i with
  | true=>
   have:Nat.beq j i=false:=beq_false (fun e=>by subst e;simp at h)
   simp[this,aT]
  | false=>simp only[cond_false,aT,h.1];exact Tj j x r h.2
theorem GX (live:Nat):∀ (t:List (Nat×TX)) (seen k:Nat),(hasB seen k=true→j4 k (lQ live t seen)=false)∧(hasB seen k=false→aT (lQ live t seen) k = .undef∨aT (lQ live t seen) k=aT t k)
 | [],seen,k=>⟨fun _=>rfl,fun _=> .inl rfl⟩
 | (
    i,u)::r,seen,k=>by
  simp only[lQ]
  have sZ:=GX live r (lY seen i) k
  have Te:=GX live r seen k
  have ihi:=GX live r (lY seen i) i
  cases hc:(hasB live i && !hasB seen i) with
  | false=>
   simp only[cond_false]
   refine⟨Te.1,fun h=>?_⟩
   by_cases dP:i=k
   ·subst dP
    have hl:hasB live i=false:=by simpa [h] using hc
    left
    have:∀ (t:List (Nat×TX)) (seen:Nat),j4 i (lQ live t seen)=false:=by
     intro t
     induction t with
     | nil=>intro _;rfl
     | cons p t rn=>
      obtain⟨j,w⟩:=p
      intro seen
      simp only[lQ]
      cases kn:(hasB live j && !hasB seen j) with
      | false=>exact rn seen
      | true=>
       have eQ:i≠j:=by rintro rfl;simp[hl] at kn
       simp only[cond_true]
       cases AM w with
       | true=>exact rn _
       | false=>simp only[cond_false];rw[(EA j w _ i eQ).2];exact rn _
    exact Jq (this r seen)
   rcases Te.2 h with e | e
   ·exact .inl e
   right;rw[e];simp only[aT,beq_false dP,cond_false]
  | true=>
   simp only[cond_true]
   simp only[Bool.and_eq_true,Bool.not_eq_true'] at hc
   have Au:j4 i (lQ live r (lY seen i))=false:=ihi.1 (by rw[xu];simp)
   cases hu:AM u with
   | true=>
    simp only[cond_true]
    refine⟨fun h=>sZ.1 (by rw[xu,h];rfl),fun h=>?_⟩
    by_cases dP:i=k
    ·subst dP;exact .inl (Jq Au)
    rcases sZ.2 (by rw[xu,h];simp[dP]) with e | e
    ·exact .inl e
    right;rw[e];simp only[aT,beq_false dP,cond_false]
   | false=>
    simp only[cond_false]
    refine⟨fun h=>?_,fun h=>?_⟩
    ·have dP:k≠i:=by rintro rfl;rw[h] at hc;simp at hc
     rw[(EA i u _ k dP).2]
     exact sZ.1 (by rw[xu,h];rfl)
    by_cases dP:i=k
    ·subst dP
     right
     rw[Tj i u _ Au]
     simp[aT]
    rw[(EA i u _ k (fun e=>dP e.symm)).1]
    rcases sZ.2 (by rw[xu,h];simp[dP]) with e | e
    ·exact .inl e
    right;rw[e];simp only[aT,beq_false dP,cond_false]
theorem RZ (k:Nat):hasB 0 k=false:=by
 unfold hasB
 have:Nat.shiftRight 0 k=0:=Nat.zero_shiftRight k
 rw[this];rfl
theorem yC (live:Nat) (h:ba ρ σ s):ba ρ (σ.di live) s:=by
 refine⟨h.fT,fun k=>?_,h.l⟩
 show RX ρ (aT (lQ live σ.t 0) k) _
 rcases (GX live σ.t 0 k).2 (RZ k) with e | e
 ·rw[e];exact .undef _
 rw[e];exact h.t k
mutual
theorem TX.beq_eq:∀ {x y:TX},TX.beq x y=true→x=y
 | .undef,y,h=>by cases y<;>simp[TX.beq] at h<;>rfl
 | .gone,y,h=>by cases y<;>simp[TX.beq] at h<;>rfl
 | .d t x,y,h=>by
  cases y<;>simp[TX.beq] at h
  obtain⟨rfl,h2⟩:=h
  rw[X.beq_eq h2]
 | .bC s,y,h=>by cases y<;>simp[TX.beq] at h;rw[h]
 | .fp,y,h=>by cases y<;>simp[TX.beq] at h<;>rfl
 | .ptr i o,y,h=>by cases y<;>simp[TX.beq] at h;rw[h.1,h.2]
 | .bw t e o,y,h=>by
  cases y<;>simp[TX.beq] at h
  obtain⟨⟨rfl,h2⟩,h3⟩:=h
  rw[X.beq_eq h2,h3]
 | .row i,y,h=>by cases y<;>simp[TX.beq] at h;rw[h]
 | .bf i k o,y,h=>by
  cases y<;>simp[TX.beq] at h
  obtain⟨⟨rfl,h2⟩,h3⟩:=h
  rw[X.beq_eq h2,h3]
 | .map i,y,h=>by cases y<;>simp[TX.beq] at h;rw[h]
 | .bd i,y,h=>by cases y<;>simp[TX.beq] at h;rw[h]
 | .bL i n,y,h=>by cases y<;>simp[TX.beq] at h;rw[h.1,h.2]
 | .bD i t x,y,h=>by
  cases y<;>simp[TX.beq] at h
  obtain⟨⟨rfl,rfl⟩,h3⟩:=h
  rw[X.beq_eq h3]
 | .agg a,y,h=>by
  cases y<;>simp[TX.beq] at h
  rw[TX.y3 h]
 | .aI a,y,h=>by
  cases y<;>simp[TX.beq] at h
  rw[TX.y3 h]
 | .aL f a,y,h=>by
  cases y<;>simp[TX.beq] at h
  rw[h.1,TX.y3 h.2]
theorem TX.y3:∀ {x y:List TX},TX.sq x y=true→x=y
 | [],y,h=>by cases y<;>simp[TX.sq] at h<;>rfl
 | a::r,y,h=>by
  cases y<;>simp[TX.sq] at h
  rw[TX.beq_eq h.1,TX.y3 h.2]
end
theorem Xw:∀ {x y:List (Nat×TX)},wE x y=true→x=y
 | [],[],_=>rfl
 | (i,a)::r,(j,b)::s,h=>by
  simp only[wE,Bool.and_eq_true] at h
  rw[Nat.eq_of_beq_eq_true h.1.1,TX.beq_eq h.1.2,Xw h.2]
 | [],_::_,h=>by simp[wE] at h
 | _::_,[],h=>by simp[wE] at h
theorem AX.beq_eq {x y:AX} (h:AX.beq x y=true):x=y:=by
 cases x<;>cases y<;>simp[AX.beq] at h
 ·rfl
 ·rw[h.1,TX.y3 h.2]
 ·obtain⟨⟨⟨h1,h2⟩,h3⟩,h4⟩:=h;rw[h1,h2,h3,X.beq_eq h4]
 ·obtain⟨⟨⟨h1,h2⟩,h3⟩,h4⟩:=h;rw[h1,h2,h3,X.beq_eq h4]
 ·obtain⟨⟨h1,h2⟩,h3⟩:=h;rw[h1,h2,h3]
 ·obtain⟨⟨⟨h1,h2⟩,h3⟩,h4⟩:=h;rw[h1,h2,h3,h4]
 rfl
theorem CO:∀ {x y:List AX},ot x y=true→x=y
 | [],[],_=>rfl
 | a::r,b::s,h=>by
  simp only[ot,Bool.and_eq_true] at h
  rw[AX.beq_eq h.1,CO h.2]
 | [],_::_,h=>by simp[ot] at h
 | _::_,[],h=>by simp[ot] at h
structure yV (n h:Nat) (ρ:aO) (g:Nat→X) (ρ':aO) (g':Nat→X):Prop where
 lk:∀ i v,i < n→lk ρ i=some v→lk ρ' i=some v
 g:∀ p v,p < h→(g p).den ρ=some v→(g' p).den ρ'=some v
theorem OE {i n:Nat} (h:Nat.blt i n=true):i < n:=Nat.le_of_ble_eq_true h
theorem X.jl {n h:Nat} {g g':Nat→X} (hf:yV n h ρ g ρ' g'):∀ {x:X},x.dn n h=true→∀ {v:Sy.V},(x.fill g).den ρ=some v→(x.fill g').den ρ'=some v:=by
 intro x
 induction x with
 | var i=>intro ho v hv;exact hf.lk i v (OE ho) hv
 | hole p=>intro ho v hv;exact hf.g p v (OE ho) hv
 | pair a b dE dz=>
  intro ho v hv
  simp only[X.dn,Bool.and_eq_true] at ho
  simp only[X.fill,X.den] at hv ⊢
  cases ha:(a.fill g).den ρ<;>cases hb:(b.fill g).den ρ<;>simp[ha,hb] at hv
  rw[dE ho.1 ha,dz ho.2 hb];simp[hv]
 | aL f x ih | box x ih | proj i j x ih | mk i x ih | u1 o x ih=>
  intro ho v hv
  simp only[X.dn] at ho
  simp only[X.fill,X.den] at hv ⊢
  cases hx:(x.fill g).den ρ<;>simp[hx] at hv
  rw[ih ho hx];simpa using hv
 | u2 o x y vv vw=>
  intro ho v hv
  simp only[X.dn,Bool.and_eq_true] at ho
  simp only[X.fill,X.den] at hv ⊢
  cases hx:(x.fill g).den ρ<;>cases hy:(y.fill g).den ρ<;>simp[hx,hy] at hv
  rw[vv ho.1 hx,vw ho.2 hy];simpa using hv
 | u3 o x y z vv vw KX=>
  intro ho v hv
  simp only[X.dn,Bool.and_eq_true] at ho
  simp only[X.fill,X.den] at hv ⊢
  cases hx:(x.fill g).den ρ<;>cases hy:(y.fill g).den ρ<;>cases hz:(z.fill g).den ρ<;>simp[hx,hy,hz] at hv
  rw[vv ho.1.1 hx,vw ho.1.2 hy,KX ho.2 hz];simpa using hv
 | _=>intro ho v hv;exact hv
mutual
theorem TX.jl {n h:Nat} {g g':Nat→X} (hf:yV n h ρ g ρ' g'):∀ {c:TX},c.dn n h=true→∀ {t:T},RX ρ (c.fill g) t→RX ρ' (c.fill g') t
 | .undef,_,t,_=> .undef t
 | .gone,_,t,hr=>by simp only[TX.fill] at hr ⊢;cases hr;exact .gone
 | .d t x,ho,u,hr=>by
  simp only[TX.fill] at hr ⊢
  obtain⟨hv,v,h1,rfl⟩:=l9 hr
  exact .d t _ v hv (X.jl hf ho h1)
 | .bC s,_,t,hr=>by simp only[TX.fill] at hr ⊢;cases hr;exact .bC _
 | .fp,_,t,hr=>by simp only[TX.fill] at hr ⊢;cases hr;exact .fp
 | .ptr i o,_,t,hr=>by simp only[TX.fill] at hr ⊢;cases hr;exact .ptr _ _
 | .bw t e o,ho,u,hr=>by
  simp only[TX.fill] at hr ⊢
  cases hr with
  | bw _ _ b off size els k v h1 h2 h3 h4 h5 h6=>exact .bw t _ b _ size els k v h1 (X.jl hf ho h2) h3 h4 h5 h6
 | .row i,_,t,hr=>by simp only[TX.fill] at hr ⊢;cases hr;exact .row _
 | .bf i k o,ho,t,hr=>by
  simp only[TX.fill] at hr ⊢
  cases hr with
  | bf _ _ _ kk m h1=>exact .bf _ _ _ kk m (X.jl hf ho h1)
 | .map i,_,t,hr=>by simp only[TX.fill] at hr ⊢;cases hr;exact .map _
 | .bd i,_,t,hr=>by simp only[TX.fill] at hr ⊢;cases hr;exact .bd _
 | .bL i n,_,t,hr=>by simp only[TX.fill] at hr ⊢;cases hr;exact .bL _ _
 | .bD i t x,ho,u,hr=>by
  simp only[TX.fill] at hr ⊢
  cases hr with
  | bD _ _ _ xs h1=>exact .bD _ _ _ xs (X.jl hf ho h1)
 | .agg cs,ho,t,hr=>by
  simp only[TX.fill,TX.dn] at hr ho ⊢
  obtain⟨k1,k2⟩:=TX.zA hf (cs:=cs) ho
  cases hr with
  | agg _ ts h1 h2=>exact .agg _ ts (by rw[k1.2,←k1.1];exact h1) fun i c t hc ht=>k2 i c t hc fun c' iG=>h2 i c' t iG ht
  | kD _ ds h1 h2=>exact .kD _ ds (by rw[k1.2,←k1.1];exact h1) fun i c d hc hd=>k2 i c (.d d) hc fun c' iG=>h2 i c' d iG hd
 | .aI cs,ho,t,hr=>by
  simp only[TX.fill,TX.dn] at hr ho ⊢
  obtain⟨k1,k2⟩:=TX.zA hf (cs:=cs) ho
  cases hr with
  | aI _ ts h1 h2=>exact .aI _ ts (by rw[k1.2,←k1.1];exact h1) fun i c t hc ht=>k2 i c t hc fun c' iG=>h2 i c' t iG ht
  | jI _ ds h1 h2=>exact .jI _ ds (by rw[k1.2,←k1.1];exact h1) fun i c d hc hd=>k2 i c (.d d) hc fun c' iG=>h2 i c' d iG hd
 | .aL f cs,ho,t,hr=>by
  simp only[TX.fill,TX.dn] at hr ho ⊢
  obtain⟨k1,k2⟩:=TX.zA hf (cs:=cs) ho
  cases hr with
  | aL _ _ ts h1 h2=>exact .aL f _ ts (by rw[k1.2,←k1.1];exact h1) fun i c t hc ht=>k2 i c t hc fun c' iG=>h2 i c' t iG ht
  | lu _ _ ds h1 h2=>exact .lu f _ ds (by rw[k1.2,←k1.1];exact h1) fun i c d hc hd=>k2 i c (.d d) hc fun c' iG=>h2 i c' d iG hd
theorem TX.zA {n h:Nat} {g g':Nat→X} (hf:yV n h ρ g ρ' g'):∀ {cs:List TX},TX.vT n h cs=true→((TX.me g cs).length=cs.length∧(TX.me g' cs).length=cs.length)∧∀ (i:Nat) c t,(TX.me g' cs)[i]?=some c→(∀ c',(TX.me g cs)[i]?=some c'→RX ρ c' t)→RX ρ' c t
 | [],_=>⟨⟨rfl,rfl⟩,fun i c t hc=>by simp[TX.me] at hc⟩
 | c0::cs,ho=>by
  simp only[TX.vT,Bool.and_eq_true] at ho
  obtain⟨k1,k2⟩:=TX.zA hf (cs:=cs) ho.2
  refine⟨⟨by simp[TX.me,k1.1],by simp[TX.me,k1.2]⟩,fun i c t hc hr=>?_⟩
  cases i with
  | zero=>
   simp only[TX.me,List.getElem?_cons_zero,Option.some.injEq] at hc hr
   subst hc
   exact TX.jl hf ho.1 (hr _ rfl)
  | succ i=>
   simp only[TX.me,List.getElem?_cons_succ] at hc hr
   exact k2 i c t hc hr
end
end
end Go.Sy
namespace Go.Sy
open Go Go.aj
variable [aC] [cZ] [cP] [dC] [bh] [cd]
section
variable {P:Program} {V:Env} {C:Cx} {ρ ρ':aO} {σ bE:Sk} {s:St}
theorem AX.jl {n h:Nat} {g g':Nat→X} (hf:yV n h ρ g ρ' g') {a:AX} (ho:a.dn n h=true) {o:AO} (hr:cu ρ (a.fill g) o):cu ρ' (a.fill g') o:=by
 cases a with
 | dead=>simp only[AX.fill] at hr ⊢;cases hr;exact .dead
 | var ty cs=>
  simp only[AX.fill,AX.dn] at hr ho ⊢
  obtain⟨k1,k2⟩:=TX.zA hf (cs:=cs) ho
  cases hr with
  | var _ _ ts h1=>exact .var ty _ ts (F2.of (by rw[k1.2,←k1.1];exact h1.len) fun i c t hc ht=>k2 i c t hc fun c' iG=>h1.get iG ht)
 | row fr e t x=>
  simp only[AX.fill,AX.dn] at hr ho ⊢
  cases hr with
  | row _ _ _ xs h0 h1=>exact .row e t _ xs h0 (X.jl hf ho h1)
  | bx _ _ _ xs h0 h1=>exact .bx e t _ xs h0 (X.jl hf ho h1)
 | map fr k v x=>
  simp only[AX.fill,AX.dn] at hr ho ⊢
  cases hr with
  | map _ _ _ m h0 h2 h1=>exact .map k v _ m h0 h2 (X.jl hf ho h1)
  | eP _ _ _ m h0 h2 h1=>exact .eP k v _ m h0 h2 (X.jl hf ho h1)
 | eo j b rs=>simp only[AX.fill] at hr ⊢;cases hr with | eo _ _ _ vals ft h1 h2=>exact .eo j b rs vals ft h1 h2
 | lp j b rs st=>simp only[AX.fill] at hr ⊢;cases hr with | lp _ _ _ _ k ps bp body tm h1 h2=>exact .lp j b rs st k ps bp body tm h1 h2
 | fE=>simp only[AX.fill] at hr ⊢;cases hr with | fE o h=>exact .fE o h
theorem Sk.jl {n h n1 n2:Nat} {g g':Nat→X} (hf:yV n h ρ g ρ' g') {M:Sk} (ho:M.dn n h=true) (hb:fI n2 ρ') (hr:ba ρ (M.fill g n1) s):ba ρ' (M.fill g' n2) s:=by
 simp only[Sk.dn,Bool.and_eq_true,List.all_eq_true] at ho
 refine⟨hb,fun k=>?_,?_⟩
 ·have h2:=hr.t k
  show RX ρ' (aT (M.t.map fun p=>(p.1,p.2.fill g')) k) _
  have h2:RX ρ (aT (M.t.map fun p=>(p.1,p.2.fill g)) k) (aj.get s.t k):=h2
  rw[DI (TX.fill g) rfl] at h2
  rw[DI (TX.fill g') rfl]
  by_cases hk:aT M.t k = .undef
  ·rw[hk];exact .undef _
  have:∀ t:List (Nat×TX),aT t k ≠ .undef→∃ p∈t,aT t k=p.2:=by
   intro t
   induction t with
   | nil=>intro h;exact absurd rfl h
   | cons p r ih=>
    intro hk
    simp only[aT] at hk ⊢
    cases e:Nat.beq p.1 k with
    | true=>exact⟨p,by simp,rfl⟩
    | false=>
     rw[e] at hk
     obtain⟨q,hq,hq2⟩:=ih hk
     exact⟨q,by simp[hq],hq2⟩
  obtain⟨p,hp,e⟩:=this M.t hk
  rw[e] at h2 ⊢
  exact TX.jl hf (ho.1 p hp) h2
 have h2:F2 (cu ρ) (M.l.map (AX.fill g)) s.l:=hr.l
 show F2 (cu ρ') (M.l.map (AX.fill g')) s.l
 refine F2.of (by have:=h2.len;simpa using this) fun i a o ha oG=>?_
 simp only[List.getElem?_map,Option.map_eq_some_iff] at ha
 obtain⟨a0,zR,rfl⟩:=ha
 exact AX.jl hf (ho.2 a0 (List.mem_of_getElem? zR)) (h2.get (i:=i) (by simp[zR]) oG)
theorem XF:∀ {ts:List Ty} {xs:List X} {y:(aQ ts).den},xs.length=ts.length→(gT xs).den ρ=some ⟨aQ ts,y⟩→∀ (j:Nat) x,xs[j]?=some x→x.den ρ=dm ts y j
 | [],xs,y,hl,h,j,x,hx=>by
  have:xs=[]:=by simpa using hl
  subst this;simp at hx
 | [t],xs,y,hl,h,j,x,hx=>by
  match xs,hl with
  | [z],_=>
   cases j with
   | zero=>simp at hx;subst hx;exact h
   | succ j=>simp at hx
 | t::u::ts,xs,y,hl,h,j,x,hx=>by
  match xs,hl with
  | z::w::r,hl=>
   rw[XE] at h
   simp only[X.den] at h
   cases hz:z.den ρ with
   | none=>simp[hz] at h
   | some p=>
    cases hw:(gT (w::r)).den ρ with
    | none=>simp[hz,hw] at h
    | some q=>
     simp only[hz,hw,Option.some.injEq] at h
     obtain⟨p1,p2⟩:=p;obtain⟨q1,q2⟩:=q
     have h:(⟨.aI p1 q1,(p2,q2)⟩:Sy.V)=⟨.aI t (aQ (u::ts)),y⟩:=h
     cases h
     cases j with
     | zero=>simp at hx;subst hx;rw[hz];rfl
     | succ j=>
      have:=XF (ts:=u::ts) (xs:=w::r) (y:=q2) (by simpa using hl) hw j x (by simpa using hx)
      rw[this];rfl
theorem instS_ok {M:Sk} {nh n0:Nat} {ts:List Ty} {ρ0:aO} {xs:List X} {y:(aQ ts).den} (h:ba ρ σ s) (hi:instS M nh σ=some xs) (SG:ts.length=nh) (hx:(gT xs).den ρ=some ⟨aQ ts,y⟩) (hM:M.dn n0 nh=true)
  (hE:∀ i v,i < n0→lk ρ i=some v→lk ρ0 i=some v) (hb:fI n0 ρ0):∃ s',Sub s s'∧ba ((n0,⟨aQ ts,y⟩)::ρ0) (M.fill (xo n0 nh) (n0+1)) s':=by
 unfold instS at hi
 split at hi
 ·rename_i A B ps hm
  simp only at hi
  generalize Ep:Q8 M (B.re (ps.map (·.2)))=vs at hi
  cases hc:(wE (M.fill (vE vs) σ.n).t (B.re (ps.map (·.2))).t&&ot (M.fill (vE vs) σ.n).l (B.re (ps.map (·.2))).l&&oT (ps.map (·.2))&&uI (ps.map (·.2)) B.l) with
  | false=>simp[hc] at hi
  | true=>
   simp only[hc,cond_true,Option.some.injEq] at hi
   simp only[Bool.and_eq_true] at hc
   obtain⟨⟨⟨c1,c2⟩,c3⟩,c4⟩:=hc
   obtain⟨s1,k1,k2,k3⟩:=ae8 _ (yC (LV M.t 0) h) hm
   obtain⟨s2,m1,m2⟩:=Sk.GS k2 c3 c4
   have hn:(B.re (ps.map (·.2))).n=σ.n:=k3
   have e:M.fill (vE vs) σ.n=B.re (ps.map (·.2)):=by
    have e1:=Xw c1;have e2:=CO c2
    show(⟨_,_,_⟩:Sk)=_
    cases hB:B.re (ps.map (·.2)) with
    | mk a b c=>
     rw[hB] at e1 e2 hn
     simp only[Sk.fill] at e1 e2 ⊢
     simp only at hn
     rw[e1,e2,hn]
   rw[←e] at m2
   refine⟨s2,Sub.trans' k1 m1,Sk.jl (n1:=σ.n) ⟨fun i v fW hv=>?_,fun p v hp hv=>?_⟩ hM (hb.push (Nat.lt_succ_self n0) _) m2⟩
   ·have:=hE i v fW hv
    simp only[lk,beq_false (by omega:n0≠i),cond_false]
    exact this
   have j1:xs.length=ts.length:=by rw[←hi,SG];simp
   have KO:xs[p]?=some (vE vs p):=by rw[←hi];simp[hp]
   have gQ:=XF j1 hx p _ KO
   rw[hv] at gQ
   show(vS nh p (.var n0)).den _=_
   rw[←SG,Fx p (a:=y) (show(X.var n0).den _=some ⟨aQ ts,y⟩ from ku n0 _ ρ0) (by omega),←gQ]
 cases hi
end
def vz {α:Type} (step:(α→Prop)→α→Prop):Nat→α→Prop
 | 0,_=>False
 | n+1,z=>step (vz step n) z
abbrev LJ:=Nat→Sy.V→Prop
abbrev LQ:=Ex→Sk→aO→LJ→Prop
def jQ (p:Sy.V→Prop) (J:LJ):LJ
 | 0=>p
 | k+1=>J k
def Tr.wp (cs:List Callee):Tr→aO→LQ→LJ→Prop
 | .leaf e σ,ρ,Q,J=>Q e σ ρ J
 | .out k x,ρ,_,J=>∃ v,x.den ρ=some v∧J k v
 | .bT x t,ρ,Q,J=>x.den ρ=some ⟨.bool,true⟩∧Tr.wp cs t ρ Q J
 | .get v xs k t,ρ,Q,J=>∃ (u:Ty) (l:List u.den) (kk:IntKind) (i:Int) (e:u.den),xs.den ρ=some ⟨.list u,l⟩∧k.den ρ=some ⟨.int kk,i⟩∧av l i=some e∧Tr.wp cs t ((v,⟨u,e⟩)::ρ) Q J
 | .call v c x t,ρ,Q,J=>∃ (C:Callee) (a:(aQ C.args).den) (y:(aQ C.res).den),cs[c]?=some C∧x.den ρ=some ⟨aQ C.args,a⟩∧C.fn a=some y∧Tr.wp cs t ((v,⟨aQ C.res,y⟩)::ρ) Q J
 | .iJ c a b,ρ,Q,J=>∃ b0:Bool,c.den ρ=some ⟨.bool,b0⟩∧(b0=true→Tr.wp cs a ρ Q J)∧(b0=false→Tr.wp cs b ρ Q J)
 | .jA c a b,ρ,Q,J=>∃ (u:Ty) (xs:List u.den),c.den ρ=some ⟨.list u,xs⟩∧(xs=[]→Tr.wp cs a ρ Q J)∧Tr.wp cs b ρ Q J
 | .join ty v a b,ρ,Q,J=>Tr.wp cs a ρ Q (jQ (fun z=>∃ y:ty.den,z=⟨ty,y⟩∧Tr.wp cs b ((v,⟨ty,y⟩)::ρ) Q J) J)
 | .loop ty v init body,ρ,Q,J=>∃ z0:ty.den,init.den ρ=some ⟨ty,z0⟩∧∃ n,vz (fun again z=>Tr.wp cs body ((v,⟨ty,z⟩)::ρ) Q (jQ (fun z'=>∃ y:ty.den,z'=⟨ty,y⟩∧again y) J)) n z0
 | .bad _,_,_,_=>False
theorem xN {α:Type} {s1 s2:(α→Prop)→α→Prop} (h:∀ p q z,(∀ y,p y→q y)→s1 p z→s2 q z):∀ {n:Nat} {z:α},vz s1 n z→vz s2 n z
 | 0,_,hz=>hz
 | n+1,z,hz=>h _ _ z (fun y hy=>xN h hy) hz
theorem pC {p q:Sy.V→Prop} {J J':LJ} (h:∀ v,p v→q v) (hJ:∀ k v,J k v→J' k v):∀ k v,jQ p J k v→jQ q J' k v
 | 0,v,hv=>h v hv
 | k+1,v,hv=>hJ k v hv
theorem Tr.wp_mono {cs:List Callee}:∀ {t:Tr} {ρ:aO} {Q Q':LQ} {J J':LJ},(∀ k v,J k v→J' k v)→(∀ e σ ρ' J1 J2,(∀ k v,J1 k v→J2 k v)→Q e σ ρ' J1→Q' e σ ρ' J2)→Tr.wp cs t ρ Q J→Tr.wp cs t ρ Q' J':=by
 intro t
 induction t with
 | leaf e σ=>intro ρ Q Q' J J' hJ hQ h;exact hQ e σ ρ J J' hJ h
 | out k x=>intro ρ Q Q' J J' hJ hQ ⟨v,h1,h2⟩;exact⟨v,h1,hJ k v h2⟩
 | bT x t ih=>intro ρ Q Q' J J' hJ hQ ⟨h1,h2⟩;exact⟨h1,ih hJ hQ h2⟩
 | get v xs k t ih=>intro ρ Q Q' J J' hJ hQ ⟨u,l,kk,i,e,h1,h2,h3,h4⟩;exact⟨u,l,kk,i,e,h1,h2,h3,ih hJ hQ h4⟩
 | call v c x t ih=>intro ρ Q Q' J J' hJ hQ ⟨C,a,y,h1,h2,h3,h4⟩;exact⟨C,a,y,h1,h2,h3,ih hJ hQ h4⟩
 | iJ c a b dE dz=>intro ρ Q Q' J J' hJ hQ ⟨b0,h1,h2,h3⟩;exact⟨b0,h1,fun h=>dE hJ hQ (h2 h),fun h=>dz hJ hQ (h3 h)⟩
 | jA c a b dE dz=>intro ρ Q Q' J J' hJ hQ ⟨u,xs,h1,h2,h3⟩;exact⟨u,xs,h1,fun h=>dE hJ hQ (h2 h),dz hJ hQ h3⟩
 | join ty v a b dE dz=>
  intro ρ Q Q' J J' hJ hQ h
  exact dE (pC (fun z ⟨y,h1,h2⟩=>⟨y,h1,dz hJ hQ h2⟩) hJ) hQ h
 | loop ty v i b ih=>
  intro ρ Q Q' J J' hJ hQ ⟨z0,h1,n,h2⟩
  exact⟨z0,h1,n,xN (s1:=fun again z=>Tr.wp cs b ((v,⟨ty,z⟩)::ρ) Q (jQ (fun z'=>∃ y:ty.den,z'=⟨ty,y⟩∧again y) J)) (fun p q z rb hz=>ih (pC (fun z' ⟨y,h3,h4⟩=>⟨y,h3,rb y h4⟩) hJ) hQ hz) h2⟩
 | bad w=>intro ρ Q Q' J J' _ _ h;exact h
def gw (Q:LQ):Prop:=∀ e σ ρ J1 J2,(∀ k v,J1 k v→J2 k v)→Q e σ ρ J1→Q e σ ρ J2
theorem l6 {cs:List Callee} {f:Ex→Sk→Tr} {Q:LQ} (hQ:gw Q):∀ {t:Tr} {ρ:aO} {J:LJ},Tr.wp cs (fz f t) ρ Q J→Tr.wp cs t ρ (fun e σ ρ' J'=>Tr.wp cs (f e σ) ρ' Q J') J:=by
 intro t
 induction t with
 | leaf e σ=>intro ρ J h;exact h
 | out k x=>intro ρ J h;exact h
 | bT x t ih=>intro ρ J ⟨h1,h2⟩;exact⟨h1,ih h2⟩
 | get v xs k t ih=>intro ρ J ⟨u,l,kk,i,e,h1,h2,h3,h4⟩;exact⟨u,l,kk,i,e,h1,h2,h3,ih h4⟩
 | call v c x t ih=>intro ρ J ⟨C,a,y,h1,h2,h3,h4⟩;exact⟨C,a,y,h1,h2,h3,ih h4⟩
 | iJ c a b dE dz=>intro ρ J ⟨b0,h1,h2,h3⟩;exact⟨b0,h1,fun h=>dE (h2 h),fun h=>dz (h3 h)⟩
 | jA c a b dE dz=>intro ρ J ⟨u,xs,h1,h2,h3⟩;exact⟨u,xs,h1,fun h=>dE (h2 h),dz h3⟩
 | join ty v a b dE dz=>
  intro ρ J h
  have:=dE (J:=jQ (fun z=>∃ y:ty.den,z=⟨ty,y⟩∧Tr.wp cs (fz f b) ((v,⟨ty,y⟩)::ρ) Q J) J) h
  show Tr.wp cs a ρ _ (jQ _ J)
  refine Tr.wp_mono (pC ?_ (fun _ _ h=>h)) ?_ this
  ·rintro z ⟨y,h1,h2⟩;exact⟨y,h1,dz h2⟩
  intro e σ ρ' J1 J2 hj h;exact Tr.wp_mono hj hQ h
 | loop ty v i b ih=>
  intro ρ J ⟨z0,h1,n,h2⟩
  refine⟨z0,h1,n,xN ?_ h2⟩
  intro p q z rb hz
  refine Tr.wp_mono (pC ?_ (fun _ _ h=>h)) ?_ (ih hz)
  ·rintro z' ⟨y,h3,h4⟩;exact⟨y,h3,rb y h4⟩
  intro e σ ρ' J1 J2 hj h;exact Tr.wp_mono hj hQ h
 | bad w=>intro ρ J h;exact h
theorem Wu {cs:List Callee} {e:Ex} {M:Sk} {nh:Nat} {Q:LQ} {p:Sy.V→Prop} (hQ:gw Q):∀ {t:Tr} {k:Nat} {ρ:aO} {J:LJ},(∀ v,J k v→p v)→Tr.wp cs (resolve e M nh k t) ρ Q J →
  Tr.wp cs t ρ (fun e' σ ρ' J'=>if e=e' then ∃ xs v,instS M nh σ=some xs∧(gT xs).den ρ'=some v∧p v else Q e' σ ρ' J') J:=by
 intro t
 have pH:gw (fun e' σ ρ' J'=>if e=e' then ∃ xs v,instS M nh σ=some xs∧(gT xs).den ρ'=some v∧p v else Q e' σ ρ' J'):=by
  intro e' σ ρ' J1 J2 hj h
  by_cases he:e=e'
  ·rw[if_pos he] at h ⊢;exact h
  rw[if_neg he] at h ⊢;exact hQ e' σ ρ' J1 J2 hj h
 induction t with
 | leaf e' σ=>
  intro k ρ J hp h
  simp only[resolve] at h
  show if e=e' then _ else _
  split at h
  ·rename_i he
   rw[if_pos he]
   split at h
   ·rename_i xs dw
    obtain⟨v,h1,h2⟩:=h
    exact⟨xs,v,dw,h1,hp v h2⟩
   exact h.elim
  rename_i he
  rw[if_neg he];exact h
 | out k x=>intro _ ρ J hp h;exact h
 | bT x t ih=>intro k ρ J hp ⟨h1,h2⟩;exact⟨h1,ih hp h2⟩
 | get v xs i t ih=>intro k ρ J hp ⟨u,l,kk,j,e,h1,h2,h3,h4⟩;exact⟨u,l,kk,j,e,h1,h2,h3,ih hp h4⟩
 | call v c x t ih=>intro k ρ J hp ⟨C,a,y,h1,h2,h3,h4⟩;exact⟨C,a,y,h1,h2,h3,ih hp h4⟩
 | iJ c a b dE dz=>intro k ρ J hp ⟨b0,h1,h2,h3⟩;exact⟨b0,h1,fun h=>dE hp (h2 h),fun h=>dz hp (h3 h)⟩
 | jA c a b dE dz=>intro k ρ J hp ⟨u,xs,h1,h2,h3⟩;exact⟨u,xs,h1,fun h=>dE hp (h2 h),dz hp h3⟩
 | join ty v a b dE dz=>
  intro k ρ J hp h
  have:=dE (k:=k+1) (J:=jQ (fun z=>∃ y:ty.den,z=⟨ty,y⟩∧Tr.wp cs (resolve e M nh k b) ((v,⟨ty,y⟩)::ρ) Q J) J) hp h
  show Tr.wp cs a ρ _ (jQ _ J)
  refine Tr.wp_mono (pC ?_ (fun _ _ h=>h)) pH this
  rintro z ⟨y,h1,h2⟩;exact⟨y,h1,dz hp h2⟩
 | loop ty v i b ih=>
  intro k ρ J hp ⟨z0,h1,n,h2⟩
  refine⟨z0,h1,n,xN ?_ h2⟩
  intro p' q z rb hz
  refine Tr.wp_mono (pC ?_ (fun _ _ h=>h)) pH (ih (k:=k+1) (J:=jQ _ J) hp hz)
  rintro z' ⟨y,h3,h4⟩;exact⟨y,h3,rb y h4⟩
 | bad w=>intro k ρ J hp h;exact h
theorem afo {cs:List Callee} {e:Ex}:∀ {t:Tr} {ρ:aO} {Q:LQ} {J:LJ},leaves e t=[]→gw Q→Tr.wp cs t ρ Q J→Tr.wp cs t ρ (fun e' σ ρ' J'=>e'≠e∧Q e' σ ρ' J') J:=by
 intro t
 induction t with
 | leaf e' σ=>
  intro ρ Q J hl hQ h
  refine⟨fun he=>?_,h⟩
  simp[leaves,he] at hl
 | out k x=>intro ρ Q J hl hQ h;exact h
 | bT x t ih=>intro ρ Q J hl hQ ⟨h1,h2⟩;exact⟨h1,ih hl hQ h2⟩
 | get v xs i t ih=>intro ρ Q J hl hQ ⟨u,l,kk,j,e,h1,h2,h3,h4⟩;exact⟨u,l,kk,j,e,h1,h2,h3,ih hl hQ h4⟩
 | call v c x t ih=>intro ρ Q J hl hQ ⟨C,a,y,h1,h2,h3,h4⟩;exact⟨C,a,y,h1,h2,h3,ih hl hQ h4⟩
 | iJ c a b dE dz=>
  intro ρ Q J hl hQ ⟨b0,h1,h2,h3⟩
  simp only[leaves,List.append_eq_nil_iff] at hl
  exact⟨b0,h1,fun h=>dE hl.1 hQ (h2 h),fun h=>dz hl.2 hQ (h3 h)⟩
 | jA c a b dE dz=>
  intro ρ Q J hl hQ ⟨u,xs,h1,h2,h3⟩
  simp only[leaves,List.append_eq_nil_iff] at hl
  exact⟨u,xs,h1,fun h=>dE hl.1 hQ (h2 h),dz hl.2 hQ h3⟩
 | join ty v a b dE dz=>
  intro ρ Q J hl hQ h
  simp only[leaves,List.append_eq_nil_iff] at hl
  have pH:gw (fun e' σ ρ' J'=>e'≠e∧Q e' σ ρ' J'):=fun e' σ ρ' J1 J2 hj h=>⟨h.1,hQ _ _ _ _ _ hj h.2⟩
  have:=dE hl.1 hQ h
  show Tr.wp cs a ρ _ (jQ _ J)
  refine Tr.wp_mono (pC ?_ (fun _ _ h=>h)) pH this
  rintro z ⟨y,h1,h2⟩;exact⟨y,h1,dz hl.2 hQ h2⟩
 | loop ty v i b ih=>
  intro ρ Q J hl hQ ⟨z0,h1,n,h2⟩
  have pH:gw (fun e' σ ρ' J'=>e'≠e∧Q e' σ ρ' J'):=fun e' σ ρ' J1 J2 hj h=>⟨h.1,hQ _ _ _ _ _ hj h.2⟩
  refine⟨z0,h1,n,xN ?_ h2⟩
  intro p q z rb hz
  refine Tr.wp_mono (pC ?_ (fun _ _ h=>h)) pH (ih hl hQ hz)
  rintro z' ⟨y,h3,h4⟩;exact⟨y,h3,rb y h4⟩
 | bad w=>intro ρ Q J hl hQ h;exact h
end Go.Sy
