import Derived.Test.YthhlipkkjippfaaGreatDoorX3
set_option linter.all false
namespace Go.Sy
open Go Go.ak
variable [aI][cH][cz][dg][bm]
section
variable {P:Program}{V:Env}{C:Cx}{o:Oper}{ρX:Operand->TX}{ρT:Operand->T}{lX:List AX}{l:List AO}{n nid:Nat}{cs:List Callee}{ρ ρ':aU}{q:dr}
theorem acW{u:Ty}{x:X}(v:u.den)(j:x.den ρ=some ⟨.box u,v⟩):RX ρ (iy (.d (.box u) x)) (unbox (.d (Ty.enc (.box u) v))):=by
 cases k:dN u with
 |false=>
  have:iy (.d (.box u) x)=.undef:=by simp[iy,k]
  rw[this];exact .undef _
 |true=>
  have F:=cy k;have key:∀e:X,e.den ρ=some ⟨u,v⟩->RX ρ (.bu u e 0) (unbox (.d (Ty.enc (.box u) v))):=λe B=>by
   have:unbox (.d (Ty.enc (.box u) v))=.bu (u.enc v).cells.length [u.enc v] 0 (0+0):=rfl;rw[this,kI F];exact .bu u e 0 0 u.size [u.enc v] 0 v F B (by simp) (by simp only[eF,List.getElem?_cons_zero,Option.getD_some,q4];rw[j5 (by rw[kI F];exact ec _)]) (by omega) (λ_ _=>rfl)
  by_cases G:∃e,x=.box e
  ·obtain⟨e,rfl⟩:=G;have:iy (.d (.box u) (.box e))=.bu u e 0:=by simp[iy,k]
   rw[this];refine key e ?_;simp only[X.den]at j;cases B:X.den ρ e with
   |none=>simp[B]at j
   |some w=>simp only[B,c4]at j;cases j;rfl
  have:iy (.d (.box u) x)=.bu u (.u1 .unbox x) 0:=by
   cases x<;>simp[iy,k]
   exact absurd ⟨_,rfl⟩ G
  rw[this];exact key _ (by simp only[X.den,j];rfl)
def Iu{x:TX}{t:T}(h:RX ρ x t):RX ρ (iy x) (unbox t):=by
 cases h with
 |d t x v hv F=>
  cases t with
  |box u=>exact acW (u:=u) v F
  |self f=>exact .bu (.aH f (.self f)) _ 0 0 1 [.aH f [.self f]] 0 () (cy rfl) rfl (by simp) rfl (ec _) (λ_ _=>rfl)
  |_=>exact .d _ x v hv F
 |ej=>exact .ej
 |iN cs ds j B=>exact .iN cs ds j B
 |fV cs ds j B=>exact .fV cs ds j B
 |undef t=>exact .undef _
 |bu t e b off size els k v j B G M N O=>exact .bu t e b off size els k v j B G M N O
 |bx id k off kk n j=>exact .bx id k off kk n j
 |bI id t x xs j=>exact .bI id t x xs j
 |agg cs ts j B=>exact .agg cs ts j B
 |aL cs ts j B=>exact .aL cs ts j B
 |iW f cs ts j B=>exact .iW f cs ts j B
 |aH f cs ts j B=>exact .aH f cs ts j B
 |gone=>exact .gone
 |_=>constructor<;>assumption
def F9{t:Ty}(hv:isVal t)(w:t.den):eK (cd t) (t.enc w).cells=t.enc w:=by
 cases j:cd t with
 |true=>exact(ql j w).symm
 |false=>rw[(lN j hv.1 hv.2 w).1];rfl
def Xv{t:Ty}(hv:isVal t)(w:t.den):ua (t.enc w)=cd t:=by
 cases j:cd t with
 |true=>rw[ql j w];rfl
 |false=>
  have:=(lN j hv.1 hv.2 w).2;cases h:t.enc w<;>simp_all [ua,D.one]
theorem FH{u t:Ty}{e:X}{b off size k:Nat}{els:List D}{v:u.den}{x:TX}{i:TI}(ag:isVal u)(ht:isVal t)(ad:e.den ρ=some ⟨u,v⟩)(M:k<els.length)(Y:((eF els k).cells.drop b).take u.size=(u.enc v).cells)(ah:b+u.size<=size)(Z:b=0->size=u.size->eF els k=u.enc v)(af:qH u e off t=some x)(ae:i.size=t.size)(G:i.desc.agg=cd t) :
  ∃r,je i size els k (b+off)=r/\r.ob/\r.bE=.none/\RX ρ x r.t:=by
 obtain⟨y,w,rfl,U,ab,ai,B⟩:=Oe ag ht ad af;unfold je;by_cases F:size=i.size/\b+off=0
 ·rw[if_pos F];have aa:b=0:=by omega
  have N:off=0:=by omega
  have O:t.size=u.size:=by omega
  have j:=Z aa (by omega);refine⟨_,rfl,⟨M,?_⟩,rfl,?_⟩
  ·rw[j,<-B N O,Xv ht,G]
  rw[j,<-B N O];exact .d t y w ht U
 rw[if_neg F];refine⟨_,rfl,⟨M,by omega⟩,rfl,?_⟩;have:((eF els k).cells.drop (b+off)).take i.size=(t.enc w).cells:=by
  rw[ae,ab,<-Y,List.drop_take,List.take_take,ti];congr 1;omega
 rw[this,G,F9 ht];exact .d t y w ht U
def vO{α:Type}{l:List α}{i:Int}{e:α}(h:an l i=some e):0<=i/\i.toNat<l.length/\l[i.toNat]?=some e:=by
 unfold an at h;split at h
 ·rename_i h0;exact⟨h0,(db.1 h).1,h⟩
 cases h
def Ea{t:Ty}{xs:List t.den}{k:Nat}{e:t.den}(h:xs[k]?=some e):eF (xs.map t.enc) k=t.enc e:=by
 simp[eF,h]
def XW(M:bM P V C){ty:TypeId}{a:Operand}(aI:o.op=.load ty a)(hl:RL ρ lX l)(aG:RX ρ (ρX a) (ρT a))(h:FI C ty lX n (iy (ρX a))=some q)(hi:bY cs n ρ q.ins ρ')(aP:Ext ρ ρ'):cD P o ρT l nid ρ' q:=by
 have j:evalOp V ρT l nid o=fD V.E ty l (unbox (ρT a)):=by simp only[evalOp,aI]
 have O:=Iu aG;unfold FI at h;cases ax:C.ty ty with
 |none=>
  simp only[ax]at h;generalize iy (ρX a)=A at h O;generalize unbox (ρT a)=aB at j O;split at h
  ·rename_i u e off i av;cases B:(Nat.beq i.size u.size&&(i.desc.agg == cd u)&&dN u)with
   |false=>rw[B]at h;cases h
   |true=>
    rw[B]at h;simp only[cond_true,e4]at h;obtain⟨x,F,rfl⟩:=h;cases hi;rw[dk,dk]at B;cases O with
    |bu _ _ b _ size els k v N an ao aq ar au=>
     simp only[fD,M.E,av]at j;obtain⟨r,Y,ae,af,ag⟩:=FH N (cy B.2) an ao aq ar au F (eb B.1.1) (by simpa using B.1.2);exact⟨_,ag,bZ.none M.ok (j.trans Y) ae af⟩
  ·rename_i id off i av;cases O;split at h
   ·rename_i aN aO G;obtain⟨ay,U,Z⟩:=F2.left hl G;cases Z with
    |var _ _ ts F=>
     cases B:(Nat.beq i.size 1 && !i.desc.agg)with
     |false=>rw[B]at h;cases h
     |true=>
      rw[B]at h;simp only[cond_true,e4]at h;obtain⟨v,hv,rfl⟩:=h;cases hi;rw[dk,gj]at B;have N:=eb B.1;obtain⟨u,ab,aJ⟩:=F.left hv;have aQ:=(db.1 ab).1;have ah:(ts.drop off).take 1=[u]:=by
       rw[List.take_one,List.head?_drop,ab];rfl
      simp only[fD,M.E,av,U,N,B.2]at j;rw[if_pos (by omega),ah]at j;exact⟨u,aJ,bZ.none M.ok j trivial rfl⟩
   cases h
  cases h
 |some t=>
  obtain⟨i,ak,al,aw,hv,_⟩:=M.info ax;simp only[ax]at h;generalize iy (ρX a)=A at h O;generalize unbox (ρT a)=aB at j O;cases O with
  |ptr id off=>
   simp only at h;cases G:lX[id]? with
   |none=>simp[G]at h
   |some aC=>
    obtain⟨ay,U,Z⟩:=F2.left hl G;simp only[G]at h;cases Z with
    |var aN xs ts F=>
     simp only at h;cases aa:Nat.ble (off+t.size) xs.length with
     |false=>simp[aa]at h
     |true=>
      simp only[aa,cond_true,e4]at h;obtain⟨v,aK,rfl⟩:=h;have aa:=hg aa;cases hi;have aH:=Ax hv ((F.drop off).take t.size) aK;simp only[fD,ak,U]at j;rw[if_pos (by rw[al,<-F.len];exact aa),al,aw]at j;exact⟨_,aH,bZ.none M.ok j trivial rfl⟩
    |_=>simp at h
  |bu u e b off size els k v N an ao aq ar au=>
   simp only[e4]at h;obtain⟨x,F,rfl⟩:=h;cases hi;simp only[fD,ak]at j;obtain⟨r,Y,ae,af,ag⟩:=FH N hv an ao aq ar au F al aw;exact⟨_,ag,bZ.none M.ok (j.trans Y) ae af⟩
  |bx id k off kk m N=>
   simp only at h;cases G:lX[id]? with
   |none=>simp[G]at h
   |some aC=>
    obtain⟨ay,U,Z⟩:=F2.left hl G;simp only[G]at h;have key:∀(u:Ty)(y:X)(zs:List u.den),isVal u->y.den ρ=some ⟨.list u,zs⟩->(qH u (.var n) off t).map (λv=>(⟨[.get y k],v,.none⟩:dr))=some q->fD V.E ty l (.bx id m.toNat off)=je i u.size (zs.map u.enc) m.toNat off->cD P o ρT l nid ρ' q:=by
     intro u y zs ab ad aA aF;simp only[e4]at aA;obtain⟨x,F,rfl⟩:=aA;cases hi with
     |get _ _ _ _ _ _ t2 aT aS aR ah ai aj aD aE=>
      cases aE;rw[ad]at ai;injection ai with ai;cases ai;rw[N]at aj;injection aj with aj;cases aj;obtain⟨aU,aL,aM⟩:=vO aD;have az:=Ea aM;obtain⟨r,Y,ae,af,ag⟩:=FH (ρ:=(n,⟨u,ah⟩)::ρ) (b:=0) (off:=off) (size:=u.size) (k:=m.toNat) (els:=zs.map u.enc) ab hv (show(X.var n).den _=_ from jB n ⟨u,ah⟩ ρ) (by simpa using aL) (by rw[az,q4,j5 (by rw[kI ab];exact ec _)]) (by omega) (λ_ _=>az) F al aw;rw[hT]at Y;exact⟨_,ag,bZ.none M.ok (j.trans (aF.trans Y)) ae af⟩
    cases Z with
    |row e u y zs h0 ad=>exact key u y zs h0 ad h (by simp only[fD,ak,U])
    |bn e u y zs h0 ad=>exact key u y zs h0 ad h (by simp only[fD,ak,U])
    |_=>simp at h
  |_=>simp at h
def HX{xs ys:List TX}{ts j:List T}{off:Nat}(h:F2 (RX ρ) xs ts)(k:F2 (RX ρ) ys j):F2 (RX ρ) (yt xs off ys) (setAt ts off j):=by
 unfold yt setAt;rw[k.len];exact((h.take off).app k).app (h.drop _)
def abD{xs ys:List (Ty×X)}{ts j:List D}{off:Nat}(h:F2 (RC ρ) xs ts)(k:F2 (RC ρ) ys j):F2 (RC ρ) (xs.take off++ys++xs.drop (off+ys.length)) (setAt ts off j):=by
 unfold setAt;rw[k.len];exact((h.take off).app k).app (h.drop _)
def abU{u:Ty}(h:1<u.size):cd u=true:=by
 cases u<;>simp_all [Ty.size,cd]
theorem Ib(
         Z:bM P V C){ty:TypeId}{a x:Operand}(aO:o.op=.store ty a x)(hl:RL ρ lX l)(af:RX ρ (ρX a) (ρT a))(ax:RX ρ (ρX x) (ρT x))(h:Ia C ty lX n (ρX a) (ρX x)=some q)(hi:bY cs n ρ q.ins ρ')(a8:Ext ρ ρ'):cD P o ρT l nid ρ' q:=by
 have G:=a8;unfold Ia at h;cases aa:C.ty ty with
 |none=>
  cases B:ri (ρX x)with
  |none=>simp[aa,B]at h
  |some vs=>
   obtain⟨ae,aC⟩:=zq ax B
   match vs with
   | []=>simp[aa,B]at h
   |_::_::_=>simp[aa,B]at h
   | [y]=>
    simp only[aa,B]at h;generalize bj:ρX a=A at h af;generalize a7:ρT a=a1 at af;cases af with
    |ptr id off=>
     simp only at h;cases N:lX[id]? with
     |none=>simp[N]at h
     |some aJ=>
      obtain⟨aI,ad,al⟩:=F2.left hl N;simp only[N]at h;cases al with
      |var aH xs ts aq=>
       simp only at h;cases M:(Nat.beq (bJ C.E ty) 1&&Nat.ble (off+1) xs.length)with
       |false=>simp[M]at h
       |true=>
        simp only[M,cond_true,c4]at h;simp only[dk]at M;subst h;have au:=eb M.1;have aK:=hg M.2;have aw:(bB (ρT x)).length=1:=by rw[<-ae.len];rfl
        have j:evalOp V ρT l nid o=ot l (ρT a) (ρT x):=by
         simp only[evalOp,aO];rw[if_pos ⟨by rw[Z.E,aw,au],by rw[Z.E,au];omega⟩]
        cases hi;rw[a7]at j;simp only[ot,ad]at j;rw[if_pos (by rw[aw,<-aq.len];exact aK)]at j;exact⟨_,.undef _,_,F2.set hl (.var aH _ _ (HX aq ae)) id,λO=>bZ.aQ Z.ok j aC rfl O⟩
      |_=>simp at h
    |_=>simp at h
 |some t=>
  obtain⟨i,ba,bb,bl,hv,_⟩:=Z.info aa;cases B:ri (ρX x)with
  |none=>simp[aa,B]at h
  |some vs=>
   obtain⟨ae,aC⟩:=zq ax B;cases M:(Nat.beq vs.length t.size&&Nat.ble 1 vs.length)with
   |false=>simp[aa,B,M]at h
   |true=>
    simp only[aa,B,M,cond_true]at h;simp only[dk]at M;have au:=eb M.1;have aK:=hg M.2;have aP:bJ V.E ty=t.size:=by simp[bJ,ba,bb]
    have j:evalOp V ρT l nid o=ot l (ρT a) (ρT x):=by
     simp only[evalOp,aO];rw[if_pos ⟨by rw[aP,<-ae.len,au],by rw[aP];omega⟩]
    generalize ρX a=A at h af;generalize ρT a=a1 at j af;cases af with
    |ptr id off=>
     simp only at h;cases N:lX[id]? with
     |none=>simp[N]at h
     |some aJ=>
      obtain⟨aI,ad,al⟩:=F2.left hl N;simp only[N]at h;cases al with
      |var aH xs ts aq=>
       simp only at h;cases F:Nat.ble (off+vs.length) xs.length with
       |false=>simp[F]at h
       |true=>
        simp only[F,cond_true,c4]at h;subst h;have F:=hg F;cases hi;simp only[ot,ad]at j;rw[if_pos (by rw[<-ae.len,<-aq.len];exact F)]at j;exact⟨_,.undef _,_,F2.set hl (.var aH _ _ (HX aq ae)) id,λO=>bZ.aQ Z.ok j aC rfl O⟩
      |_=>simp at h
    |bx id k off kk m ak=>
     cases N:lX[id]? with
     |none=>simp[N]at h
     |some aJ=>
      obtain⟨aI,ad,al⟩:=F2.left hl N;simp only[N]at h;cases al with
      |row e u y zs h0 ah=>
       cases aU:ρX x with
       |d ai aZ=>
        rw[aU]at ax h;obtain⟨ag,w0,aR,aL⟩:=j7 ax;rw[aL]at j;simp only at h;by_cases aE:off=0/\ai=u
        ·rw[if_pos aE]at h;obtain⟨rfl,az⟩:=aE;subst az;simp only[c4]at h;subst h;cases hi with
         |get _ _ _ _ _ _ t2 bg bf bd ab U Y aF aG=>
          cases aG;rw[ah]at U;injection U with U;cases U;rw[ak]at Y;injection Y with Y;cases Y;obtain⟨bh,ay,aV⟩:=vO aF;simp only[ot,ad]at j;rw[if_pos (kI ag w0)]at j;refine⟨_,.undef _,_,F2.set (RL.mono G hl) (a:=.row false e ai (.u3 .set y k aZ)) (b:=.row e ai.size ((zs.set m.toNat w0).map ai.enc)) (.row e ai _ (zs.set m.toNat w0) h0 ?_) id,λO=>bZ.aQ Z.ok j ⟨?_,?_,by simpa using ay⟩ (by rw[tr]) O⟩
          ·simp only[X.den,X.eT G ah,X.eT G ak,X.eT G aR,ov,gb]
          ·exact kI ag w0
          rw[ek];exact λd ao=>wb ag w0 d ao
        rw[if_neg aE]at h;cases an:fI gh u (.var n)with
        |none=>simp[an]at h
        |some ar=>
         cases av:fI gh ai aZ with
         |none=>simp[an,av]at h
         |some aj=>
          cases F:(Nat.ble (off+aj.length) ar.length && !(Nat.beq off 0&&Nat.beq aj.length ar.length))with
          |false=>simp only[an,av,F,cond_false,reduceCtorEq]at h
          |true=>
           simp only[an,av,F,cond_true,e4]at h;obtain⟨aY,bc,rfl⟩:=h;rw[dk]at F;have aN:=F.2;have F:=hg F.1;cases hi with
           |get _ _ _ _ _ _ t2 bg bf bd ab U Y aF aG=>
            cases aG;rw[ah]at U;injection U with U;cases U;rw[ak]at Y;injection Y with Y;cases Y;obtain⟨bh,ay,aV⟩:=vO aF;have a6:(X.var n).den ((n,⟨u,ab⟩)::ρ)=some ⟨u,ab⟩:=jB n ⟨u,ab⟩ ρ;have aW:=rj _ h0 a6 an;have aX:=rj _ ag (X.eT G aR) av;have aw:=aW.len;have aB:=aX.len;rw[kI h0]at aw;obtain⟨w,aS,aT⟩:=F7 h0 bc (abD aW aX (off:=off));have bo:0<aj.length:=by
             have aM:=ae.len;rw[aL,U5]at aM;simp only[hP]at aM;omega
            have bm:off≠0\/aj.length≠ar.length:=by
             apply fl;intro B;have az:off=0:=fl λh=>B (.inl h);have ab:aj.length=ar.length:=fl λh=>B (.inr h);rw[az,ab]at aN;simp at aN
            have aD:cd u=true:=abU (by omega);have aA:=Ea aV;rw[ql aD ab]at aA;cases off with
            |zero=>
             simp only[ot,ad,aA]at j;rw[if_neg (by rw[<-aB];omega)]at j;refine⟨_,.undef _,_,F2.set (RL.mono G hl) (a:=.row false e u (.u3 .set y k aY)) (b:=.row e u.size ((zs.set m.toNat w).map u.enc)) (.row e u _ (zs.set m.toNat w) h0 ?_) id,λO=>bZ.aQ Z.ok j ⟨?_,?_,by simpa using ay⟩ ?_ O⟩
             ·simp only[X.den,X.eT G ah,X.eT G ak,aS,ov,gb]
             ·rw[<-aB];omega
             ·rw[ek];exact λd ao=>wb ag w0 d ao
             rw[tr,ql aD w,<-aT]
            |succ off=>
             simp only[ot,ad,aA]at j;refine⟨_,.undef _,_,F2.set (RL.mono G hl) (a:=.row false e u (.u3 .set y k aY)) (b:=.row e u.size ((zs.set m.toNat w).map u.enc)) (.row e u _ (zs.set m.toNat w) h0 ?_) id,λO=>bZ.aQ Z.ok j ⟨?_,?_,by simpa using ay⟩ ?_ O⟩
             ·simp only[X.den,X.eT G ah,X.eT G ak,aS,ov,gb]
             ·rw[<-aB];omega
             ·rw[ek];exact λd ao=>wb ag w0 d ao
             rw[tr,ql aD w,<-aT]
       |_=>rw[aU]at h;simp at h
      |bn e u y zs h0 ah=>simp at h
      |_=>simp at h
    |_=>simp at h
theorem cD.val(j:c6 P V){x:TX}{r:R}(k:evalOp V ρT l nid o=r)(F:r.ob)(B:r.bE=.none)(G:RX ρ' x r.t){is:List Ins}:cD P o ρT l nid ρ' ⟨is,x,.none⟩:=⟨_,G,bZ.none j k F B⟩
def C3(O:bM P V C){x:TX}{t:T}(h:RX ρ x t)(ty:TypeId):RX ρ (sK C.E ty x) (typed V.E ty t):=by
 rw[O.E];cases h with
 |bq s=>exact .bq _
 |undef t=>exact .undef _
 |d t x v j B=>
  have:typed C.E ty (.d (t.enc v))=.d (t.enc v):=rfl;rw[this];exact .d t x v j B
 |gone=>exact .gone
 |ej=>exact .ej
 |ptr=>exact .ptr _ _
 |bu t e b off size els k v j B F G M N=>exact .bu t e b off size els k v j B F G M N
 |row=>exact .row _
 |bx id k off kk n j=>exact .bx id k off kk n j
 |map=>exact .map _
 |bj=>exact .bj _
 |cC=>exact .cC _ _
 |bI id t x xs j=>exact .bI id t x xs j
 |sub id lo hi U Y n m h0 j B=>exact .sub id lo hi U Y n m h0 j B
 |agg cs ts j B=>exact .agg cs ts j B
 |iN cs ts j B=>exact .iN cs ts j B
 |aL cs ts j B=>exact .aL cs ts j B
 |fV cs ts j B=>exact .fV cs ts j B
 |iW f cs ts j B=>exact .iW f cs ts j B
 |aH f cs ts j B=>exact .aH f cs ts j B
def im{t:TX}(h:eV t=some q):q=⟨[],t,.none⟩:=by
 simp only[eV,c4]at h;exact h.symm
def Nr(j:bM P V C){x:Operand}(ho:o.op=.move x\/o.op=.assign x)(B:RX ρ (ρX x) (ρT x))(h:eV (sK C.E o.type (ρX x))=some q)(hi:bY cs n ρ q.ins ρ'):cD P o ρT l nid ρ' q:=by
 have:=im h;subst this;cases hi;have k:evalOp V ρT l nid o=.ok (typed V.E o.type (ρT x)):=by rcases ho with ho|ho<;>simp only[evalOp,ho]
 exact .val j.ok k trivial rfl (C3 j B _)
def iT{x:X}{u:T}(h:RX ρ (.d .bool x) u):∃b:Bool,x.den ρ=some ⟨.bool,b⟩/\u=.d (.bool b):=by
 obtain⟨_,v,j,k⟩:=j7 h;exact⟨v,j,k⟩
def gi{k:IntKind}{x:X}{u:T}(h:RX ρ (.d (.int k) x) u):∃n:Int,x.den ρ=some ⟨.int k,n⟩/\u=.d (.int k n):=by
 obtain⟨_,v,j,B⟩:=j7 h;exact⟨v,j,B⟩
def Ic{x:X}{u:T}(h:RX ρ (.d .str x) u):∃s:ByteArray,x.den ρ=some ⟨.str,s⟩/\u=.d (.str s):=by
 obtain⟨_,v,j,k⟩:=j7 h;exact⟨v,j,k⟩
def FE{t:Ty}{x:X}{u:T}(h:RX ρ (.d (.list t) x) u):∃xs:List t.den,x.den ρ=some ⟨.list t,xs⟩/\u=.d (.slice t.size (xs.map t.enc)):=by
 obtain⟨_,v,j,k⟩:=j7 h;exact⟨v,j,k⟩
def Ye{k v:Ty}{x:X}{u:T}(h:RX ρ (.d (.map k v) x) u):∃m:List (k.den×v.den),x.den ρ=some ⟨.map k v,m⟩/\u=.d (.map (m.map λp=>k.enc p.1) (m.map λp=>v.enc p.2)):=by
 obtain⟨_,m,j,B⟩:=j7 h;exact⟨m,j,B⟩
theorem fp{x:X}{b:Bool}(h:x.den ρ=some ⟨.bool,b⟩):RX ρ (.d .bool x) (.d (.bool b)):=.d .bool x b (cy rfl) h
def iK{k:IntKind}{x:X}{n:Int}(h:x.den ρ=some ⟨.int k,n⟩):RX ρ (.d (.int k) x) (.d (.int k n)):=.d (.int k) x n (cy rfl) h
theorem abl{x:X}{s:ByteArray}(h:x.den ρ=some ⟨.str,s⟩):RX ρ (.d .str x) (.d (.str s)):=.d .str x s (cy rfl) h
def sA{t:Ty}{x:X}{xs:List t.den}(h:x.den ρ=some ⟨.list t,xs⟩):RX ρ (.d (.list t) x) (.d (.slice t.size (xs.map t.enc))):=.d (.list t) x xs (cy rfl) h
def E1{u:T}(h:RX ρ .gone u):u=ak.gone:=by cases h;rfl
def Xy{t:TX}{b:Bool}(h:isLit t=some b):t=.d .bool (.bool b):=by
 unfold isLit at h;split at h
 ·simp only[c4]at h;subst h;rfl
 cases h
def Hi(Y:bM P V C){c a b:Operand}(N:o.op=.pick c a b)(ad:∀x∈o.op.operands,RX ρ (ρX x) (ρT x))(h:dD C ρX lX n nid o=some q)(hi:bY cs n ρ q.ins ρ'):cD P o ρT l nid ρ' q:=by
 have ag:=ad c (by simp[N,Op.operands]);have G:=ad a (by simp[N,Op.operands]);have M:=ad b (by simp[N,Op.operands]);have j:evalOp V ρT l nid o=qI (ρT c) (ρT a) (ρT b):=by simp only[evalOp,N]
 simp only[dD,N]at h;have key:∀(F:Bool)(x:X),isLit (ρX c)=some F->(if F then ρX a else ρX b)=.d .bool x->eV (.d .bool x)=some q->((∃y,(if F then ρX b else ρX a)=.d .bool y)\/(if F then ρX b else ρX a)=.gone)->cD P o ρT l nid ρ' q:=by
  intro F x hl ab ai aa;have:=im ai;subst this;cases hi;rw[Xy hl]at ag;obtain⟨af,ah,Z⟩:=iT ag;simp only[X.den,c4]at ah;have:af=F:=by cases ah;rfl
  subst this;cases af with
  |true=>
   simp only[hK]at ab aa;rw[ab]at G;obtain⟨v,O,U⟩:=iT G;rcases aa with ⟨y,hy⟩|hy<;>rw[hy]at M
   ·obtain⟨u,aj,ae⟩:=iT M;rw[Z,U,ae]at j;exact .val Y.ok j ⟨trivial,trivial⟩ rfl (fp O)
   rw[Z,U,E1 M]at j;exact .val Y.ok j ⟨rfl,trivial⟩ rfl (fp O)
  |false=>
   simp only[hR,h9]at ab aa;rw[ab]at M;obtain⟨v,O,U⟩:=iT M;rcases aa with ⟨y,hy⟩|hy<;>rw[hy]at G
   ·obtain⟨u,aj,ae⟩:=iT G;rw[Z,U,ae]at j;exact .val Y.ok j ⟨trivial,trivial⟩ rfl (fp O)
   rw[Z,U,E1 G]at j;exact .val Y.ok j ⟨rfl,trivial⟩ rfl (fp O)
 split at h
 ·rename_i hl;split at h
  ·rename_i x y k B;exact key true x hl (by simpa using k) h (.inl ⟨y,by simpa using B⟩)
  ·rename_i x k B;exact key true x hl (by simpa using k) h (.inr (by simpa using B))
  cases h
 ·rename_i hl;split at h
  ·rename_i x y k B;exact key false x hl (by simpa using k) h (.inl ⟨y,by simpa using B⟩)
  ·rename_i x k B;exact key false x hl (by simpa using k) h (.inr (by simpa using B))
  cases h
 cases h
def UC(B:bM P V C){e:TypeId}{x:Operand}(G:o.op=.box e x)(O:RX ρ (ρX x) (ρT x))(h:dD C ρX lX n nid o=some q)(hi:bY cs n ρ q.ins ρ'):cD P o ρT l nid ρ' q:=by
 have F:evalOp V ρT l nid o=⟨.ptr nid 0,.new (.var e (bB (ρT x))),((bB (ρT x)).all T.gq)=true⟩:=by simp only[evalOp,G]
 simp only[dD,G,e4]at h;obtain⟨ds,N,rfl⟩:=h;cases hi;obtain⟨M,k⟩:=zq O N;exact⟨_,.ptr nid 0,_,.var e _ _ M,λj=>bZ.new B.ok F k rfl j,λj=>bZ.set B.ok F k rfl j⟩
def Q7(k:bM P V C){e:TypeId}(F:o.op=.alloc e)(h:dD C ρX lX n nid o=some q)(hi:bY cs n ρ q.ins ρ'):cD P o ρT l nid ρ' q:=by
 simp only[dD,F]at h;cases G:C.ty e with
 |none=>
  simp only[G]at h;split at h
  ·rename_i a b z d M;simp only[c4]at h;subst h;cases hi;rw[<-k.E]at M;have B:evalOp V ρT l nid o=⟨.ptr nid 0,.new (.var e ([z].map lG)),True⟩:=by simp only[evalOp,F,M]
   exact⟨_,.ptr nid 0,_,.var e _ _ (.cons (.undef _) .nil),λj=>bZ.new k.ok B trivial rfl j,λj=>bZ.set k.ok B trivial rfl j⟩
  cases h
 |some t=>
  obtain⟨i,N,Z,aa,hv,_,O⟩:=k.info G;obtain⟨z,U,Y⟩:=QS (ρ:=ρ) O;simp only[G,U,Option.map_some,c4]at h;subst h;cases hi;have B:evalOp V ρT l nid o=⟨.ptr nid 0,.new (.var e (i.zero.map lG)),True⟩:=by simp only[evalOp,F,N]
  exact⟨_,.ptr nid 0,_,.var e _ _ Y,λj=>bZ.new k.ok B trivial rfl j,λj=>bZ.set k.ok B trivial rfl j⟩
def WC(F:bM P V C){s:TypeId}{x:Operand}{f:Nat}(ae:o.op=.fieldAddr s x f)(af:RX ρ (ρX x) (ρT x))(h:Et C s f (iy (ρX x))=some q)(hi:bY cs n ρ q.ins ρ'):cD P o ρT l nid ρ' q:=by
 have j:evalOp V ρT l nid o=lS V.E s f (unbox (ρT x)):=by simp only[evalOp,ae]
 have N:=Iu af;unfold Et at h;rw[F.E]at j;generalize iy (ρX x)=A at h N;generalize unbox (ρT x)=ag at j N;split at h
 ·rename_i s1 s2 ah fs M;cases B:fs[f]? with
  |none=>simp[B]at h
  |some p=>
   simp only[B]at h;cases O:Nat.ble 1 (bJ C.E p.2)with
   |false=>simp[O]at h
   |true=>
    simp only[O,cond_true]at h;have U:0<bJ C.E p.2:=hg O;cases N with
    |ptr id off=>
     have:=im h;subst this;cases hi;simp only[lS,M,B,if_pos U]at j;exact .val F.ok j trivial rfl (.ptr _ _)
    |bu u e b off size els k v G Y Z aa ab ad=>
     have:=im h;subst this;cases hi;simp only[lS,M,B,if_pos U]at j;rw[r0]at j;exact .val F.ok j trivial rfl (.bu u e b (off+p.1) size els k v G Y Z aa ab ad)
    |bx id k off kk m G=>
     have:=im h;subst this;cases hi;simp only[lS,M,B,if_pos U]at j;exact .val F.ok j trivial rfl (.bx id k (off+p.1) kk m G)
    |_=>simp at h
 cases h
def WE(B:bM P V C){s:TypeId}{x:Operand}{f:Nat}(af:o.op=.field s x f)(O:RX ρ (ρX x) (ρT x))(h:Eu C s f (ρX x)=some q)(hi:bY cs n ρ q.ins ρ'):cD P o ρT l nid ρ' q:=by
 have j:evalOp V ρT l nid o=oK V.E s f (ρT x):=by simp only[evalOp,af]
 unfold Eu at h;split at h
 ·rename_i s1 s2 al fs u e Y U;rw[U]at O;obtain⟨N,v,ag,ah⟩:=j7 O;rw[ah]at j;cases F:fs[f]? with
  |none=>simp[F]at h
  |some p=>
   cases G:C.ty p.2 with
   |none=>simp[F,G]at h
   |some t=>
    obtain⟨i,aa,M,ad,hv,_⟩:=B.info G;simp only[F,G]at h;cases k:(cd u&&Nat.ble 1 t.size)with
    |false=>simp[k]at h
    |true=>
     simp only[k,cond_true,e4]at h;obtain⟨w,ai,rfl⟩:=h;cases hi;simp only[dk]at k;have ak:=hg k.2;obtain⟨y,b,rfl,aj,Z,ae,_⟩:=Oe N hv ag ai;rw[ql k.1 v]at j;rw[B.E]at j;have ab:C.E p.2=some i:=by rw[<-B.E];exact aa
     simp only[oK,Y,F,ab]at j;rw[if_pos ⟨by rw[kI N,M];exact ae,by omega⟩,M,<-Z,ad,F9 hv]at j;exact .val B.ok j trivial rfl (.d t y b hv aj)
 cases h
def fH{a b:Ty.den .bool}(h:(some (⟨.bool,a⟩:Sy.V))=some ⟨.bool,b⟩):a=b:=by
 injection h with h;injection h
def Xn{k xs:X}{m:Int}{kk:IntKind}{t:Ty}{zs:List t.den}(j:k.den ρ=some ⟨.int kk,m⟩)(B:xs.den ρ=some ⟨.list t,zs⟩)(h:(z6 k (gF xs)).den ρ=some ⟨.bool,true⟩):0<=m/\m<zs.length:=by
 simp only[z6,gF,iX,X.den,j,B,gz,cG]at h;have h:(leI 0 m&&aj m (zs.length:Int))=true:=fH h;simpa using h
def jy{x:X}{r:List Ins}(h:bY cs n ρ (.bQ x::r) ρ'):x.den ρ=some ⟨.bool,true⟩/\bY cs n ρ r ρ':=by
 cases h with|bQ _ _ _ _ _ j k=>exact⟨j,k⟩
def Xp(Y:bM P V C){t:TypeId}{x i:Operand}(av:o.op=.indexAddr t x i)(hl:RL ρ lX l)(aw:RX ρ (ρX x) (ρT x))(ah:RX ρ (ρX i) (ρT i))(h:Fb C t lX n (iy (ρX x)) (ρX i)=some q)(hi:bY cs n ρ q.ins ρ')(ar:Ext ρ ρ'):cD P o ρT l nid ρ' q:=by
 have aK:=ar;have B:evalOp V ρT l nid o=kN V.E t l (unbox (ρT x)) (ρT i):=by simp only[evalOp,av]
 have M:=Iu aw;rw[Y.E]at B;unfold Fb at h;generalize iy (ρX x)=A at h M;generalize aJ:unbox (ρT x)=aj at B M;split at h
 ·rename_i s1 s2 aO e kk k Z al;rw[al]at ah;obtain⟨m,ad,au⟩:=gi ah;have ab:dM (ρT i)=some (kk,m):=by rw[au];rfl
  cases A with
  |d aG xs=>
   cases aG with
   |list u=>
    simp only at h;obtain⟨zs,ax,ay⟩:=FE M;cases j:(Nat.beq (bJ C.E e) u.size&&Nat.ble 1 u.size&&dN u)with
    |false=>simp[j]at h
    |true=>
     simp only[j,cond_true,c4]at h;subst h;simp only[dk]at j;have U:=eb j.1.1;have ak:=hg j.1.2;cases hi with
     |get _ _ _ _ _ _ t2 aN aM aL G N O aE aF=>
      cases aF;rw[ax]at N;injection N with N;cases N;rw[ad]at O;injection O with O;cases O;obtain⟨aB,aC,aD⟩:=vO aE;have ag:=Ea aD;rw[ay]at B;simp only[kN,Z,ab]at B;rw[if_pos ⟨U.symm,by omega⟩]at B;have ai:isVal u:=cy j.2;exact .val Y.ok B ⟨aB,by simp;omega⟩ rfl (.bu u (.var n) 0 0 u.size _ m.toNat G ai (jB n ⟨u,G⟩ ρ) (by simpa using aC) (by rw[ag,q4,j5 (by rw[kI ai];exact ec _)]) (by omega) (λ_ _=>ag))
   |_=>simp at h
  |row id=>
   have ao:aj=.row id:=by cases M;rfl
   rw[ao]at B;simp only at h;cases aa:lX[id]? with
   |none=>simp[aa]at h
   |some aI=>
    obtain⟨aH,af,aq⟩:=F2.left hl aa;simp only[aa]at h;have key:∀(u:Ty)(y:X)(zs:List u.den),y.den ρ=some ⟨.list u,zs⟩->(bif Nat.beq (bJ C.E e) u.size&&Nat.ble 1 u.size then some (⟨[.bQ (z6 k (gF y))],.bx id k 0,.none⟩:dr)else none)=some q->(∀s els,u.size=s->zs.map u.enc=els->kN C.E t l (.row id) (ρT i)=if s=bJ C.E e/\0<s then⟨.bx id m.toNat 0,.none,0<=m/\m<els.length⟩else .bad)->cD P o ρT l nid ρ' q:=by
     intro u y zs F ae an;cases j:(Nat.beq (bJ C.E e) u.size&&Nat.ble 1 u.size)with
     |false=>simp[j]at ae
     |true=>
      simp only[j,cond_true,c4]at ae;subst ae;simp only[dk]at j;have U:=eb j.1;have ak:=hg j.2;obtain⟨az,aA⟩:=jy hi;cases aA;have:=Xn ad F az;rw[an _ _ rfl rfl,if_pos ⟨U.symm,by omega⟩]at B;exact .val Y.ok B ⟨this.1,by simpa using this.2⟩ rfl (.bx id k 0 kk m ad)
    cases aq with
    |row G u y zs h0 F=>exact key u y zs F h (by rintro _ _ rfl rfl;simp only[kN,Z,ab,af])
    |bn G u y zs h0 F=>exact key u y zs F h (by rintro _ _ rfl rfl;simp only[kN,Z,ab,af])
    |_=>simp at h
  |_=>simp at h
 cases h
def MW:∀(ls:List Int),(An ls).den ρ=some ⟨.list (.int .i64),ls⟩
 | []=>rfl
 |x::xs=>by
  simp only[An,X.den,MW xs,iX,cG,dc];rfl
def Xo(Y:bM P V C){t:TypeId}{g:Nat}{i:Operand}(al:o.op=.indexAddr t (.global g) i)(ae:∀g ls,aI.ez g=some ls->ρT (.global g)=.bu ls.length [.agg (ls.map (.int .i64))] 0 0)(Z:RX ρ (ρX i) (ρT i))(h:Fa C t g n (ρX i)=some q)(hi:bY cs n ρ q.ins ρ')(ax:Ext ρ ρ'):cD P o ρT l nid ρ' q:=by
 have B:evalOp V ρT l nid o=kN V.E t l (unbox (ρT (.global g))) (ρT i):=by simp only[evalOp,al]
 rw[Y.E]at B;unfold Fa at h;split at h
 ·rename_i s1 s2 aC len e ls kk k ad ag af;rw[af]at Z;obtain⟨m,aj,ak⟩:=gi Z;have ai:dM (ρT i)=some (kk,m):=by rw[ak];rfl
  cases F:(Nat.beq len ls.length&&Nat.beq (bJ C.E e) 1&&Nat.ble 2 len&&(C.E e).isSome)with
  |false=>rw[F]at h;cases h
  |true=>
   rw[F]at h;simp only[cond_true,c4]at h;subst h;simp only[dk]at F;obtain⟨⟨⟨O,N⟩,U⟩,aa⟩:=F;have O:=eb O;have N:=eb N;have U:=hg U;rw[ae g ls ag]at B;cases hi with
   |get _ _ _ _ _ _ t2 aA az ay j G M au av=>
    cases av;rw[MW]at G;injection G with G;cases G;rw[aj]at M;injection M with M;cases M;obtain⟨an,ao,aq⟩:=vO au;simp only[unbox,kN,ad,ai,aa,hK,N,Nat.mul_one,hT]at B;have aB:m.toNat<ls.length:=ao;have ar:ls[m.toNat]?=some (show Int from j):=aq;refine .val Y.ok B ⟨an,by omega⟩ rfl ?_;have ah:((eF [D.agg (List.map (D.int .i64) ls)] 0).cells.drop m.toNat).take 1=[D.int .i64 (show Int from j)]:=by
     show((List.map (D.int .i64) ls).drop m.toNat).take 1=_;rw[List.take_one,List.head?_drop,e3,ar];rfl
    exact .bu (.int .i64) (.var n) m.toNat 0 ls.length _ 0 j (cy rfl) (jB n ⟨.int .i64,j⟩ ρ) (by simp) ah (by show m.toNat+1<=_;omega) (λaw ab=>by have:ls.length=1:=ab;omega)
 cases h
def Mv{x:X}{k:IntKind}{m:Int}(j:x.den ρ=some ⟨.int k,m⟩)(h:(X.u1 .ig x).den ρ=some ⟨.bool,true⟩): -9223372036854775808<=m/\m<=9223372036854775807:=by
 simp only[X.den,j,gz]at h;have h:ai m=true:=fH h;simpa [ak.ig]using h
def yV{k:IntKind}{x:X}{m:Int}(F:x.den ρ=some ⟨.int k,nm k m⟩)(h:bY cs n ρ (vM k x) ρ'):(arith k m).2/\(arith k m).1=.int k (nm k m)/\ρ'=ρ:=by
 cases k with
 |i64=>
  obtain⟨j,B⟩:=jy h;cases B;exact⟨Mv F j,rfl,rfl⟩
 |_=>cases h;exact⟨trivial,rfl,rfl⟩
def FD:∀{ls:List Lf}{ps:List (Ty×X)}{ds:List D},F2 (RC ρ) ps ds->rN ls ps=true->fM ls ds=true
 | [],[],[],_,_=>rfl
 |a::r,p::s,d::ds,.cons h1 j,h=>by
  simp only[rN,dk]at h;obtain⟨_,v,_,rfl⟩:=h1;simp only[fM,dk];refine⟨?_,FD j h.2⟩;obtain⟨t,x⟩:=p;have k:=h.1;cases a<;>cases t<;>simp_all [MT,ui,Ty.enc,Ty.eZ]
 | [],_::_,_,_,h=>by simp[rN]at h
 |_::_,[],_,_,h=>by simp[rN]at h
def Uy(N:bM P V C){ai:BinOp}{ty az:TypeId}{x y:Operand}(ao:o.op=.binOp ai ty x y az)(ab:RX ρ (ρX x) (ρT x))(ad:RX ρ (ρX y) (ρT y))(h:dD C ρX lX n nid o=some q)(hi:bY cs n ρ q.ins ρ'):cD P o ρT l nid ρ' q:=by
 have ak:∀a b,ρT x=.d a->ρT y=.d b->evalOp V ρT l nid o=nU (eS V.jE ai ty a b):=by intro a b Z aa;simp only[evalOp,ao,Z,aa]
 simp only[dD,ao,e4]at h;obtain⟨⟨is,aD⟩,h,rfl⟩:=h;unfold Ko at h;split at h
 ·rename_i k a aq b Z aa;rw[Z]at ab;rw[aa]at ad;obtain⟨u,G,af⟩:=gi ab;obtain⟨v,F,ag⟩:=gi ad;have B:=ak _ _ af ag;have shr:∀{q:List Ins×TX},q=([.bQ (.u2 .le (.int aq 0) b)],.d (.int k) (.u2 (.shr k) a b))->bY cs n ρ q.1 ρ'->evalOp V ρT l nid o=nU (some (.int k (vr k u v),0<=v))->cD P o ρT l nid ρ' ⟨q.1,q.2,.none⟩:=by
   rintro q rfl hi B;obtain⟨M,U⟩:=jy hi;cases U;have al:0<=v:=by
    simp only[X.den,F,cG]at M;have M:leI 0 v=true:=fH M;simpa using M
   exact .val N.ok B al rfl (iK (by simp only[X.den,G,F,cG]))
  split at h
  ·rename_i aj;split at h
   ·simp only[c4]at h;simp only[eS,if_pos aj,HZ]at B;exact shr h.symm hi B
   cases h
  rename_i aj;have aj:k=aq:=by simpa using aj
  subst aj;cases ai with
  |shr=>
   simp only[c4]at h;simp only[eS,ne_eq,ih,h9]at B;exact shr h.symm hi B
  |and=>
   simp only[c4,et]at h;obtain⟨rfl,rfl⟩:=h;cases hi;simp only[eS,ne_eq,ih,h9]at B;exact .val N.ok B trivial rfl (iK (by simp only[X.den,G,F,cG]))
  |add=> 
   simp only[c4,et]at h;obtain⟨rfl,rfl⟩:=h;have O:(X.u2 (.add k) a b).den ρ=some ⟨.int k,nm k (u+v)⟩:=by simp only[X.den,G,F,cG];rfl
   obtain⟨M,U,rfl⟩:=yV O hi;simp only[eS,ne_eq,ih,h9]at B;exact .val N.ok B M rfl (by show RX ρ' _ (.d (arith k (u+v)).1);rw[U];exact iK O)
  |sub=>
   simp only[c4,et]at h;obtain⟨rfl,rfl⟩:=h;have O:(X.u2 (.sub k) a b).den ρ=some ⟨.int k,nm k (u-v)⟩:=by simp only[X.den,G,F,cG];rfl
   obtain⟨M,U,rfl⟩:=yV O hi;simp only[eS,ne_eq,ih,h9]at B;exact .val N.ok B M rfl (by show RX ρ' _ (.d (arith k (u-v)).1);rw[U];exact iK O)
  |mul=>
   simp only[c4,et]at h;obtain⟨rfl,rfl⟩:=h;have O:(X.u2 (.mul k) a b).den ρ=some ⟨.int k,nm k (u*v)⟩:=by simp only[X.den,G,F,cG];rfl
   obtain⟨M,U,rfl⟩:=yV O hi;simp only[eS,ne_eq,ih,h9]at B;exact .val N.ok B M rfl (by show RX ρ' _ (.d (arith k (u*v)).1);rw[U];exact iK O)
  |quo=>
   cases k with
   |i64=>
    simp only[c4,et]at h;obtain⟨rfl,rfl⟩:=h;have O:(X.u2 (.quo .i64) a b).den ρ=some ⟨.int .i64,u.tdiv v⟩:=by simp only[X.den,G,F,cG]
    obtain⟨M,U⟩:=jy hi;obtain⟨ax,ay⟩:=jy U;cases ay;have ah:v≠0:=by
     simp only[X.den,F,iX,gz,cG]at M;have M:(!aC v 0)=true:=fH M;simpa using M
    simp only[eS,ne_eq,ih,h9]at B;exact .val N.ok B ⟨ah,Mv O ax⟩ rfl (iK O)
   |_=>simp at h
  |rem=>
   simp only[c4,et]at h;obtain⟨rfl,rfl⟩:=h;have O:(X.u2 (.rem k) a b).den ρ=some ⟨.int k,u.tmod v⟩:=by simp only[X.den,G,F,cG]
   obtain⟨M,U⟩:=jy hi;cases U;have ah:v≠0:=by
    simp only[X.den,F,gz,cG]at M;have M:(!aC v 0)=true:=fH M;simpa using M
   simp only[eS,ne_eq,ih,h9]at B;exact .val N.ok B ah rfl (iK O)
  |eql=>
   simp only[c4,et]at h;obtain⟨rfl,rfl⟩:=h;cases hi;simp only[eS,ne_eq,ih,h9]at B;exact .val N.ok B trivial rfl (fp (b:=decide (u=v)) (by simp only[X.den,G,F,cG]))
  |neq=>
   simp only[c4,et]at h;obtain⟨rfl,rfl⟩:=h;cases hi;simp only[eS,ne_eq,ih,h9]at B;exact .val N.ok B trivial rfl (fp (b:= !decide (u=v)) (by simp only[X.den,G,F,cG,gz]))
  |lss=>
   simp only[c4,et]at h;obtain⟨rfl,rfl⟩:=h;cases hi;simp only[eS,ne_eq,ih,h9]at B;exact .val N.ok B trivial rfl (fp (b:=decide (u<v)) (by simp only[X.den,G,F,cG]))
  |leq=>
   simp only[c4,et]at h;obtain⟨rfl,rfl⟩:=h;cases hi;simp only[eS,ne_eq,ih,h9]at B;exact .val N.ok B trivial rfl (fp (b:=decide (u<=v)) (by simp only[X.den,G,F,cG]))
  |gtr=>
   simp only[c4,et]at h;obtain⟨rfl,rfl⟩:=h;cases hi;simp only[eS,ne_eq,ih,h9]at B;exact .val N.ok B trivial rfl (fp (b:=decide (v<u)) (by simp only[X.den,G,F,cG]))
  |geq=>
   simp only[c4,et]at h;obtain⟨rfl,rfl⟩:=h;cases hi;simp only[eS,ne_eq,ih,h9]at B;exact .val N.ok B trivial rfl (fp (b:=decide (v<=u)) (by simp only[X.den,G,F,cG]))
  |_=>simp at h
 ·rename_i a b Z aa;rw[Z]at ab;rw[aa]at ad;obtain⟨u,G,af⟩:=iT ab;obtain⟨v,F,ag⟩:=iT ad;have B:=ak _ _ af ag;rw[N.eq]at B;cases Y:decide (C.eqs ty=some [.bool])with
  |false=>simp[Y]at h
  |true=>
   simp only[Y,cond_true]at h;have Y:=fv Y;cases ai with
   |eql=>
    simp only[c4,et]at h;obtain⟨rfl,rfl⟩:=h;cases hi;simp only[eS,if_pos Y]at B;exact .val N.ok B trivial rfl (fp (b:=u == v) (by simp only[X.den,G,F,cG]))
   |neq=>
    simp only[c4,et]at h;obtain⟨rfl,rfl⟩:=h;cases hi;simp only[eS,if_pos Y]at B;exact .val N.ok B trivial rfl (fp (b:= !(u == v)) (by simp only[X.den,G,F,cG,gz]))
   |_=>simp at h
 ·rename_i a b Z aa;rw[Z]at ab;rw[aa]at ad;obtain⟨u,G,af⟩:=Ic ab;obtain⟨v,F,ag⟩:=Ic ad;have B:=ak _ _ af ag;cases ai with
  |eql=>
   simp only[c4,et]at h;obtain⟨rfl,rfl⟩:=h;cases hi;simp only[eS]at B;exact .val N.ok B trivial rfl (fp (b:=u == v) (by simp only[X.den,G,F,cG]))
  |neq=>
   simp only[c4,et]at h;obtain⟨rfl,rfl⟩:=h;cases hi;simp only[eS]at B;exact .val N.ok B trivial rfl (fp (b:= !(u == v)) (by simp only[X.den,G,F,cG,gz]))
  |add=>
   simp only[c4,et]at h;obtain⟨rfl,rfl⟩:=h;obtain⟨M,U⟩:=jy hi;cases U;simp only[X.den,G,F,cG]at M;have M:decide ((u.size:Int)+(v.size:Int)<=9223372036854775807)=true:=fH M;simp only[eS]at B;exact .val N.ok B (show(u.size:Int)+(v.size:Int)<=9223372036854775807 by simpa using M) rfl (abl (s:=u++v) (by simp only[X.den,G,F,cG];rfl))
  |_=>simp at h
 ·rename_i i a j b Z aa;cases Y:(Nat.beq i j&&El C ty i a b)with
  |false=>simp[Y]at h
  |true=>
   simp only[Y,cond_true]at h;simp only[dk]at Y;have:=eb Y.1;subst this;rw[Z]at ab;rw[aa]at ad;obtain⟨al,u,G,af⟩:=j7 ab;obtain⟨_,v,F,ag⟩:=j7 ad;have ae:=Y.2;unfold El at ae;split at ae
   ·rename_i ls aA aB an av aw;simp only[dk]at ae;have ar:=FD (rj _ al G av) ae.1.1;have au:=FD (rj _ al F aw) ae.1.2;have ah:ls≠[.bool]:=by simpa using ae.2
    have s1:Ty.enc (.st i) u=.agg (aI.cells i u):=rfl;have s2:Ty.enc (.st i) v=.agg (aI.cells i v):=rfl;have B:=ak _ _ af ag;rw[s1,s2,N.eq]at B;cases ai with
    |eql=>
     simp only[c4,et]at h;obtain⟨rfl,rfl⟩:=h;cases hi;simp only[eS,an,if_neg ah]at B;refine .val N.ok B ⟨ar,au⟩ rfl (fp (b:=c9 (aI.cells i u) (aI.cells i v)) ?_);simp only[X.den,G,F,cG];rw[gb (.st i) u,gb (.st i) v]
    |neq=>
     simp only[c4,et]at h;obtain⟨rfl,rfl⟩:=h;cases hi;simp only[eS,an,if_neg ah]at B;refine .val N.ok B ⟨ar,au⟩ rfl (fp (b:= !(c9 (aI.cells i u) (aI.cells i v))) ?_);simp only[X.den,G,F,cG];rw[gb (.st i) u,gb (.st i) v];rfl
    |_=>simp at h
   cases ae
 cases h
def YY{a:X}{b:Bool}(h:a.den ρ=some ⟨.bool,b⟩):(Ge a).den ρ=some ⟨.bool,!b⟩:=by
 unfold Ge;split
 ·have:_=b:=fH ((rfl:(X.bool _).den ρ=_).symm.trans h);subst this;rfl
 simp only[X.den,h,gz]
def acV(M:bM P V C){Y:UnOp}{ty:TypeId}{x:Operand}(U:o.op=.unOp Y ty x)(B:RX ρ (ρX x) (ρT x))(h:dD C ρX lX n nid o=some q)(hi:bY cs n ρ q.ins ρ'):cD P o ρT l nid ρ' q:=by
 have O:∀a,ρT x=.d a->evalOp V ρT l nid o=nU (yE Y a):=by intro a j;simp only[evalOp,U,j]
 simp only[dD,U]at h;split at h
 ·rename_i a j;rw[j]at B;obtain⟨b,F,G⟩:=iT B;have:=im h;subst this;cases hi;exact .val M.ok (O _ G) trivial rfl (fp (b:= !b) (YY F))
 ·rename_i k a j;rw[j]at B;obtain⟨u,F,G⟩:=gi B;simp only[c4]at h;subst h;have N:(X.u1 (.neg k) a).den ρ=some ⟨.int k,nm k (0-u)⟩:=by simp only[X.den,F,gz]
  obtain⟨Z,aa,rfl⟩:=yV N hi;exact .val M.ok (O _ G) Z rfl (by show RX ρ' _ (.d (arith k (0-u)).1);rw[aa];exact iK N)
 cases h
def Ws(U:bM P V C){x:Operand}{i:Nat}(N:o.op=.extract x i)(O:RX ρ (ρX x) (ρT x))(h:dD C ρX lX n nid o=some q)(hi:bY cs n ρ q.ins ρ'):cD P o ρT l nid ρ' q:=by
 simp only[dD,N]at h;split at h
 ·rename_i ts Z;rw[Z]at O;simp only[e4]at h;obtain⟨t,ht,rfl⟩:=h;cases hi;generalize Y:ρT x=aa at O;cases O with
  |aL _ j B F=>
   have M:i<j.length:=by rw[<-B];exact(db.1 ht).1
   have k:j[i]?=some j[i]:=c5 M;have G:evalOp V ρT l nid o=.ok j[i]:=by simp only[evalOp,N,Y,k]
   exact .val U.ok G trivial rfl (F i _ _ ht k)
  |fV _ j B F=>
   have M:i<j.length:=by rw[<-B];exact(db.1 ht).1
   have k:j[i]?=some j[i]:=c5 M;have G:evalOp V ρT l nid o=.ok (.d j[i]):=by simp only[evalOp,N,Y,k]
   exact .val U.ok G trivial rfl (F i _ _ ht k)
 cases h
def FU(hl:RL ρ lX l){k v:Ty}{x:TX}{u:T}{m:X}(M:RX ρ x u)(h:wM lX k v x=some m):∃mm:List (k.den×v.den),m.den ρ=some ⟨.map k v,mm⟩/\mapOf l u=some (mm.map λp=>k.enc p.1,mm.map λp=>v.enc p.2):=by
 unfold wM at h;split at h
 ·rename_i Y Z y;split at h
  ·rename_i e;obtain⟨rfl,rfl⟩:=e;simp only[c4]at h;subst h;obtain⟨mm,O,rfl⟩:=Ye M;exact⟨mm,O,rfl⟩
  cases h
 ·simp only[c4]at h;subst h;cases M;exact⟨[],rfl,rfl⟩
 ·rename_i id;have U:u=.map id:=by cases M;rfl
  subst U;split at h
  ·rename_i ab Y Z y G;split at h
   ·rename_i e;obtain⟨rfl,rfl⟩:=e;simp only[c4]at h;subst h;obtain⟨N,B,F⟩:=F2.left hl G;cases F with
    |map _ _ _ mm _ _ j=>exact⟨mm,j,by simp only[mapOf,B]⟩
    |dJ _ _ _ mm _ _ j=>exact⟨mm,j,by simp only[mapOf,B]⟩
   cases h
  ·rename_i aa ad t' y G;split at h
   ·rename_i e;obtain⟨rfl,rfl⟩:=e;simp only[c4]at h;subst h;obtain⟨N,B,F⟩:=F2.left hl G;cases F with
    |bw _ _ _ _ mm _ _ j=>exact⟨mm,j,by simp only[mapOf,B];rfl⟩
   cases h
  cases h
 cases h
def qq{t:TypeId}{k v:Ty}(h:oW C t=some (k,v)):C.ty t=some (.map k v):=by
 unfold oW at h;split at h
 ·rename_i e;simp only[c4,et]at h;obtain⟨rfl,rfl⟩:=h;exact e
 cases h
def XT(F:bM P V C){c:Call}{x:Operand}{t:TypeId}(ah:o.op=.call c)(ae:c.callee=.builtin .len)(ab:c.args.toList=[x])(ht:c.argTypes.toList=[t])(hl:RL ρ lX l)(G:RX ρ (ρX x) (ρT x))(h:Fx C t lX (ρX x)=some q)(hi:bY cs n ρ q.ins ρ'):cD P o ρT l nid ρ' q:=by
 have j:evalOp V ρT l nid o=kU V.E t l (ρT x):=by simp only[evalOp,ah,ae,ab,ht]
 rw[F.E]at j;unfold Fx at h;generalize ρX x=A at h G;generalize ρT x=Y at j G;split at h
 ·rename_i s1 s2 N s B;obtain⟨v,M,rfl⟩:=Ic G;have:=im h;subst this;cases hi;simp only[kU,B]at j;exact .val F.ok j trivial rfl (iK (by simp only[X.den,M,gz]))
 ·rename_i s1 s2 N e u xs B;obtain⟨v,M,rfl⟩:=FE G;have:=im h;subst this;cases hi;simp only[kU,B,hP]at j;exact .val F.ok j trivial rfl (iK (by simp only[X.den,M,gz]))
 ·rename_i s1 s2 N e s B;cases G;have:=im h;subst this;cases hi;simp only[kU,B]at j;exact .val F.ok j trivial rfl (iK rfl)
 ·rename_i s1 s2 N e id B;have aa:Y=.row id:=by cases G;rfl
  subst aa;split at h
  ·rename_i al ak u xs af;obtain⟨aj,U,ad⟩:=F2.left hl af;have:=im h;subst this;cases hi;cases ad with
   |row _ _ _ zs _ O=>
    simp only[kU,B,U,hP]at j;exact .val F.ok j trivial rfl (iK (by simp only[X.den,O,gz]))
   |bn _ _ _ zs _ O=>
    simp only[kU,B,U,hP]at j;exact .val F.ok j trivial rfl (iK (by simp only[X.den,O,gz]))
  cases h
 ·rename_i s1 s2 N ao aq ai B;split at h
  ·rename_i k v an;simp only[e4]at h;obtain⟨m,ag,rfl⟩:=h;cases hi;obtain⟨mm,M,Z⟩:=FU hl G ag;simp only[kU,B,Z,hP]at j;exact .val F.ok j trivial rfl (iK (by simp only[X.den,M,gz]))
  cases h
 cases h
def D4(B:bM P V C){M t:TypeId}{x:Operand}(F:o.op=.convert M t x)(G:RX ρ (ρX x) (ρT x))(h:dD C ρX lX n nid o=some q)(hi:bY cs n ρ q.ins ρ'):cD P o ρT l nid ρ' q:=by
 have j:evalOp V ρT l nid o=pZ V.E M t (ρT x):=by simp only[evalOp,F]
 rw[B.E]at j;simp only[dD,F]at h;split at h
 ·rename_i aa ab ad ah ae af ag k ai a N O U;rw[U]at G;obtain⟨u,Y,Z⟩:=gi G;have:=im h;subst this;cases hi;simp only[pZ,N,O,Z]at j;exact .val B.ok j trivial rfl (iK (by simp only[X.den,Y,gz]))
 cases h
def Ng(Y:bM P V C){c:Call}(G:o.op=.call c)(aa:∀x∈o.op.operands,RX ρ (ρX x) (ρT x))(hc:c.callee=.builtin .max\/c.callee=.builtin .min)(h:dD C ρX lX n nid o=some q)(hi:bY cs n ρ q.ins ρ'):cD P o ρT l nid ρ' q:=by
 have U:∀x∈c.args.toList,RX ρ (ρX x) (ρT x):=λx Z=>aa x (by simp[G,Op.operands,Call.operands,Z];rcases hc with e|e<;>simp[e]<;>simpa using Z);have key:∀(k j:IntKind)(a b:X),c.args.toList.map ρX=[.d (.int k) a,.d (.int j) b]->∃u v:Int,a.den ρ=some ⟨.int k,u⟩/\b.den ρ=some ⟨.int j,v⟩/\c.args.toList.map ρT=[.d (.int k u),.d (.int j v)]:=by
  intro k j a b e;generalize c.args.toList=as at e U;rcases as with _| ⟨x,_| ⟨y,_| ⟨z,w⟩⟩⟩
  ·simp at e
  ·simp at e
  ·simp only[e7,adN,o1,and_true]at e;have B:=U x (by simp);have F:=U y (by simp);rw[e.1]at B;rw[e.2]at F;obtain⟨u,ab,ad⟩:=gi B;obtain⟨v,ae,af⟩:=gi F;exact⟨u,v,ab,ae,by simp[ad,af]⟩
  simp at e
 rcases hc with hc|hc
 ·simp only[dD,G,hc]at h;split at h
  ·rename_i k a j b e;obtain⟨u,v,B,F,N⟩:=key k j a b e;split at h
   ·rename_i M;subst M;have:=im h;subst this;cases hi;have O:evalOp V ρT l nid o=.ok (.d (.int k (max u v))):=by simp only[evalOp,G,hc,N,hK]
    exact .val Y.ok O trivial rfl (iK (by simp only[X.den,B,F,cG]))
   cases h
  cases h
 simp only[dD,G,hc]at h;split at h
 ·rename_i k a j b e;obtain⟨u,v,B,F,N⟩:=key k j a b e;split at h
  ·rename_i M;subst M;have:=im h;subst this;cases hi;have O:evalOp V ρT l nid o=.ok (.d (.int k (min u v))):=by simp only[evalOp,G,hc,N,hK]
   exact .val Y.ok O trivial rfl (iK (by simp only[X.den,B,F,cG]))
  cases h
 cases h
def Io(hl:RL ρ lX l){t:Ty}{x:TX}{u:T}{y:X}{Z:List AX}(ad:RX ρ x u)(h:gQ lX t x=some (y,Z))(Y:∀cs,x ≠ .agg cs):∃(v:t.den)(l':List AO),y.den ρ=some ⟨t,v⟩/\cO l u=some (t.enc v,l')/\dw l u=some (t.enc v,l')/\RL ρ Z l':=by
 cases ad with
 |d t' x v B M=>
  simp only[gQ]at h;split at h
  ·rename_i e;subst e;simp only[c4,et]at h;obtain⟨rfl,rfl⟩:=h;exact⟨v,l,M,rfl,rfl,hl⟩
  cases h
 |bq s=>
  simp only[gQ]at h;split at h
  ·rename_i u;cases U:Nat.beq s u.size with
   |false=>simp[U]at h
   |true=>
    simp only[U,cond_true,c4,et]at h;obtain⟨rfl,rfl⟩:=h;have:=eb U;subst this;exact⟨([]:List u.den),l,rfl,rfl,rfl,hl⟩
  cases h
 |ej=>
  simp only[gQ]at h;split at h
  ·rename_i k v;simp only[c4,et]at h;obtain⟨rfl,rfl⟩:=h;exact⟨([]:List (k.den×v.den)),l,rfl,rfl,rfl,hl⟩
  cases h
 |row id=>
  simp only[gQ]at h;split at h
  ·rename_i ab e u ae O;split at h
   ·rename_i e;subst e;simp only[c4,et]at h;obtain⟨rfl,rfl⟩:=h;obtain⟨aa,j,N⟩:=F2.left hl O;cases N with
    |row _ _ _ zs h0 G=>exact⟨zs,l.set id (.bn e u.size (zs.map u.enc)),G,by simp only[cO,j];rfl,by simp only[dw,cO,j];rfl,F2.set hl (.bn e u _ zs h0 G) id⟩
    |bn _ _ _ zs h0 G=>exact⟨zs,l,G,by simp only[cO,j];rfl,by simp only[dw,cO,j];rfl,hl⟩
   cases h
  cases h
 |bI id t' x xs B=>
  simp only[gQ]at h;split at h
  ·rename_i e;subst e;simp only[c4,et]at h;obtain⟨rfl,rfl⟩:=h;exact⟨xs,l,B,rfl,rfl,hl⟩
  cases h
 |map id=>
  simp only[gQ]at h;split at h
  ·rename_i ab k v ae O;split at h
   ·rename_i e;subst e;simp only[c4,et]at h;obtain⟨rfl,rfl⟩:=h;obtain⟨aa,j,N⟩:=F2.left hl O;cases N with
    |map _ _ _ mm h0 B F=>exact⟨mm,l.set id (.dJ (mm.map λp:k.den×v.den=>k.enc p.1) (mm.map λp:k.den×v.den=>v.enc p.2)),F,by simp only[cO,j];rfl,by simp only[dw,cO,j];rfl,F2.set hl (.dJ k v _ mm h0 B F) id⟩
    |dJ _ _ _ mm h0 B F=>exact⟨mm,l,F,by simp only[cO,j];rfl,by simp only[dw,cO,j];rfl,hl⟩
   cases h
  cases h
 |agg cs ts B M=>exact absurd rfl (Y cs)
 |iN cs ts B M=>exact absurd rfl (Y cs)
 |_=>simp[gQ]at h
def Jb:∀(a b:List T)(l l1 j:List AO)(xs ys:List D),dm l a=some (xs,l1)->dm l1 b=some (ys,j)->dm l (a++b)=some (xs++ys,j)
 | [],b,l,l1,j,xs,ys,h1,k=>by simp[dm]at h1;obtain⟨rfl,rfl⟩:=h1;exact k
 |t::a,b,l,l1,j,xs,ys,h1,k=>by
  simp only[dm]at h1;cases ht:cO l t with
  |none=>simp[ht]at h1
  |some p=>
   obtain⟨x,l'⟩:=p;simp only[ht]at h1;cases B:dm l' a with
   |none=>simp[B]at h1
   |some p=>
    obtain⟨zs,F⟩:=p;simp only[B,c4,et]at h1;obtain⟨rfl,rfl⟩:=h1;simp only[List.cons_append,dm,ht,Jb a b l' F j zs ys B k]
theorem DU{t:Ty}{ts:List Ty}{x:X}{xs:List X}{v:t.den}{a:(aP ts).den}(F:x.den ρ=some ⟨t,v⟩)(B:jH ρ ts xs a):∃b:(aP (t::ts)).den,jH ρ (t::ts) (x::xs) b/\cellsOf (t::ts) b=(t.enc v).cells++cellsOf ts a:=by
 cases ts with
 |nil=>
  refine⟨v,⟨by simp[B.1],λj w k=>?_⟩,by simp[cellsOf]⟩;cases j with
  |zero=>simp at k;subst k;exact⟨x,rfl,by simpa [cK]using F⟩
  |succ j=>simp at k
 |cons u ts=>
  refine⟨(v,a),⟨by simp[B.1],λj w k=>?_⟩,rfl⟩;cases j with
  |zero=>simp at k;subst k;exact⟨x,rfl,by simpa [cK]using F⟩
  |succ j=>
   obtain⟨y,M,G⟩:=B.2 j w (by simpa using k);exact⟨y,by simpa using M,by simpa [cK]using G⟩
def acM:∀(f:Nat){lX:List AX}{l:List AO}{fX:List Ty}{cs r:List TX}{ts:List T}{xs:List X}{F:List AX},(∀t∈fX,isVal t)->RL ρ lX l->F2 (RX ρ) cs ts->ku f lX fX cs=some (xs,r,F) ->
  ∃(a:(aP fX).den)(G ai:List T)(l':List AO),ts=G++ai/\jH ρ fX xs a/\dm l G=some (cellsOf fX a,l')/\F2 (RX ρ) r ai/\RL ρ F l':=by
 intro f;induction f with
 |zero=>intro lX l fX cs r ts xs F _ _ _ h;simp[ku]at h
 |succ f U=>
  intro lX l fX cs r ts xs F hv hl O h;cases fX with
  |nil=>
   simp only[ku,c4,et]at h;obtain⟨rfl,rfl,rfl⟩:=h;exact⟨(),[],ts,l,rfl,⟨rfl,λj t h=>by simp at h⟩,rfl,O,hl⟩
  |cons t fX=>
   by_cases al:∃i,t=.st i
   ·obtain⟨i,rfl⟩:=al;simp only[ku]at h;cases k:ku f lX (aI.bW i) cs with
    |none=>simp[k]at h
    |some p=>
     obtain⟨ys,ao,l1⟩:=p;simp only[k]at h;cases B:ku f l1 fX ao with
     |none=>simp[B]at h
     |some p=>
      obtain⟨zs,az,ab⟩:=p;simp only[B,c4,et]at h;obtain⟨rfl,rfl,rfl⟩:=h;obtain⟨a,G,ai,ay,rfl,Y,Z,ax,aa⟩:=U (λt ht=>dg.val i t ht) hl O k;obtain⟨b,aj,ak,ad,rfl,ae,af,ag,ah⟩:=U (λt ht=>hv t (by simp[ht])) aa ax B;obtain⟨c,M,N⟩:=DU (t:=.st i) (v:=aI.eH i a) (zJ Y) ae;refine⟨c,G++aj,ak,ad,by simp,M,?_,ag,ah⟩;rw[N];have e:((Ty.st i).enc (aI.eH i a)).cells=cellsOf (aI.bW i) (aI.un i (aI.eH i a)):=cz.cells i (aI.eH i a);rw[e,aI.pI];exact Jb _ _ _ _ _ _ _ Z af
   cases O with
   |nil=>exfalso;cases t<;>simp_all [ku]
   |cons ar av=>
    rename_i c u cs aA;have au:ku (f+1) lX (t::fX) (c::cs)=match gQ lX t c with
     |some (x,l1)=>(match ku f l1 fX cs with|some (ys,r,ab)=>some (x::ys,r,ab)|none=>none)
     |none=>none:=by cases t<;>first|rfl|exact absurd ⟨_,rfl⟩ al
    rw[au]at h;cases k:gQ lX t c with
    |none=>simp[k]at h
    |some p=>
     obtain⟨x,l1⟩:=p;simp only[k]at h;cases B:ku f l1 fX cs with
     |none=>simp[B]at h
     |some p=>
      obtain⟨ys,ao,ab⟩:=p;simp only[B,c4,et]at h;obtain⟨rfl,rfl,rfl⟩:=h;obtain⟨v,ay,Y,Z,_,aa⟩:=Io hl ar k (λcs e=>by subst e;simp[gQ]at k);obtain⟨b,aj,ak,ad,rfl,ae,af,ag,ah⟩:=U (λt ht=>hv t (by simp[ht])) aa av B;obtain⟨aq,M,N⟩:=DU Y ae;refine⟨aq,u::aj,ak,ad,rfl,M,?_,ag,ah⟩;have aw:cd t=false:=by cases t<;>simp_all [cd]
      have an:=hv t (by simp);rw[N,(lN aw an.1 an.2 v).1];simp only[dm,Z,af];rfl
def CU(hl:RL ρ lX l){t:Ty}{x:TX}{u:T}{y:X}{ab:List AX}(aa:RX ρ x u)(h:mg lX t x=some (y,ab)):∃(v:t.den)(l':List AO),y.den ρ=some ⟨t,v⟩/\dw l u=some (t.enc v,l')/\RL ρ ab l':=by
 by_cases Z:∃cs,x=.agg cs
 ·obtain⟨cs,rfl⟩:=Z;simp only[mg]at h;split at h
  ·rename_i i;split at h
   ·rename_i xs l1 N;simp only[c4,et]at h;obtain⟨rfl,rfl⟩:=h;have ad:∀ts:List T,F2 (RX ρ) cs ts->∃(a:(aP (aI.bW i)).den)(l':List AO),jH ρ (aI.bW i) xs a/\dm l ts=some (cellsOf (aI.bW i) a,l')/\RL ρ l1 l':=by
     intro ts ah;obtain⟨a,ak,al,M,rfl,F,k,G,aj⟩:=acM _ (λt ht=>dg.val i t ht) hl ah N;cases G;exact⟨a,M,F,by simpa using k,aj⟩
    have Y:∀a:(aP (aI.bW i)).den,D.agg (cellsOf (aI.bW i) a)=Ty.enc (.st i) (aI.eH i a):=λa=>by
     have e:Ty.enc (.st i) (aI.eH i a)=.agg (aI.cells i (aI.eH i a)):=rfl;rw[e,cz.cells,aI.pI]
    cases aa with
    |agg _ ts O B=>
     obtain⟨a,M,F,k,G⟩:=ad ts (F2.of O B);exact⟨aI.eH i a,M,zJ F,by simp only[dw,k];rw[Y],G⟩
    |iN _ ds O B=>
     obtain⟨a,M,F,k,G⟩:=ad (ds.map .d) (F2.of (by simpa using O) λj c t ag ht=>by
      simp only[e3,e4]at ht;obtain⟨d,U,rfl⟩:=ht;exact B j c d ag U)
     have U:∀ds:List D,dm l (ds.map .d)=some (ds,l):=by
      intro ds;induction ds with
      |nil=>rfl
      |cons d ds ai=>simp only[e7,dm,cO,ai]
     rw[U]at k;simp only[c4,et]at k;obtain⟨ae,rfl⟩:=k;exact⟨aI.eH i a,l,zJ F,by rw[<-Y,<-ae];rfl,G⟩
   cases h
  cases h
 have:mg lX t x=gQ lX t x:=by
  cases x<;>simp_all [mg]
 rw[this]at h;obtain⟨v,l',N,_,B,af⟩:=Io hl aa h (λcs e=>Z ⟨cs,e⟩);exact⟨v,l',N,B,af⟩
def rM{a b:X}{i j:IntKind}{u v:Int}(k:a.den ρ=some ⟨.int i,u⟩)(B:b.den ρ=some ⟨.int j,v⟩):(X.u2 .le a b).den ρ=some ⟨.bool,leI u v⟩:=by simp only[X.den,k,B,cG]
def yU{a b:X}{u v:Bool}(j:a.den ρ=some ⟨.bool,u⟩)(k:b.den ρ=some ⟨.bool,v⟩):(X.u2 .and a b).den ρ=some ⟨.bool,u&&v⟩:=by simp only[X.den,j,k,cG]
def Fy{a:X}{t:Ty}{zs:List t.den}(h:a.den ρ=some ⟨.list t,zs⟩):(gF a).den ρ=some ⟨.int .i64,(zs.length:Int)⟩:=by simp only[gF,X.den,h,gz]
theorem E6(m:Int):(iX m).den ρ=some ⟨.int .i64,m⟩:=rfl
theorem PJ{u:Ty}{zs:List u.den}{xs y:X}{lo hi:Option Operand}{is:List Ins}(M:xs.den ρ=some ⟨.list u,zs⟩)(ah:∀a,lo=some a->RX ρ (ρX a) (ρT a))(ag:∀a,hi=some a->RX ρ (ρX a) (ρT a))(h:CL xs (lo.map ρX) (hi.map ρX)=some (is,y))(Z:bY cs n ρ is ρ'):ρ'=ρ/\∃r,ly (.d (.slice u.size (zs.map u.enc))) (lo.map ρT) (hi.map ρT)=r/\r.ob/\r.bE=.none/\RX ρ (.d (.list u) y) r.t:=by
 unfold CL at h;split at h
 ·rename_i F G;simp only[c4,et]at h;obtain⟨rfl,rfl⟩:=h;cases Z;have:lo=none:=by simpa using F
  subst this;have:hi=none:=by simpa using G
  subst this;exact⟨rfl,_,rfl,trivial,rfl,sA M⟩
 ·rename_i k a F G;simp only[c4,et]at h;obtain⟨rfl,rfl⟩:=h;have:hi=none:=by simpa using G
  subst this;obtain⟨ae,rfl,aa⟩:=e4.1 F;have N:=ah ae rfl;rw[aa]at N;obtain⟨m,B,U⟩:=gi N;obtain⟨j,Y⟩:=jy Z;cases Y;rw[yU (rM (E6 0) B) (rM B (Fy M))]at j;have j:(leI 0 m&&leI m (zs.length:Int))=true:=fH j;refine⟨rfl,⟨.d (.slice u.size ((zs.map u.enc).drop m.toNat)),.none,0<=m/\m<=(zs.map u.enc).length⟩,by simp only[ly,Option.map_some,Option.map_none,U,dM],by simpa using j,rfl,?_⟩;show RX _ _ (.d (.slice u.size ((zs.map u.enc).drop m.toNat)));rw[<-List.map_drop];exact sA (by simp only[X.den,M,B,cG])
 ·rename_i k b F G;simp only[c4,et]at h;obtain⟨rfl,rfl⟩:=h;have:lo=none:=by simpa using F
  subst this;obtain⟨af,rfl,ab⟩:=e4.1 G;have O:=ag af rfl;rw[ab]at O;obtain⟨m,B,U⟩:=gi O;obtain⟨j,Y⟩:=jy Z;cases Y;rw[yU (rM (E6 0) B) (rM B (Fy M))]at j;have j:(leI 0 m&&leI m (zs.length:Int))=true:=fH j;refine⟨rfl,⟨.d (.slice u.size ((zs.map u.enc).take m.toNat)),.none,0<=m/\m<=(zs.map u.enc).length⟩,by simp only[ly,Option.map_some,Option.map_none,U,dM],by simpa using j,rfl,?_⟩;show RX _ _ (.d (.slice u.size ((zs.map u.enc).take m.toNat)));rw[<-List.map_take];exact sA (by simp only[X.den,M,B,cG])
 ·rename_i k a aj b F G;simp only[c4,et]at h;obtain⟨rfl,rfl⟩:=h;obtain⟨ae,rfl,aa⟩:=e4.1 F;obtain⟨af,rfl,ab⟩:=e4.1 G;have N:=ah ae rfl;rw[aa]at N;obtain⟨m,B,U⟩:=gi N;have O:=ag af rfl;rw[ab]at O;obtain⟨m',ad,ai⟩:=gi O;obtain⟨j,Y⟩:=jy Z;cases Y;rw[yU (rM (E6 0) B) (yU (rM B ad) (rM ad (Fy M)))]at j;have j:(leI 0 m&&(leI m m'&&leI m' (zs.length:Int)))=true:=fH j;refine⟨rfl,⟨.d (.slice u.size (((zs.map u.enc).take m'.toNat).drop m.toNat)),.none,0<=m/\m<=m'/\m'<=(zs.map u.enc).length⟩,by simp only[ly,Option.map_some,U,ai,dM],by simpa using j,rfl,?_⟩;show RX _ _ (.d (.slice u.size (((zs.map u.enc).take m'.toNat).drop m.toNat)));rw[<-List.map_take,<-List.map_drop];exact sA (by simp only[X.den,M,B,ad,cG])
 cases h
theorem bM.list(B:bM P V C){t:TypeId}{u:Ty}(ht:C.ty t=some (.list u)):∃sz j z e i,V.E t=some ⟨sz,j,z,.slice e⟩/\V.E e=some i/\i.size=u.size/\i.desc.agg=cd u/\isVal u/\0<u.size/\C.ty e=some u:=by
 obtain⟨i,G,ad,ae,hv,F,M⟩:=B.info ht;clear M;obtain⟨sz,j,z,d⟩:=i;cases d<;>simp[oH]at F
 rename_i e;obtain⟨⟨⟨k,Z⟩,aa⟩,ab⟩:=F;obtain⟨i,N,O,U,Y,_⟩:=B.info k;exact⟨sz,j,z,e,i,G,N,O,U,Y,by omega,k⟩
def yn{id:Nat}{u:T}(h:RX ρ (.row id) u):u=.row id:=by cases h;rfl
def wN{id:Nat}{u:T}(h:RX ρ (.map id) u):u=.map id:=by cases h;rfl
def abW(F:bM P V C){t:TypeId}{x:Operand}{lo hi:Option Operand}(j:o.op=.slice t x lo hi none)(hl:RL ρ lX l)(Y:∀x∈o.op.operands,RX ρ (ρX x) (ρT x))(h:dD C ρX lX n nid o=some q)(aj:bY cs n ρ q.ins ρ'):cD P o ρT l nid ρ' q:=by
 have k:=Y x (by simp[j,Op.operands]);have ak:∀a,lo=some a->RX ρ (ρX a) (ρT a):=λa e=>Y a (by subst e;simp[j,Op.operands]);have ai:∀a,hi=some a->RX ρ (ρX a) (ρT a):=λa e=>Y a (by subst e;simp[j,Op.operands]);simp only[dD,j]at h;split at h
 ·rename_i u az xs ab G;split at h
  ·rename_i ao;subst ao;obtain⟨sz,an,z,e,i,M,B,N,aq,ar,au,_⟩:=F.list ab;simp only[e4]at h;obtain⟨⟨is,y⟩,aa,rfl⟩:=h;rw[G]at k;obtain⟨zs,O,av⟩:=FE k;obtain⟨rfl,r,ad,ae,al,af⟩:=PJ O ak ai aa aj;have Z:evalOp V ρT l nid o=r:=by
    simp only[evalOp,j,M,av];rw[if_pos ⟨by simp[bJ,B,N],by simp[B]⟩];exact ad
   exact .val F.ok Z ae al af
  cases h
 ·rename_i u id ab G;obtain⟨sz,an,z,e,i,M,B,N,aq,ar,au,_⟩:=F.list ab;split at h
  ·rename_i xs l' ax;simp only[e4]at h;obtain⟨⟨is,y⟩,aa,rfl⟩:=h;rw[G]at k;have ah:ρT x=.row id:=yn k;rw[ah]at k;obtain⟨v,ag,O,_,U,aw⟩:=Io hl k ax (λ_ e=>by cases e);obtain⟨rfl,r,ad,ae,al,af⟩:=PJ (u:=u) (zs:=v) O ak ai aa aj;have U:dw l (.row id)=some (.slice u.size (List.map u.enc v),ag):=U;have Z:evalOp V ρT l nid o=⟨r.t,.aQ ag,r.ob⟩:=by
    simp only[evalOp,j,M,ah,F.sub,U];rw[if_neg (by simp)];rw[if_pos ⟨by simp[bJ,B,N],by simp[B]⟩,ad]
   exact⟨_,af,ag,aw,λay=>bZ.aQ F.ok Z ae rfl ay⟩
  cases h
 cases h
theorem Of{U:Nat->Option (Nat×Nat)}:∀{ps:List (Nat×Operand)}{k G:List TX}{j:List T},(∀p∈ps,RX ρ (ρX p.2) (ρT p.2))->F2 (RX ρ) k j->x7 U k (ps.map λp=>(p.1,ρX p.2))=some G ->
  ∃F,oL U j (ps.map λp=>(p.1,ρT p.2))=some F/\F2 (RX ρ) G F
 | [],k,G,j,_,M,h=>by simp[x7]at h;subst h;exact⟨j,rfl,M⟩
 |p::ps,k,G,j,N,M,h=>by
  simp only[e7,x7]at h;split at h
  ·rename_i off size vs Y Z;cases B:(Nat.beq vs.length size&&Nat.ble (off+size) k.length)with
   |false=>simp[B]at h
   |true=>
    simp only[B,cond_true]at h;simp only[dk]at B;have aa:=eb B.1;have ab:=hg B.2;obtain⟨O,ag⟩:=zq (N p (by simp)) Z;obtain⟨F,ad,ae⟩:=Of (λq af=>N q (by simp[af])) (HX (off:=off) M O) h;refine⟨F,?_,ae⟩;simp only[e7,oL,Y];rw[if_pos ⟨by rw[<-O.len,aa],by rw[<-M.len];exact ab,ag⟩];exact ad
  cases h
def UF(j:bM P V C){t:TypeId}{parts:Array (Nat×Operand)}(B:o.op=.build t parts)(ab:∀x∈o.op.operands,RX ρ (ρX x) (ρT x))(h:dD C ρX lX n nid o=some q)(hi:bY cs n ρ q.ins ρ'):cD P o ρT l nid ρ' q:=by
 have F:∀p∈parts.toList,RX ρ (ρX p.2) (ρT p.2):=λp F=>ab p.2 (by simp[B,Op.operands];exact⟨p.1,by simpa using F⟩);simp only[dD,B]at h;split at h
 ·rename_i s1 s2 z fs u G af;obtain⟨i,k,al,ae,hv,N,ag⟩:=j.info af;obtain⟨an,ah,ai⟩:=QS (ρ:=ρ) ag;rw[j.E,G]at k;simp only[c4]at k;subst k;rw[ah]at h;simp only[k6,e4]at h;obtain⟨ds,Z,v,aa,rfl⟩:=h;cases hi;obtain⟨Y,aj,ak⟩:=Of (ρX:=ρX) (ρT:=ρT) F ai Z;have U:cd u=true:=by
   have:(TD.struct fs).agg=true:=rfl;rw[<-ae];rfl
  have M:fs.all (λf=>(V.E f.2).isSome)=true:=by
   rw[j.E];cases u<;>first|exact N| (simp[oH]at N;done)| (simp[cd]at U;done)
  have O:=Ax hv ak aa;rw[U]at O;have ad:evalOp V ρT l nid o=.ok (iF true Y):=by
   simp only[evalOp,B,j.E,G];rw[j.E]at M;rw[if_pos M,aj]
  exact .val j.ok ad trivial rfl O
 cases h
theorem sH:∀{fX:List Ty}{xs:List TX}{ab:List T}{ys:List X}{lX F:List AX}{l:List AO},RL ρ lX l->F2 (RX ρ) xs ab->gy lX fX xs=some (ys,F) ->
  ∃(a:(aP fX).den)(l':List AO),jH ρ fX ys a/\fw l ab=some (cJ fX a,l')/\RL ρ F l'
 | [],[],[],ys,lX,F,l,hl,B,h=>by
  simp only[gy,c4,et]at h;obtain⟨rfl,rfl⟩:=h;exact⟨(),l,⟨rfl,λj t h=>by simp at h⟩,rfl,hl⟩
 |t::ts,x::xs,u::aj,ys,lX,F,l,hl,.cons B ae,h=>by
  simp only[gy]at h;cases G:mg lX t x with
  |none=>simp[G]at h
  |some p=>
   obtain⟨y,l1⟩:=p;simp only[G]at h;cases M:gy l1 ts xs with
   |none=>simp[M]at h
   |some p=>
    obtain⟨zs,ah⟩:=p;simp only[M,c4,et]at h;obtain⟨rfl,rfl⟩:=h;obtain⟨v,ai,O,U,ag⟩:=CU hl B G;obtain⟨a,Y,N,Z,aa⟩:=sH ag ae M;cases ts with
    |nil=>
     refine⟨v,Y,⟨by simp[N.1],λj w k=>?_⟩,?_,aa⟩
     ·cases j with
      |zero=>simp at k;subst k;exact⟨y,rfl,by simpa [cK]using O⟩
      |succ j=>simp at k
     simp only[fw,U,Z,cJ]
    |cons t' ts=>
     refine⟨(v,a),Y,⟨by simp[N.1],λj w k=>?_⟩,?_,aa⟩
     ·cases j with
      |zero=>simp at k;subst k;exact⟨y,rfl,by simpa [cK]using O⟩
      |succ j=>
       obtain⟨z,af,ad⟩:=N.2 j w (by simpa using k);exact⟨z,by simpa using af,by simpa [cK]using ad⟩
     simp only[fw,U,Z];rfl
 | [],[],_::_,_,_,_,_,_,B,_=>by cases B
 |_::_,_::_,[],_,_,_,_,_,B,_=>by cases B
 | [],_::_,_,_,_,_,_,_,_,h=>by simp[gy]at h
 |_::_,[],_,_,_,_,_,_,_,h=>by simp[gy]at h
theorem MU{u:Ty}:∀{k:Nat}{xs:List X}{a:(aP (List.replicate k u)).den},jH ρ (List.replicate k u) xs a->∃zs:List u.den,(wG u xs).den ρ=some ⟨.list u,zs⟩/\cJ (List.replicate k u) a=zs.map u.enc/\zs.length=k
 |0,xs,a,h=>by
  have:xs=[]:=by simpa using h.1
  subst this;exact⟨[],rfl,rfl,rfl⟩
 |1,xs,a,h=>by
  obtain⟨x,rfl⟩:∃x,xs=[x]:=by
   have:=h.1
   match xs,this with
   | [x],_=>exact⟨x,rfl⟩
  obtain⟨y,F,B⟩:=h.2 0 u rfl;simp at F;subst F;refine⟨[a],?_,rfl,rfl⟩;have B:x.den ρ=some ⟨u,a⟩:=B;have G:dc u ⟨u,a⟩=some a:=gb u a;simp only[wG,X.den,B,cG,G]
 |k+2,xs,a,h=>by
  obtain⟨x,r,rfl⟩:∃x r,xs=x::r:=by
   have:=h.1
   match xs,this with
   |x::r,_=>exact⟨x,r,rfl⟩
  obtain⟨y,F,B⟩:=h.2 0 u (by simp[List.replicate_succ]);simp at F;subst F;have B:x.den ρ=some ⟨u,a.1⟩:=B;obtain⟨zs,M,N,O⟩:=MU (k:=k+1) (xs:=r) (a:=a.2) ⟨by have:=h.1;simpa using this,λj t ht=>by
   obtain⟨z,U,Y⟩:=h.2 (j+1) t (by simpa [List.replicate_succ]using ht);exact⟨z,by simpa using U,by simpa [cK,List.replicate_succ]using Y⟩⟩
  refine⟨a.1::zs,?_,?_,by simp[O]⟩
  ·have G:dc u ⟨u,a.1⟩=some a.1:=gb u a.1;simp only[wG,X.den,B,M,cG,G]
  show u.enc a.1::cJ (List.replicate (k+1) u) a.2=_;rw[N];rfl
theorem Qu:∀{j:List T}{ds:List D},j.mapM iw=some ds->fw l j=some (ds,l)
 | [],ds,h=>by simp at h;subst h;rfl
 |u::j,ds,h=>by
  simp only[l2,Option.bind_eq_bind,k6,Option.pure_def,c4]at h;obtain⟨x,k,xs,B,rfl⟩:=h;have:dw l u=some (x,l):=by
   cases u<;>simp[iw]at k<;>subst k<;>rfl
  simp only[fw,this,Qu B]
theorem Wt{ps:List (Nat×Operand)}(h:∀p∈ps,RX ρ (ρX p.2) (ρT p.2)):F2 (RX ρ) (ps.map λp=>ρX p.2) (ps.map λp=>ρT p.2):=by
 induction ps with
 |nil=>exact .nil
 |cons p ps k=>exact .cons (h p (by simp)) (k λq j=>h q (by simp[j]))
def UD(j:bM P V C){t:TypeId}{len:Nat}{parts:Array (Nat×Operand)}(G:o.op=.buildSlice t len parts)(hl:RL ρ lX l)(ao:∀x∈o.op.operands,RX ρ (ρX x) (ρT x))(h:dD C ρX lX n nid o=some q)(hi:bY cs n ρ q.ins ρ'):cD P o ρT l nid ρ' q:=by
 have af:∀p∈parts.toList,RX ρ (ρX p.2) (ρT p.2):=λp af=>ao p.2 (by simp[G,Op.operands];exact⟨p.1,by simpa using af⟩);simp only[dD,G]at h;split at h
 ·rename_i s1 s2 z e u O au;obtain⟨sz,ay,z',aA,i,Y,N,an,aB,Z,aa,aC⟩:=j.list au;rw[j.E,O]at Y;simp only[c4,TI.mk.injEq,TD.slice.injEq]at Y;obtain⟨rfl,rfl,rfl,rfl⟩:=Y;have B:bJ V.E e=u.size:=by simp[bJ,N,an]
  cases ad:Nat.beq len 0 with
  |true=>
   have:=eb ad;subst this;simp only[h6,cond_true]at h;cases ag:parts.toList.isEmpty with
   |false=>simp[ag]at h
   |true=>
    simp only[ag,cond_true,c4]at h;subst h;cases hi;have k:evalOp V ρT l nid o=⟨.row nid,.aQ (l++[.row e (bJ V.E e) []]),parts.toList.isEmpty=true⟩:=by
     simp only[evalOp,G,j.E,O];rw[if_pos (by rw[<-j.E];exact⟨by simp[N],by rw[B];exact aa⟩)];simp
    rw[B]at k;exact⟨_,.row nid,_,F2.app hl (.cons (.row e u _ ([]:List u.den) Z rfl) .nil),λU=>bZ.aQ j.ok k ag rfl U⟩
  |false=>
   simp only[ad,cond_false]at h;cases F:(decide (parts.toList.map (·.1)=List.range len)&&Nat.ble (len*u.size) 16777216)with
   |false=>simp[F]at h
   |true=>
    simp only[F,cond_true]at h;simp only[dk,ea]at F;have av:=hg F.2;split at h
    ·rename_i xs l1 ab;simp only[c4]at h;subst h;cases hi;obtain⟨a,aw,ax,M,ak⟩:=sH hl (Wt (ρX:=ρX) (ρT:=ρT) af) ab;obtain⟨zs,ah,al,az⟩:=MU ax;have aj:len≠0:=by rintro rfl;simp at ad
     have aq:(zs.map u.enc).all (λd=>d.cells.length == u.size&&d.cells.all D.one)=true:=by
      rw[ek];intro d ab;obtain⟨z,_,rfl⟩:=gg.1 ab;rw[kI Z];simp only[beq_self_eq_true,k4,ek];exact wb Z z
     rw[al]at M;have ai:parts.toList.map (·.1)=List.range len/\len*u.size<=16777216/\(zs.map u.enc).all (λd=>d.cells.length == u.size&&d.cells.all D.one)=true:=⟨F.1,av,aq⟩;cases ae:parts.toList.mapM (λp=>iw (ρT p.2))with
     |some ds=>
      have ar:(parts.toList.map λp=>ρT p.2).mapM iw=some ds:=by rw[List.mapM_map];exact ae
      have:=Qu (l:=l) ar;rw[this]at M;simp only[c4,et]at M;obtain⟨rfl,rfl⟩:=M;have k:evalOp V ρT l nid o=.ok (.d (.slice u.size (zs.map u.enc))):=by
       simp only[evalOp,G,j.E,O,ae];rw[if_pos (by rw[<-j.E];exact⟨by simp[N],by rw[B];exact aa⟩),if_neg aj,<-j.E,B,if_pos ai]
      exact⟨_,sA ah,_,ak,λU=>bZ.none j.ok k trivial rfl⟩
     |none=>
      have k:evalOp V ρT l nid o=⟨.d (.slice u.size (zs.map u.enc)),.aQ aw,True⟩:=by
       simp only[evalOp,G,j.E,O,ae,M];rw[if_pos (by rw[<-j.E];exact⟨by simp[N],by rw[B];exact aa⟩),if_neg aj,<-j.E,B,if_pos ai]
      exact⟨_,sA ah,_,ak,λU=>bZ.aQ j.ok k trivial rfl U⟩
    cases h
 cases h
def bZ.II{k B:Operand->T}{t t':T}{l':List AO}(h:bZ P o k l t l')(N:∀(w0:World)(I0:aD)(w:World)(I:aD)(m:Nat->Value) x v,aJ w0 I0 w I m l->az I m l v (B x)->az I m l v (k x))(ht:∀(I:aD)(m:Nat->Value) v,az I m l' v t->az I m l' v t'):bZ P o B l t' l':=
 ⟨h.1,λw0 I0 w I m ρ j U=>(h.2 w0 I0 w I m ρ j λx O=>N w0 I0 w I m x _ j (U x O)).mono λv w' ⟨J,m',F,G,M⟩=>⟨J,m',F,G,ht _ _ _ M⟩⟩
def nI(l:List AO):T->T
 |.row id=>match l[id]? with
  |some (.bn _ s els)=>.bI id (.slice s els)
  |_=>.row id
 |t=>t
def XL{w0 w:World}{I0 I:aD}{m:Nat->Value}{v:Value}{t:T}(Y:aJ w0 I0 w I m l)(h:az I m l v t):az I m l v (nI l t):=by
 unfold nI;split
 ·rename_i id;split
  ·rename_i e s els B;have ad:=h;cases h with
   |row A n c _ M k=>
    have U:isRow l id=true:=by simp[isRow,B,AO.isRow]
    obtain⟨xs,F,aa,ab,G⟩:=Y.obj id _ B;have O:=k U;rw[O]at F G;exact .bI _ _ _ _ _ M k (vk F aa ab λb N j x Z=>(G b N).2.1 j x Z)
  exact h
 exact h
def XM(t:T):dw l (nI l t)=dw l t:=by
 unfold nI;split
 ·rename_i id;cases h:l[id]? with
  |none=>rfl
  |some o=>cases o<;>simp[dw,cO,h]
 rfl
def zO{y:X}{b:Nat}{t:Ty}{zs:List t.den}(j:y.den ρ=some ⟨.list t,zs⟩)(h:(X.u1 (.fit b) y).den ρ=some ⟨.bool,true⟩):zs.length*b<=140737488355328/\zs.length<=9223372036854775807:=by
 simp only[X.den,j,gz]at h;have h:decide (zs.length*b<=140737488355328/\zs.length<=9223372036854775807)=true:=fH h;simpa using h
def Dv{x y:X}{t:Ty}{xs ys:List t.den}(j:x.den ρ=some ⟨.list t,xs⟩)(k:y.den ρ=some ⟨.list t,ys⟩):(X.u2 .app x y).den ρ=some ⟨.list t,xs++ys⟩:=by
 have B:dc (.list t) ⟨.list t,ys⟩=some ys:=gb (.list t) ys;simp only[X.den,j,k,cG,B];rfl
def Qb{t:T}{d:D}{l':List AO}{id e s:Nat}{els:List D}(hl:l[id]?=some (.bn e s els))(h:cO l t=some (d,l')):l'[id]?=some (.bn e s els):=by
 cases t with
 |d x=>simp only[cO,c4,et]at h;rw[<-h.2];exact hl
 |bq s=>simp only[cO,c4,et]at h;rw[<-h.2];exact hl
 |bI i x=>simp only[cO,c4,et]at h;rw[<-h.2];exact hl
 |row i=>
  simp only[cO]at h;split at h
  ·simp only[c4,et]at h;rw[<-h.2];exact hl
  ·rename_i j;simp only[c4,et]at h;rw[<-h.2];have:i≠id:=by rintro rfl;rw[hl]at j;cases j
   rw[List.getElem?_set_ne this];exact hl
  cases h
 |map i=>
  simp only[cO]at h;split at h
  ·simp only[c4,et]at h;rw[<-h.2];exact hl
  ·rename_i j;simp only[c4,et]at h;rw[<-h.2];have:i≠id:=by rintro rfl;rw[hl]at j;cases j
   rw[List.getElem?_set_ne this];exact hl
  cases h
 |_=>simp[cO]at h
def Jd{id e s:Nat}{els:List D}:∀{ts:List T}{ds:List D}{l l':List AO},l[id]?=some (.bn e s els)->dm l ts=some (ds,l')->l'[id]?=some (.bn e s els)
 | [],ds,l,l',hl,h=>by simp only[dm,c4,et]at h;rw[<-h.2];exact hl
 |t::ts,ds,l,l',hl,h=>by
  simp only[dm]at h;cases j:cO l t with
  |none=>simp[j]at h
  |some p=>
   obtain⟨x,B⟩:=p;simp only[j]at h;cases k:dm B ts with
   |none=>simp[k]at h
   |some p=>
    obtain⟨xs,F⟩:=p;simp only[k,c4,et]at h;rw[<-h.2];exact Jd (Qb hl j) k
def acK{t:T}{d:D}{l':List AO}{id e s:Nat}{els:List D}(hl:l[id]?=some (.bn e s els))(h:dw l t=some (d,l')):l'[id]?=some (.bn e s els):=by
 by_cases ht:∃ts,t=.agg ts
 ·obtain⟨ts,rfl⟩:=ht;obtain⟨ds,_,j⟩:=yC h;exact Jd hl j
 rw[yD (λts e=>ht ⟨ts,e⟩)]at h;exact Qb hl h
def AB{k:Nat}{u:T}(h:RX ρ (.bq k) u):u=.bq k:=by cases h;rfl
def Rc(N:bM P V C){c:Call}{s x:Operand}{t:TypeId}(aN:o.op=.call c)(aI:c.callee=.builtin .append)(aE:c.args.toList=[s,x])(aH:c.argTypes.toList=[t,t])(hl:RL ρ lX l)(ai:RX ρ (ρX s) (ρT s))(aR:RX ρ (ρX x) (ρT x))(h:Dw C t lX nid (ρX s) (ρX x)=some q)(hi:bY cs n ρ q.ins ρ'):cD P o ρT l nid ρ' q:=by
 have ar:∀ρT:Operand->T,evalOp V ρT l nid o=iO V.E t l nid (ρT s) (ρT x):=by intro ρT;simp only[evalOp,aN,aI,aE,aH,hK]
 unfold Dw at h;split at h
 ·rename_i s1 s2 z e u aC aP;obtain⟨sz,aX,z',aY,i,ak,ad,ae,a1,al,a6,a7⟩:=N.list aP;have af:V.E t=some ⟨s1,s2,z,.slice e⟩:=by rw[N.E];exact aC
  rw[af]at ak;simp only[c4,TI.mk.injEq,TD.slice.injEq]at ak;obtain⟨rfl,rfl,rfl,rfl⟩:=ak;have ao:bytesOf C.E e=i.bytes:=by rw[<-N.E];simp[bytesOf,ad]
  split at h
  ·rename_i y l1 aK;obtain⟨new,B,aa,ab,M⟩:∃(new:List u.den)(B:List AO),y.den ρ=some ⟨.list u,new⟩/\dw l (ρT x)=some (.slice u.size (List.map u.enc new),B)/\RL ρ l1 B:=CU hl aR aK;have aq:(u.size=i.size\/(List.map u.enc new).isEmpty=true)/\0<i.size:=⟨.inl ae.symm,by omega⟩;cases av:ρX s with
   |bq k=>
    rw[av]at ai h;have ag:ρT s=.bq k:=AB ai;simp only[c4]at h;subst h;obtain⟨aj,ax⟩:=jy hi;cases ax;have:=zO aa aj;have F:evalOp V ρT l nid o=⟨.row nid,.aQ (B++[.row e i.size (List.map u.enc new)]),(List.map u.enc new).length*i.bytes<=140737488355328/\(List.map u.enc new).length<=9223372036854775807⟩:=by
     rw[ar,ag];simp only[iO,af,ad,ab];rw[if_pos aq]
    rw[ae]at F;exact⟨_,.row nid,_,F2.app M (.cons (.row e u y new al aa) .nil),λY=>bZ.aQ N.ok F (by rw[ao]at this;show(List.map u.enc new).length*i.bytes<=140737488355328/\(List.map u.enc new).length<=9223372036854775807;rw[hP];exact this) rfl Y⟩
   |row id=>
    rw[av]at ai h;have ag:=yn ai;simp only at h;split at h
    ·rename_i aA O j bg aL;split at h
     ·rename_i aJ;obtain⟨rfl,rfl⟩:=aJ;cases G:(Nat.beq nid l1.length&&(EP lX id == aA))with
      |false=>simp[G]at h
      |true=>
       simp only[G,cond_true,c4]at h;simp only[dk]at G;have ah:=G.2;have G:=eb G.1;subst h;obtain⟨aj,ax⟩:=jy hi;cases ax;obtain⟨aV,an,aF⟩:=F2.left M aL;have az:nid=B.length:=by rw[G];exact M.len
       have a8:(l1.set id .dead).length=(B.set id .dead).length:=by simp[M.len]
       cases aF with
       |row _ _ _ zs _ aw=>
        have Z:=Dv aw aa;have U:=zO Z aj;have F:evalOp V ρT l nid o=⟨.row nid,.aQ (B.set id .dead++[.row O j.size (List.map j.enc zs++List.map j.enc new)]),((List.map j.enc zs).length+(List.map j.enc new).length)*i.bytes<=140737488355328/\(List.map j.enc zs).length+(List.map j.enc new).length<=9223372036854775807⟩:=by
         rw[ar,ag];simp only[iO,af,ad,ab];rw[if_pos aq];simp only[an];rw[if_pos ⟨trivial,ae.symm,az⟩]
        have au:List.map j.enc zs++List.map j.enc new=List.map j.enc (zs++new):=nh.symm;rw[au]at F;exact⟨_,.row nid,_,F2.app (F2.set M .dead id) (.cons (.row O j _ (zs++new) al Z) .nil),λY=>bZ.aQ N.ok F (by rw[ao]at U;simpa using U) rfl Y⟩
       |bn _ _ _ zs _ aw=>
        have Z:=Dv aw aa;have U:=zO Z aj;have aM:l[id]?=some (.bn O j.size (zs.map j.enc)):=by
         unfold EP at ah;split at ah
         ·rename_i aB aZ bc bd h0;have:aB=true:=by simpa using ah
          subst this;obtain⟨aW,ay,aG⟩:=F2.left hl h0;cases aG with
          |bn _ _ _ bf _ ba=>
           have:=acK ay ab;rw[an]at this;rw[ay,<-this]
         simp at ah
        have aD:nI l (ρT s)=.bI id (.slice j.size (zs.map j.enc)):=by rw[ag];simp only[nI,aM]
        have aS:dw l (nI l (ρT x))=some (.slice j.size (List.map j.enc new),B):=by rw[XM,ab]
        have F:evalOp V (λy=>nI l (ρT y)) l nid o=⟨.bI nid (.slice j.size (List.map j.enc zs++List.map j.enc new)),.aQ (B.set id .dead++[.bn O j.size (List.map j.enc zs++List.map j.enc new)]),((List.map j.enc zs).length+(List.map j.enc new).length)*i.bytes<=140737488355328/\(List.map j.enc zs).length+(List.map j.enc new).length<=9223372036854775807⟩:=by
         rw[ar];show iO V.E t l nid (nI l (ρT s)) (nI l (ρT x))=_;rw[aD];simp only[iO,af,ad,aS];rw[if_pos aq];simp only[an];rw[if_pos ⟨trivial,ae.symm,az⟩]
        have au:List.map j.enc zs++List.map j.enc new=List.map j.enc (zs++new):=nh.symm;rw[au]at F;refine⟨.row nid,.row nid,_,F2.app (F2.set M .dead id) (.cons (.bn O j _ (zs++new) al Z) .nil),λY=>?_⟩;refine(bZ.aQ N.ok F (by rw[ao]at U;simpa using U) rfl Y).II (λw0 I0 w I m x v aO hv=>XL aO hv) (λI m v hv=>?_);cases hv with
        |bI A a b _ _ aT aU bb=>exact .row A a b _ aT aU
     cases h
    cases h
   |_=>rw[av]at h;simp at h
  cases h
 cases h
end
def wE{α:Type}{kk:IntKind}{n:Int}:∀{m:List (Int×α)}{i j:Nat},ei n (m.map λp=>D.int kk p.1) i=some j->∃k e,j=i+k/\m[k]?=some e/\e.1=n/\(∀d,ar m n d=e.2)/\dU m n=true/\(∀y,aM m n y=m.set k (n,y))/\eG m n=m.eraseIdx k
 | [],i,j,h=>by simp[ei]at h
 |p::m,i,j,h=>by
  simp only[e7,ei]at h;by_cases e:n=p.1
  ·rw[if_pos e]at h;simp only[c4]at h;exact⟨0,p,by omega,rfl,e.symm,λd=>by simp[ar,e],by simp[dU,e],λy=>by simp[aM,e],by simp[eG,e]⟩
  rw[if_neg e]at h;obtain⟨k,F,Z,G,M,N,O,U,Y⟩:=wE h;have B:¬p.1=n:=λx=>e x.symm;exact⟨k+1,F,by omega,by simpa using G,M,λd=>by have:=N d;simpa [ar,List.find?_cons,B]using this,by simpa [dU,B]using O,λy=>by simp[aM,B,U],by simp[eG,B,Y]⟩
def wD{α:Type}{kk:IntKind}{n:Int}:∀{m:List (Int×α)}{i:Nat},ei n (m.map λp=>D.int kk p.1) i=none->(∀d,ar m n d=d)/\dU m n=false/\(∀y,aM m n y=m++[(n,y)])/\eG m n=m
 | [],i,h=>⟨λd=>rfl,rfl,λy=>rfl,rfl⟩
 |p::m,i,h=>by
  simp only[e7,ei]at h;by_cases e:n=p.1
  ·rw[if_pos e]at h;cases h
  rw[if_neg e]at h;obtain⟨k,B,F,G⟩:=wD h;have j:¬p.1=n:=λx=>e x.symm;exact⟨λd=>by have:=k d;simpa [ar,List.find?_cons,j]using this,by simpa [dU,j]using B,λy=>by simp[aM,j,F],by simp[eG,j,G]⟩
def ug{α:Type}{kk:IntKind}(m:List (Int×α)):nH kk (m.map λp=>D.int kk p.1)=true:=by
 simp[nH]
theorem Ov{α:Type}{kk:IntKind}{m:Int}{w:α}(zs:List (Int×α))(f:α->D):(match ei m (zs.map λp=>D.int kk p.1) 0 with|some j=>AO.map (zs.map λp=>D.int kk p.1) ((zs.map λp=>f p.2).set j (f w))|none=>AO.map ((zs.map λp=>D.int kk p.1)++[.int kk m]) ((zs.map λp=>f p.2)++[f w])) =
  AO.map ((aM zs m w).map λp=>D.int kk p.1) ((aM zs m w).map λp=>f p.2):=by
 cases F:ei m (zs.map λp=>D.int kk p.1) 0 with
 |some j=>
  obtain⟨N,O,U,B,G,_,_,k,_⟩:=wE F;have:j=N:=by omega
  subst this;simp only;rw[k];congr 1
  ·rw[tr];refine hX λq=>?_;rw[e0];split
   ·rename_i M;subst M;have:=(db.1 B).1;rw[e3,B,if_pos (by simpa using this)];simp only[Option.map_some];rw[<-G]
   rfl
  rw[tr]
 |none=>
  obtain⟨_,_,k,_⟩:=wD F;simp only;rw[k];simp
def Em{α β:Type}(f:α->β):∀(l:List α)(k:Nat),(l.eraseIdx k).map f=(l.map f).eraseIdx k
 | [],k=>by simp
 |x::l,0=>rfl
 |x::l,k+1=>by simp[Em f l k]
theorem VO{α:Type}{kk:IntKind}{m:Int}(zs:List (Int×α))(f:α->D):(match ei m (zs.map λp=>D.int kk p.1) 0 with|some j=>AO.map ((zs.map λp=>D.int kk p.1).eraseIdx j) ((zs.map λp=>f p.2).eraseIdx j)|none=>AO.map (zs.map λp=>D.int kk p.1) (zs.map λp=>f p.2)) =
  AO.map ((eG zs m).map λp=>D.int kk p.1) ((eG zs m).map λp=>f p.2):=by
 cases B:ei m (zs.map λp=>D.int kk p.1) 0 with
 |some j=>
  obtain⟨F,G,M,N,O,_,_,_,k⟩:=wE B;have:j=F:=by omega
  subst this;simp only;rw[k,Em,Em]
 |none=>
  obtain⟨_,_,_,k⟩:=wD B;simp only;rw[k]
section
variable {P:Program}{V:Env}{C:Cx}{o:Oper}{ρX:Operand->TX}{ρT:Operand->T}{lX:List AX}{l:List AO}{n nid:Nat}{cs:List Callee}{ρ ρ':aU}{q:dr}
theorem adB:∀(f:Nat){t:Ty}{x:X},kx f t=some x->∃v:t.den,x.den ρ=some ⟨t,v⟩:=by
 intro f;induction f with
 |zero=>intro t x h;simp[kx]at h
 |succ f N=>
  intro t x h;cases t with
  |st i=>
   simp only[kx,e4]at h;obtain⟨xs,G,rfl⟩:=h;have key:∀(ts:List Ty)(xs:List X),ts.mapM (kx f)=some xs->∃a:(aP ts).den,jH ρ ts xs a:=by
    intro ts;induction ts with
    |nil=>intro xs h;simp at h;subst h;exact⟨(),rfl,λj t h=>by simp at h⟩
    |cons t ts O=>
     intro xs h;simp only[l2,Option.bind_eq_bind,k6,Option.pure_def,c4]at h;obtain⟨x,F,ys,M,rfl⟩:=h;obtain⟨v,hv⟩:=N F;obtain⟨a,k⟩:=O ys M;obtain⟨b,B,_⟩:=DU hv k;exact⟨b,B⟩
   obtain⟨a,k⟩:=key _ _ G;exact⟨aI.eH i a,Np (ou k.1 k.2)⟩
  |_=>simp[kx]at h<;>subst h<;>exact⟨_,rfl⟩
theorem Df{v:Ty}{i:TI}{z:X}(hv:isVal v)(j:pM v i.zero=true)(G:i.desc.agg=cd v)(B:kx gh v=some z):∃k:v.den,z.den ρ=some ⟨v,k⟩/\eK i.desc.agg i.zero=v.enc k:=by
 obtain⟨k,F⟩:=adB (ρ:=ρ) _ B;refine⟨k,F,?_⟩;unfold pM at j;rw[B]at j;simp only at j;split at j
 ·rename_i ps M;rw[QW j (rj _ hv F M),G,F9 hv]
 cases j
theorem bM.map(j:bM P V C){t:TypeId}{kk:IntKind}{v:Ty}(ht:C.ty t=some (.map (.int kk) v)):∃i,kX V.E t=some (kk,i)/\nP V.E t=none/\isVal v/\i.desc.agg=cd v/\pM v i.zero=true:=by
 obtain⟨i,G,aq,ar,hv,F,Z⟩:=j.info ht;clear Z;obtain⟨sz,aj,z,d⟩:=i;cases d<;>simp[oH]at F
 rename_i aw ay;obtain⟨⟨⟨⟨⟨U,Y⟩,ak⟩,al⟩,an⟩,ao⟩:=F;obtain⟨aa,k,ae,af,ag,B,_⟩:=j.info U;obtain⟨ab,b0,ah,M,N,ai,O⟩:=j.info Y;obtain⟨av,au,ax,ad⟩:=aa;cases ad<;>simp[oH]at B
 subst B;exact⟨ab,by simp only[kX,G,k,b0],by simp only[nP,Ak,G,k,b0],N,M,O⟩
def KC{kk:IntKind}:∀(n:Nat)(x:(aP (List.replicate n (Ty.int kk))).den),(cellsOf (List.replicate n (Ty.int kk)) x).length=n/\(cellsOf (List.replicate n (Ty.int kk)) x).all (qk kk)=true
 |0,_=>⟨rfl,rfl⟩
 |1,x=>⟨rfl,by show(qk kk (.int kk x)&&true)=true;simp[qk]⟩
 |n+2,x=>by
  obtain⟨j,k⟩:=KC (n+1) x.2;have e:cellsOf (List.replicate (n+2) (Ty.int kk)) x=[D.int kk x.1]++cellsOf (List.replicate (n+1) (Ty.int kk)) x.2:=rfl;rw[e];exact⟨by simp only[dT,List.length_singleton,j];omega,by rw[List.all_append,k];simp[qk]⟩
def Fo{i n:Nat}{kk:IntKind}(B:aI.bW i=List.replicate n (Ty.int kk))(a:bT.cp i):oT n kk ((Ty.st i).enc a)=true:=by
 have e:(Ty.st i).enc a=.agg (aI.cells i a):=rfl;rw[e];have key:∀(ts:List Ty)(x:(aP ts).den),ts=List.replicate n (Ty.int kk)->oT n kk (.agg (cellsOf ts x))=true:=by
  rintro _ x rfl;obtain⟨j,k⟩:=KC n x;simp only[oT,j,k,K2,Bool.and_self]
 rw[cz.cells];exact key _ _ B
def Ft{i n:Nat}{kk:IntKind}{α:Type}(k:aI.bW i=List.replicate n (Ty.int kk))(m:List (bT.cp i×α)):wF n kk (m.map λp=>(Ty.st i).enc p.1)=true:=by
 unfold wF;rw[ek];intro d j;obtain⟨p,_,rfl⟩:=gg.1 j;exact Fo k p.1
def Fs{i:Nat}{α:Type}{k:bT.cp i}:∀{m:List (bT.cp i×α)}{q j:Nat},jA ((Ty.st i).enc k) (m.map λp=>(Ty.st i).enc p.1) q=some j->∃e r,j=q+r/\m[r]?=some e/\(∀d,mI i m k d=e.2)/\qu i m k=true/\∀y,k9 i m k y=m.set r (e.1,y)
 | [],q,j,h=>by cases h
 |p::m,q,j,h=>by
  simp only[e7,jA]at h;have F:ue ((Ty.st i).enc k) ((Ty.st i).enc p.1)=lP i k p.1:=rfl;rw[F]at h;cases B:lP i k p.1 with
  |true=>
   rw[if_pos B]at h;injection h with h;exact⟨p,0,by omega,rfl,λd=>by simp[mI,List.find?_cons,B],by simp[qu,B],λy=>by simp[k9,B]⟩
  |false=>
   rw[if_neg (by simp[B])]at h;obtain⟨e,r,U,G,M,N,O⟩:=Fs h;exact⟨e,r+1,by omega,by simpa using G,λd=>by have:=M d;simpa [mI,List.find?_cons,B]using this,by simpa [qu,B]using N,λy=>by simp[k9,B,O]⟩
def Fq{i:Nat}{α:Type}{k:bT.cp i}:∀{m:List (bT.cp i×α)}{q:Nat},jA ((Ty.st i).enc k) (m.map λp=>(Ty.st i).enc p.1) q=none->(∀d,mI i m k d=d)/\qu i m k=false/\∀y,k9 i m k y=m++[(k,y)]
 | [],q,h=>⟨λd=>rfl,rfl,λy=>rfl⟩
 |p::m,q,h=>by
  simp only[e7,jA]at h;have B:ue ((Ty.st i).enc k) ((Ty.st i).enc p.1)=lP i k p.1:=rfl;rw[B]at h;cases j:lP i k p.1 with
  |true=>rw[if_pos j]at h;cases h
  |false=>
   rw[if_neg (by simp[j])]at h;obtain⟨F,G,M⟩:=Fq h;exact⟨λd=>by have:=F d;simpa [mI,List.find?_cons,j]using this,by simpa [qu,j]using G,λy=>by simp[k9,j,M]⟩
theorem ZQ{i:Nat}{α:Type}{m:bT.cp i}{w:α}(zs:List (bT.cp i×α))(f:α->D):(match jA ((Ty.st i).enc m) (zs.map λp=>(Ty.st i).enc p.1) 0 with|some j=>AO.map (zs.map λp=>(Ty.st i).enc p.1) ((zs.map λp=>f p.2).set j (f w))|none=>AO.map ((zs.map λp=>(Ty.st i).enc p.1)++[(Ty.st i).enc m]) ((zs.map λp=>f p.2)++[f w])) =
  AO.map ((k9 i zs m w).map λp=>(Ty.st i).enc p.1) ((k9 i zs m w).map λp=>f p.2):=by
 cases F:jA ((Ty.st i).enc m) (zs.map λp=>(Ty.st i).enc p.1) 0 with
 |some j=>
  obtain⟨N,M,O,B,_,_,k⟩:=Fs F;have:j=M:=by omega
  subst this;simp only;rw[k];congr 1
  ·rw[tr];refine hX λq=>?_;rw[e0];split
   ·rename_i G;subst G;have:=(db.1 B).1;rw[e3,B,if_pos (by simpa using this)];rfl
   rfl
  rw[tr]
 |none=>
  obtain⟨_,_,k⟩:=Fq F;simp only;rw[k];simp
def bM.Nc(B:bM P V C){t:TypeId}{j:Nat}{v:Ty}(ht:C.ty t=some (.map (.st j) v))(k:uf C t j=true):∃n kk i,nP V.E t=some (n,kk,i)/\aI.bW j=List.replicate n (.int kk)/\isVal v/\i.desc.agg=cd v/\pM v i.zero=true:=by
 obtain⟨i,G,ak,al,hv,F,Z⟩:=B.info ht;clear Z;obtain⟨sz,ae,z,d⟩:=i;cases d<;>simp[oH]at F
 rename_i an ao;obtain⟨⟨⟨⟨⟨af,U⟩,ag⟩,ah⟩,ai⟩,aj⟩:=F;obtain⟨aa,b0,ab,M,N,ad,O⟩:=B.info U;unfold uf at k;rw[<-B.E,G]at k;simp only at k;split at k
 ·rename_i n kk Y;exact⟨n,kk,aa,by simp only[nP,G,Y,b0],fv k,N,M,O⟩
 cases k
def PZ{i:Nat}{x:X}{u:T}(h:RX ρ (.d (.st i) x) u):∃a:bT.cp i,x.den ρ=some ⟨.st i,a⟩/\u=.d ((Ty.st i).enc a):=by
 obtain⟨_,v,j,k⟩:=j7 h;exact⟨v,j,k⟩
def XZ(ae:bM P V C){t:TypeId}{x k:Operand}{ok:Bool}(aF:o.op=.lookup t x k ok)(hl:RL ρ lX l)(aG:RX ρ (ρX x) (ρT x))(aj:RX ρ (ρX k) (ρT k))(h:dD C ρX lX n nid o=some q)(hi:bY cs n ρ q.ins ρ'):cD P o ρT l nid ρ' q:=by
 have F:evalOp V ρT l nid o=qo V.E t l (ρT x) (ρT k) ok:=by simp only[evalOp,aF]
 simp only[dD,aF]at h;split at h
 ·rename_i kk v aK key aw ag;rw[ag]at aj;obtain⟨m,ai,ax⟩:=gi aj;split at h
  ·rename_i Z;subst Z;obtain⟨i,al,aH,ad,an,ao⟩:=ae.map (qq aw);split at h
   ·rename_i N z az aA;have:=im h;subst this;cases hi;obtain⟨mm,af,Y⟩:=FU hl aG az;have Y:mapOf l (ρT x)=some (mm.map (λp=>D.int kk p.1),mm.map λp=>v.enc p.2):=Y;obtain⟨G,aC,aD⟩:=Df (ρ:=ρ) ad ao an aA;have B:dc v ⟨v,G⟩=some G:=gb v G;have ah:(X.u3 .kf N key z).den ρ=some ⟨v,ar mm m G⟩:=by
     simp only[X.den,af,ai,aC,ov,B]
    have au:(X.u2 .oY N key).den ρ=some ⟨.bool,dU mm m⟩:=by
     simp only[X.den,af,ai,cG]
    have hint:dM (ρT k)=some (kk,m):=by rw[ax];rfl
    simp only[qo,aH,Option.isSome_none,hR,h9,rP,al,Y,hint,hK]at F;have fin:∀(a:D)(b:Bool),a=v.enc (ar mm m G)->b=dU mm m->RX ρ (bif ok then TX.aL [.d v (.u3 .kf N key z),.d .bool (.u2 .oY N key)]else .d v (.u3 .kf N key z)) (if ok then .d (.aL [a,.bool b])else .d a):=by
     rintro a b rfl rfl;cases ok with
     |true=>
      refine .fV _ _ rfl λj c d B O=>?_;rcases j with _|_|j
      ·simp at B O;subst B;subst O;exact .d v _ _ ad ah
      ·simp at B O;subst B;subst O;exact fp au
      simp at B
     |false=>exact .d v _ _ ad ah
    cases U:ei m (mm.map λp=>D.int kk p.1) 0 with
    |some j=>
     obtain⟨aB,ak,ag,Z,aI,aa,ab,_,_⟩:=wE U;rw[U]at F;simp only at F;have aq:eF (mm.map λp=>v.enc p.2) j=v.enc (ar mm m G):=by
      rw[aa];have:j=aB:=by omega
      subst this;have ay:(mm.map λp=>v.enc p.2)[j]?=some (v.enc ak.2):=by rw[e3];exact dn (Option.map _) Z
      show((mm.map λp=>v.enc p.2)[j]?).getD .dV=_;rw[ay];rfl
     exact .val ae.ok F (ug mm) rfl (fin _ _ aq ab.symm)
    |none=>
     obtain⟨aa,ab,_,_⟩:=wD U;rw[U]at F;simp only at F;exact .val ae.ok F (ug mm) rfl (fin _ _ (by rw[aa];exact aD) ab.symm)
   cases h
  cases h
 ·rename_i M v aJ key aw ag;rw[ag]at aj;obtain⟨m,ai,ax⟩:=PZ aj;split at h
  ·rename_i Z;subst Z;cases av:uf C t M with
   |false=>simp[av]at h
   |true=>
    simp only[av,cond_true]at h;obtain⟨aM,kk,i,al,gf,ad,an,ao⟩:=ae.Nc (qq aw) av;split at h
    ·rename_i N z az aA;have:=im h;subst this;cases hi;obtain⟨mm,af,Y⟩:=FU hl aG az;have Y:mapOf l (ρT x)=some (mm.map (λp=>(Ty.st M).enc p.1),mm.map λp=>v.enc p.2):=Y;obtain⟨G,aC,aD⟩:=Df (ρ:=ρ) ad ao an aA;have B:dc v ⟨v,G⟩=some G:=gb v G;have aE:dc (.st M) ⟨.st M,m⟩=some m:=gb (.st M) m;have ah:(X.u3 .kf N key z).den ρ=some ⟨v,mI M mm m G⟩:=by
      simp only[X.den,af,ai,aC,ov,B,aE]
     have au:(X.u2 .oY N key).den ρ=some ⟨.bool,qu M mm m⟩:=by
      simp only[X.den,af,ai,cG,aE]
     simp only[qo,al,Option.isSome_some,hK,uj,Y,ax,Fo gf m]at F;have fin:∀(a:D)(b:Bool),a=v.enc (mI M mm m G)->b=qu M mm m->RX ρ (bif ok then TX.aL [.d v (.u3 .kf N key z),.d .bool (.u2 .oY N key)]else .d v (.u3 .kf N key z)) (if ok then .d (.aL [a,.bool b])else .d a):=by
      rintro a b rfl rfl;cases ok with
      |true=>
       refine .fV _ _ rfl λj c d B O=>?_;rcases j with _|_|j
       ·simp at B O;subst B;subst O;exact .d v _ _ ad ah
       ·simp at B O;subst B;subst O;exact fp au
       simp at B
      |false=>exact .d v _ _ ad ah
     cases U:jA ((Ty.st M).enc m) (mm.map λp=>(Ty.st M).enc p.1) 0 with
     |some j=>
      obtain⟨ak,aB,ag,Z,aa,ab,_⟩:=Fs U;rw[U]at F;simp only at F;have aq:eF (mm.map λp=>v.enc p.2) j=v.enc (mI M mm m G):=by
       rw[aa];have:j=aB:=by omega
       subst this;have ay:(mm.map λp=>v.enc p.2)[j]?=some (v.enc ak.2):=by rw[e3];exact dn (Option.map _) Z
       show((mm.map λp=>v.enc p.2)[j]?).getD .dV=_;rw[ay];rfl
      exact .val ae.ok F (Ft gf mm) rfl (fin _ _ aq ab.symm)
     |none=>
      obtain⟨aa,ab,_⟩:=Fq U;rw[U]at F;simp only at F;exact .val ae.ok F (Ft gf mm) rfl (fin _ _ (by rw[aa];exact aD) ab.symm)
    cases h
  cases h
 cases h
theorem FO(B:bM P V C){t:TypeId}(G:o.op=.makeMap t none)(hl:RL ρ lX l)(h:dD C ρX lX n nid o=some q)(hi:bY cs n ρ q.ins ρ'):cD P o ρT l nid ρ' q:=by
 have M:evalOp V ρT l nid o=⟨.map nid,.aQ (l++[.map [] []]),True⟩:=by simp only[evalOp,G]
 simp only[dD,G]at h;split at h
 ·rename_i k v N;simp only[c4]at h;subst h;cases hi;obtain⟨i,Y,Z,aa,hv,j,_⟩:=B.info (qq N);have F:isVal k/\isVal v:=by
   obtain⟨sz,U,z,d⟩:=i;cases d<;>simp[oH]at j
   exact⟨cy j.1.1.1.2,cy j.1.1.2⟩
  exact⟨_,.map nid,_,F2.app hl (.cons (.map k v _ ([]:List (k.den×v.den)) F.1 F.2 rfl) .nil),λO=>bZ.aQ B.ok M trivial rfl O⟩
 cases h
def X9(j:bM P V C){t:TypeId}{a b:Operand}(ay:o.op=.makeSlice t a b)(hl:RL ρ lX l)(ab:RX ρ (ρX a) (ρT a))(ad:RX ρ (ρX b) (ρT b))(h:FP C t lX nid (ρX a) (ρX b)=some q)(hi:bY cs n ρ q.ins ρ'):cD P o ρT l nid ρ' q:=by
 have k:evalOp V ρT l nid o=mF V.E t l nid (ρT a) (ρT b):=by simp only[evalOp,ay]
 unfold FP at h;split at h
 ·rename_i s1 s2 aF e u aO nx aP cx au az ai aj;rw[ai]at ab;rw[aj]at ad;obtain⟨m,N,ag⟩:=gi ab;obtain⟨m',B,ah⟩:=gi ad;split at h
  ·rename_i z aA;cases Y:X.beq nx cx with
   |false=>simp[Y]at h
   |true=>
    simp only[Y,cond_true,c4]at h;have:=X.beq_eq Y;subst this;rw[N]at B;injection B with B;cases B;subst h;obtain⟨G,aC⟩:=jy hi;obtain⟨aD,aE⟩:=jy aC;cases aE;obtain⟨sz,aI,z',aJ,i,O,U,ao,aq,Z,aK,ar⟩:=j.list az;have aa:V.E t=some ⟨s1,s2,aF,.slice e⟩:=by rw[j.E];exact au
    rw[aa]at O;simp only[c4,TI.mk.injEq,TD.slice.injEq]at O;obtain⟨rfl,rfl,rfl,rfl⟩:=O;obtain⟨aN,F,aL,aM,hv,_,aB⟩:=j.info ar;rw[U]at F;injection F with F;subst F;obtain⟨M,aG,aH⟩:=Df (ρ:=ρ) Z aB aq aA;have ae:0<=m:=by
     simp only[iX,X.den,N,cG]at G;have G:leI 0 m=true:=fH G;simpa using G
    have af:(X.u2 .rep nx z).den ρ=some ⟨.list u,List.replicate m.toNat M⟩:=by simp only[X.den,N,aG,cG]
    have av:bytesOf C.E e=i.bytes:=by rw[<-j.E];simp[bytesOf,U]
    obtain⟨ak,al⟩:=zO af aD;rw[av,rb]at ak;rw[rb]at al;rw[ag,ah]at k;simp only[mF,aa,dM,U]at k;rw[if_pos (by omega),aH,ao]at k;have aw:List.replicate m.toNat (u.enc M)=(List.replicate m.toNat M).map u.enc:=List.map_replicate.symm;rw[aw]at k;have an:m*(i.bytes:Int)<=140737488355328:=by
     have:((m.toNat*i.bytes:Nat):Int)=m*i.bytes:=by rw[Int.natCast_mul,Int.toNat_of_nonneg ae]
     omega
    exact⟨_,.row nid,_,F2.app hl (.cons (.row e u _ (List.replicate m.toNat M) Z af) .nil),λax=>bZ.aQ j.ok k ⟨ae,trivial,an,by omega⟩ rfl ax⟩
  cases h
 cases h
def Oh{v:Ty}{x:TX}{u:T}{y:X}(B:RX ρ x u)(h:u7 v x=some y):∃w:v.den,y.den ρ=some ⟨v,w⟩/\iw u=some (v.enc w):=by
 cases B with
 |d t x w F k=>
  simp only[u7]at h;split at h
  ·rename_i e;subst e;simp only[c4]at h;subst h;exact⟨w,k,rfl⟩
  cases h
 |bq s=>
  simp only[u7]at h;split at h
  ·rename_i u;cases j:Nat.beq s u.size with
   |false=>simp[j]at h
   |true=>
    simp only[j,cond_true,c4]at h;subst h;have:=eb j;subst this;exact⟨([]:List u.den),rfl,rfl⟩
  cases h
 |_=>simp[u7]at h
def Nf(F:bM P V C){t:TypeId}{B k x:Operand}(ho:o.op=.mapUpdate t B k x\/o.op=.insert t B k x)(hl:RL ρ lX l)(N:RX ρ (ρX B) (ρT B))(M:RX ρ (ρX k) (ρT k))(aw:RX ρ (ρX x) (ρT x))(h:Cu C t lX (ρX B) (ρX k) (ρX x)=some q)(hi:bY cs n ρ q.ins ρ'):cD P o ρT l nid ρ' q:=by
 have G:evalOp V ρT l nid o=su V.E t l (ρT B) (ρT k) (ρT x):=by rcases ho with ho|ho<;>simp only[evalOp,ho]
 unfold Cu at h;split at h
 ·rename_i kk v id aG key al O U;rw[O]at N;rw[U]at M;obtain⟨m,aj,ak⟩:=gi M;have ab:=wN N;split at h
  ·rename_i y aD aE mm ao ah;split at h
   ·rename_i Y;obtain⟨rfl,rfl,rfl⟩:=Y;simp only[c4]at h;subst h;cases hi;obtain⟨i,Z,ay,az,aA,aB⟩:=F.map (qq al);obtain⟨w,au,av⟩:=Oh aw ao;obtain⟨ax,ad,af⟩:=F2.left hl ah;cases af with
    |map _ _ _ zs h0 aa ar=>
     have hint:dM (ρT k)=some (kk,m):=by rw[ak];rfl
     have ag:dc v ⟨v,w⟩=some w:=gb v w;have aq:(X.u3 .oZ mm key y).den ρ=some ⟨.map (.int kk) v,aM zs m w⟩:=by
      simp only[X.den,ar,aj,au,ov,ag]
     have ae:l[id]?=some (.map (zs.map λp=>D.int kk p.1) (zs.map λp=>v.enc p.2)):=ad;simp only[su,ay,Option.isSome_none,hR,h9,mG,Z,ab,hint,av,hK,ae]at G;refine⟨_,.undef _,_,F2.set hl (.map (.int kk) v _ (aM zs m w) h0 aa aq) id,λan=>bZ.aQ F.ok G (ug zs) ?_ an⟩;exact dn (λx=>qS.aQ (l.set id x)) (Ov (kk:=kk) (m:=m) (w:=w) zs v.enc)
   cases h
  cases h
 ·rename_i j v id aF key al O U;rw[O]at N;rw[U]at M;obtain⟨m,aj,ak⟩:=PZ M;have ab:=wN N;split at h
  ·rename_i y aD aE mm ao ah;split at h
   ·rename_i Y;obtain⟨rfl,rfl,rfl⟩:=Y;cases ai:uf C t j with
    |false=>simp[ai]at h
    |true=>
     simp only[ai,cond_true,c4]at h;subst h;cases hi;obtain⟨aH,kk,i,Z,gf,az,aA,aB⟩:=F.Nc (qq al) ai;obtain⟨w,au,av⟩:=Oh aw ao;obtain⟨ax,ad,af⟩:=F2.left hl ah;cases af with
     |map _ _ _ zs h0 aa ar=>
      have ag:dc v ⟨v,w⟩=some w:=gb v w;have aC:dc (.st j) ⟨.st j,m⟩=some m:=gb (.st j) m;have aq:(X.u3 .oZ mm key y).den ρ=some ⟨.map (.st j) v,k9 j zs m w⟩:=by
       simp only[X.den,ar,aj,au,ov,ag,aC]
      have ae:l[id]?=some (.map (zs.map λp=>(Ty.st j).enc p.1) (zs.map λp=>v.enc p.2)):=ad;simp only[su,Z,Option.isSome_some,hK,nO,ab,ak,av,Fo gf m,ae]at G;refine⟨_,.undef _,_,F2.set hl (.map (.st j) v _ (k9 j zs m w) h0 aa aq) id,λan=>bZ.aQ F.ok G (Ft gf zs) ?_ an⟩;exact dn (λx=>qS.aQ (l.set id x)) (ZQ (m:=m) (w:=w) zs v.enc)
   cases h
  cases h
 cases h
def VQ(G:bM P V C){c:Call}{t t':TypeId}{B k:Operand}(ar:o.op=.call c)(F:c.callee=.builtin .delete)(ae:c.args.toList=[B,k])(ai:c.argTypes.toList=[t,t'])(hl:RL ρ lX l)(O:RX ρ (ρX B) (ρT B))(N:RX ρ (ρX k) (ρT k))(h:D7 C t lX (ρX B) (ρX k)=some q)(hi:bY cs n ρ q.ins ρ'):cD P o ρT l nid ρ' q:=by
 have M:evalOp V ρT l nid o=nN V.E t l (ρT B) (ρT k):=by simp only[evalOp,ar,F,ae,ai]
 unfold D7 at h;split at h
 ·rename_i kk v id aB key ao U Y;rw[U]at O;rw[Y]at N;obtain⟨m,al,an⟩:=gi N;have ad:=wN O;split at h
  ·rename_i aA aC mm ak;split at h
   ·rename_i Z;obtain⟨rfl,rfl,rfl⟩:=Z;simp only[c4]at h;subst h;cases hi;obtain⟨i,aa,aw,ax,ay,az⟩:=G.map (qq ao);obtain⟨av,af,ah⟩:=F2.left hl ak;cases ah with
    |map _ _ _ zs h0 ab au=>
     have hint:dM (ρT k)=some (kk,m):=by rw[an];rfl
     have aj:(X.u2 .As mm key).den ρ=some ⟨.map (.int kk) v,eG zs m⟩:=by
      simp only[X.den,au,al,cG]
     have ag:l[id]?=some (.map (zs.map λp=>D.int kk p.1) (zs.map λp=>v.enc p.2)):=af;simp only[nN,aa,ad,hint,hK,ag]at M;refine⟨_,.fV [] [] rfl (λj c d F=>by simp at F),_,F2.set hl (.map (.int kk) v _ (eG zs m) h0 ab aj) id,λaq=>bZ.aQ G.ok M (ug zs) ?_ aq⟩;exact dn (λx=>qS.aQ (l.set id x)) (VO (kk:=kk) (m:=m) zs v.enc)
   cases h
  cases h
 cases h
def V7{t:Ty}(h:isVal t)(v:t.den):(t.eZ v).2=[t.enc v]:=by
 cases t<;>first|rfl|exact absurd rfl (h.1 _ _)|exact absurd rfl h.2
theorem zD:∀{ts:List Ty}{a:(aP ts).den},(∀t∈ts,isVal t)->((aP ts).eZ a).2=cJ ts a
 | [],a,_=>rfl
 | [t],a,h=>V7 (h t (by simp)) a
 |t::u::ts,a,h=>by
  show(t.eZ a.1).1::((aP (u::ts)).eZ a.2).2=_;rw[zD (ts:=u::ts) (λw j=>h w (ka _ j))];rfl
def Qr:∀{xs:List TX}{F:List T}{ps:List (Ty×X)},F2 (RX ρ) xs F->xs.mapM tE=some ps->∃a:(aP (ps.map (·.1))).den,jH ρ (ps.map (·.1)) (ps.map (·.2)) a/\F=(cJ (ps.map (·.1)) a).map .d/\∀t∈ps.map (·.1),isVal t
 | [],F,ps,G,h=>by
  cases G;simp at h;subst h;exact⟨(),⟨rfl,λj t h=>by simp at h⟩,rfl,λt h=>by simp at h⟩
 |x::xs,F,ps,G,h=>by
  cases G with
  |cons Z aa=>
   simp only[l2,Option.bind_eq_bind,k6,Option.pure_def,c4]at h;obtain⟨p,B,M,ad,rfl⟩:=h;have:=KN B;subst this;obtain⟨a,af,ag,ah⟩:=Qr aa ad;obtain⟨hv,v,N,ai⟩:=j7 Z;have e:∀(ts:List Ty)(a:(aP ts).den)(ys:List X),jH ρ ts ys a->∃b:(aP (p.1::ts)).den,jH ρ (p.1::ts) (p.2::ys) b/\cJ (p.1::ts) b=p.1.enc v::cJ ts a:=by
    intro ts a ys B;cases ts with
    |nil=>
     refine⟨v,⟨by simp[B.1],λj w k=>?_⟩,rfl⟩;cases j with
     |zero=>simp at k;subst k;exact⟨p.2,rfl,by simpa [cK]using N⟩
     |succ j=>simp at k
    |cons u ts=>
     refine⟨(v,a),⟨by simp[B.1],λj w k=>?_⟩,rfl⟩;cases j with
     |zero=>simp at k;subst k;exact⟨p.2,rfl,by simpa [cK]using N⟩
     |succ j=>
      obtain⟨y,ae,ab⟩:=B.2 j w (by simpa using k);exact⟨y,by simpa using ae,by simpa [cK]using ab⟩
   obtain⟨b,O,U⟩:=e _ a _ af;refine⟨b,O,?_,?_⟩
   ·have Y:cJ (List.map (λx:Ty×X=>x.1) (p::M)) b=p.1.enc v::cJ (M.map λx:Ty×X=>x.1) a:=U;rw[Y,ai,ag];rfl
   intro t ht;rcases fa.1 ht with rfl|ht
   ·exact hv
   exact ah t ht
def Es{xs:List Operand}(h:∀x∈xs,RX ρ (ρX x) (ρT x)):F2 (RX ρ) (xs.map ρX) (xs.map ρT):=by
 induction xs with
 |nil=>exact .nil
 |cons x xs k=>exact .cons (h x (by simp)) (k λy j=>h y (by simp[j]))
def X8(M:bM P V C){g:FuncId}{first caps:Array Operand}(G:o.op=.makeFunc (.func g) first caps)(U:∀x∈o.op.operands,RX ρ (ρX x) (ρT x))(h:dD C ρX lX n nid o=some q)(hi:bY cs n ρ q.ins ρ'):cD P o ρT l nid ρ' q:=by
 have Y:∀x∈caps.toList,RX ρ (ρX x) (ρT x):=λx ab=>U x (by simp[G,Op.operands];right;simpa using ab);have j:=Es Y;simp only[dD,G]at h;cases B:first.isEmpty with
 |false=>simp[B]at h
 |true=>
  have N:evalOp V ρT l nid o=.ok (nq g (caps.toList.map ρT)):=by simp only[evalOp,G,B,hK]
  simp only[B,cond_true]at h;split at h
  ·rename_i ps aa;have:=im h;subst this;cases hi;obtain⟨a,O,ae,af⟩:=Qr j aa;have e:nq g (caps.toList.map ρT)=.d (Ty.enc (.aH g (aP (ps.map λx:Ty×X=>x.1))) a):=by
    have F:∀ds:List D,(ds.map T.d).mapM fz=some ds:=by
     intro ds;induction ds with
     |nil=>rfl
     |cons d ds ad=>simp[fz,ad]
    rw[ae];unfold nq;rw[F];show T.d (.aH g _)=T.d (.aH g _);rw[zD af]
   refine .val M.ok N trivial rfl ?_;show RX ρ _ (nq g (caps.toList.map ρT));rw[e];refine .d (.aH g (aP (ps.map λx:Ty×X=>x.1))) _ a (cy rfl) ?_;simp only[X.den,ou O.1 O.2]
  have:=im h;subst this;cases hi;refine .val M.ok N trivial rfl ?_;show RX ρ _ (nq g (caps.toList.map ρT));unfold nq;cases F:(caps.toList.map ρT).mapM fz with
  |none=>exact .aH g _ _ j.len λi c t k ht=>j.get k ht
  |some ds=>
   have:=FQ F;rw[this]at j;exact .iW g _ ds (by simpa using j.len) λi c d k Z=>j.get k (by simp[Z])
theorem Vk:∀{t:Ty}{x:X}{v:t.den}{r:List TX},x.den ρ=some ⟨t,v⟩->oF t x=some r->F2 (RX ρ) r ((t.eZ v).2.map .d):=by
 intro t;induction t with
 |aL a b _ M=>
  intro x v r j h;simp only[oF]at h;cases k:dN a with
  |false=>simp[k]at h
  |true=>
   simp only[k,cond_true]at h;split at h
   ·rename_i N G;simp only[c4]at h;subst h;have B:=L7 (p:=v) j;have F:=PM (p:=v) j;exact .cons (.d a _ v.1 (cy k) B) (M F G)
   cases h
 |unit=>intro x v r j h;simp only[oF,c4]at h;subst h;exact .nil
 |_=>intro x v r j h;simp only[oF,c4]at h;subst h;exact .cons (.d _ x v (cy rfl) j) .nil
def DZ{x:TX}{u:T}{g:FuncId}{r:List TX}(Z:RX ρ x u)(h:lM x=some (g,r)) :
  ∃k:List T,F2 (RX ρ) r k/\((u=.aH g k)\/(u=.d (.fn g)/\k=[])\/∃ds,u=.d (.aH g ds)/\k=ds.map .d):=by
 cases Z with
 |aH f cs ts F j=>
  simp only[lM,c4,et]at h;obtain⟨rfl,rfl⟩:=h;exact⟨ts,F2.of F j,.inl rfl⟩
 |iW f cs ds F j=>
  simp only[lM,c4,et]at h;obtain⟨rfl,rfl⟩:=h;exact⟨ds.map .d,F2.of (by simpa using F) (λi c t O ht=>by
   simp only[e3,e4]at ht;obtain⟨d,U,rfl⟩:=ht;exact j i c d O U),.inr (.inr ⟨ds,rfl,rfl⟩)⟩
 |d t x v F j=>
  cases t with
  |fn B=>
   simp only[lM,c4,et]at h;obtain⟨rfl,rfl⟩:=h;exact⟨[],.nil,.inr (.inl ⟨rfl,rfl⟩)⟩
  |aH B t=>
   have key:∀y:X,y.den ρ=some ⟨t,v⟩->(oF t y).map (λr=>(B,r))=some (g,r)->∃k:List T,F2 (RX ρ) r k/\((T.d (Ty.enc (.aH B t) v)=.aH g k)\/(T.d (Ty.enc (.aH B t) v)=.d (.fn g)/\k=[])\/∃ds,T.d (Ty.enc (.aH B t) v)=.d (.aH g ds)/\k=ds.map .d):=by
    intro y G M;simp only[e4,et]at M;obtain⟨aa,Y,rfl,rfl⟩:=M;exact⟨_,Vk (t:=t) (v:=v) G Y,.inr (.inr ⟨(t.eZ v).2,rfl,rfl⟩)⟩
   by_cases N:∃f y,x=.aH f y
   ·obtain⟨f,y,rfl⟩:=N;simp only[lM]at h;refine key y ?_ h;simp only[X.den]at j;cases G:X.den ρ y with
    |none=>simp[G]at j
    |some w=>simp only[G,c4]at j;cases j;rfl
   have e:lM (.d (.aH B t) x)=(oF t (.u1 .Iw x)).map λr=>(B,r):=by
    cases x<;>first|rfl|exact absurd ⟨_,_,rfl⟩ N
   rw[e]at h;exact key _ (by simp only[X.den,j];rfl) h
  |_=>simp[lM]at h
 |_=>simp[lM]at h
def It(F:bM P V C):∀{ts:List TypeId}{xs:List TX}{j:List T},F2 (RX ρ) xs j->F2 (RX ρ) (mV C.E ts xs) (fW V.E ts j)
 | [],xs,j,h=>by cases h<;>exact by first|exact .nil| (rename_i k B;exact .cons k B)
 |t::ts,[],j,h=>by cases h;exact .nil
 |t::ts,x::xs,j,h=>by
  cases h with
  |cons k B=>exact .cons (C3 F k t) (It F B)
def kn(c:Callee):lI:=⟨c.f,c.args,c.res⟩
def Lx(hl:RL ρ lX l){g:FuncId}{ts:List TX}{Z:List T}(Y:F2 (RX ρ) ts Z):∀{ss:List lI}{k B:Nat}{xs:List X}{l':List AX}{s:lI},rA lX g ts ss k=some (B,xs,l',s) ->
  ∃j,B=k+j/\ss[j]?=some s/\s.f=g/\gy lX s.args ts=some (xs,l')
 | [],k,B,xs,l',s,h=>by simp[rA]at h
 |s0::ss,k,B,xs,l',s,h=>by
  have G:rA lX g ts ss (k+1)=some (B,xs,l',s)->∃j,B=k+j/\(s0::ss)[j]?=some s/\s.f=g/\gy lX s.args ts=some (xs,l'):=λh=>by
   obtain⟨j,aa,M,N,O⟩:=Lx hl Y h;exact⟨j+1,by omega,by simpa using M,N,O⟩
  simp only[rA]at h;cases F:Nat.beq s0.f g with
  |false=>simp only[F,cond_false]at h;exact G h
  |true=>
   simp only[F,cond_true]at h;split at h
   ·rename_i ys l1 U;simp only[c4,et]at h;obtain⟨rfl,rfl,rfl,rfl⟩:=h;exact⟨0,rfl,rfl,eb F,U⟩
   exact G h
def aa9{v:X}{ts:List Ty}{a:(aP ts).den}(hv:∀t∈ts,isVal t)(h:v.den ρ=some ⟨aP ts,a⟩):RX ρ (og v ts) (.d ((aP ts).enc a)):=by
 match ts,a,hv,h with
 | [],a,_,_=>exact .fV [] [] rfl λi c d B=>by simp at B
 | [t],a,hv,h=>exact .d t v a (hv t (by simp)) h
 |t::u::ts,a,hv,h=>
  have e:(aP (t::u::ts)).enc a=.aL (cJ (t::u::ts) a):=by
   rw[<-zD hv];rfl
  rw[e];have key:∀(m:Nat)(ws:List Ty)(b:(aP ws).den)(j:Nat),j+ws.length=(t::u::ts).length->(∀w∈ws,isVal w)->(∀k w,ws[k]?=some w->(pf (t::u::ts).length (j+k) v).den ρ=cK ws b k)->∀(i:Nat) c d,(og.nr (t::u::ts).length v ws j)[i]?=some c->(cJ ws b)[i]?=some d->RX ρ c (.d d):=by
   intro m ws;induction ws with
   |nil=>intro b j _ _ _ i c d B;simp[og.nr]at B
   |cons w ws M=>
    intro b j U G N i c d B F;have h0:=N 0 w rfl;cases i with
    |zero=>
     simp only[og.nr,List.getElem?_cons_zero,c4]at B;subst B;cases ws with
     |nil=>
      simp[cJ]at F;subst F;exact .d w _ b (G w (by simp)) (by simpa [cK]using h0)
     |cons O ws=>
      simp[cJ]at F;subst F;exact .d w _ b.1 (G w (by simp)) (by simpa [cK]using h0)
    |succ i=>
     cases ws with
     |nil=>simp[og.nr]at B
     |cons O ws=>
      simp only[og.nr,List.getElem?_cons_succ]at B;exact M b.2 (j+1) (by simp at U⊢;omega) (λw Y=>G w (ka _ Y)) (λk z Z=>by
       have:=N (k+1) z (by simpa using Z);rw[show j+1+k=j+(k+1) by omega];simpa [cK]using this) i c d B (by simpa [cJ]using F)
  refine .fV _ _ ?_ (key 0 (t::u::ts) a 0 (by simp) hv λk w G=>by
   rw[hT];exact wY k h (db.1 G).1)
  have l1:∀(m:Nat)(ws:List Ty)(j:Nat),(og.nr m v ws j).length=ws.length:=by
   intro m ws;induction ws with
   |nil=>intro j;rfl
   |cons w ws M=>intro j;simp[og.nr,M]
  have aa:∀(ws:List Ty)(b:(aP ws).den),(cJ ws b).length=ws.length:=by
   intro ws;induction ws with
   |nil=>intro b;rfl
   |cons w ws M=>
    intro b;cases ws with
    |nil=>rfl
    |cons O ws=>simp[cJ,M]
  show(og.nr _ v _ 0).length=_;rw[l1,aa]
def EA{g:FuncId}{ts:List TX}:∀{ss:List pQ}{xs:List X}{l':List AX}{s:pQ},wq lX g ts ss=some (s,xs,l')->s∈ss/\s.f=g/\gy lX s.args ts=some (xs,l')
 | [],_,_,_,h=>by cases h
 |s0::ss,xs,l',s,h=>by
  simp only[wq]at h;cases B:Nat.beq s0.f g with
  |false=>
   rw[B]at h;obtain⟨j,k⟩:=EA (ss:=ss) h;exact⟨ka _ j,k⟩
  |true=>
   rw[B]at h;simp only[cond_true]at h;split at h
   ·rename_i ys l1 F;simp only[c4,et]at h;obtain⟨rfl,rfl,rfl⟩:=h;exact⟨q9,eb B,F⟩
   obtain⟨j,k⟩:=EA (ss:=ss) h;exact⟨ka _ j,k⟩
theorem NK:∀{ts:List Ty}{a:(aP ts).den}{k:Nat}{w:Ty},ts[k]?=some w->∃x:w.den,cK ts a k=some ⟨w,x⟩/\(cJ ts a)[k]?=some (w.enc x)
 | [],_,_,_,h=>by simp at h
 | [t],a,0,w,h=>by simp at h;subst h;exact⟨a,rfl,rfl⟩
 | [t],a,k+1,w,h=>by simp at h
 |t::u::ts,a,0,w,h=>by simp at h;subst h;exact⟨a.1,rfl,rfl⟩
 |t::u::ts,a,k+1,w,h=>by
  obtain⟨x,j,B⟩:=NK (ts:=u::ts) (a:=a.2) (k:=k) (w:=w) (by simpa using h);exact⟨x,j,by simpa [cJ]using B⟩
def K0:∀(ws:List Ty)(b:(aP ws).den),(cJ ws b).length=ws.length
 | [],_=>rfl
 | [_],_=>rfl
 |t::u::ts,b=>by simp[cJ,K0 (u::ts) b.2]
theorem Gh{N:Nat}{v:X}:∀(sh:List NS)(j:Nat)(ds:List D),ds.length=(cM sh).length->(∀k w d,(cM sh)[k]?=some w->ds[k]?=some d->RX ρ (.d w (pf N (j+k) v)) (.d d))->F2 (RX ρ) (wW N v sh j) (fO sh ds)
 | [],_,_,_,_=>.nil
 |.dI t::r,j,[],hl,_=>by simp[cM]at hl
 |.dI t::r,j,d::ds,hl,h=>.cons (by simpa using h 0 t d rfl rfl) (Gh r (j+1) ds (by simpa [cM]using hl) λk w d F B=>by
  have:=h (k+1) w d (by simpa [cM]using F) (by simpa using B);rwa [show j+(k+1)=j+1+k by omega]at this)
 |.nil s::r,j,ds,hl,h=>.cons (.bq s) (Gh r j ds hl h)
def Y2{v:X}{sh:List NS}{a:(aP (cM sh)).den}(hv:∀t∈cM sh,isVal t)(h:v.den ρ=some ⟨aP (cM sh),a⟩):RX ρ (.agg (wW (cM sh).length v sh 0)) (.agg (fO sh (cJ (cM sh) a))):=by
 have F:=Gh (ρ:=ρ) (N:=(cM sh).length) (v:=v) sh 0 (cJ (cM sh) a) (K0 _ _) (λk w d B j=>by
  obtain⟨x,G,M⟩:=NK (a:=a) B;rw[M]at j;injection j with j;subst j;rw[hT];exact .d w _ x (hv w (dd B)) ((wY k h (db.1 B).1).trans G))
 exact .agg _ _ F.len λi c t O ht=>F.get O ht
structure fG(P:Program)(C:Cx)(cs:List Callee):Prop where
 sigs:∀(j:Nat)(s:lI),C.sigs[j]?=some s->∃c:Callee,cs[j]?=some c/\kn c=s/\gZ P c
 turns:∀s∈C.turns,∃fn:(aP (.list s.t::s.args)).den->Option (List s.t.den),cs[s.k]?=some (ju.mk s.f s.t s.args fn).kD/\oz P s.f s.t s.args fn
 ns:∀s∈C.wX,∃fn:(aP s.args).den->Option (aP (cM s.sh)).den,cs[s.k]?=some ⟨s.f,s.args,cM s.sh,fn⟩/\qU P s.f s.args s.sh fn
theorem Ec{t:Ty}{ts:List Ty}{x:X}{xs:List X}{v:t.den}{a:(aP ts).den}(F:x.den ρ=some ⟨t,v⟩)(B:jH ρ ts xs a):∃b:(aP (t::ts)).den,jH ρ (t::ts) (x::xs) b/\cJ (t::ts) b=t.enc v::cJ ts a:=by
 cases ts with
 |nil=>
  have:xs=[]:=by simpa using B.1
  subst this;refine⟨v,⟨rfl,λj u k=>?_⟩,rfl⟩;cases j with
  |zero=>simp at k;subst k;exact⟨x,rfl,F⟩
  |succ j=>simp at k
 |cons u N=>
  refine⟨(v,a),⟨by simp[B.1],λj w k=>?_⟩,rfl⟩;cases j with
  |zero=>simp at k;subst k;exact⟨x,rfl,F⟩
  |succ j=>
   obtain⟨y,G,M⟩:=B.2 j w (by simpa using k);exact⟨y,by simpa using G,M⟩
def Ly{g:FuncId}{t:Ty}{ts:List TX}:∀{ss:List lJ}{s:lJ}{xs:List X}{l':List AX},qb lX g t ts ss=some (s,xs,l')->s∈ss/\s.t=t/\s.f=g/\gy lX s.args ts=some (xs,l')
 | [],s,xs,l',h=>by simp[qb]at h
 |s0::ss,s,xs,l',h=>by
  have k:qb lX g t ts ss=some (s,xs,l')->s∈s0::ss/\s.t=t/\s.f=g/\gy lX s.args ts=some (xs,l'):=λh=>by
   obtain⟨B,F⟩:=Ly h;exact⟨ka _ B,F⟩
  simp only[qb]at h;split at h
  ·rename_i ht;cases j:Nat.beq s0.f g with
   |false=>simp only[j,cond_false]at h;exact k h
   |true=>
    simp only[j,cond_true]at h;split at h
    ·rename_i ys l1 G;simp only[c4,et]at h;obtain⟨rfl,rfl,rfl⟩:=h;exact⟨q9,ht,eb j,G⟩
    exact k h
  exact k h
def Lw{g:FuncId}{ts:List TX}:∀{ss:List lJ}{s:lJ}{xs:List X}{l':List AX},rz lX g ts ss=some (s,xs,l')->s∈ss/\s.f=g/\gy lX s.args ts=some (xs,l')
 | [],s,xs,l',h=>by simp[rz]at h
 |s0::ss,s,xs,l',h=>by
  have k:rz lX g ts ss=some (s,xs,l')->s∈s0::ss/\s.f=g/\gy lX s.args ts=some (xs,l'):=λh=>by
   obtain⟨B,F⟩:=Lw h;exact⟨ka _ B,F⟩
  simp only[rz]at h;cases j:Nat.beq s0.f g with
  |false=>simp only[j,cond_false]at h;exact k h
  |true=>
   simp only[j,cond_true]at h;split at h
   ·rename_i ys l1 G;simp only[c4,et]at h;obtain⟨rfl,rfl,rfl⟩:=h;exact⟨q9,eb j,G⟩
   exact k h
def acR(
         aU:fG P C cs)(hl:RL ρ lX l){g:FuncId}{aX:List TX}{as:List T}(aT:F2 (RX ρ) aX as)(af:eD V.E ρT o=some (g,as))(h:Is C lX n g aX=some q)(hi:bY cs n ρ q.ins ρ')(a6:Ext ρ ρ'):cD P o ρT l nid ρ' q:=by
 have aV:=a6;unfold Is at h;split at h
 ·rename_i id rest;obtain⟨U,F,rfl,O,aE⟩:∃U F,as=U::F/\RX ρ (.row id) U/\F2 (RX ρ) rest F:=by
   cases aT with
   |cons ar au=>exact⟨_,_,rfl,ar,au⟩
  have O:=yn O;subst O;split at h
  ·rename_i e t x bm;split at h
   ·rename_i s xs l' aD;split at h
    ·rename_i al t' bn a7;split at h
     ·rename_i ab;obtain⟨rfl,rfl⟩:=ab;simp only[c4]at h;subst h;obtain⟨an,aY,ao,aq⟩:=Ly aD;subst aY;subst ao;obtain⟨a,G,aH,aI,ai⟩:=sH hl aE aq;obtain⟨bl,aZ,a1⟩:=F2.left ai a7;cases a1 with
      |row _ _ _ zs v0 bh=>
      obtain⟨b,aa,ak⟩:=Ec bh aH;cases hi with
      |call _ _ _ _ _ _ D aj y aN aO aP aQ=>
       cases aQ;obtain⟨fn,M,Y⟩:=aU.turns s an;rw[aN]at M;injection M with M;subst M;have:=(ou aa.1 aa.2).symm.trans aO;injection this with this;have av:b=aj:=by injection this
       subst av;refine⟨.d (.aL []),.fV [] [] rfl (λi c d aw=>by simp at aw),G.set id (.row al s.t.size (List.map s.t.enc y)),F2.set (RL.mono aV ai) (.row al s.t (.var n) y v0 (show lk _ n=_ from jB n ⟨.list s.t,y⟩ ρ)) id,λba=>?_⟩;refine⟨tz af,λw0 I0 w I m aS aB aG=>?_⟩;obtain⟨j,aC,ad,ae⟩:=pY (P:=P) (w:=w) (ρ:=aS) Y.enters aG af;rw[aC];show Calls P s.f j w _;obtain⟨Z,vs,hv⟩:∃v0 vs,j.toList=v0::vs:=by
        cases az:j.toList with
        |nil=>
             have:j.toList.length=F.length+1:=by simpa using ad
             rw[az]at this;simp at this
        |cons a b=>exact⟨a,b,rfl⟩
       have aF:vs.length=F.length:=by
        have:j.toList.length=F.length+1:=by simpa using ad
        rw[hv]at this;simpa using this
       have N:∀(i:Nat),j[i]?=(Z::vs)[i]?:=λi=>by rw[<-hv];simp
       obtain⟨J,ah,aR,ay,aA,_⟩:=nj F l I vs _ G aB aF (λi v x k B=>ae (i+1) v x (by rw[N];simpa using k) (by simpa using B)) aI;have ag:=Y.kF b y aP G id al (List.map s.t.enc zs) (cJ s.args a) (by rw[ak,wa]) aZ;refine(ag w0 I0 w J m j aR (by rw[<-Array.length_toList,hv];simpa using ay) λi v x k B=>?_).mono ?_
       ·rw[N]at k;cases i with
        |zero=>
         simp at k B;subst k;subst B;exact(ae 0 Z (.row id) (by rw[N];rfl) rfl).mono ah
        |succ i=>
         simp only[List.getElem?_cons_succ]at k B;rw[e3,e4]at B;obtain⟨d,ax,rfl⟩:=B;exact .d _ _ (aA i v d k ax)
       rintro e bj ⟨v,ab,J',m',aJ,aK,aM⟩;exact⟨v,ab,J',m',ah.trans aJ,aK,aM⟩
     cases h
    cases h
   cases h
  cases h
 ·rename_i sz rest;obtain⟨U,F,rfl,O,aE⟩:∃U F,as=U::F/\RX ρ (.bq sz) U/\F2 (RX ρ) rest F:=by
   cases aT with
   |cons ar au=>exact⟨_,_,rfl,ar,au⟩
  have O:=AB O;subst O;split at h
  ·rename_i s xs l' aD;simp only[c4]at h;subst h;obtain⟨an,ao,aq⟩:=Lw aD;subst ao;obtain⟨a,G,aH,aI,ai⟩:=sH hl aE aq;obtain⟨b,aa,ak⟩:=Ec (t:=.list s.t) (x:=.nil s.t) (v:=([]:List s.t.den)) rfl aH;cases hi with
   |call _ _ _ _ _ _ D aj y aN aO aP aQ=>
    cases aQ;obtain⟨fn,M,Y⟩:=aU.turns s an;rw[aN]at M;injection M with M;subst M;have:=(ou aa.1 aa.2).symm.trans aO;injection this with this;have av:b=aj:=by injection this
    subst av;refine⟨.d (.aL []),.fV [] [] rfl (λi c d aw=>by simp at aw),G++[.row 0 s.t.size (List.map s.t.enc y)],F2.app (RL.mono aV ai) (.cons (show bR ((n,⟨.list s.t,y⟩)::ρ) _ _ from .row 0 s.t (.var n) y Y.val (jB n ⟨.list s.t,y⟩ ρ)) .nil),λba=>?_⟩;refine⟨tz af,λw0 I0 w I m aS aB aG=>?_⟩;obtain⟨j,aC,ad,ae⟩:=pY (P:=P) (w:=w) (ρ:=aS) Y.enters aG af;rw[aC];show Calls P s.f j w _;obtain⟨Z,vs,hv⟩:∃v0 vs,j.toList=v0::vs:=by
     cases az:j.toList with
     |nil=>
          have:j.toList.length=F.length+1:=by simpa using ad
          rw[az]at this;simp at this
     |cons a b=>exact⟨a,b,rfl⟩
    have aF:vs.length=F.length:=by
     have:j.toList.length=F.length+1:=by simpa using ad
     rw[hv]at this;simpa using this
    have N:∀(i:Nat),j[i]?=(Z::vs)[i]?:=λi=>by rw[<-hv];simp
    obtain⟨J,ah,aR,ay,aA,_⟩:=nj F l I vs _ G aB aF (λi v x k B=>ae (i+1) v x (by rw[N];simpa using k) (by simpa using B)) aI;haveI:=bP;obtain⟨bf,bg,aW,a8⟩:=aR.O7 0 s.t.size;have bd:Z=.slice none 0 0:=by
     have:=ae 0 Z (.bq sz) (by rw[N];rfl) rfl;cases this;rfl
    have bb:(G++[AO.row 0 s.t.size []])[G.length]?=some (.row 0 s.t.size []):=by simp
    have ag:=Y.kF b y aP (G++[.row 0 s.t.size []]) G.length 0 [] (cJ s.args a) (by rw[ak,wa];rfl) bb;have bc:(G++[AO.row 0 s.t.size []]).set G.length (.row 0 s.t.size (List.map s.t.enc y))=G++[.row 0 s.t.size (List.map s.t.enc y)]:=by simp
    rw[bc]at ag;refine(ag w0 I0 w J bf j bg (by rw[<-Array.length_toList,hv];simpa using ay) λi v x k B=>?_).mono ?_
    ·rw[N]at k;cases i with
     |zero=>
      simp at k B;subst k;subst B;rw[bd];exact .row none 0 0 G.length (by simp) (λ_=>a8)
     |succ i=>
      simp only[List.getElem?_cons_succ]at k B;rw[e3,e4]at B;obtain⟨d,ax,rfl⟩:=B;exact .d _ _ ((aA i v d k ax).mono aW.du)
    rintro e bj ⟨v,ab,J',m',aJ,aK,aM⟩;exact⟨v,ab,J',m',ah.trans (aW.trans aJ),aK,aM⟩
  cases h
 cases h
theorem OS{I J:aD}{m m':Nat->Value}{l l':List AO}{v:Value}{sh:List NS}{ds:List D}(h:az J m' l' v (.agg (fO sh ds))):az J m l v (.agg (fO sh ds)):=by
 have key:∀(sh:List NS)(ds:List D)(i:Nat) t,(fO sh ds)[i]?=some t->(∃d,t=.d d)\/∃s,t=.bq s:=by
  intro sh;induction sh with
  |nil=>intro ds i t ht;simp[fO]at ht
  |cons x sh j=>
   intro ds i t ht;cases x with
   |dI w=>
    cases ds with
    |nil=>simp[fO]at ht
    |cons d ds=>
     cases i with
     |zero=>simp[fO]at ht;exact .inl ⟨d,ht.symm⟩
     |succ i=>exact j ds i t (by simpa [fO]using ht)
   |nil s=>
    cases i with
    |zero=>simp[fO]at ht;exact .inr ⟨s,ht.symm⟩
    |succ i=>exact j ds i t (by simpa [fO]using ht)
 cases h with
 |agg vs ts k B F=>
  refine .agg vs _ k B λi v t hv ht=>?_;have:=F i v t hv ht;rcases key sh ds i t ht with ⟨d,rfl⟩| ⟨s,rfl⟩
  ·cases this with|d _ _ h=>exact .d _ _ h
  cases this;exact .bq _
def UL(af:fG P C cs)(hl:RL ρ lX l){g:FuncId}{ts:List TX}{as:List T}(ad:F2 (RX ρ) ts as)(G:eD V.E ρT o=some (g,as))(h:zk C lX n g ts=some q)(hi:bY cs n ρ q.ins ρ')(ai:Ext ρ ρ'):cD P o ρT l nid ρ' q:=by
 unfold zk at h;split at h
 ·rename_i s xs l' au;simp only[c4]at h;subst h;obtain⟨Y,Z,aa⟩:=EA au;obtain⟨a,M,N,ay,az⟩:=sH hl ad aa;cases hi with
  |call _ _ _ _ _ _ D U y aC aD aE aF=>
   cases aF;obtain⟨fn,j,B⟩:=af.ns s Y;rw[aC]at j;injection j with j;subst j;have:=(ou N.1 N.2).symm.trans aD;injection this with this;have ab:a=U:=by injection this
   subst ab;subst Z;refine⟨_,Y2 B.res (jB n _ ρ),M,RL.mono ai az,λaH=>?_⟩;refine⟨tz G,λw0 I0 w I m aG ao F=>?_⟩;obtain⟨k,aq,ak,al⟩:=pY (P:=P) (w:=w) (ρ:=aG) B.enters F G;rw[aq];show Calls P s.f k w _;obtain⟨J,ax,O,aj,an,_⟩:=nj as l I k.toList _ M ao (by simpa using ak) (λi v x hv F=>al i v x (by simpa using hv) F) ay;refine(B.kF a y aE w J k O.sat (by rw[<-Array.length_toList];exact aj) (λi v d hv ag=>an i v d (by simpa using hv) ag)).mono ?_;rintro e aI ⟨v,J',ah,ae,aw,av,ar⟩;obtain⟨aA,aB⟩:=O.call ae aw av;exact⟨v,ah,J',m,ax.trans aB,aA,OS (I:=J) ar⟩
 cases h
def UM(ao:bM P V C)(ab:fG P C cs){c:Call}{f:Operand}(F:o.op=.call c)(B:c.callee=.value f)(hl:RL ρ lX l)(ag:∀x∈o.op.operands,RX ρ (ρX x) (ρT x))(h:dD C ρX lX n nid o=some q)(hi:bY cs n ρ q.ins ρ')(aa:Ext ρ ρ'):cD P o ρT l nid ρ' q:=by
 have ax:=aa;have ay:=ag f (by simp[F,Op.operands,Call.operands,B]);have ar:∀x∈c.args.toList,RX ρ (ρX x) (ρT x):=λx N=>ag x (by simp[F,Op.operands,Call.operands,B];right;simpa using N);simp only[dD,F,B]at h;split at h
 ·rename_i g ts az;obtain⟨af,aL,aM⟩:=DZ ay az;have G:F2 (RX ρ) (mV C.E c.argTypes.toList (c.args.toList.map ρX)++ts) (fW V.E c.argTypes.toList (c.args.toList.map ρT)++af):=(It ao (Es ar)).app aL;have M:eD V.E ρT o=some (g,fW V.E c.argTypes.toList (c.args.toList.map ρT)++af):=by
   rcases aM with e| ⟨e,rfl⟩| ⟨ds,e,rfl⟩
   ·simp only[eD,F,B,e]
   ·simp only[eD,F,B,e,iu]
   simp only[eD,F,B,e]
  generalize fW V.E c.argTypes.toList (c.args.toList.map ρT)++af=as at G M;cases ae:zk C lX n g (mV C.E c.argTypes.toList (c.args.toList.map ρX)++ts)with
  |some aS=>
   rw[ae]at h;simp only[c4]at h;subst h;exact UL ab hl G M ae hi aa
  |none=>
  rw[ae]at h;simp only at h;cases ad:DP C lX n g (mV C.E c.argTypes.toList (c.args.toList.map ρX)++ts)with
  |none=>rw[ad]at h;exact acR ab hl G M h hi aa
  |some aS=>
  rw[ad]at h;simp only[c4]at h;subst h;have h:=ad;unfold DP at h;split at h
  ·rename_i k xs l' s aI;simp only[c4]at h;subst h;obtain⟨j,a1,al,Y,an⟩:=Lx hl G aI;obtain⟨a,ah,ai,aO,aP⟩:=sH hl G an;cases hi with
   |call _ _ _ _ _ _ D ak y aT aU aV aW=>
    cases aW;have aA:k=j:=by omega
    subst aA;obtain⟨aZ,O,aX,Z⟩:=ab.sigs _ _ al;rw[aT]at O;injection O with O;subst O;subst aX;have:=(ou ai.1 ai.2).symm.trans aU;injection this with this;have aq:a=ak:=by injection this
    subst aq;have Y:D.f=g:=Y;subst Y;refine⟨_,aa9 Z.res (jB n _ ρ),ah,RL.mono ax aP,λa6=>?_⟩;refine⟨tz M,λw0 I0 w I m aY aF N=>?_⟩;obtain⟨U,aG,aC,aD⟩:=pY (P:=P) (w:=w) (ρ:=aY) Z.enters N M;rw[aG];show Calls P D.f U w _;obtain⟨J,aN,aj,aB,aE,_⟩:=nj as l I U.toList _ ah aF (by simpa using aC) (λi v x hv N=>aD i v x (by simpa using hv) N) aO;refine(Z.kF a y aV w J U aj.sat (by rw[<-Array.length_toList];exact aB) (λi v d hv av=>aE i v d (by simpa using hv) av)).mono ?_;rintro e a7 ⟨v,J',aw,au,aK,aJ,aH⟩;obtain⟨aQ,aR⟩:=aj.call au aK aJ;exact⟨v,aw,J',m,aN.trans aR,aQ,.d _ _ aH⟩
  cases h
 cases h
def cD.II{F:Operand->T}(h:cD P o F l nid ρ' q)(U:∀I m v x,x∈o.op.operands->az I m l v (ρT x)->az I m l v (F x)):cD P o ρT l nid ρ' q:=by
 have key:∀{t:T}{l':List AO},bZ P o F l t l'->bZ P o ρT l t l':=λh=>⟨h.1,λw0 I0 w I m ρ O Y=>h.2 w0 I0 w I m ρ O λx G=>U I m _ x G (Y x G)⟩;obtain⟨t,N,j⟩:=h;refine⟨t,N,?_⟩;split at j
 ·exact key j
 ·obtain⟨M,k,B,Z⟩:=j;exact⟨M,k,λh=>key (B h),λh=>key (Z h)⟩
 obtain⟨l',k,B⟩:=j;exact⟨l',k,λh=>key (B h)⟩
def YQ{x:Operand}(j:o.op=.nilCheck x)(k:RX ρ (ρX x) (ρT x))(h:(match ρX x with |.ptr id off=>eV (.ptr id off)|_=>none)=some q)(hi:bY cs n ρ q.ins ρ'):cD P o ρT l nid ρ' q:=by
 generalize ρX x=A at h k;generalize M:ρT x=Z at k;cases k with
 |ptr id off=>
  have:=im h;subst this;cases hi;refine⟨.ptr id off,.ptr _ _,⟨λc B=>(by rw[j]at B;cases B),λw0 I0 w I m r U O=>?_⟩⟩;have hv:=O x (by simp[j,Op.operands]);rw[M]at hv;generalize Y:r x=v at hv;cases hv with
  |ptr _ b _ F G=>
   have N:(execOp r o).run P w=.ok (.value (.pointer (some ⟨b,off,none⟩))) w:=by
    unfold execOp;simp only[j,Y];rfl
   rw[N];exact⟨I,m,.refl ..,U,.ptr id b off F G⟩
 |_=>simp at h
def We(F:bM P V C)(U:fG P C cs)(hl:RL ρ lX l)(B:∀x∈o.op.operands,RX ρ (ρX x) (ρT x))(O:∀g ls,aI.ez g=some ls->ρT (.global g)=.bu ls.length [.agg (ls.map (.int .i64))] 0 0)(N:Ext ρ ρ')(h:dD C ρX lX n nid o=some q)(hi:bY cs n ρ q.ins ρ'):cD P o ρT l nid ρ' q:=by
 have h0:=h;unfold dD at h;split at h
 ·rename_i x j;exact Nr F (.inl j) (B x (by simp[j,Op.operands])) h hi
 ·rename_i x j;exact Nr F (.inr j) (B x (by simp[j,Op.operands])) h hi
 ·rename_i c a b j;exact Hi F j B h0 hi
 ·rename_i e x j;exact UC F j (B x (by simp[j,Op.operands])) h0 hi
 ·rename_i e j;exact Q7 F j h0 hi
 ·rename_i t a j;exact XW F j hl (B a (by simp[j,Op.operands])) h hi N
 ·rename_i t a x j;exact(Ib (ρX:=λy=>sK C.E t (ρX y)) (ρT:=λy=>typed V.E t (ρT y)) F j hl (C3 F (B a (by simp[j,Op.operands])) t) (C3 F (B x (by simp[j,Op.operands])) t) h hi N).II λI m v y _ hv=>C4 hv
 ·rename_i x j;exact YQ j (B x (by simp[j,Op.operands])) h hi
 ·rename_i s x f j;exact WC F j (B x (by simp[j,Op.operands])) h hi
 ·rename_i s x f j;exact WE F j (B x (by simp[j,Op.operands])) h hi
 ·rename_i Y ty x y ab j;exact Uy F j (B x (by simp[j,Op.operands])) (B y (by simp[j,Op.operands])) h0 hi
 ·rename_i Y ty x j;exact acV F j (B x (by simp[j,Op.operands])) h0 hi
 ·rename_i t x i j;split at h
  ·exact Xo F j O (B i (by simp[j,Op.operands])) h hi N
  exact Xp F j hl (B x (by simp[j,Op.operands])) (B i (by simp[j,Op.operands])) h hi N
 ·rename_i t x lo Z j;exact abW F j hl B h0 hi
 ·rename_i t parts j;exact UF F j B h0 hi
 ·rename_i t len parts j;exact UD F j hl B h0 hi
 ·rename_i x i j;exact Ws F j (B x (by simp[j,Op.operands])) h0 hi
 ·rename_i c j;split at h
  ·rename_i f G;exact UM F U j G hl B h0 hi N
  ·rename_i G;split at h
   ·rename_i x t M ht;exact XT F j G M ht hl (B x (by simp[j,Op.operands,Call.operands,G,<-hV,M])) h hi
   cases h
  ·rename_i G;split at h
   ·rename_i s x t t' M ht;split at h
    ·rename_i e;subst e;exact Rc F j G M ht hl (B s (by simp[j,Op.operands,Call.operands,G,<-hV,M])) (B x (by simp[j,Op.operands,Call.operands,G,<-hV,M])) h hi
    cases h
   cases h
  ·rename_i G;exact Ng F j B (.inl G) h0 hi
  ·rename_i G;exact Ng F j B (.inr G) h0 hi
  ·rename_i G;split at h
   ·rename_i x k t t' M ht;exact VQ F j G M ht hl (B x (by simp[j,Op.operands,Call.operands,G,<-hV,M])) (B k (by simp[j,Op.operands,Call.operands,G,<-hV,M])) h hi
   cases h
  cases h
 ·rename_i t a b j;exact X9 F j hl (B a (by simp[j,Op.operands])) (B b (by simp[j,Op.operands])) h hi
 ·rename_i t j;exact FO F j hl h0 hi
 ·rename_i t m k x j;exact Nf F (.inl j) hl (B m (by simp[j,Op.operands])) (B k (by simp[j,Op.operands])) (B x (by simp[j,Op.operands])) h hi
 ·rename_i t m k x j;exact Nf F (.inr j) hl (B m (by simp[j,Op.operands])) (B k (by simp[j,Op.operands])) (B x (by simp[j,Op.operands])) h hi
 ·rename_i t x k ok j;exact XZ F j hl (B x (by simp[j,Op.operands])) (B k (by simp[j,Op.operands])) h0 hi
 ·rename_i aa t x j;exact D4 F j (B x (by simp[j,Op.operands])) h0 hi
 ·rename_i g first caps j;exact X8 F j B h0 hi
 cases h
end
end Go.Sy
namespace Go.ak
open Go Go.RowKit
variable [bm]
section
variable {P:Program}{V:Env}{w0 w:World}{I0 I:aD}{m:Nat->Value}{l:List AO}
def aJ.Mo(F:aJ w0 I0 w I m l){id e size:Nat}{j vs:List D}{O:Option Nat}(k:l[id]?=some (.bw e size j vs O)):Le I m l I m (l.set id (.map j vs))/\aJ w0 I0 w I m (l.set id (.map j vs)):=by
 have B:Le I m l I m (l.set id (.map j vs)):=Le.setKind k rfl rfl (by simp);obtain⟨b,N,G,U,Y,Z,aa,ab,ad,M,_⟩:=F.obj id _ k;exact⟨B,F.lD k (by simp) (b:=b) (by rw[G];rfl) M rfl rfl B rfl rfl rfl (ec _) (ec _) (λ_ _=>rfl) ⟨b,N,G,U,Y,Z,aa,ab,ad,M⟩⟩
def aJ.W7(G:aJ w0 I0 w I m l){id e size:Nat}(Y:0<size)(k:l[id]?=some (.map [] [])):Le I m l I m (l.set id (.bw e size [] [] none))/\aJ w0 I0 w I m (l.set id (.bw e size [] [] none)):=by
 have F:Le I m l I m (l.set id (.bw e size [] [] none)):=Le.setKind k rfl rfl (by simp);obtain⟨b,B,M,Z,aa,N,ab,ad,ae,O⟩:=G.obj id _ k;have af:B.1.size=0:=by simpa using N
 exact⟨F,G.lD k (by simp) (b:=b) (by rw[M];rfl) O rfl rfl F rfl rfl rfl (ec _) (ec _) (λ_ _=>rfl) ⟨b,B,M,Z,aa,N,ab,ad,ae,O,Y,λ_=>0,
  λi en d _ U=>(by have:=(e6.1 U).1;omega),λi j _ hi=>(by omega),λq i _ hi=>(by omega)⟩⟩
def jr.rd{B:Nat}{v:Value}{e size:Nat}{els:List D}(h:jr B w I v e size els):Rd I v (.slice size els):=by
 obtain⟨xs,j,k,F,G⟩:=h;exact vk j k F λb M=>(G b M).2.1
theorem jr.nil{B:Nat}{e size:Nat}:jr B w I (.slice none 0 0) e size []:=⟨[],⟨by simp,.inl ⟨rfl,rfl⟩⟩,by simp,by simp,by simp[own]⟩
def aJ.Mj(Z:aJ w0 I0 w I m l){id e size i:Nat}{aa vs:List D}{els:List D}{v:Value}(aj:l[id]?=some (.bw e size aa vs none))(aS:∀q o,q≠id->l[q]?=some o->o.uc=false)(hv:(∃b O,m id=.map (some b)/\dR w.heap[b]? O/\∃en,O.1[i]?=some en/\en.val=v/\vs[i]?=some (.slice size els))\/(aa.length<=i/\els=[]/\v=.slice none 0 0)) :
  Le I m l I (aQ m l.length v) (l.set id (.bw e size aa vs (some i))++[.bn e size els])/\aJ w0 I0 w I (aQ m l.length v) (l.set id (.bw e size aa vs (some i))++[.bn e size els]):=by
 have aR:id<l.length:=(db.1 aj).1;obtain⟨b,O,aF,aZ,aG,a1,a6,a7,a8,ba,aH,an,ar,aC,aD⟩:=Z.obj id _ aj;have aP:jr w0.heap.size w I v e size els/\(∀G,own v=some G->i<O.1.size/\G=an i):=by
  rcases hv with ⟨G,es',ab,aW,en,aE,aX,aY⟩| ⟨ab,rfl,rfl⟩
  ·rw[aF]at ab;injection ab with ab;injection ab with ab;subst ab;have:es'=O:=by
    have F:=aW.1;rw[aG.1]at F;injection F with F;injection F with F N;exact Prod.ext F.symm N.symm
   subst this;obtain⟨els',au,aI,ak,al⟩:=ar i en _ (by simp) aE aY;injection au with _ au;subst au;rw[aX]at ak al;exact⟨al,λG M=>⟨(e6.1 aE).1,by rw[ak]at M;injection M with M;exact M.symm⟩⟩
  exact⟨.nil,λG M=>by cases M⟩
 obtain⟨aO,aw⟩:=aP;have az:Le I m l I (aQ m l.length v) (l.set id (.bw e size aa vs (some i))++[.bn e size els]):=by
  have F:Le I m l I m (l.set id (.bw e size aa vs (some i))):=Le.setKind aj rfl rfl (by simp);refine F.trans ⟨.refl I,by simp,λk B hv=>⟨?_,bU m v (by simp at B;omega)⟩,λk B aq=>⟨?_,bU m v (by simp at B;omega)⟩,λk bb s' els' B ax=>⟨els',?_⟩⟩
  ·unfold isVar at hv⊢;rw[e1 B];exact hv
  ·unfold isRow at aq⊢;rw[e1 B]at aq;exact aq
  rw[e1 B]at ax;exact ax
 have aL:∀j,j<O.1.size->∃u,I.cell (an j) 0=some u:=λj Y=>by
  obtain⟨els',_,aI,ak,al⟩:=ar j O.1[j] vs[j] (by simp) (e5 Y) (c5 (by omega));exact al.iP aH aI ak
 have aA:∀j G,alive l j=true->own (m j)=some G->own v≠some G:=λj G Y M aV=>by
  obtain⟨hi,rfl⟩:=aw G aV;obtain⟨o,ay,aN⟩:=bN.1 Y;rcases (Z.obj j o ay).IA aN M with h|h
  ·exact aD j i (by unfold cA;rw[ay];exact h) hi (by simp) M
  obtain⟨u,aU⟩:=aL i hi;rw[aU]at h;cases h
 refine⟨az,Z.below,Z.sat,Z.ext,λk o B=>?_,λa c G af ah av ad ae=>?_⟩
 ·rcases p6 k l.length with hkl|hkl
  ·rw[e1 (by simpa using hkl)]at B;rw[bU m v (by omega)];by_cases ao:k=id
   ·subst ao;rw[e0,if_pos rfl,if_pos aR]at B;injection B with B;subst B;refine⟨b,O,aF,aZ,aG,a1,a6,a7,a8,ba,aH,an,λj en d Y=>ar j en d (by simp),λa c F N aK _ _=>aC a c F N aK (by simp) (by simp),λq j U Y aT M=>?_⟩;rcases ub U with ⟨ag,U⟩| ⟨ag,_⟩
    ·rw[bU m v (by simp at ag;omega)]at M;rcases Ab U with U| ⟨_,U⟩
     ·exact aD q j U Y (by simp) M
     cases U
    rw[ag,o0,dH]at M;obtain⟨hi,aM⟩:=aw _ M;exact aC i j (λe=>aT (by rw[e])) hi Y (by simp) (by simp) aM.symm
   rw[e0,if_neg (hU ao)]at B;exact(Z.obj k o B).MF az (λ_ _=>rfl) (λ_ _=>⟨rfl,rfl⟩) (aS k o ao B)
  rw[hI (by simpa using hkl)]at B;have h0:k=l.length:=by
   have:=(db.1 B).1;simp at this;omega
  subst h0;simp at B;subst B;rw[dH];exact aO
 have ai:∀q,q≠l.length->alive (l.set id (.bw e size aa vs (some i))++[.bn e size els]) q=true->alive l q=true:=λq U ah=>by
  obtain⟨o,F,N⟩:=bN.1 ah;have ag:q<l.length:=by have:=(db.1 F).1;simp at this;omega
  rw[e1 (by simpa using ag)]at F;by_cases aB:q=id
  ·subst aB;exact bN.2 ⟨_,aj,by simp⟩
  rw[e0,if_neg (hU aB)]at F;exact bN.2 ⟨o,F,N⟩
 by_cases F:a=l.length
 ·subst F;rw[dH]at ad;rw[bU m v (hU af)]at ae;exact aA c G (ai c (hU af) av) ae ad
 by_cases N:c=l.length
 ·subst N;rw[dH]at ae;rw[bU m v af]at ad;exact aA a G (ai a af ah) ad ae
 rw[bU m v F]at ad;rw[bU m v N]at ae;exact Z.sep a c G af (ai a F ah) (ai c N av) ad ae
end
section
variable {P:Program}{V:Env}{w0 w w':World}{I0 I:aD}{m:Nat->Value}{l:List AO}
def aJ.kill(h:aJ w0 I0 w I m l){k:Nat}{a:AO}(U:l[k]?=some a)(hv:a.isVar=false):Le I m l I m (l.set k .dead)/\aJ w0 I0 w I m (l.set k .dead):=by
 have ab:k<l.length:=(db.1 U).1;have M:(l.set k AO.dead)[k]?=some .dead:=by rw[e0,if_pos rfl,if_pos ab]
 have G:∀q,q≠k->(l.set k AO.dead)[q]?=l[q]?:=λq F=>by rw[e0,if_neg (hU F)]
 have Y:Le I m l I m (l.set k .dead):=by
  refine⟨.refl I,by simp,λq F hh=>⟨?_,rfl⟩,λq F hh=>⟨?_,rfl⟩,λq e s els F hh=>⟨els,?_⟩⟩
  ·by_cases e:q=k
   ·subst e;unfold isVar at hh;rw[U]at hh;simp[hv]at hh
   unfold isVar at hh⊢;rw[G q e];exact hh
  ·by_cases e:q=k
   ·subst e;unfold isRow at hh;rw[M]at hh;simp[AO.isRow]at hh
   unfold isRow at hh⊢;rw[G q e]at hh;exact hh
  by_cases e:q=k
  ·subst e;rw[M]at hh;rcases hh with hh|hh<;>cases hh
  rw[G q e]at hh;exact hh
 refine⟨Y,h.below,h.sat,h.ext,λid o B=>?_,λi j b Z hi aa=>?_⟩
 ·by_cases e:id=k
  ·subst e;rw[M]at B;injection B with B;subst B;trivial
  rw[G id e]at B;exact(h.obj id o B).cF Y (λ_ _=>rfl) (λ_ _=>⟨rfl,rfl⟩) (.set (λ_ _ _=>rfl) λh=>by cases h)
 have N:∀q,alive (l.set k .dead) q=true->alive l q=true:=λq F=>by
  obtain⟨o,B,O⟩:=bN.1 F;by_cases e:q=k
  ·subst e;rw[M]at B;injection B with B;exact absurd B.symm O
  rw[G q e]at B;exact bN.2 ⟨o,B,O⟩
 exact h.sep i j b Z (N i hi) (N j aa)
def aJ.Mh(h:aJ w0 I0 w I m l){id B e size i b:Nat}{aP al vs af:List D}{els:List D}{Z es':ME}(ar:l[id]?=some (.bw e size aP vs (some i)))(ad:l[B]?=some (.bn e size els))(aB:els≠[])(aq:m id=.map (some b))(aU:dR w.heap[b]? Z)(aY:w'.os=w.os)(a8:w'.tape=w.tape)(aZ:w'.output=w.output)(aT:w.drawn<=w'.drawn)(a6:w.heap.size<=w'.heap.size)(aM:∀k,k≠b->w'.heap[k]?=w.heap[k]?)(aV:dR w'.heap[b]? es')(n1:es'.1.size=al.length)(bf:es'.1.size=af.length)(bg:∀(j:Nat)(en:MapEntry)(d:D),es'.1[j]?=some en->al[j]?=some d->Rd I en.key d)(aw:∀(j:Nat)(en:MapEntry)(d:D),es'.1[j]?=some en->af[j]?=some d->(j=i/\en.val=m B/\d=.slice size els)\/(j≠i/\vs[j]?=some d/\∃G,Z.1[j]?=some G/\G.val=en.val)) :
  Le I m l I m ((l.set B .dead).set id (.bw e size al af none))/\aJ w0 I0 w' I m ((l.set B .dead).set id (.bw e size al af none)):=by
 have aK:id≠B:=λe=>by subst e;rw[ar]at ad;cases ad
 obtain⟨bd,bm⟩:=h.kill ad rfl;have aL:(l.set B .dead)[id]?=some (.bw e size aP vs (some i)):=by rw[e0,if_neg (hU aK)];exact ar
 have aI:Le I m (l.set B .dead) I m ((l.set B .dead).set id (.bw e size al af none)):=Le.setKind aL rfl rfl (by simp);obtain⟨b0,ay,ah,bh,bj,bq,br,bs,bl,aC,aR,ax,bb,bc,aO⟩:=h.obj id _ ar;rw[aq]at ah;injection ah with ah;injection ah with ah;subst ah;have:ay=Z:=by
  have F:=aU.1;rw[bj.1]at F;injection F with F;injection F with F aa;exact Prod.ext F aa
 subst this;have aA:jr w0.heap.size w I (m B) e size els:=h.obj B _ ad;obtain⟨g,ak⟩:∃g,own (m B)=some g:=by
  obtain⟨xs,F,_⟩:=aA;rcases F.2 with ⟨_,ba⟩| ⟨g,bo,cur,aa,_⟩
  ·exact absurd (j0 ba) aB
  exact⟨g,by rw[aa];rfl⟩
 have bp:g≠b:=λe=>by
  subst e;exact h.sep B id g (hU aK) (bN.2 ⟨_,ad,by simp⟩) (bN.2 ⟨_,ar,by simp⟩) ak (by rw[aq];rfl)
 have a7:∀Y u,I.cell Y 0=some u->w'.heap[Y]?=w.heap[Y]?:=λY u av=>aM Y λe=>by subst e;rw[aC.1 0]at av;cases av
 have aH:∀{v:Value}{Z:List D}{Y:Nat},Z≠[]->own v=some Y->jr w0.heap.size w I v e size Z->jr w0.heap.size w' I v e size Z:=λ{v Z Y} aW ab aG=>by
  obtain⟨u,av⟩:=aG.iP aR aW ab;exact aG.cF (λ_ _ h=>h) λaS ao=>⟨a7 aS u (by rw[ab]at ao;injection ao with ao;subst ao;exact av),rfl,rfl⟩
 have aX:∀{j:Nat}{en G:MapEntry}{d:D},j≠i->vs[j]?=some d->ay.1[j]?=some G->G.val=en.val->∃els,d=.slice size els/\els≠[]/\own en.val=some (ax j)/\jr w0.heap.size w' I en.val e size els:=λ{j en G d} ae ai aj hv=>by
  obtain⟨els,an,O,M,ag⟩:=bb j G d (λe=>ae (nn e).symm) aj ai;rw[hv]at M ag;exact⟨els,an,O,M,aH O M ag⟩
 refine⟨bd.trans aI,bm.lD aL (by simp) (b:=b) (by rw[aq];rfl) aC rfl rfl aI aY a8 aZ aT a6 aM ⟨b,es',aq,bh,aV,n1,bf,bg,λj en d aj ai=>?_,aC,aR,λj=>if j=i then g else ax j,λj en d _ aj ai=>?_,λa c az aE aF _ _=>?_,λq j N ae _ ab=>?_⟩⟩
 ·rcases aw j en d aj ai with ⟨rfl,O,rfl⟩| ⟨an,O,G,M,ag⟩
  ·rw[O];exact aA.rd
  rw[<-ag];exact bl j G d M O
 ·rcases aw j en d aj ai with ⟨rfl,O,rfl⟩| ⟨an,O,G,M,ag⟩
  ·dsimp only;rw[O,if_pos rfl];exact⟨els,rfl,aB,ak,aH aB ak aA⟩
  dsimp only;rw[if_neg an];exact aX an O M ag
 ·have aD:∀j,j<es'.1.size->j≠i->j<ay.1.size:=λj ae U=>by
   rcases aw j es'.1[j] af[j] (e5 ae) (c5 (by omega))with ⟨e,_⟩| ⟨_,_,G,M,_⟩
   ·exact absurd e U
   exact(e6.1 M).1
  have aQ:∀j,j<es'.1.size->j≠i->g≠ax j:=λj ae U e=>aO B j (by unfold cA;rw[ad];rfl) (aD j ae U) (λe=>U (nn e).symm) (by rw[ak,e]);dsimp only;by_cases F:a=i
  ·subst F;rw[if_pos rfl,if_neg (hU az)];exact aQ c aF (hU az)
  rw[if_neg F];by_cases aa:c=i
  ·subst aa;rw[if_pos rfl];exact hU (aQ a aE F)
  rw[if_neg aa];exact bc a c az (aD a aE F) (aD c aF aa) (λe=>F (nn e).symm) (λe=>aa (nn e).symm)
 rcases Ab N with N| ⟨_,N⟩
 ·have aN:q≠B:=λe=>by
   subst e;unfold cA at N;rw[e0,if_pos rfl,if_pos (db.1 ad).1]at N;simp[AO.cA]at N
  have au:cA l q=true:=by unfold cA at N⊢;rw[e0,if_neg (hU aN)]at N;exact N
  have a1:alive l q=true:=by
   unfold cA at au;cases hl:l[q]? with
   |none=>simp[hl]at au
   |some o=>exact bN.2 ⟨o,hl,λe=>by subst e;simp[hl,AO.cA]at au⟩
  dsimp only at ab;by_cases U:j=i
  ·subst U;rw[if_pos rfl]at ab;exact h.sep q B g aN a1 (bN.2 ⟨_,ad,by simp⟩) ab ak
  rw[if_neg U]at ab;rcases aw j es'.1[j] af[j] (e5 ae) (c5 (by omega))with ⟨e,_⟩| ⟨_,_,G,M,_⟩
  ·exact absurd e U
  exact aO q j au (e6.1 M).1 (λe=>U (nn e).symm) ab
 cases N
theorem W8(aD:ct P V.E)(aj:aJ w0 I0 w I m l){t:TypeId}{x v:Value}{kk:IntKind}{n:Int}{aL:TI}{id O e size:Nat}{M vs els:List D}(aC:kX V.E t=some (kk,aL))(au:az I m l x (.map id))(hv:v=m O)(hl:l[id]?=some (.bw e size M vs (some ((ei n M 0).getD M.length))))(ao:l[O]?=some (.bn e size els))(aq:els≠[])(aE:nH kk M=true) :
  ∃w',(Instr.mapUpdate t x (.int kk n) v).run P w=.ok () w' /\
   let l':=(l.set O .dead).set id (match ei n M 0 with|some j=>.bw e size M (vs.set j (.slice size els)) none|none=>.bw e size (M++[.int kk n]) (vs++[.slice size els]) none)
   Le I m l I m l'/\aJ w0 I0 w' I m l':=by
 subst hv;obtain⟨aG,aM,aA,al,aO⟩:=wL aD aC;obtain⟨b,⟨N,G⟩,ad,ax,U,s1,s2,ae,aK,aN,_⟩:=aj.obj id _ hl;have ay:=U;replace U:w.heap[b]?=some (.map N G)/\MapKept.Stamped N G:=U;simp only at s1 s2 ae aK;have aF:x=.map (some b):=by
  cases au with
  |map r _ Z ab=>
   have:=ab (by unfold isRow;rw[hl];rfl);rw[ad]at this;exact this.symm
 subst aF;have an:∀e:Bool,(Instr.checkKey e 10000 aG (.int kk n)).run P w=.ok () w:=λe=>p0 (d:=.int kk) (n:=9999) al (by simp[MapKept.IsKey]) e;rcases tM (kk:=kk) (n:=n) N.toList M 0 (by simpa using s1) (λj e d ad ax=>ae j e d (by simpa using ad) ax) aE with ⟨Z,ab,aI⟩| ⟨j,aB,Z,ab,av,aH,aw⟩
 ·have hi:(ei n M 0).getD M.length=M.length:=by rw[Z];rfl
  rw[hi]at hl;simp only[Z];have ah:=oo (w:=w) al ab;have ak:=mo (P:=P) (.map (N.push {key:=.int kk n,val:=m O,born:=G}) (G+1)) U.1;obtain⟨af,ag⟩:=o8 (o':=.map (N.push {key:=.int kk n,val:=m O,born:=G}) (G+1)) U.1;refine⟨{w with heap:=w.heap.setIfInBounds b (.map (N.push {key:=.int kk n,val:=m O,born:=G}) (G+1))},?_,?_⟩
  ·unfold Instr.mapUpdate;simp only[e8,hE aA,Result.andThen_ok,jb U.1,an,ah,ak]
  refine aj.Mh hl ao aq ad ay rfl rfl rfl (ec _) (by simp) (λk ai=>ag k ai) (es':=(N.push {key:=.int kk n,val:=m O,born:=G},G+1)) ⟨af,D1 U.2 (by simpa using aI)⟩ (by simp[s1]) (by simp[s2]) (λi e d B F=>?_) λi en d B F=>?_
  ·rw[q1]at B;split at B
   ·injection B with B;subst B;rename_i hi;subst hi;rw[s1,hI (ec _)]at F;simp at F;subst F;exact .int _ _
   have hi:i<M.length:=by have:=(e6.1 B).1;omega
   rw[e1 hi]at F;exact ae i e d B F
  rw[q1]at B;split at B
  ·injection B with B;subst B;rename_i hi;subst hi;rw[s2,hI (ec _)]at F;simp at F;subst F;exact .inl ⟨s1,rfl,rfl⟩
  have hi:i<N.size:=(e6.1 B).1;rw[e1 (by omega)]at F;exact .inr ⟨by omega,F,en,B,rfl⟩
 have hi:(ei n M 0).getD M.length=j:=by rw[Z];simp
 rw[hi]at hl;simp only[Z,hT];rw[hT]at aw;have ah:=oo (w:=w) al aw;have aa:N[j]?=some aB:=by simpa using ab
 have ak:=mo (P:=P) (.map (N.modify j λe=>{e with key:=.int kk n,val:=m O}) G) U.1;obtain⟨af,ag⟩:=o8 (o':=.map (N.modify j λe=>{e with key:=.int kk n,val:=m O}) G) U.1;refine⟨{w with heap:=w.heap.setIfInBounds b (.map (N.modify j λe=>{e with key:=.int kk n,val:=m O}) G)},?_,?_⟩
 ·unfold Instr.mapUpdate;simp only[e8,hE aA,Result.andThen_ok,jb U.1,an,ah,aa,Option.map_some,Option.getD_some,av,stays,ak]
 refine aj.Mh hl ao aq ad ay rfl rfl rfl (ec _) (by simp) (λk ai=>ag k ai) (es':=(N.modify j λe=>{e with key:=.int kk n,val:=m O},G)) ⟨af,xd U.2 j _ (λ_ _=>rfl) (λx au Y=>by rw[aa]at Y;injection Y with Y;subst Y;exact av.symm)⟩ (by simp[s1]) (by simp[s2]) (λi e d B F=>?_) λi en d B F=>?_
 ·rw[o2]at B;split at B
  ·rename_i hi;subst hi;rw[aa]at B;simp at B;subst B;rw[aH]at F;injection F with F;subst F;exact .int _ _
  exact ae i e d B F
 rw[o2]at B;split at B
 ·rename_i hi;subst hi;rw[aa]at B;simp at B;subst B;have Y:j<vs.length:=by rw[<-s2];exact(e6.1 aa).1
  rw[e0,if_pos rfl,if_pos Y]at F;injection F with F;exact .inl ⟨rfl,rfl,F.symm⟩
 rename_i ar;rw[e0,if_neg ar]at F;exact .inr ⟨λe=>ar e.symm,F,en,B,rfl⟩
theorem adE{E:cn}{t:TypeId}{s b e sz:Nat}{z:Value}(h:fZ z.cells.toList [.slice sz []]=true)(j:kQ z=false):z=.slice none 0 0:=by
 cases z with
 |agg cs=>simp[kQ]at j
 |slice a n c=>
  simp only[Value.cells,fZ,p2]at h;unfold pL at h;split at h<;>simp_all
 |_=>simp_all [Value.cells,fZ,pL]
theorem W4(Y:ct P V.E)(U:aJ w0 I0 w I m l){t:TypeId}{x:Value}{kk:IntKind}{n:Int}{id e aj size sz ai zs:Nat}{F vs:List D}(ak:kX V.E t=some (kk,⟨sz,ai,[.slice zs []],.slice aj⟩))(au:az I m l x (.map id))(hl:l[id]?=some (.bw e size F vs none))(aa:∀q o,q≠id->l[q]?=some o->o.uc=false)(ao:nH kk F=true){els:List D}(B:match ei n F 0 with|some j=>vs[j]?=some (.slice size els)|none=>els=[]) :
  ∃v,(Instr.lookup t x (.int kk n) false).run P w=.ok v w/\(∃A c k,v=.slice A c k) /\
   let l':=l.set id (.bw e size F vs (some ((ei n F 0).getD F.length)))++[.bn e size els]
   Le I m l I (aQ m l.length v) l'/\aJ w0 I0 w I (aQ m l.length v) l':=by
 obtain⟨ax,aG,aB,ah,aC⟩:=wL Y ak;obtain⟨b,N,O,af,ag,s1,s2,ay,aA,aH,_⟩:=U.obj id _ hl;obtain⟨z,aD,aE,aF,aL⟩:=yo Y aC w;have aw:z=.slice none 0 0:=adE (E:=V.E) (t:=t) (s:=0) (b:=0) (e:=0) aE (by rw[aF];rfl);subst aw;have av:x=.map (some b):=by
  cases au with
  |map r _ G M=>
   have:=M (by unfold isRow;rw[hl];rfl);rw[O]at this;exact this.symm
 subst av;have al:∀e:Bool,(Instr.checkKey e 10000 ax (.int kk n)).run P w=.ok () w:=λe=>p0 (d:=.int kk) (n:=9999) ah (by simp[MapKept.IsKey]) e;have ad:∀r,Instr.findNow (.int kk) (.int kk n) N.1.toList 0=some r->(Instr.lookup t (.map (some b)) (.int kk n) false).run P w=.ok (match r with|some (_,v)=>v|none=>.slice none 0 0) w:=by
  intro r aq;have an:=oo (w:=w) ah aq;unfold Instr.lookup;simp only[e8,hE aB,Result.andThen_ok,Sem.run_pure,jb ag.1,al,an];cases r<;>simp[aD]
 rcases tM (kk:=kk) (n:=n) N.1.toList F 0 (by simpa using s1) (λj e d O af=>ay j e d (by simpa using O) af) ao with ⟨G,M,_⟩| ⟨j,en,G,M,aI,aK,ae⟩
 ·rw[G]at B;have B:els=[]:=B;refine⟨_,ad _ M,⟨_,_,_,rfl⟩,?_⟩;rw[G];exact U.Mj hl aa (.inr ⟨ec _,B,rfl⟩)
 rw[G]at B;have B:vs[j]?=some (.slice size els):=by simpa using B
 rw[hT]at ae;have Z:N.1[j]?=some en:=by simpa using M
 have ab:=aA j en _ Z B;have ar:∃A c k,en.val=.slice A c k:=by
  generalize en.val=u at ab;cases ab<;>exact⟨_,_,_,rfl⟩
 refine⟨_,ad _ ae,ar,?_⟩;rw[G];simp only[hT,Option.getD_some];exact U.Mj hl aa (.inl ⟨b,N,O,ag,en,Z,rfl,B⟩)
end
end Go.ak
namespace Go.Sy
open Go Go.ak
variable [aI][cH][cz][dg][bm]
section
variable {P:Program}{V:Env}{C:Cx}{o:Oper}{ops:List Oper}{ρX:Operand->TX}{ρT:Operand->T}{lX:List AX}{l:List AO}{n nid:Nat}{cs:List Callee}{ρ ρ':aU}{q:dr}
def Qh{e:TypeId}{kk:IntKind}{u:Ty}{a:AX}{G:AO}{x:X}(hv:isVal u)(aa:0<u.size)(M:bR ρ a G)(h:CW e kk u a=some x) :
  ∃m:List (Int×List u.den),x.den ρ=some ⟨.map (.int kk) (.list u),m⟩/\∀(w0:World)(I0:aD)(w:World)(I:aD)(mm:Nat->Value)(l:List AO)(id:Nat),l[id]?=some G->aJ w0 I0 w I mm l ->
   Le I mm l I mm (l.set id (.bw e u.size (m.map λp=>D.int kk p.1) (m.map λp=>(Ty.list u).enc p.2) none))/\aJ w0 I0 w I mm (l.set id (.bw e u.size (m.map λp=>D.int kk p.1) (m.map λp=>(Ty.list u).enc p.2) none)):=by
 unfold CW at h;split at h
 ·rename_i O ab N y;split at h
  ·rename_i B;obtain⟨rfl,rfl,rfl⟩:=B;simp only[c4]at h;subst h;cases M with
   |bw _ _ _ _ m h0 U j=>
    refine⟨m,j,λw0 I0 w I mm l id hl F=>?_⟩;have:l.set id (.bw O N.size (m.map λp=>D.int ab p.1) (m.map λp=>(Ty.list N).enc p.2) none)=l:=by
     refine hX λk=>?_;rw[e0];split
     ·rename_i Y;subst Y;rw[if_pos (db.1 hl).1,hl]
     rfl
    rw[this];exact⟨.refl ..,F⟩
  cases h
 ·rename_i k v ad ae;split at h
  ·rename_i B;obtain⟨rfl,rfl,rfl,rfl⟩:=B;simp only[c4]at h;subst h;cases M with
   |map _ _ _ m h0 U j=>
    have Z:m=[]:=by
     simp only[X.den]at j;injection j with j;cases j;rfl
    subst Z;exact⟨[],rfl,λw0 I0 w I mm l id hl F=>F.W7 aa hl⟩
  cases h
 cases h
def Dj(a b:AO):Prop:=a=b\/∃e s j vs k,a=.bw e s j vs k/\b=.map j vs
def Iy{w0 w:World}{I0 I:aD}{m:Nat->Value}:∀{j k:List AO}(pre:List AO),F2 Dj j k->aJ w0 I0 w I m (pre++j)->Le I m (pre++j) I m (pre++k)/\aJ w0 I0 w I m (pre++k)
 | [],[],pre,_,h=>⟨.refl ..,h⟩
 |a::r,b::M,pre,.cons h1 B,h=>by
  have e:∀(x:AO)(s:List AO),pre++x::s=(pre++[x])++s:=λx s=>by simp
  rcases h1 with rfl| ⟨el,s,ks,vs,op,rfl,rfl⟩
  ·rw[e a r]at h;have:=Iy (pre++[a]) B h;rw[e a r,e a M];exact this
  have N:(pre++AO.bw el s ks vs op::r)[pre.length]?=some (.bw el s ks vs op):=by simp
  obtain⟨F,G⟩:=h.Mo N;have O:(pre++AO.bw el s ks vs op::r).set pre.length (.map ks vs)=(pre++[.map ks vs])++r:=by simp
  rw[O]at F G;obtain⟨U,Y⟩:=Iy (pre++[.map ks vs]) B G;rw[e (.map ks vs) M];exact⟨F.trans U,Y⟩
def ac5{a:AX}{j:AO}(B:bR ρ a j):∃k,bR ρ (C6 a) k/\Dj j k:=by
 cases B with
 |bw e kk t x m h0 G F=>exact⟨_,.map (.int kk) (.list t) x m (cy rfl) (cy rfl) F,.inr ⟨_,_,_,_,_,rfl,rfl⟩⟩
 |_=>exact⟨_,by constructor<;>assumption,.inl rfl⟩
def Xw{a:AX}{j:AO}(k:bR ρ a j)(h:Fg a=false):j.uc=false:=by
 cases k<;>first|rfl|cases h|skip
 rename_i o B;cases j<;>first|rfl|cases B
theorem Qz{id:Nat}:∀{lX:List AX}{l:List AO}(i:Nat),RL ρ lX l->wT id lX i=true->∃l',RL ρ (qN id lX i) l'/\F2 Dj l l'/\(∀k,i+k=id->(qN id lX i)[k]?=lX[k]?/\l'[k]?=l[k]?)/\∀k o,i+k≠id->l'[k]?=some o->o.uc=false
 | [],[],i,_,_=>⟨[],.nil,.nil,λk _=>⟨rfl,rfl⟩,λk o _ h=>by simp at h⟩
 |a::r,b::s,i,.cons h1 Y,F=>by
  simp only[wT,dk,iv,gj]at F;obtain⟨l',G,M,aa,N⟩:=Qz (i+1) Y F.2;cases hi:Nat.beq i id with
  |true=>
   have:=eb hi;subst this;refine⟨b::l',by simp only[qN,hi,cond_true];exact .cons h1 G,.cons (.inl rfl) M,λk B=>?_,λk o B j=>?_⟩
   ·have:k=0:=by omega
    subst this;exact⟨by simp[qN,hi],rfl⟩
   cases k with
   |zero=>omega
   |succ k=>exact N k o (by omega) (by simpa using j)
  |false=>
   have af:i≠id:=λe=>by subst e;rw[h6]at hi;cases hi
   obtain⟨U,O,ab⟩:=ac5 h1;have Z:Fg (C6 a)=false:=by rcases F.1 with h|h;exact absurd h (by rw[hi];simp);exact h
   refine⟨U::l',by simp only[qN,hi,cond_false];exact .cons O G,.cons ab M,λk B=>?_,λk o B j=>?_⟩
   ·cases k with
    |zero=>omega
    |succ k=>
     obtain⟨ad,ae⟩:=aa k (by omega);exact⟨by simpa [qN,hi]using ad,by simpa using ae⟩
   cases k with
   |zero=>simp at j;subst j;exact Xw O Z
   |succ k=>exact N k o (by omega) (by simpa using j)
theorem bZ.pre{t:T}{l1 l':List AO}(M:∀(w0:World)(I0:aD)(w:World)(I:aD)(m:Nat->Value),aJ w0 I0 w I m l->Le I m l I m l1/\aJ w0 I0 w I m l1)(h:bZ P o ρT l1 t l'):bZ P o ρT l t l':=by
 refine⟨h.1,λw0 I0 w I m ρ N U=>?_⟩;obtain⟨j,O⟩:=M w0 I0 w I m N;exact(h.2 w0 I0 w I m ρ O λx G=>(U x G).mono j).mono λv w' ⟨J,m',k,B,F⟩=>⟨J,m',j.trans k,B,F⟩
def W0{t e:TypeId}(h:zX C t=some e):∃sz k z M j N B z',C.E t=some ⟨sz,k,z,.map M j⟩/\C.E j=some ⟨N,B,z',.slice e⟩:=by
 unfold zX at h;split at h
 ·rename_i F;split at h
  ·rename_i G;simp only[c4]at h;subst h;exact⟨_,_,_,_,_,_,_,_,F,G⟩
  cases h
 cases h
def W6(B:bM P V C){t e:TypeId}{kk:IntKind}{u:Ty}(ht:C.ty t=some (.map (.int kk) (.list u)))(ah:zX C t=some e):∃sz U,kX V.E t=some (kk,⟨sz,U,[.slice u.size []],.slice e⟩)/\isVal u/\0<u.size:=by
 obtain⟨i,j,an,ao,aq,k⟩:=B.map ht;obtain⟨s1,s2,aC,ax,aD,ab,ad,O,Y,Z⟩:=W0 ah;obtain⟨au,M,_,_,_,aa,_⟩:=B.info ht;rw[B.E,Y]at M;simp only[c4]at M;subst M;simp only[oH,dk,ea]at aa;obtain⟨sz,U,z',al,av,N,ay,az,aA,aj,ak,aB⟩:=B.list aa.1.1.1.1.2;rw[B.E,Z]at N;simp only[c4,TI.mk.injEq,TD.slice.injEq]at N;obtain⟨rfl,rfl,rfl,rfl⟩:=N;have F:kX V.E t=some (kk,⟨ab,ad,O,.slice e⟩):=by
  unfold kX at j⊢;rw[B.E,Y]at j⊢;simp only at j⊢;rw[Z]at j⊢;split at j
  ·rename_i aw ar ae G;injection G with G;subst G;injection j with j;injection j with af ag;subst af;subst ag
   first|rfl|rw[ae]
  cases j
 rw[j]at F;injection F with F;injection F with _ F;subst F;refine⟨ab,ad,?_,aj,ak⟩;rw[j];have ai:O=[.slice u.size []]:=by
  unfold pM at k;simp only[kx,gh,fI]at k
  match O,k with
  | [d],k=>
   simp only[lF,p2]at k;unfold vH at k;split at k<;>simp_all
  | [],k=>simp[lF]at k
  |_::_::_,k=>simp[lF]at k
 rw[ai]
theorem ZP{e sz:Nat}{α:Type}{kk:IntKind}{m:Int}{w:α}(zs:List (Int×α))(f:α->D):(match ei m (zs.map λp=>D.int kk p.1) 0 with|some j=>AO.bw e sz (zs.map λp=>D.int kk p.1) ((zs.map λp=>f p.2).set j (f w)) none|none=>AO.bw e sz ((zs.map λp=>D.int kk p.1)++[.int kk m]) ((zs.map λp=>f p.2)++[f w]) none) =
  AO.bw e sz ((aM zs m w).map λp=>D.int kk p.1) ((aM zs m w).map λp=>f p.2) none:=by
 have h:=Ov (kk:=kk) (m:=m) (w:=w) zs f;cases F:ei m (zs.map λp=>D.int kk p.1) 0 with
 |some j=>
  rw[F]at h;simp only at h⊢;injection h with k B;rw[B,<-k]
 |none=>
  rw[F]at h;simp only at h⊢;injection h with k B;rw[B,<-k]
def W9(U:bM P V C){t:TypeId}{x k:Operand}(B:o.op=.lookup t x k false)(hl:RL ρ lX l)(ah:RX ρ (ρX x) (ρT x))(Z:RX ρ (ρX k) (ρT k))(h:E2 C t lX nid (ρX x) (ρX k)=some q):q.ins=[]/\cD P o ρT l nid ρ q:=by
 unfold E2 at h;split at h
 ·rename_i kk u id a8 key aJ aq au;rw[aq]at ah;rw[au]at Z;obtain⟨m,ae,aI⟩:=gi Z;have aw:=wN ah;split at h
  ·rename_i e a aB aD;split at h
   ·rename_i y aS;split at h
    ·rename_i aG;subst aG;cases M:wT id lX 0 with
     |false=>simp[M]at h
     |true=>
      simp only[M,cond_true,c4]at h;subst h;obtain⟨sz,aZ,aP,hv,ag⟩:=W6 U (qq aJ) aB;obtain⟨an,ax,ay⟩:=F2.left hl aD;obtain⟨mm,Y,aO⟩:=Qh hv ag ay aS;obtain⟨l1,aV,al,aW,aY⟩:=Qz (id:=id) 0 hl M;obtain⟨_,aX⟩:=aW id (by omega);have ab:l1[id]?=some an:=aX.trans ax;have aE:id<l1.length:=(db.1 ab).1;have aC:(X.u3 .kf y key (.nil u)).den ρ=some ⟨.list u,ar mm m []⟩:=by
       have az:dc (.list u) ⟨.list u,([]:List u.den)⟩=some []:=gb (.list u) _;simp only[X.den,Y,ae,ov,az]
      refine⟨rfl,.row nid,.row _,_,F2.app (F2.set aV (.fA e kk u y key mm m hv ag Y ae) id) (.cons (.bn e u _ (ar mm m []) hv aC) .nil),λaK=>?_⟩;subst aK;refine bZ.pre (l1:=l1) (λw0 I0 w I N F=>by simpa using Iy [] al (by simpa using F)) ?_;refine bZ.pre (l1:=l1.set id (.bw e u.size (mm.map λp=>D.int kk p.1) (mm.map λp=>(Ty.list u).enc p.2) none)) (λw0 I0 w I N F=>aO w0 I0 w I N l1 id ab F) ?_;refine⟨by simp[B],λw0 I0 w I N O aL af=>?_⟩;have ai:=af x (by simp[B,Op.operands]);have aj:=af k (by simp[B,Op.operands]);rw[aw]at ai;rw[aI]at aj;have aR:O k=.int kk m:=by
       have ak:=cw aj;generalize O k=ba at ak;cases ak;rfl
      have aH:l.length=l1.length:=al.len;obtain⟨v,aM,⟨A,c,ao,aQ⟩,ad,F⟩:=W4 (P:=P) U.ok.E aL (n:=m) (e:=e) (size:=u.size) (els:=(ar mm m []).map u.enc) aP ai (by rw[e0,if_pos rfl,if_pos aE]) (λj aU aF B=>by
       rw[e0,if_neg (hU aF)]at B;exact aY j aU (by omega) B) (ug mm) (by
       cases aa:ei m (mm.map λp=>D.int kk p.1) 0 with
       |some j=>
        obtain⟨aT,a1,a6,av,a7,G,_⟩:=wE aa;have:j=aT:=by omega
        subst this;simp only;rw[e3,av];simp only[Option.map_some,G,wa]
       |none=>
        obtain⟨G,_⟩:=wD aa;simp only;rw[G];rfl)
      have aA:(execOp O o).run P w=.ok (.value v) w:=by unfold execOp;simp[B,aR,aM]
      rw[aA];simp only[cr];have aN:∀b:AO,(l1.set id (.bw e u.size (mm.map λp=>D.int kk p.1) (mm.map λp=>(Ty.list u).enc p.2) none)).set id b=l1.set id b:=λb=>by rw[List.set_set]
      simp only[aN,o0]at ad F;refine⟨I,_,ad,F,?_⟩;rw[aH];subst aQ;exact .row A c ao l1.length (by simp) λ_=>by rw[dH]
    cases h
   cases h
  cases h
 cases h
def YW{y:X}{u:Ty}{xs:List u.den}(h:AE y=true)(j:y.den ρ=some ⟨.list u,xs⟩):xs≠[]:=by
 unfold AE at h;split at h
 ·rename_i a b c;intro e;subst e;simp only[X.den]at j;cases k:a.den ρ with
  |none=>simp[k]at j
  |some ab=>
   cases F:b.den ρ with
   |none=>simp[k,F]at j
   |some ad=>
    cases G:c.den ρ with
    |none=>simp[k,F,G]at j
    |some ae=>
     simp only[k,F,G]at j;obtain⟨B,ag⟩:=ae;cases B with
     |list B=>
      cases hv:dc B ad with
      |none=>simp[cG,hv]at j
      |some z=>
       simp only[cG,hv]at j;obtain⟨M,af⟩:=ab;cases M with
       |list M=>
        simp only at j;split at j
        ·rename_i ys aa;have N:=oD aa;cases N;injection j with j;have O:B=u:=by injection j with Z _;injection Z
         subst O;have U:List.append af (List.cons z ag)=[]:=by injection j with _ ah
         have key:∀(α:Type)(a b:List α)(z:α),List.append a (List.cons z b)≠[]:=λα a b z h=>by
          have Y:a++z::b=[]:=h;simp at Y
         exact key _ _ _ _ U
        cases j
       |_=>simp at j
     |_=>simp[cG]at j
 cases h
def Xa(Z:bM P V C){t:TypeId}{G k x:Operand}(F:o.op=.mapUpdate t G k x)(hl:RL ρ lX l)(ad:RX ρ (ρX G) (ρT G))(ab:RX ρ (ρX k) (ρT k))(ag:RX ρ (ρX x) (ρT x))(h:E3 C t lX (ρX G) (ρX k) (ρX x)=some q):q.ins=[]/\cD P o ρT l nid ρ q:=by
 unfold E3 at h;split at h
 ·rename_i id ba key j an ao aq;rw[an]at ad;rw[ao]at ab;rw[aq]at ag;obtain⟨m,ae,aH⟩:=gi ab;have av:=wN ad;have au:=yn ag;split at h
  ·rename_i e kk u aV aU a6 bc y aE aC;split at h
   ·rename_i aD;obtain⟨rfl,rfl,rfl,aI⟩:=aD;cases B:(X.beq key aU&&AE y)with
    |false=>simp[B]at h
    |true=>
     simp only[B,cond_true,c4]at h;subst h;simp only[dk]at B;have:=X.beq_eq B.1;subst this;obtain⟨aY,aw,ax⟩:=F2.left hl aE;obtain⟨aZ,aa,ay⟩:=F2.left hl aC;cases ax with
     |fA _ _ _ _ _ mm n0 hv aP aA O=>
      rw[ae]at O;injection O with O;cases O;cases ay with
      |bn _ _ _ xs _ ah=>
       have aK:=YW B.2 ah;obtain⟨i,ar,_⟩:=Z.map (qq aI);have az:dc (.list u) ⟨.list u,xs⟩=some xs:=gb (.list u) _;have aL:(X.u3 .oZ aV key y).den ρ=some ⟨.map (.int kk) (.list u),aM mm m xs⟩:=by
        simp only[X.den,aA,ae,ah,ov,az]
       refine⟨rfl,.undef,.undef _,_,F2.set (F2.set hl .dead j) (.bw e kk u _ (aM mm m xs) hv aP aL) id,λa7=>?_⟩;refine⟨by simp[F],λw0 I0 w I M N aN U=>?_⟩;have ai:=U G (by simp[F,Op.operands]);have aj:=U k (by simp[F,Op.operands]);have Y:=U x (by simp[F,Op.operands]);rw[av]at ai;rw[aH]at aj;rw[au]at Y;have aQ:N k=.int kk m:=by
        have al:=cw aj;generalize N k=aX at al;cases al;rfl
       have aR:N x=M j:=by
        generalize N x=aX at Y;cases Y with
        |row A c a1 _ bb aW=>exact(aW (by unfold ak.isRow;rw[aa];rfl)).symm
       obtain⟨w',aO,aF,aS⟩:=W8 (P:=P) (V:=V) Z.ok.E aN (n:=m) ar ai aR aw aa (by simpa using aK) (ug mm);have aB:(execOp N o).run P w=.ok .skip w':=by unfold execOp;simp[F,aQ,aO]
       have af:=ZP (e:=e) (sz:=u.size) (kk:=kk) (m:=m) (w:=xs) mm (λx=>(Ty.list u).enc x);have a8:∀a b:AO,a=b->(l.set j .dead).set id a=(l.set j .dead).set id b:=λa b h=>by rw[h]
       have aG:Le I M l I M ((l.set j .dead).set id (.bw e u.size ((aM mm m xs).map λp=>D.int kk p.1) ((aM mm m xs).map λp=>(Ty.list u).enc p.2) none)):=by rw[<-af];exact aF
       have aT:aJ w0 I0 w' I M ((l.set j .dead).set id (.bw e u.size ((aM mm m xs).map λp=>D.int kk p.1) ((aM mm m xs).map λp=>(Ty.list u).enc p.2) none)):=by rw[<-af];exact aS
       rw[aB];simp only[cr];exact⟨I,M,aG,aT,.undef _⟩
   cases h
  cases h
 cases h
def adl(h:c6 P V):c6 P {V with sub:=true}:=⟨h.E,h.C,h.eq,h.F,h.prog⟩
def acz(B:bM P V C){t:TypeId}{x lo:Operand}(al:o.op=.slice t x (some lo) none none)(hl:RL ρ lX l)(Y:RX ρ (ρX x) (ρT x))(U:RX ρ (ρX lo) (ρT lo))(h:Ie C t lX (ρX x) (ρX lo)=some q)(hi:bY cs n ρ q.ins ρ'):cD P o ρT l nid ρ' q:=by
 unfold Ie at h;split at h
 ·rename_i s1 s2 av e u id au nx ae an aa ab;rw[aa]at Y;rw[ab]at U;obtain⟨m,F,Z⟩:=gi U;have af:=yn Y;split at h
  ·rename_i ay aF xs aj;split at h
   ·rename_i ao;subst ao;simp only[c4]at h;subst h;obtain⟨j,ar⟩:=jy hi;cases ar;obtain⟨aw,ag,ah⟩:=F2.left hl aj;cases ah with
    |row _ _ _ zs aC aq=>
     obtain⟨sz,ax,z',az,i,k,G,ad,aA,aB,aD,aE⟩:=B.list an;have M:V.E t=some ⟨s1,s2,av,.slice e⟩:=by rw[B.E];exact ae
     rw[M]at k;simp only[c4,TI.mk.injEq,TD.slice.injEq]at k;obtain⟨rfl,rfl,rfl,rfl⟩:=k;have O:(gF xs).den ρ=some ⟨.int .i64,(zs.length:Int)⟩:=by simp only[gF,X.den,aq,gz]
     have N:0<=m/\m<=zs.length:=by
      simp only[X.den,iX,F,O,cG]at j;have j:(leI 0 m&&leI m (zs.length:Int))=true:=fH j;simpa using j
     have ai:evalOp {V with sub:=true} ρT l nid o=⟨.sub id m.toNat zs.length,.aQ l,0<=m/\m<=zs.length⟩:=by
      simp only[evalOp,al,M,af,Option.map_some,Option.map_none,hK,mf,ag,Z,dM,hP];rw[if_pos ⟨by simp[bJ,G,ad],by rw[G];rfl⟩]
     exact⟨_,.sub id nx (gF xs) au .i64 m zs.length N.1 F O,l,hl,λak=>bZ.aQ (adl B.ok) ai N rfl ak⟩
   cases h
  cases h
 cases h
def Vg(F:bM P V C){c:Call}{t:TypeId}{x:Operand}(aA:o.op=.call c)(U:c.callee=.builtin .clear)(ao:c.args.toList=[x])(av:c.argTypes.toList=[t])(hl:RL ρ lX l)(Y:RX ρ (ρX x) (ρT x))(h:DX C t lX (ρX x)=some q)(hi:bY cs n ρ q.ins ρ'):cD P o ρT l nid ρ' q:=by
 have B:evalOp V ρT l nid o=mA V.E t l (ρT x):=by simp only[evalOp,aA,U,ao,av]
 unfold DX at h;split at h
 ·rename_i s1 s2 aH e u id lo aw an aD ai;rw[ai]at Y;split at h
  ·rename_i ah k xs z ax aF;split at h
   ·rename_i aE;subst aE;cases O:X.beq aw (gF xs)with
    |false=>simp[O]at h
    |true=>
     simp only[O,cond_true,c4]at h;subst h;have:=X.beq_eq O;subst this;cases hi;generalize aP:ρT x=aY at B Y;cases Y with
     |sub _ _ _ aV aW m aR aX ag M=>
      obtain⟨aK,aq,au⟩:=F2.left hl ax;cases au with
      |row _ _ _ zs aN af=>
       obtain⟨sz,aL,z',aM,i,N,aa,aj,ak,ab,aO,al⟩:=F.list aD;have ad:V.E t=some ⟨s1,s2,aH,.slice e⟩:=by rw[F.E];exact an
       rw[ad]at N;simp only[c4,TI.mk.injEq,TD.slice.injEq]at N;obtain⟨rfl,rfl,rfl,rfl⟩:=N;obtain⟨aU,G,aS,aT,hv,_,aG⟩:=F.info al;rw[aa]at G;injection G with G;subst G;obtain⟨Z,aI,aJ⟩:=Df (ρ:=ρ) ab aG ak aF;have ae:(gF xs).den ρ=some ⟨.int .i64,(zs.length:Int)⟩:=by simp only[gF,X.den,af,gz]
       rw[ae]at M;injection M with M;cases M;have aB:(X.u2 .rep (.u2 (.sub .i64) (gF xs) lo) z).den ρ=some ⟨.list k,List.replicate (zs.length-m.toNat) Z⟩:=by
        have:((zs.length:Int)-m).toNat=zs.length-m.toNat:=by omega
        rw[<-this];simp only[X.den,ae,ag,aI,cG];rfl
       have aC:(X.u2 .take xs lo).den ρ=some ⟨.list k,zs.take m.toNat⟩:=by simp only[X.den,af,ag,cG]
       have ar:=Dv aC aB;simp only[mA,ad,aa,aq]at B;rw[if_pos ⟨aj.symm,by simp,by omega⟩,aJ]at B;have ay:List.take m.toNat (zs.map k.enc)++List.replicate ((zs.length:Int).toNat-m.toNat) (k.enc Z)=(zs.take m.toNat++List.replicate (zs.length-m.toNat) Z).map k.enc:=by simp[nh,List.map_take]
       rw[ay]at B;exact⟨_,.fV [] [] rfl (λj c d U=>by simp at U),_,F2.set hl (.row ah k _ _ ab ar) id,λaz=>bZ.aQ F.ok B trivial rfl az⟩
   cases h
  cases h
 cases h
theorem Eo(G:bM P V C)(aa:fG P C cs)(hl:RL ρ lX l)(F:∀x∈o.op.operands,RX ρ (ρX x) (ρT x))(Y:∀g ls,aI.ez g=some ls->ρT (.global g)=.bu ls.length [.agg (ls.map (.int .i64))] 0 0)(Z:Ext ρ ρ')(h:rn C ops ρX lX n nid o=some q)(hi:bY cs n ρ q.ins ρ'):cD P o ρT l nid ρ' q:=by
 unfold rn at h;split at h
 ·rename_i N j;injection h with h;subst h;have key:(N.ins=[]/\cD P o ρT l nid ρ N)\/cD P o ρT l nid ρ' N:=by
   unfold Ml at j;split at j
   ·rename_i t x k B;split at j
    ·cases M:LA ops _ with
     |false=>rw[M]at j;cases j
     |true=>
      rw[M]at j;exact .inl (W9 G B hl (F x (by simp[B,Op.operands])) (F k (by simp[B,Op.operands])) j)
    cases j
   ·rename_i t ab k x B;exact .inl (Xa G B hl (F ab (by simp[B,Op.operands])) (F k (by simp[B,Op.operands])) (F x (by simp[B,Op.operands])) j)
   ·rename_i t x lo B;split at j
    ·cases M:KF ops _ with
     |false=>rw[M]at j;cases j
     |true=>
      rw[M]at j;exact .inr (acz G B hl (F x (by simp[B,Op.operands])) (F lo (by simp[B,Op.operands])) j hi)
    cases j
   ·rename_i c B;split at j
    ·rename_i x t U O ht;exact .inr (Vg G B U O ht hl (F x (by simp[B,Op.operands,Call.operands,U,<-hV,O])) j hi)
    cases j
   cases j
  rcases key with ⟨k1,k2⟩|k2
  ·rw[k1]at hi;cases hi;exact k2
  exact k2
 exact We G aa hl F Y Z h hi
end
end Go.Sy
namespace Go.Sy
open Go Go.ak
variable [aI][cH][cz][dg][bm][bS]
section
variable {s:St}
def Sub.VB(j:Nat){d:D}{l':List AO}(h:dw s.l (get s.t j)=some (d,l')):Sub s ⟨(j,.d d)::s.t,l'⟩:=by
 intro w0 I0 n a w O;obtain⟨G,I,m,N,M,B⟩:=O;obtain⟨J,F,Y,U,_⟩:=sG N (B j) h;refine⟨G,J,m,Y,M.mono F.du,λk=>?_⟩;show az J m l' _ (if j=k then .d d else ak.get s.t k);split
 ·rename_i e;subst e;exact .d _ _ U
 exact(B k).mono F
def Qg{l:List AO}{t:T}{d:D}{l':List AO}{id:Nat}{ty:TypeId}{cs:List T}(hl:l[id]?=some (.var ty cs))(h:dw l t=some (d,l')):l'[id]?=some (.var ty cs):=by
 have:=CV h id (by unfold ak.isVar;rw[hl];rfl);rw[this];exact hl
def Sub.VD(id k:Nat){ty:TypeId}{cs:List T}{t:T}{d:D}{l':List AO}(ab:s.l[id]?=some (.var ty cs))(M:cs[k]?=some t)(h:dw s.l t=some (d,l')):Sub s ⟨s.t,l'.set id (.var ty (cs.set k (.d d)))⟩:=by
 intro w0 I0 n a w ao;obtain⟨aj,I,m,Z,ak,al⟩:=ao;obtain⟨b,vs,Y,av,af,ag,ah,aw⟩:=Z.obj id _ ab;have O:k<vs.size:=by rw[ag];exact(db.1 M).1
 obtain⟨J,aa,ai,aq,_⟩:=sG Z (ah k _ _ (e5 O) M).1 h;have U:=Qg ab h;have N:Le J m l' J m (l'.set id (.var ty (cs.set k (.d d)))):=Le.setKind U rfl rfl (λe size els h=>by rcases h with h|h<;>cases h);obtain⟨b,ax,B,ar,G,au,ad,ae⟩:=ai.obj id _ U;rw[Y]at B;injection B with B;injection B with B;injection B with B;subst B;rw[af]at G;injection G with G;injection G with G _ _;subst G;refine⟨aj,J,m,ai.lD U (by simp) (b:=_) (by rw[Y];rfl) ae rfl rfl N rfl rfl rfl (ec _) (ec _) (λ_ _=>rfl) ⟨_,vs,Y,ar,af,by simpa using ag,λi x t F ht=>?_,ae⟩,ak.mono aa.du,λj=>((al j).mono aa).mono N⟩;rw[e0]at ht;split at ht
 ·rename_i an;subst an;split at ht
  ·injection ht with ht;subst ht;rw[e5 O]at F;injection F with F;subst F;exact⟨.d _ _ aq,(ah k _ _ (e5 O) M).2⟩
  cases ht
 exact⟨(ad i x t F ht).1.mono N,(ad i x t F ht).2⟩
def Sub.WS{id e size:Nat}{els:List D}(j:s.l[id]?=some (.row e size els)):Sub s ⟨s.t,s.l.set id (.bn e size els)⟩:=by
 intro w0 I0 n a w O;obtain⟨G,I,m,B,M,N⟩:=O;obtain⟨xs,Y,aa,ab,ad⟩:=B.obj id _ j;obtain⟨_,A,Z,c,hv⟩:=uz Y;have ht:az I m s.l (m id) (.row id):=by
  rw[hv];exact .row A Z c id (db.1 j).1 (λ_=>hv)
 obtain⟨J,F,U,_,_⟩:=sG B ht (x:=.slice size els) (l':=s.l.set id (.bn e size els)) (by simp only[dw,cO,j]);exact⟨G,J,m,U,M.mono F.du,λk=>(N k).mono F⟩
end
section
variable {P:Program}{V:Env}{C:Cx}{ρ ρ':aU}{σ bA:Sk}{s:St}
def PB:∀(t:List (Nat×TX))(j:Nat)(x:TX)(k:Nat),ba (mT j x t) k=ba t k\/(k=j/\ba (mT j x t) k=x)
 | [],j,x,k=>Or.inl rfl
 | (i,u)::r,j,x,k=>by
  simp only[mT];cases F:Nat.beq i j with
  |true=>
   have:=eb F;subst this;simp only[cond_true,ba];cases B:Nat.beq i k with
   |true=>exact .inr ⟨(eb B).symm,by simp⟩
   |false=>exact .inl (by simp)
  |false=>
   simp only[cond_false,ba];cases B:Nat.beq i k with
   |true=>exact .inl (by simp)
   |false=>simpa using PB r j x k
def bh.slot{j:Nat}{x:TX}{u:T}{lX:List AX}{l':List AO}(h:∀k,RX ρ (ba σ.t k) (get s.t k))(G:RX ρ x u)(N:ep σ.n ρ)(hl:RL ρ lX l'):bh ρ ⟨σ.n,mT j x σ.t,lX⟩ ⟨(j,u)::s.t,l'⟩:=by
 refine⟨N,λk=>?_,hl⟩;show RX ρ (ba (mT j x σ.t) k) (if j=k then u else get s.t k);rcases PB σ.t j x k with e| ⟨rfl,e⟩
 ·by_cases F:j=k
  ·subst F;rw[if_pos rfl];rcases M σ.t j x with e2|e2
   ·rw[e2];exact G
   rw[e2];exact .undef _
  rw[if_neg F,e];exact h k
 rw[if_pos rfl,e];exact G
where M:∀(t:List (Nat×TX))(j:Nat)(x:TX),ba (mT j x t) j=x\/ba (mT j x t) j=.undef
 | [],j,x=>.inr rfl
 | (i,u)::r,j,x=>by
  simp only[mT];cases B:Nat.beq i j with
  |true=>simp only[cond_true,ba,B];exact .inl trivial
  |false=>simp only[cond_false,ba,B];exact M r j x
def Ja(
          h:bh ρ σ s){p:Pl}{c:Co}(B:pS σ p c=some bA):∃s',Sub s s'/\bh ρ bA s'/\bA.n=σ.n:=by
 cases c with
 |s7 e t=>
  simp only[pS]at B;cases hv:dN t with
  |false=>simp[hv]at B
  |true=>
   simp only[hv,pb,cond_false]at B;split at B
   ·rename_i z G;simp only[c4]at B;subst B;have aq:σ.l.length=s.l.length:=h.l.len;cases p with
    |obj id=>cases G
    |slot j=>
     have ax:get s.t j=.bq z:=by
      have:=h.t j;simp only[np]at G;rw[G]at this;exact AB this
     refine⟨_,Sub.s7 j e t.size ax,?_,rfl⟩;show bh ρ ⟨σ.n,mT j (.row σ.l.length) σ.t,_⟩ _;rw[aq];exact bh.slot h.t (.row _) h.eC (F2.app h.l (.cons (.row e t _ ([]:List t.den) (cy hv) rfl) .nil))
    |cell id k=>
     simp only[np]at G;cases F:σ.l[id]? with
     |none=>simp[F]at G
     |some ar=>
      obtain⟨aa,N,O⟩:=F2.left h.l F;cases O with
      |var ty xs ts ad=>
       simp only[F]at G;have ay:xs[k]?=some (.bq z):=by
        cases U:xs[k]? with
        |none=>rw[U]at G;simp at G
        |some y=>rw[U]at G;simp at G;rw[G]
       obtain⟨u,al,ak⟩:=ad.left ay;have:=AB ak;subst this;refine⟨_,Sub.IY id k e t.size N al,?_,?_⟩
       ·have aw:(σ.l++[AX.row false e t (.nil t)])[id]?=some (.var ty xs):=by
         rw[e1 (db.1 F).1];exact F
        simp only[vp,aw];refine⟨h.eC,h.t,?_⟩;rw[aq];exact F2.set (F2.app h.l (.cons (.row e t _ ([]:List t.den) (cy hv) rfl) .nil)) (.var ty _ _ (ad.set (.row _) k)) id
       simp only[vp];split<;>rfl
      |_=>simp[F]at G
   cases B
 |data t=>
  simp only[pS]at B;cases hv:dN t with
  |false=>simp[hv]at B
  |true=>
   simp only[hv,pb,cond_false]at B;split at B
   ·rename_i x l' M;simp only[c4]at B;subst B;cases p with
    |obj id=>simp[np,mg,gQ]at M
    |slot j=>
     simp only[np]at M;obtain⟨v,aD,ao,ae,af⟩:=CU h.l (h.t j) M;exact⟨_,Sub.VB j ae,bh.slot h.t (.d t x v (cy hv) ao) h.eC af,rfl⟩
    |cell id k=>
     simp only[np]at M;cases F:σ.l[id]? with
     |none=>simp only[F]at M;simp[mg,gQ]at M
     |some ar=>
      obtain⟨aa,N,O⟩:=F2.left h.l F;cases O with
      |var ty xs ts ad=>
       simp only[F]at M;cases U:xs[k]? with
       |none=>rw[U]at M;simp[mg,gQ]at M
       |some y=>
        rw[U]at M;obtain⟨u,al,ak⟩:=ad.left U;obtain⟨v,aD,ao,ae,af⟩:=CU h.l ak M;refine⟨_,Sub.VD id k N al ae,?_,?_⟩
        ·have az:=Qg N ae;obtain⟨aE,av,au⟩:=F2.right af az;simp only[vp];cases au with
         |var _ aF _ aC=>
          simp only[av];exact⟨h.eC,h.t,F2.set af (.var ty _ _ (aC.set (.d t x v (cy hv) ao) k)) id⟩
         |eI _ U=>cases U
        simp only[vp];split<;>rfl
      |_=>simp only[F]at M;simp[mg,gQ]at M
   cases B
 |zT=>
  simp only[pS]at B;split at B
  ·rename_i id G;split at B
   ·rename_i e t x F;simp only[c4]at B;subst B;obtain⟨aa,N,O⟩:=F2.left h.l F;cases O with
    |row _ _ _ zs h0 Z=>exact⟨_,Sub.WS N,⟨h.eC,h.t,F2.set h.l (.bn e t x zs h0 Z) id⟩,rfl⟩
   cases B
  cases B
 |grow e kk t=>
  simp only[pS]at B;split at B
  ·rename_i id G;split at B
   ·rename_i a F;split at B
    ·rename_i x Z;cases hv:(dN t&&Nat.ble 1 t.size)with
     |false=>simp[hv]at B
     |true=>
      simp only[hv,cond_true,c4]at B;subst B;simp only[dk]at hv;obtain⟨aa,N,O⟩:=F2.left h.l F;obtain⟨m,aA,aB⟩:=Qh (cy hv.1) (hg hv.2) O Z;exact⟨⟨s.t,s.l.set id (.bw e t.size (m.map λp=>D.int kk p.1) (m.map λp=>(Ty.list t).enc p.2) none)⟩,λw0 I0 n a w aj=>by
       obtain⟨ag,I,m',ah,ab,ai⟩:=aj;obtain⟨Y,an⟩:=aB w0 I0 w I m' s.l id N ah;exact⟨ag,I,m',an,ab.mono Y.du,λk=>(ai k).mono Y⟩,⟨h.eC,h.t,F2.set h.l (.bw e kk t x m (cy hv.1) (hg hv.2) aA) id⟩,rfl⟩
    cases B
   cases B
  cases B
 |C5=>
  simp only[pS]at B;split at B
  ·rename_i id G;split at B
   ·rename_i e kk t x F;simp only[c4]at B;subst B;obtain⟨aa,N,O⟩:=F2.left h.l F;cases O with
    |bw _ _ _ _ m h0 ab Z=>
     exact⟨⟨s.t,s.l.set id (.map (m.map λp:Int×List t.den=>D.int kk p.1) (m.map λp:Int×List t.den=>(Ty.list t).enc p.2))⟩,λw0 I0 n a w aj=>by
      obtain⟨ag,I,m',ah,ab,ai⟩:=aj;obtain⟨Y,an⟩:=ah.Mo N;exact⟨ag,I,m',an,ab.mono Y.du,λk=>(ai k).mono Y⟩,⟨h.eC,h.t,F2.set h.l (.map (.int kk) (.list t) x m (cy rfl) (cy rfl) Z) id⟩,rfl⟩
   cases B
  cases B
def Sub.trans'{a b c:St}(h:Sub a b)(k:Sub b c):Sub a c:=λw0 I0 n x w j=>k w0 I0 n x w (h w0 I0 n x w j)
def Yx:∀(f:Nat){A B F j:Sk}{ps:ky}{s:St},bh ρ B s->meet f A B=some (F,j,ps)->∃s',Sub s s'/\bh ρ j s'/\j.n=B.n:=by
 intro f;induction f with
 |zero=>intro A B F j ps s _ h;simp[meet]at h
 |succ f M=>
  intro A B F j ps s G h;simp only[meet]at h;split at h
  ·simp only[c4,et]at h;obtain⟨_,rfl,_⟩:=h;exact⟨s,Sub.refl s,G,rfl⟩
  rename_i ag ah af N _;split at h
  ·rename_i ad ae _ k;cases N with
   |none=>
    simp only[zB,c4]at k;subst k;exact M G h
   |some c=>
    simp only[zB]at k;obtain⟨s1,O,U,Y⟩:=Ja G k;obtain⟨s2,Z,aa,ab⟩:=M U h;exact⟨s2,Sub.trans' O Z,aa,ab.trans Y⟩
  cases h
def nE(id:Nat):∀(ids:List Nat)(k:Nat),tW id ids k=ak.idx id ids k
 | [],k=>rfl
 |x::xs,k=>by
  simp only[tW,ak.idx];by_cases h:x=id
  ·subst h;simp
  have:Nat.beq x id=false:=by
   cases e:Nat.beq x id with
   |false=>rfl
   |true=>exact absurd (eb e) h
  rw[this,if_neg h];exact nE id xs (k+1)
def OV{ids:List Nat}{c:TX}{t:T}(h:RX ρ c t)(B:rB c=true):RX ρ (CC ids c) (t.sy ids):=by
 cases h with
 |d t x v j k=>exact .d t x v j k
 |ptr id off=>
  simp only[CC,T.sy,fF,nE];cases ak.idx id ids 0<;>constructor
 |bj id=>
  simp only[CC,T.sy,fF,nE];cases ak.idx id ids 0<;>constructor
 |_=>simp[rB]at B
def py{ids:List Nat}{c:TX}{t:T}(h:RX ρ c t):RX ρ (px ids c) (t.cY ids):=by
 cases h with
 |d t x v B F=>exact .d t x v B F
 |undef t=>exact .undef _
 |gone=>exact .undef _
 |bq s=>exact .bq s
 |ej=>exact .ej
 |ptr id off=>simp only[px,T.cY,fF,nE];cases ak.idx id ids 0<;>constructor
 |bu t e b off size els k v B F G M N O=>exact .bu t e b off size els k v B F G M N O
 |row id=>simp only[px,T.cY,fF,nE];cases ak.idx id ids 0<;>constructor
 |bx id k off kk n B=>
  simp only[px,T.cY,fF,nE];cases ak.idx id ids 0 with
  |some j=>exact .bx _ k off kk n B
  |none=>exact .undef _
 |map id=>simp only[px,T.cY,fF,nE];cases ak.idx id ids 0<;>constructor
 |bj id=>simp only[px,T.cY,fF,nE];cases ak.idx id ids 0<;>constructor
 |cC id n=>simp only[px,T.cY,fF,nE];cases ak.idx id ids 0<;>constructor
 |bI id t x xs B=>
  simp only[px,T.cY,nE];cases ak.idx id ids 0 with
  |some j=>exact .bI _ t x xs B
  |none=>exact sA B
 |sub=>exact .undef _
 |agg cs ts B F=>exact .undef _
 |iN cs ds B F=>exact .undef _
 |aL cs ts B F=>exact .undef _
 |fV cs ds B F=>exact .undef _
 |aH f cs ts B F=>exact .undef _
 |iW f cs ds B F=>exact .undef _
def CD{ids:List Nat}{c:TX}{t:T}(h:RX ρ c t):RX ρ (c.re ids) (t.bV ids):=by
 cases h with
 |d t x v B F=>exact .d t x v B F
 |undef t=>exact .undef _
 |gone=>exact .undef _
 |bq s=>exact .bq s
 |ej=>exact .ej
 |ptr id off=>exact py (.ptr id off)
 |bu t e b off size els k v B F M O Z aa=>exact .bu t e b off size els k v B F M O Z aa
 |row id=>exact py (.row id)
 |bx id k off kk n B=>exact py (.bx id k off kk n B)
 |map id=>exact py (.map id)
 |bj id=>exact py (.bj id)
 |cC id n=>exact py (.cC id n)
 |bI id t x xs B=>exact py (.bI id t x xs B)
 |sub=>exact .undef _
 |agg cs ts B F=>
  refine .agg _ _ (by simpa using B) λi c t j ht=>?_;simp only[e3,e4]at j ht;obtain⟨G,j,rfl⟩:=j;obtain⟨t',ht,rfl⟩:=ht;exact py (F i G t' j ht)
 |iN cs ds B F=>
  refine .iN _ _ (by simpa using B) λi c d j U=>?_;simp only[e3,e4]at j;obtain⟨G,j,rfl⟩:=j;exact py (ids:=ids) (F i G d j U)
 |aL cs ts B F=>
  simp only[TX.re];cases N:cs.all Aa with
  |false=>exact .undef _
  |true=>
   have:ts.all T.data=true:=by
    rw[ek]at N⊢;intro t ht;obtain⟨i,hi,rfl⟩:=hF.1 ht;have j:cs[i]?=some (cs[i]'(by omega)):=c5 (by omega);have M:=F i _ _ j (c5 hi);have O:=N _ (ie (by omega:i<cs.length));generalize cs[i]'(by omega)=c at M O;generalize ts[i]=t at M;cases M<;>first|rfl| (simp[Aa]at O;done)
   simp only[cond_true,T.bV,this,hK];exact .aL cs ts B F
 |fV cs ds B F=>
  simp only[TX.re];cases N:cs.all Aa with
  |false=>exact .undef _
  |true=>exact .fV cs ds B F
 |aH f cs ts B F=>
  simp only[TX.re];cases N:cs.all rB with
  |false=>exact .undef _
  |true=>
   have Y:∀(i:Nat) c,cs[i]?=some c->rB c=true:=λi c j=>by
    rw[ek]at N;exact N c (dd j)
   have:ts.all T.flat=true:=by
    rw[ek];intro t ht;obtain⟨i,hi,rfl⟩:=hF.1 ht;have j:cs[i]?=some (cs[i]'(by omega)):=c5 (by omega);have M:=F i _ _ j (c5 hi);have O:=Y i _ j;generalize cs[i]'(by omega)=c at M O;generalize ts[i]=t at M;cases M<;>first|rfl| (simp[rB]at O;done)
   have e:(T.aH f ts).bV ids=.aH f (ts.map (T.sy ids)):=by
    simp only[T.bV,T.cY,this,hK]
   rw[e];refine .aH f _ _ (by simpa using B) λi c t j ht=>?_;simp only[e3,e4]at j ht;obtain⟨G,j,rfl⟩:=j;obtain⟨t',ht,rfl⟩:=ht;exact OV (F i G t' j ht) (Y i G j)
 |iW f cs ds B F=>
  simp only[TX.re];cases N:cs.all rB with
  |false=>exact .undef _
  |true=>
   refine .iW f _ _ (by simpa using B) λi c d j U=>?_;simp only[e3,e4]at j;obtain⟨G,j,rfl⟩:=j;rw[ek]at N;exact OV (ids:=ids) (F i G d j U) (N G (dd j))
def wU:∀{ids:List Nat},r7 ids=true->ids.Nodup
 | [],_=>List.nodup_nil
 |x::xs,h=>by
  simp only[r7,dk,gj]at h;refine h5.2 ⟨λj=>?_,wU h.2⟩;have:(xs.any λy=>Nat.beq x y)=true:=hM.2 ⟨x,j,h6 x⟩;rw[this]at h;simp at h
def Rj{ids:List Nat}{a:AX}{o:AO}(h:bR ρ a o):bR ρ (a.re ids) (o.bV ids):=by
 cases h with
 |dead=>exact .dead
 |var ty cs ts B=>
  refine .var ty _ _ (F2.of (by simp[B.len]) λi c t G ht=>?_);simp only[e3,e4]at G ht;obtain⟨O,G,rfl⟩:=G;obtain⟨t',ht,rfl⟩:=ht;exact CD (B.get G ht)
 |row e t x xs h0 B=>exact .row e t x xs h0 B
 |bn e t x xs h0 B=>exact .bn e t x xs h0 B
 |map k v x m h0 F B=>exact .map k v x m h0 F B
 |dJ k v x m h0 F B=>exact .dJ k v x m h0 F B
 |bw e kk t x m h0 F B=>exact .bw e kk t x m h0 F B
 |fA e kk t x k m n h0 F B N=>exact .fA e kk t x k m n h0 F B N
 |dx j b rs vals ft B F=>exact .dx j b rs vals ft B F
 |lp j b rs st k ps bc M tm B F=>exact .lp j b rs st k ps bc M tm B F
 |eI o h=>exact(by cases o<;>first|exact .eI _ h|cases h)
def zY(f:TX->TX)(j:f .undef=.undef):∀(t:List (Nat×TX))(k:Nat),ba (t.map λp=>(p.1,f p.2)) k=f (ba t k)
 | [],k=>j.symm
 | (i,u)::r,k=>by
  simp only[e7,ba];cases Nat.beq i k with
  |true=>rfl
  |false=>exact zY f j r k
def Sk.HA{ids:List Nat}(h:bh ρ σ s)(ai:ids.Nodup)(Y:oN ids σ.l=true):∃s':St,(sV ids s.l/\cN ids s.l=s'.l/\kL ids s.t s'.t)/\bh ρ (σ.re ids) s':=by
 have ae:sV ids s.l:=by
  intro id af o b t ab Z;unfold oN at Y;rw[ek]at Y;have:=Y id af;obtain⟨a,M,U⟩:=F2.right h.l ab;rw[M]at this;have fin:∀rs,(Nat.ble b ids.length&&rs.all λr=>Nat.blt r b&&(match ids[r]? with|some i=>Nat.beq i r|none=>false))=true->nf t rs->b<=ids.length/\∀k,∀r∈eB (ak.get t k),r<b/\ids[r]?=some r:=by
   intro rs B F;rw[dk,ek]at B;refine⟨hg B.1,λk r ag=>?_⟩;have N:=B.2 r (F k r ag);rw[dk]at N;refine⟨hg N.1,?_⟩;have O:=N.2;split at O
   ·rename_i i hi;have:=eb O;subst this;exact hi
   cases O
  cases U with
  |dx j ad rs vals ft B F=>cases Z;exact fin rs this F
  |lp j ad rs st k ps bc ah tm B F=>cases Z;exact fin rs this F
  |eI o h=>cases this
  |_=>cases Z
 refine⟨⟨σ.t.map λp=>(p.1,(ak.get s.t p.1).bV ids),cN ids s.l⟩,⟨ae,rfl,?_⟩,h.eC,λk=>?_,?_⟩
 ·have:∀(r:List (Nat×TX)),kL ids s.t (r.map λp=>(p.1,(ak.get s.t p.1).bV ids)):=by
   intro r;induction r with
   |nil=>trivial
   |cons p r G=>exact⟨rfl,G⟩
  exact this _
 ·show RX ρ (ba (σ.t.map λp=>(p.1,p.2.re ids)) k) _;rw[zY (TX.re ids) rfl];have key:∀(r:List (Nat×TX)),(ak.get (r.map λp=>(p.1,(ak.get s.t p.1).bV ids)) k=(ak.get s.t k).bV ids)\/ba r k=.undef:=by
   intro r;induction r with
   |nil=>exact .inr rfl
   |cons p r G=>
    obtain⟨i,u⟩:=p;simp only[e7,ak.get,ba];by_cases aa:i=k
    ·subst aa;rw[if_pos rfl];exact .inl rfl
    have:Nat.beq i k=false:=by
     cases e:Nat.beq i k with
     |false=>rfl
     |true=>exact absurd (eb e) aa
    rw[if_neg aa,this];exact G
  rcases key σ.t with e|e
  ·rw[e];exact Go.Sy.CD (h.t k)
  rw[e];exact .undef _
 show F2 (bR ρ) (ids.map λid=>((σ.l[id]?).getD .dead).re ids) (ids.map λid=>((s.l[id]?).getD .dead).bV ids);have:∀is:List Nat,F2 (bR ρ) (is.map λid=>((σ.l[id]?).getD .dead).re ids) (is.map λid=>((s.l[id]?).getD .dead).bV ids):=by
  intro is;induction is with
  |nil=>exact .nil
  |cons id is G=>
   refine .cons (Rj ?_) G;cases M:σ.l[id]? with
   |none=>rw[F2.none h.l M];exact .dead
   |some a=>
    obtain⟨o,ab,U⟩:=F2.left h.l M;rw[ab];exact U
 exact this ids
def Sk.CD{ids:List Nat}(h:bh ρ σ s)(j:r7 ids=true)(M:oN ids σ.l=true):∃s',Sub s s'/\bh ρ (σ.re ids) s':=by
 obtain⟨s',⟨k,B,F⟩,G⟩:=Sk.HA h (wU j) M;exact⟨s',acy ids (wU j) k B F,G⟩
end
end Go.Sy
