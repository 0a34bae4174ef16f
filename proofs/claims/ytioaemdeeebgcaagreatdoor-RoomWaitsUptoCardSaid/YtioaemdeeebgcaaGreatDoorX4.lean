import Derived.Test.YtioaemdeeebgcaaGreatDoorX3
set_option linter.all false
namespace Go.Sy
open Go Go.af
variable [au][bK][bB][bV][aL]
section
variable {P:Program}{V:Env}{C:Cx}{o:Oper}{ρX:Operand→TX}{ρT:Operand→T}{lX:List AX}{l:List AO}{n nid:Nat}{cs:List Callee}{ρ ae:az}{q:bL}
theorem ed{a b:Ty.den .bool}(h:(some (⟨.bool,a⟩:Sy.V))=some ⟨.bool,b⟩):a=b:=by
 injection h with h
 injection h
theorem M1{k xs:X}{m:Int}{kk:IntKind}{t:Ty}{zs:List t.den}(j:k.den ρ=some ⟨.int kk,m⟩)(B:xs.den ρ=some ⟨.list t,zs⟩)(h:(gX k (ff xs)).den ρ=some ⟨.bool,true⟩):0≤m∧m<zs.length:=by
 simp only[gX,ff,iX,X.den,j,B,dp,bF]at h
 have h:(aB 0 m&&ai m (zs.length:Int))=true:=ed h
 simpa using h
theorem fE{x:X}{r:List Ins}(h:bp cs n ρ (.aW x::r) ae):x.den ρ=some ⟨.bool,true⟩∧bp cs n ρ r ae:=by
 cases h with|aW _ _ _ _ _ j k=>exact⟨j,k⟩
theorem M4(Z:bb P V C){t:TypeId}{x i:Operand}(az:o.op=.indexAddr t x i)(ax:RL ρ lX l)(aA:RX ρ (ρX x) (ρT x))(ai:RX ρ (ρX i) (ρT i))(h:xv C t lX n (fy (ρX x)) (ρX i)=some q)(hi:bp cs n ρ q.ins ae)(aw:Ext ρ ae):bm P o ρT l nid ae q:=by
 have aP:=aw
 have B:evalOp V ρT l nid o=iQ V.E t l (unbox (ρT x)) (ρT i):=by simp only[evalOp,az]
 have M:=Ag aA
 rw[Z.E]at B
 unfold xv at h
 generalize fy (ρX x)=A at h M
 generalize aN:unbox (ρT x)=al at B M
 split at h
 ·rename_i s1 aU aV e kk k hE aq
  rw[aq]at ai
  obtain⟨m,ad,ay⟩:=eI ai
  have ab:cL (ρT i)=some (kk,m):=by rw[ay];rfl
  cases A with
  |d aJ xs=>
   cases aJ with
   |list u=>
    simp only at h
    obtain⟨zs,aB,aC⟩:=xK M
    cases j:(Nat.beq (aE C.E e) u.size&&Nat.ble 1 u.size&&cF u)with
    |false=>simp[j]at h
    |true=>
     simp only[j,cond_true,Option.some.injEq]at h
     subst h
     simp only[Bool.and_eq_true]at j
     have Y:=Nat.eq_of_beq_eq_true j.1.1;have an:=Nat.le_of_ble_eq_true j.1.2
     cases hi with
     |get _ _ _ _ _ _ t2 aT aR aQ G O U aH aI=>
      cases aI
      rw[aB]at O;injection O with O;cases O
      rw[ad]at U;injection U with U;cases U
      obtain⟨aD,aF,aG⟩:=pR aH
      have ah:=wE aG
      rw[aC]at B
      simp only[iQ,hE,ab]at B
      rw[if_pos ⟨Y.symm,by omega⟩]at B
      have aj:isVal u:=bx j.2
      exact .val Z.ok B ⟨aD,by simp;omega⟩ rfl (.aS u (.var n) 0 0 u.size _ m.toNat G aj (fg n ⟨u,G⟩ ρ) (by simpa using aF) (by rw[ah,List.drop_zero,List.take_of_length_le (by rw[gy aj];exact Nat.le_refl _)]) (by omega) (λ_ _=>ah))
   |_=>simp at h
  |row id=>
   have au:al=.row id:=by cases M;rfl
   rw[au]at B
   simp only at h
   cases aa:lX[id]? with
   |none=>simp[aa]at h
   |some aL=>
    obtain⟨aK,ag,av⟩:=F2.left ax aa
    simp only[aa]at h
    have ak:∀(u:Ty)(y:X)(zs:List u.den),y.den ρ=some ⟨.list u,zs⟩→(bif Nat.beq (aE C.E e) u.size&&Nat.ble 1 u.size then some (⟨[.aW (gX k (ff y))],.aO id k 0,.none⟩:bL)else none)=some q→(∀s els,u.size=s→zs.map u.enc=els→iQ C.E t l (.row id) (ρT i)=if s=aE C.E e∧0<s then⟨.aO id m.toNat 0,.none,0≤m∧m<els.length⟩else .bad)→bm P o ρT l nid ae q:=by
     intro u y zs F af ar
     cases j:(Nat.beq (aE C.E e) u.size&&Nat.ble 1 u.size)with
     |false=>simp[j]at af
     |true=>
      simp only[j,cond_true,Option.some.injEq]at af
      subst af
      simp only[Bool.and_eq_true]at j
      have Y:=Nat.eq_of_beq_eq_true j.1;have an:=Nat.le_of_ble_eq_true j.2
      obtain⟨k1,k2⟩:=fE hi
      cases k2
      have:=M1 ad F k1
      rw[ar _ _ rfl rfl,if_pos ⟨Y.symm,by omega⟩]at B
      exact .val Z.ok B ⟨this.1,by simpa using this.2⟩ rfl (.aO id k 0 kk m ad)
    cases av with
    |row G u y zs ao F=>exact ak u y zs F h (by rintro _ _ rfl rfl;simp only[iQ,hE,ab,ag])
    |aM G u y zs ao F=>exact ak u y zs F h (by rintro _ _ rfl rfl;simp only[iQ,hE,ab,ag])
    |_=>simp at h
  |_=>simp at h
 cases h
theorem M6(j:bb P V C){t:TypeId}{x i:Operand}(G:o.op=.index t x i)(M:RX ρ (ρX x) (ρT x))(F:RX ρ (ρX i) (ρT i))(h:cq C ρX lX n nid o=some q)(hi:bp cs n ρ q.ins ae):bm P o ρT l nid ae q:=by
 have B:evalOp V ρT l nid o=nc V.E t (ρT x) (ρT i):=by simp only[evalOp,G]
 simp only[cq,G]at h
 split at h
 ·rename_i sz ad z s kk k hE U Y
  rw[U]at M;rw[Y]at F
  obtain⟨s',s1,ab⟩:=vu M
  obtain⟨m,O,aa⟩:=eI F
  simp only[Option.some.injEq]at h
  subst h
  obtain⟨k1,k2⟩:=fE hi
  cases k2
  have Z:0≤m∧m<(s'.size:Int):=by
   simp only[gX,iX,X.den,s1,O,dp,bF]at k1
   have k1:(aB 0 m&&ai m (ByteArray.size s':Int))=true:=ed k1
   simpa using k1
  rw[←j.E]at hE
  simp only[nc,hE,ab,aa,cL]at B
  exact .val j.ok B Z rfl (.d (.int .u8) _ (sA s' m) (bx rfl) (by simp only[X.den,s1,O,bF]))
 cases h
theorem CW:∀(ls:List Int),(tN ls).den ρ=some ⟨.list (.int .i64),ls⟩
 | []=>rfl
 |x::xs=>by
  simp only[tN,X.den,CW xs,iX,bF,bZ]
  rfl
theorem M3(Z:bb P V C){t:TypeId}{g:Nat}{i:Operand}(an:o.op=.indexAddr t (.global g) i)(af:∀g ls,au.dP g=some ls→ρT (.global g)=.aS ls.length [.agg (ls.map (.int .i64))] 0 0)(aa:RX ρ (ρX i) (ρT i))(h:xu C t g n (ρX i)=some q)(hi:bp cs n ρ q.ins ae)(az:Ext ρ ae):bm P o ρT l nid ae q:=by
 have B:evalOp V ρT l nid o=iQ V.E t l (unbox (ρT (.global g))) (ρT i):=by simp only[evalOp,an]
 rw[Z.E]at B
 unfold xu at h
 split at h
 ·rename_i s1 aF aG len e ls kk k hE ah ag
  rw[ag]at aa
  obtain⟨m,ak,al⟩:=eI aa
  have aj:cL (ρT i)=some (kk,m):=by rw[al];rfl
  cases F:(Nat.beq len ls.length&&Nat.beq (aE C.E e) 1&&Nat.ble 2 len&&(C.E e).isSome)with
  |false=>rw[F]at h;cases h
  |true=>
   rw[F]at h
   simp only[cond_true,Option.some.injEq]at h
   subst h
   simp only[Bool.and_eq_true]at F
   obtain⟨⟨⟨U,O⟩,Y⟩,ab⟩:=F
   have U:=Nat.eq_of_beq_eq_true U
   have O:=Nat.eq_of_beq_eq_true O
   have Y:=Nat.le_of_ble_eq_true Y
   rw[af g ls ah]at B
   cases hi with
   |get _ _ _ _ _ _ t2 aC aB aA j G M aw ax=>
    cases ax
    rw[CW]at G;injection G with G;cases G
    rw[ak]at M;injection M with M;cases M
    obtain⟨ao,aq,ar⟩:=pR aw
    simp only[unbox,iQ,hE,aj,ab,if_true,O,Nat.mul_one,Nat.zero_add]at B
    have aD:m.toNat<ls.length:=aq
    have av:ls[m.toNat]?=some (show Int from j):=ar
    refine .val Z.ok B ⟨ao,by omega⟩ rfl ?_
    have ai:((dS [D.agg (List.map (D.int .i64) ls)] 0).cells.drop m.toNat).take 1=[D.int .i64 (show Int from j)]:=by
     show((List.map (D.int .i64) ls).drop m.toNat).take 1=_
     rw[List.take_one,List.head?_drop,List.getElem?_map,av];rfl
    exact .aS (.int .i64) (.var n) m.toNat 0 ls.length _ 0 j (bx rfl) (fg n ⟨.int .i64,j⟩ ρ) (by simp) ai (by show m.toNat+1≤_;omega) (λay ad=>by have:ls.length=1:=ad;omega)
 cases h
theorem CC{x:X}{k:IntKind}{m:Int}(j:x.den ρ=some ⟨.int k,m⟩)(h:(X.u1 .lZ x).den ρ=some ⟨.bool,true⟩): -9223372036854775808≤m∧m≤9223372036854775807:=by
 simp only[X.den,j,dp]at h
 have h:an m=true:=ed h
 simpa [af.lZ]using h
theorem si{k:IntKind}{x:X}{m:Int}(F:x.den ρ=some ⟨.int k,iH k m⟩)(h:bp cs n ρ (pQ k x) ae):(arith k m).2∧(arith k m).1=.int k (iH k m)∧ae=ρ:=by
 cases k with
 |i64=>
  obtain⟨j,B⟩:=fE h
  cases B
  exact⟨CC F j,rfl,rfl⟩
 |_=>cases h;exact⟨trivial,rfl,rfl⟩
theorem xI:∀{ls:List Lf}{ps:List (Ty×X)}{ds:List D},F2 (RC ρ) ps ds→nm ls ps=true→eS ls ds=true
 | [],[],[],_,_=>rfl
 |a::r,p::s,d::ds,.cons h1 j,h=>by
  simp only[nm,Bool.and_eq_true]at h
  obtain⟨_,v,_,rfl⟩:=h1
  simp only[eS,Bool.and_eq_true]
  refine⟨?_,xI j h.2⟩
  obtain⟨t,x⟩:=p
  have k:=h.1
  cases a<;>cases t<;>simp_all [CV,qo,Ty.enc,Ty.cH]
 | [],_::_,_,_,h=>by simp[nm]at h
 |_::_,[],_,_,h=>by simp[nm]at h
theorem Oc(j:bb P V C){c:TypeId}{x:Operand}(U:o.op=.makeInterface c x)(B:RX ρ (ρX x) (ρT x))(h:x5 C c (ρX x)=some q)(hi:bp cs n ρ q.ins ae):bm P o ρT l nid ae q:=by
 have k:evalOp V ρT l nid o=nV V.E c (ρT x):=by simp only[evalOp,U]
 unfold x5 at h
 split at h
 ·rename_i s b z fs i e hE F
  rw[F]at B
  obtain⟨_,v,G,M⟩:=dN B
  have:=eh h;subst this;cases hi
  rw[←j.E]at hE
  have O:ρT x=.d ((Ty.st i).enc v):=M
  simp only[nV,hE,O]at k
  exact .val j.ok k trivial rfl (.d (.cI c (.st i)) _ (some v:Option (Ty.st i).den) (bx rfl) (by simp only[X.den,G,dp]))
 cases h
theorem Mn{x:X}{v:Sy.V}(h:x.den ρ=some v):(w8 x).den ρ=some v:=by
 unfold w8
 split<;>first|exact h| (simp only[X.den,dp,bF,Option.some.injEq]at h⊢;exact h)
theorem Mm{x:TX}{u:T}(h:RX ρ x u):RX ρ (w7 x) u:=by
 cases x with
 |d t e=>
  obtain⟨k,v,j,rfl⟩:=dN h
  exact .d t _ v k (Mn j)
 |_=>exact h
theorem bm.fold{is:List Ins}{x:TX}(h:bm P o ρT l nid ae ⟨is,x,.none⟩):bm P o ρT l nid ae ⟨is,w7 x,.none⟩:=by
 obtain⟨t,j,k⟩:=h
 exact⟨t,Mm j,k⟩
theorem KF(G:bb P V C){op:BinOp}{ty aF:TypeId}{x y:Operand}(ao:o.op=.binOp op ty x y aF)(ab:RX ρ (ρX x) (ρT x))(ad:RX ρ (ρX y) (ρT y))(h:cq C ρX lX n nid o=some q)(hi:bp cs n ρ q.ins ae):bm P o ρT l nid ae q:=by
 have al:∀a b,ρT x=.d a→ρT y=.d b→b ≠ .fH→evalOp V ρT l nid o=nG (dM V.gJ op ty a b):=by
  intro a b Y Z aH
  simp only[evalOp,ao,Y,Z]
 simp only[cq,ao]at h
 split at h
 ·rename_i t aa
  have:=eh h;subst this;cases hi
  unfold Dz at aa
  split at aa
  ·rename_i c u e c2 aL aG aM Y Z
   rw[Y]at ab;rw[Z]at ad
   obtain⟨_,v,F,af⟩:=dN ab
   cases hE:qm C.E ty with
   |false=>simp[hE]at aa
   |true=>
    have aA:ρT (.const .nilIface)=.d .fH:=by
     obtain⟨_,aN,k1,k2⟩:=dN ad
     simp only[X.den,dp,Option.some.injEq]at k1
     cases k1;exact k2
    have B:evalOp V ρT l nid o=su V.E op ty (.const .nilIface) ((Ty.cI c u).enc v):=by simp only[evalOp,ao,af,aA]
    have ax:o7 ((Ty.cI c u).enc v)=some (Option.isNone (α:=u.den) v):=by
     cases (show Option u.den from v)<;>rfl
    rw[←G.E]at hE
    simp only[su,ax,hE,if_true]at B
    simp only[←G.E,hE,cond_true]at aa
    split at aa
    ·simp only[Option.some.injEq]at aa;subst aa
     exact .val G.ok B trivial rfl (dI (by simp only[X.den,F,dp]))
    ·simp only[Option.some.injEq]at aa;subst aa
     exact .val G.ok B trivial rfl (dI (by simp only[X.den,F,dp]))
    cases aa
  cases aa
 simp only[Option.map_eq_some_iff]at h
 obtain⟨⟨is,aK⟩,h,rfl⟩:=h
 refine bm.fold ?_
 unfold A4 at h
 split at h
 ·rename_i k a ar b Y Z
  rw[Y]at ab;rw[Z]at ad
  obtain⟨u,M,ah⟩:=eI ab
  obtain⟨v,F,af⟩:=eI ad
  have B:=al _ _ ah af (by intro h;first|cases h|simp[Ty.enc,Ty.cH]at h)
  have shr:∀{q:List Ins×TX},q=([.aW (.u2 .le (.int ar 0) b)],.d (.int k) (.u2 (.shr k) a b))→bp cs n ρ q.1 ae→evalOp V ρT l nid o=nG (some (.int k (pD k u v),0≤v))→bm P o ρT l nid ae ⟨q.1,q.2,.none⟩:=by
   rintro q rfl hi B
   obtain⟨k1,k2⟩:=fE hi
   cases k2
   have an:0≤v:=by
    simp only[X.den,F,bF]at k1
    have k1:aB 0 v=true:=ed k1
    simpa using k1
   exact .val G.ok B an rfl (fx (by simp only[X.den,M,F,bF]))
  split at h
  ·rename_i ak
   split at h
   ·simp only[Option.some.injEq]at h
    simp only[dM,if_pos ak,zP]at B
    exact shr h.symm hi B
   cases h
  rename_i ak
  have ak:k=ar:=by simpa using ak
  subst ak
  cases op with
  |shr=>
   simp only[Option.some.injEq]at h
   simp only[dM,ne_eq,not_true_eq_false,if_false]at B
   exact shr h.symm hi B
  |and=>
   simp only[Option.some.injEq,Prod.mk.injEq]at h
   obtain⟨rfl,rfl⟩:=h
   cases hi
   simp only[dM,ne_eq,not_true_eq_false,if_false]at B
   exact .val G.ok B trivial rfl (fx (by simp only[X.den,M,F,bF]))
  |add=> 
   simp only[Option.some.injEq,Prod.mk.injEq]at h
   obtain⟨rfl,rfl⟩:=h
   have O:(X.u2 (.add k) a b).den ρ=some ⟨.int k,iH k (u+v)⟩:=by simp only[X.den,M,F,bF];rfl
   obtain⟨k1,k2,rfl⟩:=si O hi
   simp only[dM,ne_eq,not_true_eq_false,if_false]at B
   exact .val G.ok B k1 rfl (by show RX ae _ (.d (arith k (u+v)).1);rw[k2];exact fx O)
  |sub=>
   simp only[Option.some.injEq,Prod.mk.injEq]at h
   obtain⟨rfl,rfl⟩:=h
   have O:(X.u2 (.sub k) a b).den ρ=some ⟨.int k,iH k (u-v)⟩:=by simp only[X.den,M,F,bF];rfl
   obtain⟨k1,k2,rfl⟩:=si O hi
   simp only[dM,ne_eq,not_true_eq_false,if_false]at B
   exact .val G.ok B k1 rfl (by show RX ae _ (.d (arith k (u-v)).1);rw[k2];exact fx O)
  |mul=>
   simp only[Option.some.injEq,Prod.mk.injEq]at h
   obtain⟨rfl,rfl⟩:=h
   have O:(X.u2 (.mul k) a b).den ρ=some ⟨.int k,iH k (u*v)⟩:=by simp only[X.den,M,F,bF];rfl
   obtain⟨k1,k2,rfl⟩:=si O hi
   simp only[dM,ne_eq,not_true_eq_false,if_false]at B
   exact .val G.ok B k1 rfl (by show RX ae _ (.d (arith k (u*v)).1);rw[k2];exact fx O)
  |quo=>
   cases k with
   |i64=>
    simp only[Option.some.injEq,Prod.mk.injEq]at h
    obtain⟨rfl,rfl⟩:=h
    have O:(X.u2 (.quo .i64) a b).den ρ=some ⟨.int .i64,u.tdiv v⟩:=by simp only[X.den,M,F,bF]
    obtain⟨k1,k2⟩:=fE hi
    obtain⟨aC,aD⟩:=fE k2
    cases aD
    have ai:v≠0:=by
     simp only[X.den,F,iX,dp,bF]at k1
     have k1:(!aj v 0)=true:=ed k1
     simpa using k1
    simp only[dM,ne_eq,not_true_eq_false,if_false]at B
    exact .val G.ok B ⟨ai,CC O aC⟩ rfl (fx O)
   |_=>simp at h
  |rem=>
   simp only[Option.some.injEq,Prod.mk.injEq]at h
   obtain⟨rfl,rfl⟩:=h
   have O:(X.u2 (.rem k) a b).den ρ=some ⟨.int k,u.tmod v⟩:=by simp only[X.den,M,F,bF]
   obtain⟨k1,k2⟩:=fE hi
   cases k2
   have ai:v≠0:=by
    simp only[X.den,F,dp,bF]at k1
    have k1:(!aj v 0)=true:=ed k1
    simpa using k1
   simp only[dM,ne_eq,not_true_eq_false,if_false]at B
   exact .val G.ok B ai rfl (fx O)
  |eql=>
   simp only[Option.some.injEq,Prod.mk.injEq]at h
   obtain⟨rfl,rfl⟩:=h
   cases hi
   simp only[dM,ne_eq,not_true_eq_false,if_false]at B
   exact .val G.ok B trivial rfl (dI (b:=decide (u=v)) (by simp only[X.den,M,F,bF]))
  |neq=>
   simp only[Option.some.injEq,Prod.mk.injEq]at h
   obtain⟨rfl,rfl⟩:=h
   cases hi
   simp only[dM,ne_eq,not_true_eq_false,if_false]at B
   exact .val G.ok B trivial rfl (dI (b:= !decide (u=v)) (by simp only[X.den,M,F,bF,dp]))
  |lss=>
   simp only[Option.some.injEq,Prod.mk.injEq]at h
   obtain⟨rfl,rfl⟩:=h
   cases hi
   simp only[dM,ne_eq,not_true_eq_false,if_false]at B
   exact .val G.ok B trivial rfl (dI (b:=decide (u<v)) (by simp only[X.den,M,F,bF]))
  |leq=>
   simp only[Option.some.injEq,Prod.mk.injEq]at h
   obtain⟨rfl,rfl⟩:=h
   cases hi
   simp only[dM,ne_eq,not_true_eq_false,if_false]at B
   exact .val G.ok B trivial rfl (dI (b:=decide (u≤v)) (by simp only[X.den,M,F,bF]))
  |gtr=>
   simp only[Option.some.injEq,Prod.mk.injEq]at h
   obtain⟨rfl,rfl⟩:=h
   cases hi
   simp only[dM,ne_eq,not_true_eq_false,if_false]at B
   exact .val G.ok B trivial rfl (dI (b:=decide (v<u)) (by simp only[X.den,M,F,bF]))
  |geq=>
   simp only[Option.some.injEq,Prod.mk.injEq]at h
   obtain⟨rfl,rfl⟩:=h
   cases hi
   simp only[dM,ne_eq,not_true_eq_false,if_false]at B
   exact .val G.ok B trivial rfl (dI (b:=decide (v≤u)) (by simp only[X.den,M,F,bF]))
  |_=>simp at h
 ·rename_i a b Y Z
  rw[Y]at ab;rw[Z]at ad
  obtain⟨u,M,ah⟩:=fO ab
  obtain⟨v,F,af⟩:=fO ad
  have B:=al _ _ ah af (by intro h;first|cases h|simp[Ty.enc,Ty.cH]at h)
  rw[G.eq]at B
  cases U:decide (C.eqs ty=some [.bool])with
  |false=>simp[U]at h
  |true=>
   simp only[U,cond_true]at h
   have U:=of_decide_eq_true U
   cases op with
   |eql=>
    simp only[Option.some.injEq,Prod.mk.injEq]at h
    obtain⟨rfl,rfl⟩:=h
    cases hi
    simp only[dM,if_pos U]at B
    exact .val G.ok B trivial rfl (dI (b:=u == v) (by simp only[X.den,M,F,bF]))
   |neq=>
    simp only[Option.some.injEq,Prod.mk.injEq]at h
    obtain⟨rfl,rfl⟩:=h
    cases hi
    simp only[dM,if_pos U]at B
    exact .val G.ok B trivial rfl (dI (b:= !(u == v)) (by simp only[X.den,M,F,bF,dp]))
   |_=>simp at h
 ·rename_i a b Y Z
  rw[Y]at ab;rw[Z]at ad
  obtain⟨u,M,ah⟩:=vu ab
  obtain⟨v,F,af⟩:=vu ad
  have B:=al _ _ ah af (by intro h;first|cases h|simp[Ty.enc,Ty.cH]at h)
  cases op with
  |eql=>
   simp only[Option.some.injEq,Prod.mk.injEq]at h
   obtain⟨rfl,rfl⟩:=h
   cases hi
   simp only[dM]at B
   exact .val G.ok B trivial rfl (dI (b:=u == v) (by simp only[X.den,M,F,bF]))
  |neq=>
   simp only[Option.some.injEq,Prod.mk.injEq]at h
   obtain⟨rfl,rfl⟩:=h
   cases hi
   simp only[dM]at B
   exact .val G.ok B trivial rfl (dI (b:= !(u == v)) (by simp only[X.den,M,F,bF,dp]))
  |add=>
   simp only[Option.some.injEq,Prod.mk.injEq]at h
   obtain⟨rfl,rfl⟩:=h
   obtain⟨k1,k2⟩:=fE hi
   cases k2
   simp only[X.den,M,F,bF]at k1
   have k1:decide ((u.size:Int)+(v.size:Int)≤9223372036854775807)=true:=ed k1
   simp only[dM]at B
   exact .val G.ok B (show(u.size:Int)+(v.size:Int)≤9223372036854775807 by simpa using k1) rfl (SS (s:=u++v) (by simp only[X.den,M,F,bF];rfl))
  |_=>simp at h
 ·rename_i i a j b Y Z
  cases U:(Nat.beq i j&&wL C ty i a b)with
  |false=>simp[U]at h
  |true=>
   simp only[U,cond_true]at h
   simp only[Bool.and_eq_true]at U
   have:=Nat.eq_of_beq_eq_true U.1
   subst this
   rw[Y]at ab;rw[Z]at ad
   obtain⟨an,u,M,ah⟩:=dN ab
   obtain⟨_,v,F,af⟩:=dN ad
   have ag:=U.2
   unfold wL at ag
   split at ag
   ·rename_i ls aI aJ aq ay az
    simp only[Bool.and_eq_true]at ag
    have av:=xI (mQ _ an M ay) ag.1.1
    have aw:=xI (mQ _ an F az) ag.1.2
    have ai:ls≠[.bool]:=by simpa using ag.2
    have s1:Ty.enc (.st i) u=.agg (au.cells i u):=rfl
    have aE:Ty.enc (.st i) v=.agg (au.cells i v):=rfl
    have B:=al _ _ ah af (by intro h;first|cases h|simp[Ty.enc,Ty.cH]at h)
    rw[s1,aE,G.eq]at B
    cases op with
    |eql=>
     simp only[Option.some.injEq,Prod.mk.injEq]at h
     obtain⟨rfl,rfl⟩:=h
     cases hi
     simp only[dM,aq,if_neg ai]at B
     refine .val G.ok B ⟨av,aw⟩ rfl (dI (b:=dL (au.cells i u) (au.cells i v)) ?_)
     simp only[X.den,M,F,bF]
     rw[eG (.st i) u,eG (.st i) v]
    |neq=>
     simp only[Option.some.injEq,Prod.mk.injEq]at h
     obtain⟨rfl,rfl⟩:=h
     cases hi
     simp only[dM,aq,if_neg ai]at B
     refine .val G.ok B ⟨av,aw⟩ rfl (dI (b:= !(dL (au.cells i u) (au.cells i v))) ?_)
     simp only[X.den,M,F,bF]
     rw[eG (.st i) u,eG (.st i) v]
     rfl
    |_=>simp at h
   cases ag
 cases h
end
end Go.Sy
namespace Go.Sy
open Go Go.af
variable [au][bK][bB][bV][aL]
section
variable {P:Program}{V:Env}{C:Cx}{o:Oper}{ρX:Operand→TX}{ρT:Operand→T}{lX:List AX}{l:List AO}{n nid:Nat}{cs:List Callee}{ρ ae:az}{q:bL}
theorem Oz{a:X}{b:Bool}(h:a.den ρ=some ⟨.bool,b⟩):(yd a).den ρ=some ⟨.bool,!b⟩:=by
 unfold yd
 split
 ·have:_=b:=ed ((rfl:(X.bool _).den ρ=_).symm.trans h)
  subst this;rfl
 simp only[X.den,h,dp]
theorem Uh(M:bb P V C){op:UnOp}{ty:TypeId}{x:Operand}(Y:o.op=.unOp op ty x)(B:RX ρ (ρX x) (ρT x))(h:cq C ρX lX n nid o=some q)(hi:bp cs n ρ q.ins ae):bm P o ρT l nid ae q:=by
 have U:∀a,ρT x=.d a→evalOp V ρT l nid o=nG (vH op a):=by intro a j;simp only[evalOp,Y,j]
 simp only[cq,Y]at h
 split at h
 ·rename_i a j
  rw[j]at B
  obtain⟨b,F,G⟩:=fO B
  have:=eh h;subst this;cases hi
  exact .val M.ok (U _ G) trivial rfl (dI (b:= !b) (Oz F))
 ·rename_i k a j
  rw[j]at B
  obtain⟨u,F,G⟩:=eI B
  simp only[Option.some.injEq]at h;subst h
  have O:(X.u1 (.neg k) a).den ρ=some ⟨.int k,iH k (0-u)⟩:=by simp only[X.den,F,dp]
  obtain⟨k1,k2,rfl⟩:=si O hi
  exact .val M.ok (U _ G) k1 rfl (by show RX ae _ (.d (arith k (0-u)).1);rw[k2];exact fx O)
 cases h
theorem L5(Z:bb P V C){x:Operand}{i:Nat}(U:o.op=.extract x i)(Y:RX ρ (ρX x) (ρT x))(h:cq C ρX lX n nid o=some q)(hi:bp cs n ρ q.ins ae):bm P o ρT l nid ae q:=by
 simp only[cq,U]at h
 split at h
 ·rename_i ts ab
  rw[ab]at Y
  simp only[Option.map_eq_some_iff]at h
  obtain⟨t,B,rfl⟩:=h
  cases hi
  generalize aa:ρT x=ad at Y
  cases Y with
  |aw _ j F G=>
   have O:i<j.length:=by rw[←F];exact(List.getElem?_eq_some_iff.1 B).1
   have k:j[i]?=some j[i]:=List.getElem?_eq_getElem O
   have M:evalOp V ρT l nid o=.ok j[i]:=by simp only[evalOp,U,aa,k]
   exact .val Z.ok M trivial rfl (G i _ _ B k)
  |eY _ j F G=>
   have O:i<j.length:=by rw[←F];exact(List.getElem?_eq_some_iff.1 B).1
   have k:j[i]?=some j[i]:=List.getElem?_eq_getElem O
   have M:evalOp V ρT l nid o=.ok (.d j[i]):=by simp only[evalOp,U,aa,k]
   exact .val Z.ok M trivial rfl (G i _ _ B k)
 cases h
theorem Dc(U:RL ρ lX l){k v:Ty}{x:TX}{u:T}{m:X}(O:RX ρ x u)(h:tT lX k v x=some m):∃j:List (k.den×v.den),m.den ρ=some ⟨.map k v,j⟩∧mapOf l u=some (j.map λp=>k.enc p.1,j.map λp=>v.enc p.2):=by
 unfold tT at h
 split at h
 ·rename_i ab ad y
  split at h
  ·rename_i e
   obtain⟨rfl,rfl⟩:=e
   simp only[Option.some.injEq]at h;subst h
   obtain⟨j,Z,rfl⟩:=NZ O
   exact⟨j,Z,rfl⟩
  cases h
 ·simp only[Option.some.injEq]at h;subst h
  cases O
  exact⟨[],rfl,rfl⟩
 ·rename_i id
  have aa:u=.map id:=by cases O;rfl
  subst aa
  split at h
  ·rename_i af ab ad y M
   split at h
   ·rename_i e
    obtain⟨rfl,rfl⟩:=e
    simp only[Option.some.injEq]at h;subst h
    obtain⟨Y,F,G⟩:=F2.left U M
    cases G with
    |map _ _ _ j _ _ B=>exact⟨j,B,by simp only[mapOf,F]⟩
    |cU _ _ _ j _ _ B=>exact⟨j,B,by simp only[mapOf,F]⟩
   cases h
  ·rename_i ae ag t' y M
   split at h
   ·rename_i e
    obtain⟨rfl,rfl⟩:=e
    simp only[Option.some.injEq]at h;subst h
    obtain⟨Y,F,G⟩:=F2.left U M
    cases G with
    |aU _ _ _ _ j _ _ _ B=>exact⟨j,B,by simp only[mapOf,F];rfl⟩
   cases h
  cases h
 cases h
theorem l5{t:TypeId}{k v:Ty}(h:km C t=some (k,v)):C.ty t=some (.map k v):=by
 unfold km at h
 split at h
 ·rename_i e;simp only[Option.some.injEq,Prod.mk.injEq]at h;obtain⟨rfl,rfl⟩:=h;exact e
 cases h
theorem NJ(B:bb P V C){c:Call}{x:Operand}{t:TypeId}(ak:o.op=.call c)(ah:c.callee=.builtin .len)(af:c.args.toList=[x])(al:c.argTypes.toList=[t])(Z:RL ρ lX l)(F:RX ρ (ρX x) (ρT x))(h:xC C t lX (ρX x)=some q)(hi:bp cs n ρ q.ins ae):bm P o ρT l nid ae q:=by
 have j:evalOp V ρT l nid o=iT V.E t l (ρT x):=by simp only[evalOp,ak,ah,af,al]
 rw[B.E]at j
 unfold xC at h
 generalize ρX x=A at h F
 generalize ρT x=aa at j F
 split at h
 ·rename_i s1 M O s hE
  obtain⟨v,G,rfl⟩:=vu F
  have:=eh h;subst this;cases hi
  simp only[iT,hE]at j
  exact .val B.ok j trivial rfl (fx (by simp only[X.den,G,dp]))
 ·rename_i s1 M O e u xs hE
  obtain⟨v,G,rfl⟩:=xK F
  have:=eh h;subst this;cases hi
  simp only[iT,hE,List.length_map]at j
  exact .val B.ok j trivial rfl (fx (by simp only[X.den,G,dp]))
 ·rename_i s1 M O e s hE
  cases F
  have:=eh h;subst this;cases hi
  simp only[iT,hE]at j
  exact .val B.ok j trivial rfl (fx rfl)
 ·rename_i s1 M O e id hE
  have ad:aa=.row id:=by cases F;rfl
  subst ad
  split at h
  ·rename_i ar aq u xs ai
   obtain⟨ao,Y,ag⟩:=F2.left Z ai
   have:=eh h;subst this;cases hi
   cases ag with
   |row _ _ _ zs _ U=>
    simp only[iT,hE,Y,List.length_map]at j
    exact .val B.ok j trivial rfl (fx (by simp only[X.den,U,dp]))
   |aM _ _ _ zs _ U=>
    simp only[iT,hE,Y,List.length_map]at j
    exact .val B.ok j trivial rfl (fx (by simp only[X.den,U,dp]))
  cases h
 ·rename_i s1 M O av ax an hE
  split at h
  ·rename_i k v au
   simp only[Option.map_eq_some_iff]at h
   obtain⟨m,aj,rfl⟩:=h
   cases hi
   obtain⟨aw,G,ab⟩:=Dc Z F aj
   simp only[iT,hE,ab,List.length_map]at j
   exact .val B.ok j trivial rfl (fx (by simp only[X.den,G,dp]))
  cases h
 cases h
theorem rF(s:ByteArray):∀(b i:Nat)(j:Array Value),(∀v∈j.toList,∃n,v=.int .i32 n)→∀v∈(Conv.runesFrom s b i j).toList,∃n,v=Value.int .i32 n
 |0,i,j,h=>h
 |b+1,i,j,h=>by
  unfold Conv.runesFrom
  split
  ·refine rF s b _ _ λv k=>?_
   simp only[Array.toList_push,List.mem_append,List.mem_singleton]at k
   rcases k with k|rfl
   ·exact h v k
   exact⟨_,rfl⟩
  exact h
theorem SL(s:ByteArray):mj s=(kC s).map (Ty.int .i32).enc:=by
 unfold mj kC
 refine Eq.trans ?_ (List.map_map (l:=(Conv.runesFrom s s.size 0 #[]).toList) (f:=λv=>match v with |.int _ n=>n|_=>(0:Int)) (g:=λn:Int=>D.int .i32 n)).symm
 refine List.map_congr_left λv j=>?_
 obtain⟨n,rfl⟩:=rF s _ _ _ (λv j=>by simp at j) v j
 rfl
theorem wz(Y:bb P V C){aa t:TypeId}{x:Operand}(Z:o.op=.convert aa t x)(F:RX ρ (ρX x) (ρT x))(h:cq C ρX lX n nid o=some q)(hi:bp cs n ρ q.ins ae):bm P o ρT l nid ae q:=by
 have j:evalOp V ρT l nid o=lQ V.E aa t (ρT x):=by simp only[evalOp,Z]
 rw[Y.E]at j
 simp only[cq,Z]at h
 split at h
 ·rename_i ab ad af ao ag ah ai k k2 a G M O
  rw[O]at F
  obtain⟨u,B,U⟩:=eI F
  have:=eh h;subst this;cases hi
  simp only[lQ,G,M,U]at j
  exact .val Y.ok j trivial rfl (fx (by simp only[X.den,B,dp]))
 ·rename_i ab ad af ag ah ai e a G M O
  rw[O]at F
  obtain⟨_,u,B,U⟩:=dN F
  have ak:ρT x=.d (.str u):=U
  split at h
  ·rename_i c1 c2 aj
   simp only[Option.some.injEq]at h;subst h
   obtain⟨k1,k2⟩:=fE hi
   cases k2
   simp only[X.den,iX,B,dp,bF]at k1
   have k1:aB (ByteArray.size u:Int) 16777216=true:=ed k1
   have aq:(ByteArray.size u:Int)≤16777216:=of_decide_eq_true k1
   simp only[lQ,G,M,ak,aj]at j
   have al:(X.u1 .runes a).den ρ=some ⟨.list (.int .i32),kC u⟩:=by
    unfold X.den;rw[B];rfl
   have an:RX ρ (.d (.list (.int .i32)) (.u1 .runes a)) (.d (.slice 1 (mj u))):=by
    have e:=SL u
    exact e▸RX.d (.list (.int .i32)) _ (kC u) (bx rfl) al
   exact .val Y.ok j (by omega) rfl an
  cases h
 cases h
theorem Dd(Z:bb P V C){c:Call}(G:o.op=.call c)(ad:∀x∈o.op.operands,RX ρ (ρX x) (ρT x))(hc:c.callee=.builtin .max∨c.callee=.builtin .min)(h:cq C ρX lX n nid o=some q)(hi:bp cs n ρ q.ins ae):bm P o ρT l nid ae q:=by
 have Y:∀x∈c.args.toList,RX ρ (ρX x) (ρT x):=λx aa=>ad x (by simp[G,Op.operands,Call.operands,aa];rcases hc with e|e<;>simp[e]<;>simpa using aa)
 have ab:∀(k j:IntKind)(a b:X),c.args.toList.map ρX=[.d (.int k) a,.d (.int j) b]→∃u v:Int,a.den ρ=some ⟨.int k,u⟩∧b.den ρ=some ⟨.int j,v⟩∧c.args.toList.map ρT=[.d (.int k u),.d (.int j v)]:=by
  intro k j a b e
  generalize c.args.toList=as at e Y
  rcases as with _| ⟨x,_| ⟨y,_| ⟨z,w⟩⟩⟩
  ·simp at e
  ·simp at e
  ·simp only[List.map_cons,List.map_nil,List.cons.injEq,and_true]at e
   have B:=Y x (by simp);have F:=Y y (by simp)
   rw[e.1]at B;rw[e.2]at F
   obtain⟨u,af,ag⟩:=eI B
   obtain⟨v,ah,ai⟩:=eI F
   exact⟨u,v,af,ah,by simp[ag,ai]⟩
  simp at e
 rcases hc with hc|hc
 ·simp only[cq,G,hc]at h
  split at h
  ·rename_i k a j b e
   obtain⟨u,v,B,F,O⟩:=ab k j a b e
   split at h
   ·rename_i M;subst M
    have:=eh h;subst this;cases hi
    have U:evalOp V ρT l nid o=.ok (.d (.int k (max u v))):=by simp only[evalOp,G,hc,O,if_true]
    exact .val Z.ok U trivial rfl (fx (by simp only[X.den,B,F,bF]))
   cases h
  cases h
 simp only[cq,G,hc]at h
 split at h
 ·rename_i k a j b e
  obtain⟨u,v,B,F,O⟩:=ab k j a b e
  split at h
  ·rename_i M;subst M
   have:=eh h;subst this;cases hi
   have U:evalOp V ρT l nid o=.ok (.d (.int k (min u v))):=by simp only[evalOp,G,hc,O,if_true]
   exact .val Z.ok U trivial rfl (fx (by simp only[X.den,B,F,bF]))
  cases h
 cases h
theorem Aa(j:RL ρ lX l){t:Ty}{x:TX}{u:T}{y:X}{ae:List AX}(aj:RX ρ x u)(h:fo lX t x=some (y,ae))(ad:∀cs,x ≠ .agg cs):∃(v:t.den)(l':List AO),y.den ρ=some ⟨t,v⟩∧bY l u=some (t.enc v,l')∧cC l u=some (t.enc v,l')∧RL ρ ae l':=by
 cases aj with
 |d t' x v F Y=>
  simp only[fo]at h
  split at h
  ·rename_i e;subst e
   simp only[Option.some.injEq,Prod.mk.injEq]at h
   obtain⟨rfl,rfl⟩:=h
   exact⟨v,l,Y,rfl,rfl,j⟩
  simp only[Option.map_eq_some_iff,Prod.mk.injEq]at h
  obtain⟨ag,ak,rfl,rfl⟩:=h
  obtain⟨w,al,af⟩:=Bt (ρ:=ρ) ak v
  exact⟨w,l,al,by rw[af];rfl,by rw[af];rfl,j⟩
 |aX s=>
  simp only[fo]at h
  split at h
  ·rename_i u
   cases ab:Nat.beq s u.size with
   |false=>simp[ab]at h
   |true=>
    simp only[ab,cond_true,Option.some.injEq,Prod.mk.injEq]at h
    obtain⟨rfl,rfl⟩:=h
    have:=Nat.eq_of_beq_eq_true ab
    subst this
    exact⟨([]:List u.den),l,rfl,rfl,rfl,j⟩
  cases h
 |cV=>
  simp only[fo]at h
  split at h
  ·rename_i k v
   simp only[Option.some.injEq,Prod.mk.injEq]at h
   obtain⟨rfl,rfl⟩:=h
   exact⟨([]:List (k.den×v.den)),l,rfl,rfl,rfl,j⟩
  cases h
 |row id=>
  simp only[fo]at h
  split at h
  ·rename_i ai e u ag aa
   split at h
   ·rename_i e;subst e
    simp only[Option.some.injEq,Prod.mk.injEq]at h
    obtain⟨rfl,rfl⟩:=h
    obtain⟨ah,B,Z⟩:=F2.left j aa
    cases Z with
    |row _ _ _ zs M U=>exact⟨zs,l.set id (.aM e u.size (zs.map u.enc)),U,by simp only[bY,B];rfl,by simp only[cC,bY,B];rfl,F2.set j (.aM e u _ zs M U) id⟩
    |aM _ _ _ zs M U=>exact⟨zs,l,U,by simp only[bY,B];rfl,by simp only[cC,bY,B];rfl,j⟩
   cases h
  cases h
 |aQ id t' x xs F=>
  simp only[fo]at h
  split at h
  ·rename_i e;subst e
   simp only[Option.some.injEq,Prod.mk.injEq]at h
   obtain⟨rfl,rfl⟩:=h
   exact⟨xs,l,F,rfl,rfl,j⟩
  cases h
 |map id=>
  simp only[fo]at h
  split at h
  ·rename_i ai k v ag aa
   split at h
   ·rename_i e;subst e
    simp only[Option.some.injEq,Prod.mk.injEq]at h
    obtain⟨rfl,rfl⟩:=h
    obtain⟨ah,B,Z⟩:=F2.left j aa
    cases Z with
    |map _ _ _ G M F O=>exact⟨G,l.set id (.cU (G.map λp:k.den×v.den=>k.enc p.1) (G.map λp:k.den×v.den=>v.enc p.2)),O,by simp only[bY,B];rfl,by simp only[cC,bY,B];rfl,F2.set j (.cU k v _ G M F O) id⟩
    |cU _ _ _ G M F O=>exact⟨G,l,O,by simp only[bY,B];rfl,by simp only[cC,bY,B];rfl,j⟩
   cases h
  cases h
 |agg cs ts F Y=>exact absurd rfl (ad cs)
 |fA cs ts F Y=>exact absurd rfl (ad cs)
 |_=>simp[fo]at h
theorem AM:∀(a b:List T)(l l1 j:List AO)(xs ys:List D),cy l a=some (xs,l1)→cy l1 b=some (ys,j)→cy l (a++b)=some (xs++ys,j)
 | [],b,l,l1,j,xs,ys,h1,k=>by simp[cy]at h1;obtain⟨rfl,rfl⟩:=h1;exact k
 |t::a,b,l,l1,j,xs,ys,h1,k=>by
  simp only[cy]at h1
  cases F:bY l t with
  |none=>simp[F]at h1
  |some p=>
   obtain⟨x,l'⟩:=p
   simp only[F]at h1
   cases B:cy l' a with
   |none=>simp[B]at h1
   |some p=>
    obtain⟨zs,G⟩:=p
    simp only[B,Option.some.injEq,Prod.mk.injEq]at h1
    obtain⟨rfl,rfl⟩:=h1
    simp only[List.cons_append,cy,F,AM a b l' G j zs ys B k]
theorem wq{t:Ty}{ts:List Ty}{x:X}{xs:List X}{v:t.den}{a:(ay ts).den}(F:x.den ρ=some ⟨t,v⟩)(B:gK ρ ts xs a):∃b:(ay (t::ts)).den,gK ρ (t::ts) (x::xs) b∧cellsOf (t::ts) b=(t.enc v).cells++cellsOf ts a:=by
 cases ts with
 |nil=>
  refine⟨v,⟨by simp[B.1],λj w k=>?_⟩,by simp[cellsOf]⟩
  cases j with
  |zero=>simp at k;subst k;exact⟨x,rfl,by simpa [bX]using F⟩
  |succ j=>simp at k
 |cons u ts=>
  refine⟨(v,a),⟨by simp[B.1],λj w k=>?_⟩,rfl⟩
  cases j with
  |zero=>simp at k;subst k;exact⟨x,rfl,by simpa [bX]using F⟩
  |succ j=>
   obtain⟨y,M,G⟩:=B.2 j w (by simpa using k)
   exact⟨y,by simpa using M,by simpa [bX]using G⟩
theorem T6:∀(f:Nat){lX:List AX}{l:List AO}{eK:List Ty}{cs r:List TX}{ts:List T}{xs:List X}{G:List AX},(∀t∈eK,isVal t)→RL ρ lX l→F2 (RX ρ) cs ts→gP f lX eK cs=some (xs,r,G) →
  ∃(a:(ay eK).den)(M ai:List T)(l':List AO),ts=M++ai∧gK ρ eK xs a∧cy l M=some (cellsOf eK a,l')∧F2 (RX ρ) r ai∧RL ρ G l':=by
 intro f
 induction f with
 |zero=>intro lX l eK cs r ts xs G _ _ _ h;simp[gP]at h
 |succ f Z=>
  intro lX l eK cs r ts xs G Y U O h
  cases eK with
  |nil=>
   simp only[gP,Option.some.injEq,Prod.mk.injEq]at h
   obtain⟨rfl,rfl,rfl⟩:=h
   exact⟨(),[],ts,l,rfl,⟨rfl,λj t h=>by simp at h⟩,rfl,O,U⟩
  |cons t eK=>
   by_cases al:∃i,t=.st i
   ·obtain⟨i,rfl⟩:=al
    simp only[gP]at h
    cases k:gP f lX (au.bC i) cs with
    |none=>simp[k]at h
    |some p=>
     obtain⟨ys,ao,l1⟩:=p
     simp only[k]at h
     cases B:gP f l1 eK ao with
     |none=>simp[B]at h
     |some p=>
      obtain⟨zs,aB,ab⟩:=p
      simp only[B,Option.some.injEq,Prod.mk.injEq]at h
      obtain⟨rfl,rfl,rfl⟩:=h
      obtain⟨a,M,ai,aA,rfl,k1,k2,az,aa⟩:=Z (λt F=>bV.val i t F) U O k
      obtain⟨b,aj,ak,ad,rfl,ae,af,ag,ah⟩:=Z (λt F=>Y t (by simp[F])) aa az B
      obtain⟨c,c1,c2⟩:=wq (t:=.st i) (v:=au.du i a) (s7 k1) ae
      refine⟨c,M++aj,ak,ad,by simp,c1,?_,ag,ah⟩
      rw[c2]
      have e:((Ty.st i).enc (au.du i a)).cells=cellsOf (au.bC i) (au.un i (au.du i a)):=bB.cells i (au.du i a)
      rw[e,au.lF]
      exact AM _ _ _ _ _ _ _ k2 af
   cases O with
   |nil=>exfalso;cases t<;>simp_all [gP]
   |cons ar aw=>
    rename_i c u cs aC
    have av:gP (f+1) lX (t::eK) (c::cs)=match fo lX t c with
     |some (x,l1)=>(match gP f l1 eK cs with|some (ys,r,ab)=>some (x::ys,r,ab)|none=>none)
     |none=>none:=by cases t<;>first|rfl|exact absurd ⟨_,rfl⟩ al
    rw[av]at h
    cases k:fo lX t c with
    |none=>simp[k]at h
    |some p=>
     obtain⟨x,l1⟩:=p
     simp only[k]at h
     cases B:gP f l1 eK cs with
     |none=>simp[B]at h
     |some p=>
      obtain⟨ys,ao,ab⟩:=p
      simp only[B,Option.some.injEq,Prod.mk.injEq]at h
      obtain⟨rfl,rfl,rfl⟩:=h
      obtain⟨v,aA,k1,k2,_,aa⟩:=Aa U ar k (λcs e=>by subst e;simp[fo]at k)
      obtain⟨b,aj,ak,ad,rfl,ae,af,ag,ah⟩:=Z (λt F=>Y t (by simp[F])) aa aw B
      obtain⟨aq,c1,c2⟩:=wq k1 ae
      refine⟨aq,u::aj,ak,ad,rfl,c1,?_,ag,ah⟩
      have ax:bE t=false:=by cases t<;>simp_all [bE]
      have an:=Y t (by simp)
      rw[c2,(gV ax an.1 an.2 v).1]
      simp only[cy,k2,af]
      rfl
theorem rO(aa:RL ρ lX l){t:Ty}{x:TX}{u:T}{y:X}{ad:List AX}(ab:RX ρ x u)(h:iB lX t x=some (y,ad)):∃(v:t.den)(l':List AO),y.den ρ=some ⟨t,v⟩∧cC l u=some (t.enc v,l')∧RL ρ ad l':=by
 by_cases Z:∃cs,x=.agg cs
 ·obtain⟨cs,rfl⟩:=Z
  simp only[iB]at h
  split at h
  ·rename_i i
   split at h
   ·rename_i xs l1 M
    simp only[Option.some.injEq,Prod.mk.injEq]at h
    obtain⟨rfl,rfl⟩:=h
    have ae:∀ts:List T,F2 (RX ρ) cs ts→∃(a:(ay (au.bC i)).den)(l':List AO),gK ρ (au.bC i) xs a∧cy l ts=some (cellsOf (au.bC i) a,l')∧RL ρ l1 l':=by
     intro ts ai
     obtain⟨a,al,an,G,rfl,k1,k2,B,ak⟩:=T6 _ (λt F=>bV.val i t F) aa ai M
     cases B
     exact⟨a,G,k1,by simpa using k2,ak⟩
    have Y:∀a:(ay (au.bC i)).den,D.agg (cellsOf (au.bC i) a)=Ty.enc (.st i) (au.du i a):=λa=>by
     have e:Ty.enc (.st i) (au.du i a)=.agg (au.cells i (au.du i a)):=rfl
     rw[e,bB.cells,au.lF]
    cases ab with
    |agg _ ts O k=>
     obtain⟨a,G,k1,k2,B⟩:=ae ts (F2.of O k)
     exact⟨au.du i a,G,s7 k1,by simp only[cC,k2];rw[Y],B⟩
    |fA _ ds O k=>
     obtain⟨a,G,k1,k2,B⟩:=ae (ds.map .d) (F2.of (by simpa using O) λj c t ah F=>by
      simp only[List.getElem?_map,Option.map_eq_some_iff]at F
      obtain⟨d,U,rfl⟩:=F
      exact k j c d ah U)
     have U:∀ds:List D,cy l (ds.map .d)=some (ds,l):=by
      intro ds
      induction ds with
      |nil=>rfl
      |cons d ds aj=>simp only[List.map_cons,cy,bY,aj]
     rw[U]at k2
     simp only[Option.some.injEq,Prod.mk.injEq]at k2
     obtain⟨af,rfl⟩:=k2
     exact⟨au.du i a,l,s7 k1,by rw[←Y,←af];rfl,B⟩
   cases h
  cases h
 have:iB lX t x=fo lX t x:=by
  cases x<;>simp_all [iB]
 rw[this]at h
 obtain⟨v,l',M,_,k,ag⟩:=Aa aa ab h (λcs e=>Z ⟨cs,e⟩)
 exact⟨v,l',M,k,ag⟩
end
end Go.Sy
namespace Go.Sy
open Go Go.af
variable [au][bK][bB][bV][aL]
section
variable {P:Program}{V:Env}{C:Cx}{o:Oper}{ρX:Operand→TX}{ρT:Operand→T}{lX:List AX}{l:List AO}{n nid:Nat}{cs:List Callee}{ρ ae:az}{q:bL}
theorem nj{a b:X}{i j:IntKind}{u v:Int}(k:a.den ρ=some ⟨.int i,u⟩)(B:b.den ρ=some ⟨.int j,v⟩):(X.u2 .le a b).den ρ=some ⟨.bool,aB u v⟩:=by simp only[X.den,k,B,bF]
theorem sg{a b:X}{u v:Bool}(j:a.den ρ=some ⟨.bool,u⟩)(k:b.den ρ=some ⟨.bool,v⟩):(X.u2 .and a b).den ρ=some ⟨.bool,u&&v⟩:=by simp only[X.den,j,k,bF]
theorem xD{a:X}{t:Ty}{zs:List t.den}(h:a.den ρ=some ⟨.list t,zs⟩):(ff a).den ρ=some ⟨.int .i64,(zs.length:Int)⟩:=by simp only[ff,X.den,h,dp]
theorem tw(m:Int):(iX m).den ρ=some ⟨.int .i64,m⟩:=rfl
theorem Ix{u:Ty}{zs:List u.den}{xs y:X}{lo hi:Option Operand}{is:List Ins}(G:xs.den ρ=some ⟨.list u,zs⟩)(ah:∀a,lo=some a→RX ρ (ρX a) (ρT a))(ag:∀a,hi=some a→RX ρ (ρX a) (ρT a))(h:vq xs (lo.map ρX) (hi.map ρX)=some (is,y))(Y:bp cs n ρ is ae):ae=ρ∧∃r,jI (.d (.slice u.size (zs.map u.enc))) (lo.map ρT) (hi.map ρT)=r∧r.ob∧r.bM=.none∧RX ρ (.d (.list u) y) r.t:=by
 unfold vq at h
 split at h
 ·rename_i B F
  simp only[Option.some.injEq,Prod.mk.injEq]at h
  obtain⟨rfl,rfl⟩:=h
  cases Y
  have:lo=none:=by simpa using B
  subst this
  have:hi=none:=by simpa using F
  subst this
  exact⟨rfl,_,rfl,trivial,rfl,ml G⟩
 ·rename_i k a B F
  simp only[Option.some.injEq,Prod.mk.injEq]at h
  obtain⟨rfl,rfl⟩:=h
  have:hi=none:=by simpa using F
  subst this
  obtain⟨ad,rfl,Z⟩:=Option.map_eq_some_iff.1 B
  have M:=ah ad rfl
  rw[Z]at M
  obtain⟨m,j,U⟩:=eI M
  obtain⟨k1,k2⟩:=fE Y
  cases k2
  rw[sg (nj (tw 0) j) (nj j (xD G))]at k1
  have k1:(aB 0 m&&aB m (zs.length:Int))=true:=ed k1
  refine⟨rfl,⟨.d (.slice u.size ((zs.map u.enc).drop m.toNat)),.none,0≤m∧m≤(zs.map u.enc).length⟩,by simp only[jI,Option.map_some,Option.map_none,U,cL],by simpa using k1,rfl,?_⟩
  show RX _ _ (.d (.slice u.size ((zs.map u.enc).drop m.toNat)))
  rw[←List.map_drop]
  exact ml (by simp only[X.den,G,j,bF])
 ·rename_i k b B F
  simp only[Option.some.injEq,Prod.mk.injEq]at h
  obtain⟨rfl,rfl⟩:=h
  have:lo=none:=by simpa using B
  subst this
  obtain⟨af,rfl,aa⟩:=Option.map_eq_some_iff.1 F
  have O:=ag af rfl
  rw[aa]at O
  obtain⟨m,j,U⟩:=eI O
  obtain⟨k1,k2⟩:=fE Y
  cases k2
  rw[sg (nj (tw 0) j) (nj j (xD G))]at k1
  have k1:(aB 0 m&&aB m (zs.length:Int))=true:=ed k1
  refine⟨rfl,⟨.d (.slice u.size ((zs.map u.enc).take m.toNat)),.none,0≤m∧m≤(zs.map u.enc).length⟩,by simp only[jI,Option.map_some,Option.map_none,U,cL],by simpa using k1,rfl,?_⟩
  show RX _ _ (.d (.slice u.size ((zs.map u.enc).take m.toNat)))
  rw[←List.map_take]
  exact ml (by simp only[X.den,G,j,bF])
 ·rename_i k a aj b B F
  simp only[Option.some.injEq,Prod.mk.injEq]at h
  obtain⟨rfl,rfl⟩:=h
  obtain⟨ad,rfl,Z⟩:=Option.map_eq_some_iff.1 B
  obtain⟨af,rfl,aa⟩:=Option.map_eq_some_iff.1 F
  have M:=ah ad rfl
  rw[Z]at M
  obtain⟨m,j,U⟩:=eI M
  have O:=ag af rfl
  rw[aa]at O
  obtain⟨m',ab,ai⟩:=eI O
  obtain⟨k1,k2⟩:=fE Y
  cases k2
  rw[sg (nj (tw 0) j) (sg (nj j ab) (nj ab (xD G)))]at k1
  have k1:(aB 0 m&&(aB m m'&&aB m' (zs.length:Int)))=true:=ed k1
  refine⟨rfl,⟨.d (.slice u.size (((zs.map u.enc).take m'.toNat).drop m.toNat)),.none,0≤m∧m≤m'∧m'≤(zs.map u.enc).length⟩,by simp only[jI,Option.map_some,U,ai,cL],by simpa using k1,rfl,?_⟩
  show RX _ _ (.d (.slice u.size (((zs.map u.enc).take m'.toNat).drop m.toNat)))
  rw[←List.map_take,←List.map_drop]
  exact ml (by simp only[X.den,G,j,ab,bF])
 cases h
theorem bb.list(B:bb P V C){t:TypeId}{u:Ty}(M:C.ty t=some (.list u)):∃sz j z e i,V.E t=some ⟨sz,j,z,.slice e⟩∧V.E e=some i∧i.size=u.size∧i.desc.agg=bE u∧isVal u∧0<u.size∧C.ty e=some u:=by
 obtain⟨i,G,ad,ae,af,F,O⟩:=B.info M
 clear O
 obtain⟨sz,j,z,d⟩:=i
 cases d<;>simp[lR]at F
 rename_i e
 obtain⟨⟨⟨k,Z⟩,aa⟩,ab⟩:=F
 obtain⟨i,U,k1,k2,Y,_⟩:=B.info k
 exact⟨sz,j,z,e,i,G,U,k1,k2,Y,by omega,k⟩
theorem rD{id:Nat}{u:T}(h:RX ρ (.row id) u):u=.row id:=by cases h;rfl
theorem oY{id:Nat}{u:T}(h:RX ρ (.map id) u):u=.map id:=by cases h;rfl
theorem S8(F:bb P V C){t:TypeId}{x:Operand}{lo hi:Option Operand}(j:o.op=.slice t x lo hi none)(ay:RL ρ lX l)(Z:∀x∈o.op.operands,RX ρ (ρX x) (ρT x))(h:cq C ρX lX n nid o=some q)(aj:bp cs n ρ q.ins ae):bm P o ρT l nid ae q:=by
 have k:=Z x (by simp[j,Op.operands])
 have ak:∀a,lo=some a→RX ρ (ρX a) (ρT a):=λa e=>Z a (by subst e;simp[j,Op.operands])
 have ai:∀a,hi=some a→RX ρ (ρX a) (ρT a):=λa e=>Z a (by subst e;simp[j,Op.operands])
 simp only[cq,j]at h
 split at h
 ·rename_i u aA xs ad G
  split at h
  ·rename_i ao;subst ao
   obtain⟨sz,an,z,e,i,M,B,O,aq,ar,au,_⟩:=F.list ad
   simp only[Option.map_eq_some_iff]at h
   obtain⟨⟨is,y⟩,ab,rfl⟩:=h
   rw[G]at k
   obtain⟨zs,U,av⟩:=xK k
   obtain⟨rfl,r,k1,k2,al,af⟩:=Ix U ak ai ab aj
   have aa:evalOp V ρT l nid o=r:=by
    simp only[evalOp,j,M,av]
    rw[if_pos ⟨by simp[aE,B,O],by simp[B]⟩]
    exact k1
   exact .val F.ok aa k2 al af
  cases h
 ·rename_i u id ad G
  obtain⟨sz,an,z,e,i,M,B,O,aq,ar,au,_⟩:=F.list ad
  split at h
  ·rename_i xs l' ax
   simp only[Option.map_eq_some_iff]at h
   obtain⟨⟨is,y⟩,ab,rfl⟩:=h
   rw[G]at k
   have ah:ρT x=.row id:=rD k
   rw[ah]at k
   obtain⟨v,ag,U,_,Y,aw⟩:=Aa ay k ax (λ_ e=>by cases e)
   obtain⟨rfl,r,k1,k2,al,af⟩:=Ix (u:=u) (zs:=v) U ak ai ab aj
   have Y:cC l (.row id)=some (.slice u.size (List.map u.enc v),ag):=Y
   have aa:evalOp V ρT l nid o=⟨r.t,.aC ag,r.ob⟩:=by
    simp only[evalOp,j,M,ah,F.sub,Y]
    rw[if_neg (by simp)]
    rw[if_pos ⟨by simp[aE,B,O],by simp[B]⟩,k1]
   exact⟨_,af,ag,aw,λaz=>br.aC F.ok aa k2 rfl az⟩
  cases h
 cases h
theorem yr{O:Nat→Option (Nat×Nat)}:∀{ps:List (Nat×Operand)}{j F:List TX}{cT:List T},(∀p∈ps,RX ρ (ρX p.2) (ρT p.2))→F2 (RX ρ) j cT→pf O j (ps.map λp=>(p.1,ρX p.2))=some F →
  ∃B,j7 O cT (ps.map λp=>(p.1,ρT p.2))=some B∧F2 (RX ρ) F B
 | [],j,F,cT,_,G,h=>by simp[pf]at h;subst h;exact⟨cT,rfl,G⟩
 |p::ps,j,F,cT,M,G,h=>by
  simp only[List.map_cons,pf]at h
  split at h
  ·rename_i off size vs U Y
   cases k:(Nat.beq vs.length size&&Nat.ble (off+size) j.length)with
   |false=>simp[k]at h
   |true=>
    simp only[k,cond_true]at h
    simp only[Bool.and_eq_true]at k
    have Z:=Nat.eq_of_beq_eq_true k.1;have aa:=Nat.le_of_ble_eq_true k.2
    obtain⟨k1,k2⟩:=sK (M p (by simp)) Y
    obtain⟨B,ab,ad⟩:=yr (λq ae=>M q (by simp[ae])) (zN (off:=off) G k1) h
    refine⟨B,?_,ad⟩
    simp only[List.map_cons,j7,U]
    rw[if_pos ⟨by rw[←k1.len,Z],by rw[←G.len];exact aa,k2⟩]
    exact ab
  cases h
theorem KQ(j:bb P V C){t:TypeId}{Y:Array (Nat×Operand)}(B:o.op=.build t Y)(ad:∀x∈o.op.operands,RX ρ (ρX x) (ρT x))(h:cq C ρX lX n nid o=some q)(hi:bp cs n ρ q.ins ae):bm P o ρT l nid ae q:=by
 have F:∀p∈Y.toList,RX ρ (ρX p.2) (ρT p.2):=λp F=>ad p.2 (by simp[B,Op.operands];exact⟨p.1,by simpa using F⟩)
 simp only[cq,B]at h
 split at h
 ·rename_i s1 ao z fs u hE ah
  obtain⟨i,k,an,ag,ai,M,aj⟩:=j.info ah
  obtain⟨aq,ak,al⟩:=Jw (ρ:=ρ) aj
  rw[j.E,hE]at k
  simp only[Option.some.injEq]at k
  subst k
  rw[ak]at h
  simp only[Option.bind_eq_some_iff,Option.map_eq_some_iff]at h
  obtain⟨ds,aa,v,ab,rfl⟩:=h
  cases hi
  obtain⟨Z,k1,k2⟩:=yr (ρX:=ρX) (ρT:=ρT) F al aa
  have U:bE u=true:=by
   have:(TD.struct fs).agg=true:=rfl
   rw[←ag];rfl
  have G:fs.all (λf=>(V.E f.2).isSome)=true:=by
   rw[j.E]
   cases u<;>first|exact M| (simp[lR]at M;done)| (simp[bE]at U;done)
  have O:=tY ai k2 ab
  rw[U]at O
  have af:evalOp V ρT l nid o=.ok (eA true Z):=by
   simp only[evalOp,B,j.E,hE]
   rw[j.E]at G
   rw[if_pos G,k1]
  exact .val j.ok af trivial rfl O
 cases h
theorem lE:∀{eK:List Ty}{xs:List TX}{ab:List T}{ys:List X}{lX F:List AX}{l:List AO},RL ρ lX l→F2 (RX ρ) xs ab→eJ lX eK xs=some (ys,F) →
  ∃(a:(ay eK).den)(l':List AO),gK ρ eK ys a∧eZ l ab=some (cp eK a,l')∧RL ρ F l'
 | [],[],[],ys,lX,F,l,O,B,h=>by
  simp only[eJ,Option.some.injEq,Prod.mk.injEq]at h
  obtain⟨rfl,rfl⟩:=h
  exact⟨(),l,⟨rfl,λj t h=>by simp at h⟩,rfl,O⟩
 |t::ts,x::xs,u::aj,ys,lX,F,l,O,.cons B ae,h=>by
  simp only[eJ]at h
  cases G:iB lX t x with
  |none=>simp[G]at h
  |some p=>
   obtain⟨y,l1⟩:=p
   simp only[G]at h
   cases M:eJ l1 ts xs with
   |none=>simp[M]at h
   |some p=>
    obtain⟨zs,ah⟩:=p
    simp only[M,Option.some.injEq,Prod.mk.injEq]at h
    obtain⟨rfl,rfl⟩:=h
    obtain⟨v,ai,k1,k2,ag⟩:=rO O B G
    obtain⟨a,Y,U,Z,aa⟩:=lE ag ae M
    cases ts with
    |nil=>
     refine⟨v,Y,⟨by simp[U.1],λj w k=>?_⟩,?_,aa⟩
     ·cases j with
      |zero=>simp at k;subst k;exact⟨y,rfl,by simpa [bX]using k1⟩
      |succ j=>simp at k
     simp only[eZ,k2,Z,cp]
    |cons t' ts=>
     refine⟨(v,a),Y,⟨by simp[U.1],λj w k=>?_⟩,?_,aa⟩
     ·cases j with
      |zero=>simp at k;subst k;exact⟨y,rfl,by simpa [bX]using k1⟩
      |succ j=>
       obtain⟨z,af,ad⟩:=U.2 j w (by simpa using k)
       exact⟨z,by simpa using af,by simpa [bX]using ad⟩
     simp only[eZ,k2,Z];rfl
 | [],[],_::_,_,_,_,_,_,B,_=>by cases B
 |_::_,_::_,[],_,_,_,_,_,B,_=>by cases B
 | [],_::_,_,_,_,_,_,_,_,h=>by simp[eJ]at h
 |_::_,[],_,_,_,_,_,_,_,h=>by simp[eJ]at h
theorem xJ{u:Ty}:∀{k:Nat}{xs:List X}{a:(ay (List.replicate k u)).den},gK ρ (List.replicate k u) xs a→∃zs:List u.den,(np u xs).den ρ=some ⟨.list u,zs⟩∧cp (List.replicate k u) a=zs.map u.enc∧zs.length=k
 |0,xs,a,h=>by
  have:xs=[]:=by simpa using h.1
  subst this
  exact⟨[],rfl,rfl,rfl⟩
 |1,xs,a,h=>by
  obtain⟨x,rfl⟩:∃x,xs=[x]:=by
   have:=h.1
   match xs,this with
   | [x],_=>exact⟨x,rfl⟩
  obtain⟨y,F,B⟩:=h.2 0 u rfl
  simp at F;subst F
  refine⟨[a],?_,rfl,rfl⟩
  have B:x.den ρ=some ⟨u,a⟩:=B
  have G:bZ u ⟨u,a⟩=some a:=eG u a
  simp only[np,X.den,B,bF,G]
 |k+2,xs,a,h=>by
  obtain⟨x,r,rfl⟩:∃x r,xs=x::r:=by
   have:=h.1
   match xs,this with
   |x::r,_=>exact⟨x,r,rfl⟩
  obtain⟨y,F,B⟩:=h.2 0 u (by simp[List.replicate_succ])
  simp at F;subst F
  have B:x.den ρ=some ⟨u,a.1⟩:=B
  obtain⟨zs,M,O,U⟩:=xJ (k:=k+1) (xs:=r) (a:=a.2) ⟨by have:=h.1;simpa using this,λj t Y=>by
   obtain⟨z,Z,aa⟩:=h.2 (j+1) t (by simpa [List.replicate_succ]using Y)
   exact⟨z,by simpa using Z,by simpa [bX,List.replicate_succ]using aa⟩⟩
  refine⟨a.1::zs,?_,?_,by simp[U]⟩
  ·have G:bZ u ⟨u,a.1⟩=some a.1:=eG u a.1
   simp only[np,X.den,B,M,bF,G]
  show u.enc a.1::cp (List.replicate (k+1) u) a.2=_
  rw[O];rfl
end
end Go.Sy
namespace Go.Sy
open Go Go.af
variable [au][bK][bB][bV][aL]
section
variable {P:Program}{V:Env}{C:Cx}{o:Oper}{ρX:Operand→TX}{ρT:Operand→T}{lX:List AX}{l:List AO}{n nid:Nat}{cs:List Callee}{ρ ae:az}{q:bL}
theorem Jh:∀{j:List T}{ds:List D},j.mapM kH=some ds→eZ l j=some (ds,l)
 | [],ds,h=>by simp at h;subst h;rfl
 |u::j,ds,h=>by
  simp only[List.mapM_cons,Option.bind_eq_bind,Option.bind_eq_some_iff,Option.pure_def,Option.some.injEq]at h
  obtain⟨x,k,xs,B,rfl⟩:=h
  have:cC l u=some (x,l):=by
   cases u<;>simp[kH]at k<;>subst k<;>rfl
  simp only[eZ,this,Jh B]
theorem BV{ps:List (Nat×Operand)}(h:∀p∈ps,RX ρ (ρX p.2) (ρT p.2)):F2 (RX ρ) (ps.map λp=>ρX p.2) (ps.map λp=>ρT p.2):=by
 induction ps with
 |nil=>exact .nil
 |cons p ps k=>exact .cons (h p (by simp)) (k λq j=>h q (by simp[j]))
theorem KO(j:bb P V C){t:TypeId}{len:Nat}{k:Array (Nat×Operand)}(M:o.op=.buildSlice t len k)(ak:RL ρ lX l)(aq:∀x∈o.op.operands,RX ρ (ρX x) (ρT x))(h:cq C ρX lX n nid o=some q)(hi:bp cs n ρ q.ins ae):bm P o ρT l nid ae q:=by
 have ah:∀p∈k.toList,RX ρ (ρX p.2) (ρT p.2):=λp ah=>aq p.2 (by simp[M,Op.operands];exact⟨p.1,by simpa using ah⟩)
 simp only[cq,M]at h
 split at h
 ·rename_i s1 aF z e u hE av
  obtain⟨sz,ay,aG,aA,i,Z,U,ao,aB,aa,ab,aD⟩:=j.list av
  rw[j.E,hE]at Z
  simp only[Option.some.injEq,TI.mk.injEq,TD.slice.injEq]at Z
  obtain⟨rfl,rfl,rfl,rfl⟩:=Z
  have F:aE V.E e=u.size:=by simp[aE,U,ao]
  cases af:Nat.beq len 0 with
  |true=>
   have:=Nat.eq_of_beq_eq_true af
   subst this
   simp only[Nat.beq_refl,cond_true]at h
   cases ai:k.toList.isEmpty with
   |false=>simp[ai]at h
   |true=>
    simp only[ai,cond_true,Option.some.injEq]at h
    subst h
    cases hi
    have B:evalOp V ρT l nid o=⟨.row nid,.aC (l++[.row e (aE V.E e) []]),k.toList.isEmpty=true⟩:=by
     simp only[evalOp,M,j.E,hE]
     rw[if_pos (by rw[←j.E];exact⟨by simp[U],by rw[F];exact ab⟩)]
     simp
    rw[F]at B
    exact⟨_,.row nid,_,F2.app ak (.cons (.row e u _ ([]:List u.den) aa rfl) .nil),λY=>br.aC j.ok B ai rfl Y⟩
  |false=>
   simp only[af,cond_false]at h
   cases G:(decide (k.toList.map (·.1)=List.range len)&&Nat.ble (len*u.size) 16777216)with
   |false=>simp[G]at h
   |true=>
    simp only[G,cond_true]at h
    simp only[Bool.and_eq_true,decide_eq_true_eq]at G
    have k2:=Nat.le_of_ble_eq_true G.2
    split at h
    ·rename_i xs l1 ad
     simp only[Option.some.injEq]at h
     subst h
     cases hi
     obtain⟨a,aw,ax,O,an⟩:=lE ak (BV (ρX:=ρX) (ρT:=ρT) ah) ad
     obtain⟨zs,c1,c2,az⟩:=xJ ax
     have al:len≠0:=by rintro rfl;simp at af
     have ar:(zs.map u.enc).all (λd=>d.cells.length == u.size&&d.cells.all D.one)=true:=by
      rw[List.all_eq_true]
      intro d ad
      obtain⟨z,_,rfl⟩:=List.mem_map.1 ad
      rw[gy aa]
      simp only[beq_self_eq_true,Bool.true_and,List.all_eq_true]
      exact oB aa z
     rw[c2]at O
     have aj:k.toList.map (·.1)=List.range len∧len*u.size≤16777216∧(zs.map u.enc).all (λd=>d.cells.length == u.size&&d.cells.all D.one)=true:=⟨G.1,k2,ar⟩
     cases ag:k.toList.mapM (λp=>kH (ρT p.2))with
     |some ds=>
      have au:(k.toList.map λp=>ρT p.2).mapM kH=some ds:=by rw[List.mapM_map];exact ag
      have:=Jh (l:=l) au
      rw[this]at O
      simp only[Option.some.injEq,Prod.mk.injEq]at O
      obtain⟨rfl,rfl⟩:=O
      have B:evalOp V ρT l nid o=.ok (.d (.slice u.size (zs.map u.enc))):=by
       simp only[evalOp,M,j.E,hE,ag]
       rw[if_pos (by rw[←j.E];exact⟨by simp[U],by rw[F];exact ab⟩),if_neg al,←j.E,F,if_pos aj]
      exact⟨_,ml c1,_,an,λY=>br.none j.ok B trivial rfl⟩
     |none=>
      have B:evalOp V ρT l nid o=⟨.d (.slice u.size (zs.map u.enc)),.aC aw,True⟩:=by
       simp only[evalOp,M,j.E,hE,ag,O]
       rw[if_pos (by rw[←j.E];exact⟨by simp[U],by rw[F];exact ab⟩),if_neg al,←j.E,F,if_pos aj]
      exact⟨_,ml c1,_,an,λY=>br.aC j.ok B trivial rfl Y⟩
    cases h
 cases h
theorem br.rU{k B:Operand→T}{t t':T}{l':List AO}(h:br P o k l t l')(U:∀(w0:World)(I0:aq)(w:World)(I:aq)(m:Nat→Value) x v,av w0 I0 w I m l→ah I m l v (B x)→ah I m l v (k x))(O:∀(I:aq)(m:Nat→Value) v,ah I m l' v t→ah I m l' v t'):br P o B l t' l':=
 ⟨h.1,λw0 I0 w I m ρ j Z=>(h.2 w0 I0 w I m ρ j λx Y=>U w0 I0 w I m x _ j (Z x Y)).mono λv w' ⟨J,m',F,G,M⟩=>⟨J,m',F,G,O _ _ _ M⟩⟩
def kh(l:List AO):T→T
 |.row id=>match l[id]? with
  |some (.aM _ s els)=>.aQ id (.slice s els)
  |_=>.row id
 |t=>t
theorem Nx{w0 w:World}{I0 I:aq}{m:Nat→Value}{v:Value}{t:T}(Y:av w0 I0 w I m l)(h:ah I m l v t):ah I m l v (kh l t):=by
 unfold kh
 split
 ·rename_i id
  split
  ·rename_i e s els B
   have ab:=h
   cases h with
   |row A n c _ G k=>
    have U:isRow l id=true:=by simp[isRow,B,AO.isRow]
    obtain⟨xs,k1,k2,aa,F⟩:=Y.obj id _ B
    have O:=k U
    rw[O]at k1 F
    exact .aQ _ _ _ _ _ G k (pz k1 k2 aa λb M j x Z=>(F b M).2.1 j x Z)
  exact h
 exact h
theorem Ny(t:T):cC l (kh l t)=cC l t:=by
 unfold kh
 split
 ·rename_i id
  cases h:l[id]? with
  |none=>rfl
  |some o=>cases o<;>simp[cC,bY,h]
 rfl
theorem th{y:X}{b:Nat}{t:Ty}{zs:List t.den}(j:y.den ρ=some ⟨.list t,zs⟩)(h:(X.u1 (.fit b) y).den ρ=some ⟨.bool,true⟩):zs.length*b≤140737488355328∧zs.length≤9223372036854775807:=by
 simp only[X.den,j,dp]at h
 have h:decide (zs.length*b≤140737488355328∧zs.length≤9223372036854775807)=true:=ed h
 simpa using h
theorem vW{x y:X}{t:Ty}{xs ys:List t.den}(j:x.den ρ=some ⟨.list t,xs⟩)(k:y.den ρ=some ⟨.list t,ys⟩):(X.u2 .app x y).den ρ=some ⟨.list t,xs++ys⟩:=by
 have B:bZ (.list t) ⟨.list t,ys⟩=some ys:=eG (.list t) ys
 simp only[X.den,j,k,bF,B]
 rfl
theorem IY{t:T}{d:D}{l':List AO}{id e s:Nat}{els:List D}(j:l[id]?=some (.aM e s els))(h:bY l t=some (d,l')):l'[id]?=some (.aM e s els):=by
 cases t with
 |d x=>simp only[bY,Option.some.injEq,Prod.mk.injEq]at h;rw[←h.2];exact j
 |aX s=>simp only[bY,Option.some.injEq,Prod.mk.injEq]at h;rw[←h.2];exact j
 |aQ i x=>simp only[bY,Option.some.injEq,Prod.mk.injEq]at h;rw[←h.2];exact j
 |row i=>
  simp only[bY]at h
  split at h
  ·simp only[Option.some.injEq,Prod.mk.injEq]at h;rw[←h.2];exact j
  ·rename_i k
   simp only[Option.some.injEq,Prod.mk.injEq]at h;rw[←h.2]
   have:i≠id:=by rintro rfl;rw[j]at k;cases k
   rw[List.getElem?_set_ne this];exact j
  cases h
 |map i=>
  simp only[bY]at h
  split at h
  ·simp only[Option.some.injEq,Prod.mk.injEq]at h;rw[←h.2];exact j
  ·rename_i k
   simp only[Option.some.injEq,Prod.mk.injEq]at h;rw[←h.2]
   have:i≠id:=by rintro rfl;rw[j]at k;cases k
   rw[List.getElem?_set_ne this];exact j
  cases h
 |_=>simp[bY]at h
theorem AP{id e s:Nat}{els:List D}:∀{ts:List T}{ds:List D}{l l':List AO},l[id]?=some (.aM e s els)→cy l ts=some (ds,l')→l'[id]?=some (.aM e s els)
 | [],ds,l,l',B,h=>by simp only[cy,Option.some.injEq,Prod.mk.injEq]at h;rw[←h.2];exact B
 |t::ts,ds,l,l',B,h=>by
  simp only[cy]at h
  cases j:bY l t with
  |none=>simp[j]at h
  |some p=>
   obtain⟨x,F⟩:=p
   simp only[j]at h
   cases k:cy F ts with
   |none=>simp[k]at h
   |some p=>
    obtain⟨xs,G⟩:=p
    simp only[k,Option.some.injEq,Prod.mk.injEq]at h
    rw[←h.2]
    exact AP (IY B j) k
theorem T3{t:T}{d:D}{l':List AO}{id e s:Nat}{els:List D}(j:l[id]?=some (.aM e s els))(h:cC l t=some (d,l')):l'[id]?=some (.aM e s els):=by
 by_cases k:∃ts,t=.agg ts
 ·obtain⟨ts,rfl⟩:=k
  obtain⟨ds,_,B⟩:=rP h
  exact AP j B
 rw[rQ (λts e=>k ⟨ts,e⟩)]at h
 exact IY j h
theorem ua{k:Nat}{u:T}(h:RX ρ (.aX k) u):u=.aX k:=by cases h;rfl
theorem JR(O:bb P V C){c:Call}{s x:Operand}{t:TypeId}(aP:o.op=.call c)(aJ:c.callee=.builtin .append)(aF:c.args.toList=[s,x])(aI:c.argTypes.toList=[t,t])(ay:RL ρ lX l)(ai:RX ρ (ρX s) (ρT s))(aT:RX ρ (ρX x) (ρT x))(h:vX C t lX nid (ρX s) (ρX x)=some q)(hi:bp cs n ρ q.ins ae):bm P o ρT l nid ae q:=by
 have aq:∀ρT:Operand→T,evalOp V ρT l nid o=iG V.E t l nid (ρT s) (ρT x):=by intro ρT;simp only[evalOp,aP,aJ,aF,aI,if_true]
 unfold vX at h
 split at h
 ·rename_i s1 aY z e u hE aS
  obtain⟨sz,a6,bl,a7,i,aj,ab,ad,ba,ak,bc,bd⟩:=O.list aS
  have af:V.E t=some ⟨s1,aY,z,.slice e⟩:=by rw[O.E];exact hE
  rw[af]at aj
  simp only[Option.some.injEq,TI.mk.injEq,TD.slice.injEq]at aj
  obtain⟨rfl,rfl,rfl,rfl⟩:=aj
  have an:bytesOf C.E e=i.bytes:=by rw[←O.E];simp[bytesOf,ab]
  split at h
  ·rename_i y l1 aL
   obtain⟨new,B,c1,c2,M⟩:∃(new:List u.den)(B:List AO),y.den ρ=some ⟨.list u,new⟩∧cC l (ρT x)=some (.slice u.size (List.map u.enc new),B)∧RL ρ l1 B:=rO ay aT aL
   have ao:(u.size=i.size∨(List.map u.enc new).isEmpty=true)∧0<i.size:=⟨.inl ad.symm,by omega⟩
   cases au:ρX s with
   |aX k=>
    rw[au]at ai h
    have ag:ρT s=.aX k:=ua ai
    simp only[Option.some.injEq]at h
    subst h
    obtain⟨k1,k2⟩:=fE hi
    cases k2
    have:=th c1 k1
    have F:evalOp V ρT l nid o=⟨.row nid,.aC (B++[.row e i.size (List.map u.enc new)]),(List.map u.enc new).length*i.bytes≤140737488355328∧(List.map u.enc new).length≤9223372036854775807⟩:=by
     rw[aq,ag]
     simp only[iG,af,ab,c2]
     rw[if_pos ao]
    rw[ad]at F
    exact⟨_,.row nid,_,F2.app M (.cons (.row e u y new ak c1) .nil),λZ=>br.aC O.ok F (by rw[an]at this;show(List.map u.enc new).length*i.bytes≤140737488355328∧(List.map u.enc new).length≤9223372036854775807;rw[List.length_map];exact this) rfl Z⟩
   |row id=>
    rw[au]at ai h
    have ag:=rD ai
    simp only at h
    split at h
    ·rename_i aA U j bq aN
     split at h
     ·rename_i aK
      obtain⟨rfl,rfl⟩:=aK
      cases G:(Nat.beq nid l1.length&&(xc lX id == aA))with
      |false=>simp[G]at h
      |true=>
       simp only[G,cond_true,Option.some.injEq]at h
       simp only[Bool.and_eq_true]at G
       have ah:=G.2
       have G:=Nat.eq_of_beq_eq_true G.1
       subst h
       obtain⟨k1,k2⟩:=fE hi
       cases k2
       obtain⟨aZ,al,aG⟩:=F2.left M aN
       have az:nid=B.length:=by rw[G];exact M.len
       have bf:(l1.set id .dead).length=(B.set id .dead).length:=by simp[M.len]
       cases aG with
       |row _ _ _ zs _ aw=>
        have aa:=vW aw c1
        have Y:=th aa k1
        have F:evalOp V ρT l nid o=⟨.row nid,.aC (B.set id .dead++[.row U j.size (List.map j.enc zs++List.map j.enc new)]),((List.map j.enc zs).length+(List.map j.enc new).length)*i.bytes≤140737488355328∧(List.map j.enc zs).length+(List.map j.enc new).length≤9223372036854775807⟩:=by
         rw[aq,ag]
         simp only[iG,af,ab,c2]
         rw[if_pos ao]
         simp only[al]
         rw[if_pos ⟨trivial,ad.symm,az⟩]
        have ar:List.map j.enc zs++List.map j.enc new=List.map j.enc (zs++new):=List.map_append.symm
        rw[ar]at F
        exact⟨_,.row nid,_,F2.app (F2.set M .dead id) (.cons (.row U j _ (zs++new) ak aa) .nil),λZ=>br.aC O.ok F (by rw[an]at Y;simpa using Y) rfl Z⟩
       |aM _ _ _ zs _ aw=>
        have aa:=vW aw c1
        have Y:=th aa k1
        have aO:l[id]?=some (.aM U j.size (zs.map j.enc)):=by
         unfold xc at ah
         split at ah
         ·rename_i aB a8 bj bn aD
          have:aB=true:=by simpa using ah
          subst this
          obtain⟨a1,ax,aH⟩:=F2.left ay aD
          cases aH with
          |aM _ _ _ bo _ bg=>
           have:=T3 ax c2
           rw[al]at this
           rw[ax,←this]
         simp at ah
        have aE:kh l (ρT s)=.aQ id (.slice j.size (zs.map j.enc)):=by rw[ag];simp only[kh,aO]
        have aU:cC l (kh l (ρT x))=some (.slice j.size (List.map j.enc new),B):=by rw[Ny,c2]
        have F:evalOp V (λy=>kh l (ρT y)) l nid o=⟨.aQ nid (.slice j.size (List.map j.enc zs++List.map j.enc new)),.aC (B.set id .dead++[.aM U j.size (List.map j.enc zs++List.map j.enc new)]),((List.map j.enc zs).length+(List.map j.enc new).length)*i.bytes≤140737488355328∧(List.map j.enc zs).length+(List.map j.enc new).length≤9223372036854775807⟩:=by
         rw[aq]
         show iG V.E t l nid (kh l (ρT s)) (kh l (ρT x))=_
         rw[aE]
         simp only[iG,af,ab,aU]
         rw[if_pos ao]
         simp only[al]
         rw[if_pos ⟨trivial,ad.symm,az⟩]
        have ar:List.map j.enc zs++List.map j.enc new=List.map j.enc (zs++new):=List.map_append.symm
        rw[ar]at F
        refine⟨.row nid,.row nid,_,F2.app (F2.set M .dead id) (.cons (.aM U j _ (zs++new) ak aa) .nil),λZ=>?_⟩
        refine(br.aC O.ok F (by rw[an]at Y;simpa using Y) rfl Z).rU (λw0 I0 w I m x v aR av=>Nx aR av) (λI m v av=>?_)
        cases av with
        |aQ A a b _ _ aV aW bh=>exact .row A a b _ aV aW
     cases h
    cases h
   |_=>rw[au]at h;simp at h
  cases h
 cases h
end
end Go.Sy
namespace Go.Sy
open Go Go.af
variable [au][bK][bB][bV][aL]
theorem sY{k:IntKind}(a b:Int):j0 (.int k) a b=decide (a=b):=rfl
theorem Oa(k:IntKind){α:Type}(m:List (Int×α))(n:Int):dO m n=ku (.int k) m n:=by
 unfold dO ku
 congr 1
 funext p
 show(p.1 == n)=decide (n=p.1)
 rw[Bool.eq_iff_iff]
 exact⟨λh=>decide_eq_true (eq_of_beq h).symm,λh=>beq_iff_eq.2 (of_decide_eq_true h).symm⟩
theorem N9(k:IntKind){α:Type}(m:List (Int×α))(n:Int)(d:α):aZ m n d=jy (.int k) m n d:=by
 unfold aZ jy
 have:(λp:Int×α=>p.1 == n)=λp=>j0 (.int k) n p.1:=by
  funext p
  show(p.1 == n)=decide (n=p.1)
  rw[Bool.eq_iff_iff]
  exact⟨λh=>decide_eq_true (eq_of_beq h).symm,λh=>beq_iff_eq.2 (of_decide_eq_true h).symm⟩
 rw[this];rfl
theorem Dv(k:IntKind){α:Type}:∀(m:List (Int×α))(n:Int)(v:α),bc m n v=iV (.int k) m n v
 | [],_,_=>rfl
 |p::m,n,v=>by
  have j:=Dv k m n v
  show(if p.1=n then(n,v)::m else p::bc m n v)=(if j0 (.int k) n p.1=true then(p.1,v)::m else p::iV (.int k) m n v)
  by_cases e:p.1=n
  ·rw[if_pos e,if_pos (by rw[sY];simp[e]),e]
  rw[if_neg e,if_neg (by rw[sY];simp;exact λh=>e h.symm),j]
theorem De(k:IntKind){α:Type}:∀(m:List (Int×α))(n:Int),oZ m n=ko (.int k) m n
 | [],_=>rfl
 |p::m,n=>by
  have j:=De k m n
  show(if p.1=n then m else p::oZ m n)=(if j0 (.int k) n p.1=true then m else p::ko (.int k) m n)
  by_cases e:p.1=n
  ·rw[if_pos e,if_pos (by rw[sY];simp[e])]
  rw[if_neg e,if_neg (by rw[sY];simp;exact λh=>e h.symm),j]
theorem Dm(t:Ty){α:Type}(m:List (t.den×α))(k:t.den):o5 t m k=ku t m k:=by
 cases t<;>first|rfl|exact Oa _ m k
theorem Di(t:Ty){α:Type}(m:List (t.den×α))(k:t.den)(d:α):kr t m k d=jy t m k d:=by
 cases t<;>first|rfl|exact N9 _ m k d
theorem Dy(t:Ty){α:Type}(m:List (t.den×α))(k:t.den)(v:α):fR t m k v=iV t m k v:=by
 cases t<;>first|rfl|exact Dv _ m k v
theorem Df(t:Ty){α:Type}(m:List (t.den×α))(k:t.den):l6 t m k=ko t m k:=by
 cases t<;>first|rfl|exact De _ m k
theorem tL{t:Ty}{α:Type}{k:t.den}{m:List (t.den×α)}{q j:Nat}(h:bW (t.enc k) (m.map λp=>t.enc p.1) q=some j):∃e r,j=q+r∧m[r]?=some e∧(∀d,kr t m k d=e.2)∧o5 t m k=true∧(∀y,fR t m k y=m.set r (e.1,y))∧l6 t m k=m.eraseIdx r:=by
 rw[Dm,Df]
 suffices Z:∃e r,j=q+r∧m[r]?=some e∧(∀d,jy t m k d=e.2)∧ku t m k=true∧(∀y,iV t m k y=m.set r (e.1,y))∧ko t m k=m.eraseIdx r by
  obtain⟨e,r,Y,F,G,M,O,U⟩:=Z
  exact⟨e,r,Y,F,λd=>by rw[Di];exact G d,M,λy=>by rw[Dy];exact O y,U⟩
 induction m generalizing q with
 |nil=>cases h
 |cons p m aa=>
  simp only[List.map_cons,bW]at h
  cases B:j0 t k p.1 with
  |true=>
   rw[if_pos (show fe (t.enc k) (t.enc p.1)=true from B)]at h
   injection h with h
   exact⟨p,0,by omega,rfl,λd=>by simp[jy,List.find?_cons,B],by simp[ku,B],λy=>by simp[iV,B],by simp[ko,B]⟩
  |false=>
   rw[if_neg (show ¬fe (t.enc k) (t.enc p.1)=true from λe=>by rw[show fe (t.enc k) (t.enc p.1)=false from B]at e;cases e)]at h
   obtain⟨e,r,Y,F,G,M,O,U⟩:=aa h
   exact⟨e,r+1,by omega,by simpa using F,λd=>by have:=G d;simpa [jy,List.find?_cons,B]using this,by simpa [ku,B]using M,λy=>by simp[iV,B,O],by simp[ko,B,U]⟩
theorem tK{t:Ty}{α:Type}{k:t.den}{m:List (t.den×α)}{q:Nat}(h:bW (t.enc k) (m.map λp=>t.enc p.1) q=none):(∀d,kr t m k d=d)∧o5 t m k=false∧(∀y,fR t m k y=m++[(k,y)])∧l6 t m k=m:=by
 rw[Dm,Df]
 suffices O:(∀d,jy t m k d=d)∧ku t m k=false∧(∀y,iV t m k y=m++[(k,y)])∧ko t m k=m by
  obtain⟨B,F,G,M⟩:=O
  exact⟨λd=>by rw[Di];exact B d,F,λy=>by rw[Dy];exact G y,M⟩
 induction m generalizing q with
 |nil=>exact⟨λd=>rfl,rfl,λy=>rfl,rfl⟩
 |cons p m U=>
  simp only[List.map_cons,bW]at h
  cases j:j0 t k p.1 with
  |true=>rw[if_pos (show fe (t.enc k) (t.enc p.1)=true from j)]at h;cases h
  |false=>
   rw[if_neg (show ¬fe (t.enc k) (t.enc p.1)=true from λe=>by rw[show fe (t.enc k) (t.enc p.1)=false from j]at e;cases e)]at h
   obtain⟨B,F,G,M⟩:=U h
   exact⟨λd=>by have:=B d;simpa [jy,List.find?_cons,j]using this,by simpa [ku,j]using F,λy=>by simp[iV,j,G],by simp[ko,j,M]⟩
theorem oU{K:KT}{t:Ty}(k:∀a:t.den,K.ok (t.enc a)=true){α:Type}(m:List (t.den×α)):gZ K (m.map λp=>t.enc p.1)=true:=by
 unfold gZ
 rw[List.all_eq_true]
 intro d j
 obtain⟨p,_,rfl⟩:=List.mem_map.1 j
 exact k p.1
theorem DQ{t:Ty}{α:Type}{m:t.den}{w:α}(zs:List (t.den×α))(f:α→D):(match bW (t.enc m) (zs.map λp=>t.enc p.1) 0 with|some j=>AO.map (zs.map λp=>t.enc p.1) ((zs.map λp=>f p.2).set j (f w))|none=>AO.map ((zs.map λp=>t.enc p.1)++[t.enc m]) ((zs.map λp=>f p.2)++[f w])) =
  AO.map ((fR t zs m w).map λp=>t.enc p.1) ((fR t zs m w).map λp=>f p.2):=by
 cases F:bW (t.enc m) (zs.map λp=>t.enc p.1) 0 with
 |some j=>
  obtain⟨O,M,U,B,_,_,k,_⟩:=tL F
  have:j=M:=by omega
  subst this
  simp only
  rw[k]
  congr 1
  ·rw[List.map_set]
   refine List.ext_getElem? λq=>?_
   rw[List.getElem?_set]
   split
   ·rename_i G
    subst G
    have:=(List.getElem?_eq_some_iff.1 B).1
    rw[List.getElem?_map,B,if_pos (by simpa using this)]
    rfl
   rfl
  rw[List.map_set]
 |none=>
  obtain⟨_,_,k,_⟩:=tK F
  simp only
  rw[k]
  simp
theorem wM{α β:Type}(f:α→β):∀(l:List α)(k:Nat),(l.eraseIdx k).map f=(l.map f).eraseIdx k
 | [],k=>by simp
 |x::l,0=>rfl
 |x::l,k+1=>by simp[wM f l k]
theorem LL{t:Ty}{α:Type}{m:t.den}(zs:List (t.den×α))(f:α→D):(match bW (t.enc m) (zs.map λp=>t.enc p.1) 0 with|some j=>AO.map ((zs.map λp=>t.enc p.1).eraseIdx j) ((zs.map λp=>f p.2).eraseIdx j)|none=>AO.map (zs.map λp=>t.enc p.1) (zs.map λp=>f p.2)) =
  AO.map ((l6 t zs m).map λp=>t.enc p.1) ((l6 t zs m).map λp=>f p.2):=by
 cases B:bW (t.enc m) (zs.map λp=>t.enc p.1) 0 with
 |some j=>
  obtain⟨G,F,M,O,_,_,_,k⟩:=tL B
  have:j=F:=by omega
  subst this
  simp only
  rw[k,wM,wM]
 |none=>
  obtain⟨_,_,_,k⟩:=tK B
  simp only
  rw[k]
section
variable {P:Program}{V:Env}{C:Cx}{o:Oper}{ρX:Operand→TX}{ρT:Operand→T}{lX:List AX}{l:List AO}{n nid:Nat}{cs:List Callee}{ρ ae:az}{q:bL}
theorem UQ:∀(f:Nat){t:Ty}{x:X},iD f t=some x→∃v:t.den,x.den ρ=some ⟨t,v⟩:=by
 intro f
 induction f with
 |zero=>intro t x h;simp[iD]at h
 |succ f U=>
  intro t x h
  cases t with
  |st i=>
   simp only[iD,Option.map_eq_some_iff]at h
   obtain⟨xs,M,rfl⟩:=h
   have Z:∀(ts:List Ty)(xs:List X),ts.mapM (iD f)=some xs→∃a:(ay ts).den,gK ρ ts xs a:=by
    intro ts
    induction ts with
    |nil=>intro xs h;simp at h;subst h;exact⟨(),rfl,λj t h=>by simp at h⟩
    |cons t ts Y=>
     intro xs h
     simp only[List.mapM_cons,Option.bind_eq_bind,Option.bind_eq_some_iff,Option.pure_def,Option.some.injEq]at h
     obtain⟨x,G,ys,O,rfl⟩:=h
     obtain⟨v,F⟩:=U G
     obtain⟨a,k⟩:=Y ys O
     obtain⟨b,B,_⟩:=wq F k
     exact⟨b,B⟩
   obtain⟨a,k⟩:=Z _ _ M
   exact⟨au.du i a,Dr (kF k.1 k.2)⟩
  |_=>simp[iD]at h<;>subst h<;>exact⟨_,rfl⟩
theorem Ay{v:Ty}{i:TI}{z:X}(B:isVal v)(j:mG v i.zero=true)(M:i.desc.agg=bE v)(F:iD eP v=some z):∃k:v.den,z.den ρ=some ⟨v,k⟩∧dY i.desc.agg i.zero=v.enc k:=by
 obtain⟨k,G⟩:=UQ (ρ:=ρ) _ F
 refine⟨k,G,?_⟩
 unfold mG at j
 rw[F]at j
 simp only at j
 split at j
 ·rename_i ps O
  rw[Jy j (mQ _ B G O),M,x4 B]
 cases j
theorem Bo{kk:IntKind}:∀(n:Nat)(x:(ay (List.replicate n (Ty.int kk))).den),(cellsOf (List.replicate n (Ty.int kk)) x).length=n∧(cellsOf (List.replicate n (Ty.int kk)) x).all (fF kk)=true
 |0,_=>⟨rfl,rfl⟩
 |1,x=>⟨rfl,by show(fF kk (.int kk x)&&true)=true;simp[fF]⟩
 |n+2,x=>by
  obtain⟨j,k⟩:=Bo (n+1) x.2
  have e:cellsOf (List.replicate (n+2) (Ty.int kk)) x=[D.int kk x.1]++cellsOf (List.replicate (n+1) (Ty.int kk)) x.2:=rfl
  rw[e]
  exact⟨by simp only[List.length_append,List.length_singleton,j];omega,by rw[List.all_append,k];simp[fF]⟩
theorem Nq{i n:Nat}{kk:IntKind}(B:au.bC i=List.replicate n (Ty.int kk))(a:bQ.cu i):lh n kk ((Ty.st i).enc a)=true:=by
 have e:(Ty.st i).enc a=.agg (au.cells i a):=rfl
 rw[e]
 have F:∀(ts:List Ty)(x:(ay ts).den),ts=List.replicate n (Ty.int kk)→lh n kk (.agg (cellsOf ts x))=true:=by
  rintro _ x rfl
  obtain⟨j,k⟩:=Bo n x
  simp only[lh,j,k,decide_true,Bool.and_self]
 rw[bB.cells]
 exact F _ _ B
theorem bb.map(Y:bb P V C){t:TypeId}{k v:Ty}(ad:C.ty t=some (.map k v))(j:gi C t k=true):∃K i,eU V.E t=some (K,i)∧(∀a:k.den,K.ok (k.enc a)=true)∧isVal v∧i.desc.agg=bE v∧mG v i.zero=true:=by
 obtain⟨i,aa,aq,ar,au,Z,ae⟩:=Y.info ad
 clear ae
 obtain⟨sz,ai,z,d⟩:=i
 cases d<;>simp[lR]at Z
 rename_i af aw
 obtain⟨⟨⟨⟨⟨aj,ab⟩,ak⟩,al⟩,an⟩,ao⟩:=Z
 obtain⟨F,b0,ag,G,M,ah,O⟩:=Y.info ab
 unfold gi at j
 rw[←Y.E,aa]at j
 simp only at j
 have U:∀K,tH V.E af=some K→eU V.E t=some (K,F):=λK h=>by simp only[eU,aa,h,b0]
 split at j
 ·rename_i kk av B
  have:=of_decide_eq_true j
  subst this
  exact⟨_,F,U _ B,λa=>by show fF kk (.int kk a)=true;simp[fF],M,G,O⟩
 ·rename_i n kk i B
  exact⟨_,F,U _ B,λa=>Nq (of_decide_eq_true j) a,M,G,O⟩
 ·rename_i B
  exact⟨_,F,U _ B,λa=>rfl,M,G,O⟩
 cases j
theorem NN(ah:bb P V C){t:TypeId}{x k:Operand}{ok:Bool}(ar:o.op=.lookup t x k ok)(aB:RL ρ lX l)(aG:RX ρ (ρX x) (ρT x))(ao:RX ρ (ρX k) (ρT k))(h:cq C ρX lX n nid o=some q)(hi:bp cs n ρ q.ins ae):bm P o ρT l nid ae q:=by
 have M:evalOp V ρT l nid o=nu V.E t l (ρT x) (ρT k) ok:=by simp only[evalOp,ar]
 simp only[cq,ar]at h
 split at h
 ·rename_i F v aL U aC aj
  rw[aj]at ao
  obtain⟨_,m,aq,aD⟩:=dN ao
  split at h
  ·rename_i aa;subst aa
   cases ai:gi C t F with
   |false=>simp[ai]at h
   |true=>
    simp only[ai,cond_true]at h
    obtain⟨K,i,av,ag,af,ax,ay⟩:=ah.map (l5 aC) ai
    split at h
    ·rename_i mx z aF aH
     have:=eh h;subst this;cases hi
     obtain⟨B,c1,c2⟩:=Dc aB aG aF
     have c2:mapOf l (ρT x)=some (B.map (λp=>F.enc p.1),B.map λp=>v.enc p.2):=c2
     obtain⟨O,aJ,aK⟩:=Ay (ρ:=ρ) af ay ax aH
     have G:bZ v ⟨v,O⟩=some O:=eG v O
     have al:bZ F ⟨F,m⟩=some m:=eG F m
     have an:(X.u3 .l7 mx U z).den ρ=some ⟨v,kr F B m O⟩:=by
      simp only[X.den,c1,aq,aJ,mC,G,al]
     have aA:(X.u2 .qy mx U).den ρ=some ⟨.bool,o5 F B m⟩:=by
      simp only[X.den,c1,aq,bF,al]
     simp only[nu,av,c2,aD,ag m,if_true]at M
     have ak:∀(a:D)(b:Bool),a=v.enc (kr F B m O)→b=o5 F B m→RX ρ (bif ok then TX.aw [.d v (.u3 .l7 mx U z),.d .bool (.u2 .qy mx U)]else .d v (.u3 .l7 mx U z)) (if ok then .d (.aw [a,.bool b])else .d a):=by
      rintro a b rfl rfl
      cases ok with
      |true=>
       refine .eY _ _ rfl λj c d G Y=>?_
       rcases j with _|_|j
       ·simp at G Y;subst G;subst Y;exact .d v _ _ af an
       ·simp at G Y;subst G;subst Y;exact dI aA
       simp at G
      |false=>exact .d v _ _ af an
     cases Z:bW (F.enc m) (B.map λp=>F.enc p.1) 0 with
     |some j=>
      obtain⟨au,aI,aj,aa,ab,ad,_⟩:=tL Z
      rw[Z]at M
      simp only at M
      have az:dS (B.map λp=>v.enc p.2) j=v.enc (kr F B m O):=by
       rw[ab]
       have:j=aI:=by omega
       subst this
       have aE:(B.map λp=>v.enc p.2)[j]?=some (v.enc au.2):=by rw[List.getElem?_map];exact congrArg (Option.map _) aa
       show((B.map λp=>v.enc p.2)[j]?).getD .ch=_
       rw[aE]
       rfl
      exact .val ah.ok M (oU ag B) rfl (ak _ _ az ad.symm)
     |none=>
      obtain⟨ab,ad,_⟩:=tK Z
      rw[Z]at M
      simp only at M
      exact .val ah.ok M (oU ag B) rfl (ak _ _ (by rw[ab];exact aK) ad.symm)
    cases h
  cases h
 cases h
theorem xT(j:bb P V C){t:TypeId}{x:Operand}(U:o.op=.makeMap t (some x))(G:RX ρ (ρX x) (ρT x))(Z:RL ρ lX l)(h:cq C ρX lX n nid o=some q)(hi:bp cs n ρ q.ins ae):bm P o ρT l nid ae q:=by
 simp only[cq,U]at h
 split at h
 ·rename_i k v kk y O ad
  cases F:gi C t k with
  |false=>rw[F]at h;cases h
  |true=>
   rw[F]at h
   simp only[cond_true,Option.some.injEq]at h
   subst h
   cases hi
   rw[ad]at G
   obtain⟨z,an,af⟩:=eI G
   obtain⟨K,al,ab,_⟩:=j.map (l5 O) F
   have Y:evalOp V ρT l nid o=⟨.map nid,.aC (l++[.map [] []]),True⟩:=by simp only[evalOp,U,ab,af]
   obtain⟨i,ah,ai,aj,ak,B,_⟩:=j.info (l5 O)
   have M:isVal k∧isVal v:=by
    obtain⟨sz,ag,z,d⟩:=i
    cases d<;>simp[lR]at B
    exact⟨bx B.1.1.1.2,bx B.1.1.2⟩
   exact⟨_,.map nid,_,F2.app Z (.cons (.map k v _ ([]:List (k.den×v.den)) M.1 M.2 rfl) .nil),λaa=>br.aC j.ok Y trivial rfl aa⟩
 cases h
theorem xU(B:bb P V C){t:TypeId}(G:o.op=.makeMap t none)(O:RL ρ lX l)(h:cq C ρX lX n nid o=some q)(hi:bp cs n ρ q.ins ae):bm P o ρT l nid ae q:=by
 have M:evalOp V ρT l nid o=⟨.map nid,.aC (l++[.map [] []]),True⟩:=by simp only[evalOp,G]
 simp only[cq,G]at h
 split at h
 ·rename_i k v U
  simp only[Option.some.injEq]at h
  subst h
  cases hi
  obtain⟨i,aa,ab,ad,af,j,_⟩:=B.info (l5 U)
  have F:isVal k∧isVal v:=by
   obtain⟨sz,Z,z,d⟩:=i
   cases d<;>simp[lR]at j
   exact⟨bx j.1.1.1.2,bx j.1.1.2⟩
  exact⟨_,.map nid,_,F2.app O (.cons (.map k v _ ([]:List (k.den×v.den)) F.1 F.2 rfl) .nil),λY=>br.aC B.ok M trivial rfl Y⟩
 cases h
theorem NU(j:bb P V C){t:TypeId}{a b:Operand}(aA:o.op=.makeSlice t a b)(ax:RL ρ lX l)(ab:RX ρ (ρX a) (ρT a))(ad:RX ρ (ρX b) (ρT b))(h:xV C t lX nid (ρX a) (ρX b)=some q)(hi:bp cs n ρ q.ins ae):bm P o ρT l nid ae q:=by
 have k:evalOp V ρT l nid o=kj V.E t l nid (ρT a) (ρT b):=by simp only[evalOp,aA]
 unfold xV at h
 split at h
 ·rename_i s1 aI aJ e u aT ah aU cx hE aD ak al
  rw[ak]at ab;rw[al]at ad
  obtain⟨m,M,ai⟩:=eI ab
  obtain⟨m',B,aj⟩:=eI ad
  split at h
  ·rename_i z aE
   cases Y:X.beq ah cx with
   |false=>simp[Y]at h
   |true=>
    simp only[Y,cond_true,Option.some.injEq]at h
    have:=X.beq_eq Y
    subst this
    rw[M]at B
    injection B with B
    cases B
    subst h
    obtain⟨k1,k2⟩:=fE hi
    obtain⟨aG,aH⟩:=fE k2
    cases aH
    obtain⟨sz,aM,aV,aN,i,O,U,ar,au,Z,aO,av⟩:=j.list aD
    have aa:V.E t=some ⟨s1,aI,aJ,.slice e⟩:=by rw[j.E];exact hE
    rw[aa]at O
    simp only[Option.some.injEq,TI.mk.injEq,TD.slice.injEq]at O
    obtain⟨rfl,rfl,rfl,rfl⟩:=O
    obtain⟨aS,F,aP,aQ,aR,_,aF⟩:=j.info av
    rw[U]at F
    injection F with F;subst F
    obtain⟨G,aK,aL⟩:=Ay (ρ:=ρ) Z aF au aE
    have af:0≤m:=by
     simp only[iX,X.den,M,bF]at k1
     have k1:aB 0 m=true:=ed k1
     simpa using k1
    have ag:(X.u2 .rep ah z).den ρ=some ⟨.list u,List.replicate m.toNat G⟩:=by simp only[X.den,M,aK,bF]
    have aw:bytesOf C.E e=i.bytes:=by rw[←j.E];simp[bytesOf,U]
    obtain⟨an,ao⟩:=th ag aG
    rw[aw,List.length_replicate]at an
    rw[List.length_replicate]at ao
    rw[ai,aj]at k
    simp only[kj,aa,cL,U]at k
    rw[if_pos (by omega),aL,ar]at k
    have ay:List.replicate m.toNat (u.enc G)=(List.replicate m.toNat G).map u.enc:=List.map_replicate.symm
    rw[ay]at k
    have aq:m*(i.bytes:Int)≤140737488355328:=by
     have:((m.toNat*i.bytes:Nat):Int)=m*i.bytes:=by rw[Int.natCast_mul,Int.toNat_of_nonneg af]
     omega
    exact⟨_,.row nid,_,F2.app ax (.cons (.row e u _ (List.replicate m.toNat G) Z ag) .nil),λaz=>br.aC j.ok k ⟨af,trivial,aq,by omega⟩ rfl az⟩
  cases h
 cases h
theorem Db(O:bb P V C){t:TypeId}{B k x:Operand}(ho:o.op=.mapUpdate t B k x∨o.op=.insert t B k x)(ax:RL ρ lX l)(aa:RX ρ (ρX B) (ρT B))(Y:RX ρ (ρX k) (ρT k))(aF:RX ρ (ρX x) (ρT x))(h:uD C t lX (ρX B) (ρX k) (ρX x)=some q)(hi:bp cs n ρ q.ins ae):bm P o ρT l nid ae q:=by
 have U:evalOp V ρT l nid o=jw V.E t l (ρT B) (ρT k) (ρT x):=by rcases ho with ho|ho<;>simp only[evalOp,ho]
 unfold uD at h
 split at h
 ·rename_i j v id aQ aH aA ad af
  rw[ad]at aa;rw[af]at Y
  obtain⟨_,m,ay,az⟩:=dN Y
  have an:=oY aa
  split at h
  ·rename_i y l1 aD
   split at h
   ·rename_i aP aR aI aw
    split at h
    ·rename_i ag
     obtain⟨ah,F,ai⟩:=ag
     subst ah;have F:=F.symm;subst F;subst ai
     cases G:gi C t j with
     |false=>simp[G]at h
     |true=>
      simp only[G,cond_true,Option.some.injEq]at h;subst h
      cases hi
      obtain⟨K,i,aj,M,aM,aN,aO⟩:=O.map (l5 aA) G
      obtain⟨w,ab,aJ,aK,Z⟩:=rO ax aF aD
      obtain⟨aL,ao,ar⟩:=F2.left Z aw
      cases ar with
      |map _ _ _ zs ak al aG=>
       have au:bZ v ⟨v,w⟩=some w:=eG v w
       have av:bZ j ⟨j,m⟩=some m:=eG j m
       have aE:(X.u3 .o6 aI aH y).den ρ=some ⟨.map j v,fR j zs m w⟩:=by
        simp only[X.den,aG,ay,aJ,mC,au,av]
       have aq:ab[id]?=some (.map (zs.map λp=>j.enc p.1) (zs.map λp=>v.enc p.2)):=ao
       simp only[jw,aj,an,az,aK,M m,if_true,aq]at U
       refine⟨_,.undef _,_,F2.set Z (.map j v _ (fR j zs m w) ak al aE) id,λaB=>br.aC O.ok U (oU M zs) ?_ aB⟩
       exact congrArg (λx=>vS.aC (ab.set id x)) (DQ (m:=m) (w:=w) zs v.enc)
    cases h
   cases h
  cases h
 cases h
theorem LN(Y:bb P V C){c:Call}{t t':TypeId}{F k:Operand}(aF:o.op=.call c)(M:c.callee=.builtin .delete)(aq:c.args.toList=[F,k])(aw:c.argTypes.toList=[t,t'])(ab:RL ρ lX l)(ad:RX ρ (ρX F) (ρT F))(aa:RX ρ (ρX k) (ρT k))(h:wC C t lX (ρX F) (ρX k)=some q)(hi:bp cs n ρ q.ins ae):bm P o ρT l nid ae q:=by
 have Z:evalOp V ρT l nid o=ll V.E t l (ρT F) (ρT k):=by simp only[evalOp,aF,M,aq,aw]
 unfold wC at h
 split at h
 ·rename_i B v id aO aH aD af ag
  rw[af]at ad;rw[ag]at aa
  obtain⟨_,m,aA,aB⟩:=dN aa
  have ao:=oY ad
  split at h
  ·rename_i aN aP aI az
   split at h
   ·rename_i ah
    obtain⟨ai,G,aj⟩:=ah
    subst ai;have G:=G.symm;subst G;subst aj
    cases O:gi C t B with
    |false=>simp[O]at h
    |true=>
     simp only[O,cond_true,Option.some.injEq]at h;subst h
     cases hi
     obtain⟨K,i,ak,U,aK,aL,aM⟩:=Y.map (l5 aD) O
     obtain⟨aJ,ar,av⟩:=F2.left ab az
     cases av with
     |map _ _ _ zs al an aG=>
      have ax:bZ B ⟨B,m⟩=some m:=eG B m
      have ay:(X.u2 .tU aI aH).den ρ=some ⟨.map B v,l6 B zs m⟩:=by
       simp only[X.den,aG,aA,bF,ax]
      have au:l[id]?=some (.map (zs.map λp=>B.enc p.1) (zs.map λp=>v.enc p.2)):=ar
      simp only[ll,ak,ao,aB,U m,if_true,au]at Z
      refine⟨_,.eY [] [] rfl (λj c d M=>by simp at M),_,F2.set ab (.map B v _ (l6 B zs m) al an ay) id,λaE=>br.aC Y.ok Z (oU U zs) ?_ aE⟩
      exact congrArg (λx=>vS.aC (l.set id x)) (LL (m:=m) zs v.enc)
   cases h
  cases h
 cases h
end
end Go.Sy
namespace Go.Sy
open Go Go.af
variable [au][bK][bB][bV][aL]
section
variable {P:Program}{V:Env}{C:Cx}{o:Oper}{ρX:Operand→TX}{ρT:Operand→T}{lX:List AX}{l:List AO}{n nid:Nat}{cs:List Callee}{ρ ae:az}{q:bL}
theorem LY{t:Ty}(h:isVal t)(v:t.den):(t.cH v).2=[t.enc v]:=by
 cases t<;>first|rfl|exact absurd rfl (h.1 _ _)|exact absurd rfl h.2
theorem sW:∀{ts:List Ty}{a:(ay ts).den},(∀t∈ts,isVal t)→((ay ts).cH a).2=cp ts a
 | [],a,_=>rfl
 | [t],a,h=>LY (h t (by simp)) a
 |t::u::ts,a,h=>by
  show(t.cH a.1).1::((ay (u::ts)).cH a.2).2=_
  rw[sW (ts:=u::ts) (λw j=>h w (List.mem_cons_of_mem _ j))]
  rfl
theorem Je:∀{xs:List TX}{F:List T}{ps:List (Ty×X)},F2 (RX ρ) xs F→xs.mapM oz=some ps→∃a:(ay (ps.map (·.1))).den,gK ρ (ps.map (·.1)) (ps.map (·.2)) a∧F=(cp (ps.map (·.1)) a).map .d∧∀t∈ps.map (·.1),isVal t
 | [],F,ps,G,h=>by
  cases G
  simp at h;subst h
  exact⟨(),⟨rfl,λj t h=>by simp at h⟩,rfl,λt h=>by simp at h⟩
 |x::xs,F,ps,G,h=>by
  cases G with
  |cons aa ab=>
   simp only[List.mapM_cons,Option.bind_eq_bind,Option.bind_eq_some_iff,Option.pure_def,Option.some.injEq]at h
   obtain⟨p,B,M,ae,rfl⟩:=h
   have:=Bz B
   subst this
   obtain⟨a,k1,k2,ah⟩:=Je ab ae
   obtain⟨af,v,O,ai⟩:=dN aa
   have e:∀(ts:List Ty)(a:(ay ts).den)(ys:List X),gK ρ ts ys a→∃b:(ay (p.1::ts)).den,gK ρ (p.1::ts) (p.2::ys) b∧cp (p.1::ts) b=p.1.enc v::cp ts a:=by
    intro ts a ys B
    cases ts with
    |nil=>
     refine⟨v,⟨by simp[B.1],λj w k=>?_⟩,rfl⟩
     cases j with
     |zero=>simp at k;subst k;exact⟨p.2,rfl,by simpa [bX]using O⟩
     |succ j=>simp at k
    |cons u ts=>
     refine⟨(v,a),⟨by simp[B.1],λj w k=>?_⟩,rfl⟩
     cases j with
     |zero=>simp at k;subst k;exact⟨p.2,rfl,by simpa [bX]using O⟩
     |succ j=>
      obtain⟨y,ag,ad⟩:=B.2 j w (by simpa using k)
      exact⟨y,by simpa using ag,by simpa [bX]using ad⟩
   obtain⟨b,U,Y⟩:=e _ a _ k1
   refine⟨b,U,?_,?_⟩
   ·have Z:cp (List.map (λx:Ty×X=>x.1) (p::M)) b=p.1.enc v::cp (M.map λx:Ty×X=>x.1) a:=Y
    rw[Z,ai,k2];rfl
   intro t ht
   rcases List.mem_cons.1 ht with rfl|ht
   ·exact af
   exact ah t ht
theorem oE{xs:List Operand}(h:∀x∈xs,RX ρ (ρX x) (ρT x)):F2 (RX ρ) (xs.map ρX) (xs.map ρT):=by
 induction xs with
 |nil=>exact .nil
 |cons x xs k=>exact .cons (h x (by simp)) (k λy j=>h y (by simp[j]))
theorem NT(M:bb P V C){g:FuncId}{first j:Array Operand}(B:o.op=.makeFunc (.func g) first j)(Z:∀x∈o.op.operands,RX ρ (ρX x) (ρT x))(h:cq C ρX lX n nid o=some q)(hi:bp cs n ρ q.ins ae):bm P o ρT l nid ae q:=by
 have af:∀x∈j.toList,RX ρ (ρX x) (ρT x):=λx Y=>Z x (by simp[B,Op.operands];right;simpa using Y)
 have k:=oE af
 simp only[cq,B]at h
 cases G:first.isEmpty with
 |false=>
  simp only[G,cond_false]at h
  split at h
  ·rename_i x ab ag
   split at h
   ·rename_i t e Y
    have:=eh h;subst this;cases hi
    have ad:=Z x (by simp[B,Op.operands];left;have:=congrArg (x ∈ ·) ab;simpa using this)
    rw[Y]at ad
    obtain⟨an,v,k1,k2⟩:=dN ad
    have F:evalOp V ρT l nid o=.ok (.d (Ty.enc (.aa g t) v)):=by
     simp only[evalOp,B,G,Bool.false_eq_true,if_false,ab,ag,k2];rfl
    refine .val M.ok F trivial rfl (.d (.aa g t) _ v (bx rfl) ?_)
    simp only[X.den,k1];rfl
   cases h
  cases h
 |true=>
  have F:evalOp V ρT l nid o=.ok (kS g (j.toList.map ρT)):=by simp only[evalOp,B,G,if_true]
  simp only[G,cond_true]at h
  split at h
  ·rename_i ps ai
   have:=eh h;subst this;cases hi
   obtain⟨a,k1,k2,al⟩:=Je k ai
   have e:kS g (j.toList.map ρT)=.d (Ty.enc (.ar g (ay (ps.map λx:Ty×X=>x.1))) a):=by
    have U:∀ds:List D,(ds.map T.d).mapM dQ=some ds:=by
     intro ds
     induction ds with
     |nil=>rfl
     |cons d ds ak=>simp[dQ,ak]
    rw[k2]
    unfold kS
    rw[U]
    show T.d (.ar g _)=T.d (.ar g _)
    rw[sW al]
   refine .val M.ok F trivial rfl ?_
   show RX ρ _ (kS g (j.toList.map ρT))
   rw[e]
   refine .d (.ar g (ay (ps.map λx:Ty×X=>x.1))) _ a (bx rfl) ?_
   simp only[X.den,kF k1.1 k1.2]
  have:=eh h;subst this;cases hi
  refine .val M.ok F trivial rfl ?_
  show RX ρ _ (kS g (j.toList.map ρT))
  unfold kS
  cases U:(j.toList.map ρT).mapM dQ with
  |none=>exact .ar g _ _ k.len λi c t O aj=>k.get O aj
  |some ds=>
   have:=xW U
   rw[this]at k
   exact .e8 g _ ds (by simpa using k.len) λi c d O ah=>k.get O (by simp[ah])
theorem Lz:∀{t:Ty}{x:X}{v:t.den}{r:List TX},x.den ρ=some ⟨t,v⟩→kT t x=some r→F2 (RX ρ) r ((t.cH v).2.map .d):=by
 intro t
 induction t with
 |aw a b _ M=>
  intro x v r j h
  simp only[kT]at h
  cases k:cF a with
  |false=>simp[k]at h
  |true=>
   simp only[k,cond_true]at h
   split at h
   ·rename_i O G
    simp only[Option.some.injEq]at h;subst h
    have B:=Cl (p:=v) j
    have F:=IB (p:=v) j
    exact .cons (.d a _ v.1 (bx k) B) (M F G)
   cases h
 |unit=>intro x v r j h;simp only[kT,Option.some.injEq]at h;subst h;exact .nil
 |_=>intro x v r j h;simp only[kT,Option.some.injEq]at h;subst h;exact .cons (.d _ x v (bx rfl) j) .nil
theorem sM{x:TX}{u:T}{g:FuncId}{r:List TX}(ad:RX ρ x u)(h:gU x=some (g,r)) :
  ∃k:List T,F2 (RX ρ) r k∧((u=.ar g k)∨(u=.d (.fn g)∧k=[])∨∃ds,u=.d (.ar g ds)∧k=ds.map .d):=by
 cases ad with
 |ar f cs ts F j=>
  simp only[gU,Option.some.injEq,Prod.mk.injEq]at h
  obtain⟨rfl,rfl⟩:=h
  exact⟨ts,F2.of F j,.inl rfl⟩
 |e8 f cs ds F j=>
  simp only[gU,Option.some.injEq,Prod.mk.injEq]at h
  obtain⟨rfl,rfl⟩:=h
  exact⟨ds.map .d,F2.of (by simpa using F) (λi c t Z O=>by
   simp only[List.getElem?_map,Option.map_eq_some_iff]at O
   obtain⟨d,aa,rfl⟩:=O
   exact j i c d Z aa),.inr (.inr ⟨ds,rfl,rfl⟩)⟩
 |d t x v F j=>
  cases t with
  |fn B=>
   simp only[gU,Option.some.injEq,Prod.mk.injEq]at h
   obtain⟨rfl,rfl⟩:=h
   exact⟨[],.nil,.inr (.inl ⟨rfl,rfl⟩)⟩
  |ar B t=>
   have Y:∀y:X,y.den ρ=some ⟨t,v⟩→(kT t y).map (λr=>(B,r))=some (g,r)→∃k:List T,F2 (RX ρ) r k∧((T.d (Ty.enc (.ar B t) v)=.ar g k)∨(T.d (Ty.enc (.ar B t) v)=.d (.fn g)∧k=[])∨∃ds,T.d (Ty.enc (.ar B t) v)=.d (.ar g ds)∧k=ds.map .d):=by
    intro y G M
    simp only[Option.map_eq_some_iff,Prod.mk.injEq]at M
    obtain⟨ae,ab,rfl,rfl⟩:=M
    exact⟨_,Lz (t:=t) (v:=v) G ab,.inr (.inr ⟨(t.cH v).2,rfl,rfl⟩)⟩
   by_cases U:∃f y,x=.ar f y
   ·obtain⟨f,y,rfl⟩:=U
    simp only[gU]at h
    refine Y y ?_ h
    simp only[X.den]at j
    cases G:X.den ρ y with
    |none=>simp[G]at j
    |some w=>simp only[G,Option.some.injEq]at j;cases j;rfl
   have e:gU (.d (.ar B t) x)=(kT t (.u1 .Ai x)).map λr=>(B,r):=by
    cases x<;>first|rfl|exact absurd ⟨_,_,rfl⟩ U
   rw[e]at h
   exact Y _ (by simp only[X.den,j];rfl) h
  |_=>simp[gU]at h
 |_=>simp[gU]at h
theorem pI(F:bb P V C):∀{ts:List TypeId}{xs:List TX}{j:List T},F2 (RX ρ) xs j→F2 (RX ρ) (fU C.E ts xs) (dZ V.E ts j)
 | [],xs,j,h=>by cases h<;>exact by first|exact .nil| (rename_i k B;exact .cons k B)
 |t::ts,[],j,h=>by cases h;exact .nil
 |t::ts,x::xs,j,h=>by
  cases h with
  |cons k B=>exact .cons (vF F k t) (pI F B)
def iy(c:Callee):gp:=⟨c.f,c.args,c.res⟩
theorem wV(Z:RL ρ lX l){g:FuncId}{ts:List TX}{ab:List T}(aa:F2 (RX ρ) ts ab):∀{ss:List gp}{k B:Nat}{xs:List X}{l':List AX}{s:gp},lU lX g ts ss k=some (B,xs,l',s) →
  ∃j,B=k+j∧ss[j]?=some s∧s.f=g∧eJ lX s.args ts=some (xs,l')
 | [],k,B,xs,l',s,h=>by simp[lU]at h
 |s0::ss,k,B,xs,l',s,h=>by
  have G:lU lX g ts ss (k+1)=some (B,xs,l',s)→∃j,B=k+j∧(s0::ss)[j]?=some s∧s.f=g∧eJ lX s.args ts=some (xs,l'):=λh=>by
   obtain⟨j,ad,M,O,U⟩:=wV Z aa h
   exact⟨j+1,by omega,by simpa using M,O,U⟩
  simp only[lU]at h
  cases F:Nat.beq s0.f g with
  |false=>simp only[F,cond_false]at h;exact G h
  |true=>
   simp only[F,cond_true]at h
   split at h
   ·rename_i ys l1 Y
    simp only[Option.some.injEq,Prod.mk.injEq]at h
    obtain⟨rfl,rfl,rfl,rfl⟩:=h
    exact⟨0,rfl,rfl,Nat.eq_of_beq_eq_true F,Y⟩
   exact G h
theorem HW{v:X}{ts:List Ty}{a:(ay ts).den}(F:∀t∈ts,isVal t)(h:v.den ρ=some ⟨ay ts,a⟩):RX ρ (jE v ts) (.d ((ay ts).enc a)):=by
 match ts,a,F,h with
 | [],a,_,_=>exact .eY [] [] rfl λi c d B=>by simp at B
 | [t],a,F,h=>exact .d t v a (F t (by simp)) h
 |t::u::ts,a,F,h=>
  have e:(ay (t::u::ts)).enc a=.aw (cp (t::u::ts) a):=by
   rw[←sW F];rfl
  rw[e]
  have ae:∀(m:Nat)(ws:List Ty)(b:(ay ws).den)(j:Nat),j+ws.length=(t::u::ts).length→(∀w∈ws,isVal w)→(∀k w,ws[k]?=some w→(ln (t::u::ts).length (j+k) v).den ρ=bX ws b k)→∀(i:Nat) c d,(jE.jW (t::u::ts).length v ws j)[i]?=some c→(cp ws b)[i]?=some d→RX ρ c (.d d):=by
   intro m ws
   induction ws with
   |nil=>intro b j _ _ _ i c d B;simp[jE.jW]at B
   |cons w ws O=>
    intro b j aa M Y i c d B G
    have U:=Y 0 w rfl
    cases i with
    |zero=>
     simp only[jE.jW,List.getElem?_cons_zero,Option.some.injEq]at B
     subst B
     cases ws with
     |nil=>
      simp[cp]at G;subst G
      exact .d w _ b (M w (by simp)) (by simpa [bX]using U)
     |cons Z ws=>
      simp[cp]at G;subst G
      exact .d w _ b.1 (M w (by simp)) (by simpa [bX]using U)
    |succ i=>
     cases ws with
     |nil=>simp[jE.jW]at B
     |cons Z ws=>
      simp only[jE.jW,List.getElem?_cons_succ]at B
      exact O b.2 (j+1) (by simp at aa⊢;omega) (λw ab=>M w (List.mem_cons_of_mem _ ab)) (λk z ad=>by
       have:=Y (k+1) z (by simpa using ad)
       rw[show j+1+k=j+(k+1) by omega]
       simpa [bX]using this) i c d B (by simpa [cp]using G)
  refine .eY _ _ ?_ (ae 0 (t::u::ts) a 0 (by simp) F λk w M=>by
   rw[Nat.zero_add]
   exact qH k h (List.getElem?_eq_some_iff.1 M).1)
  have l1:∀(m:Nat)(ws:List Ty)(j:Nat),(jE.jW m v ws j).length=ws.length:=by
   intro m ws
   induction ws with
   |nil=>intro j;rfl
   |cons w ws O=>intro j;simp[jE.jW,O]
  have af:∀(ws:List Ty)(b:(ay ws).den),(cp ws b).length=ws.length:=by
   intro ws
   induction ws with
   |nil=>intro b;rfl
   |cons w ws O=>
    intro b
    cases ws with
    |nil=>rfl
    |cons Z ws=>simp[cp,O]
  show(jE.jW _ v _ 0).length=_
  rw[l1,af]
theorem wU{g:FuncId}{ts:List TX}:∀{ss:List pN}{xs:List X}{l':List AX}{s:pN},qg lX g ts ss=some (s,xs,l')→s∈ss∧s.f=g∧eJ lX s.args ts=some (xs,l')
 | [],_,_,_,h=>by cases h
 |s0::ss,xs,l',s,h=>by
  simp only[qg]at h
  cases B:Nat.beq s0.f g with
  |false=>
   rw[B]at h
   obtain⟨j,k⟩:=wU (ss:=ss) h
   exact⟨List.mem_cons_of_mem _ j,k⟩
  |true=>
   rw[B]at h
   simp only[cond_true]at h
   split at h
   ·rename_i ys l1 F
    simp only[Option.some.injEq,Prod.mk.injEq]at h
    obtain⟨rfl,rfl,rfl⟩:=h
    exact⟨List.mem_cons_self,Nat.eq_of_beq_eq_true B,F⟩
   obtain⟨j,k⟩:=wU (ss:=ss) h
   exact⟨List.mem_cons_of_mem _ j,k⟩
theorem DB:∀{ts:List Ty}{a:(ay ts).den}{k:Nat}{w:Ty},ts[k]?=some w→∃x:w.den,bX ts a k=some ⟨w,x⟩∧(cp ts a)[k]?=some (w.enc x)
 | [],_,_,_,h=>by simp at h
 | [t],a,0,w,h=>by simp at h;subst h;exact⟨a,rfl,rfl⟩
 | [t],a,k+1,w,h=>by simp at h
 |t::u::ts,a,0,w,h=>by simp at h;subst h;exact⟨a.1,rfl,rfl⟩
 |t::u::ts,a,k+1,w,h=>by
  obtain⟨x,j,B⟩:=DB (ts:=u::ts) (a:=a.2) (k:=k) (w:=w) (by simpa using h)
  exact⟨x,j,by simpa [cp]using B⟩
theorem BM:∀(ws:List Ty)(b:(ay ws).den),(cp ws b).length=ws.length
 | [],_=>rfl
 | [_],_=>rfl
 |t::u::ts,b=>by simp[cp,BM (u::ts) b.2]
theorem yf{N:Nat}{v:X}:∀(F:List NS)(j:Nat)(ds:List D),ds.length=(eW F).length→(∀k w d,(eW F)[k]?=some w→ds[k]?=some d→RX ρ (.d w (ln N (j+k) v)) (.d d))→F2 (RX ρ) (qG N v F j) (gI F ds)
 | [],_,_,_,_=>.nil
 |.eH t::r,j,[],B,_=>by simp[eW]at B
 |.eH t::r,j,d::ds,B,h=>.cons (by simpa using h 0 t d rfl rfl) (yf r (j+1) ds (by simpa [eW]using B) λk w d M G=>by
  have:=h (k+1) w d (by simpa [eW]using M) (by simpa using G)
  rwa [show j+(k+1)=j+1+k by omega]at this)
 |.nil s::r,j,ds,B,h=>.cons (.aX s) (yf r j ds B h)
theorem OA{v:X}{j:List NS}{a:(ay (eW j)).den}(Z:∀t∈eW j,isVal t)(h:v.den ρ=some ⟨ay (eW j),a⟩):RX ρ (.agg (qG (eW j).length v j 0)) (.agg (gI j (cp (eW j) a))):=by
 have G:=yf (ρ:=ρ) (N:=(eW j).length) (v:=v) j 0 (cp (eW j) a) (BM _ _) (λk w d F B=>by
  obtain⟨x,M,O⟩:=DB (a:=a) F
  rw[O]at B
  injection B with B
  subst B
  rw[Nat.zero_add]
  exact .d w _ x (Z w (List.mem_of_getElem? F)) ((qH k h (List.getElem?_eq_some_iff.1 F).1).trans M))
 exact .agg _ _ G.len λi c t U Y=>G.get U Y
structure eM(P:Program)(C:Cx)(cs:List Callee):Prop where
 sigs:∀(j:Nat)(s:gp),C.sigs[j]?=some s→∃c:Callee,cs[j]?=some c∧iy c=s∧eD P c
 turns:∀s∈C.turns,∃fn:(ay (.list s.t::s.args)).den→Option (List s.t.den),cs[s.k]?=some (eF.mk s.f s.t s.args fn).gT∧gu P s.f s.t s.args fn
 ns:∀s∈C.yg,∃fn:(ay s.args).den→Option (ay (eW s.sh)).den,cs[s.k]?=some ⟨s.f,s.args,eW s.sh,fn⟩∧JF P s.f s.args s.sh fn
theorem BK{t:Ty}{ts:List Ty}{x:X}{xs:List X}{v:t.den}{a:(ay ts).den}(F:x.den ρ=some ⟨t,v⟩)(B:gK ρ ts xs a):∃b:(ay (t::ts)).den,gK ρ (t::ts) (x::xs) b∧cp (t::ts) b=t.enc v::cp ts a:=by
 cases ts with
 |nil=>
  have:xs=[]:=by simpa using B.1
  subst this
  refine⟨v,⟨rfl,λj u k=>?_⟩,rfl⟩
  cases j with
  |zero=>simp at k;subst k;exact⟨x,rfl,F⟩
  |succ j=>simp at k
 |cons u O=>
  refine⟨(v,a),⟨by simp[B.1],λj w k=>?_⟩,rfl⟩
  cases j with
  |zero=>simp at k;subst k;exact⟨x,rfl,F⟩
  |succ j=>
   obtain⟨y,G,M⟩:=B.2 j w (by simpa using k)
   exact⟨y,by simpa using G,M⟩
theorem B6{g:FuncId}{t:Ty}{ts:List TX}:∀{ss:List gr}{s:gr}{xs:List X}{l':List AX},lV lX g t ts ss=some (s,xs,l')→s∈ss∧s.t=t∧s.f=g∧eJ lX s.args ts=some (xs,l')
 | [],s,xs,l',h=>by simp[lV]at h
 |s0::ss,s,xs,l',h=>by
  have k:lV lX g t ts ss=some (s,xs,l')→s∈s0::ss∧s.t=t∧s.f=g∧eJ lX s.args ts=some (xs,l'):=λh=>by
   obtain⟨B,F⟩:=B6 h
   exact⟨List.mem_cons_of_mem _ B,F⟩
  simp only[lV]at h
  split at h
  ·rename_i M
   cases j:Nat.beq s0.f g with
   |false=>simp only[j,cond_false]at h;exact k h
   |true=>
    simp only[j,cond_true]at h
    split at h
    ·rename_i ys l1 G
     simp only[Option.some.injEq,Prod.mk.injEq]at h
     obtain⟨rfl,rfl,rfl⟩:=h
     exact⟨List.mem_cons_self,M,Nat.eq_of_beq_eq_true j,G⟩
    exact k h
  exact k h
theorem B4{g:FuncId}{ts:List TX}:∀{ss:List gr}{s:gr}{xs:List X}{l':List AX},mY lX g ts ss=some (s,xs,l')→s∈ss∧s.f=g∧eJ lX s.args ts=some (xs,l')
 | [],s,xs,l',h=>by simp[mY]at h
 |s0::ss,s,xs,l',h=>by
  have k:mY lX g ts ss=some (s,xs,l')→s∈s0::ss∧s.f=g∧eJ lX s.args ts=some (xs,l'):=λh=>by
   obtain⟨B,F⟩:=B4 h
   exact⟨List.mem_cons_of_mem _ B,F⟩
  simp only[mY]at h
  cases j:Nat.beq s0.f g with
  |false=>simp only[j,cond_false]at h;exact k h
  |true=>
   simp only[j,cond_true]at h
   split at h
   ·rename_i ys l1 G
    simp only[Option.some.injEq,Prod.mk.injEq]at h
    obtain⟨rfl,rfl,rfl⟩:=h
    exact⟨List.mem_cons_self,Nat.eq_of_beq_eq_true j,G⟩
   exact k h
theorem Ua(
         aZ:eM P C cs)(a6:RL ρ lX l){g:FuncId}{a8:List TX}{as:List T}(aY:F2 (RX ρ) a8 as)(aj:dj V.E ρT o=some (g,as))(h:Af C lX n g a8=some q)(hi:bp cs n ρ q.ins ae)(bf:Ext ρ ae):bm P o ρT l nid ae q:=by
 have a1:=bf
 unfold Af at h
 split at h
 ·rename_i id rest
  obtain⟨Z,F,rfl,U,aJ⟩:∃Z F,as=Z::F∧RX ρ (.row id) Z∧F2 (RX ρ) rest F:=by
   cases aY with
   |cons ay az=>exact⟨_,_,rfl,ay,az⟩
  have U:=rD U
  subst U
  split at h
  ·rename_i e t x bw
   split at h
   ·rename_i s xs l' aI
    split at h
    ·rename_i ar t' bx bg
     split at h
     ·rename_i af
      obtain⟨rfl,rfl⟩:=af
      simp only[Option.some.injEq]at h
      subst h
      obtain⟨au,ba,av,ax⟩:=B6 aI
      subst ba;subst av
      obtain⟨a,G,aM,aN,an⟩:=lE a6 aJ ax
      obtain⟨bu,bb,bc⟩:=F2.left an bg
      cases bc with
      |row _ _ _ zs ai bs=>
      obtain⟨b,ad,aq⟩:=BK bs aM
      cases hi with
      |call _ _ _ _ _ _ D ao y aR aS aT aU=>
       cases aU
       obtain⟨fn,M,aa⟩:=aZ.turns s au
       rw[aR]at M
       injection M with M
       subst M
       have:=(kF ad.1 ad.2).symm.trans aS
       injection this with this
       have aA:b=ao:=by injection this
       subst aA
       refine⟨.d (.aw []),.eY [] [] rfl (λi c d aB=>by simp at aB),G.set id (.row ar s.t.size (List.map s.t.enc y)),F2.set (RL.mono a1 an) (.row ar s.t (.var n) y ai (show lk _ n=_ from fg n ⟨.list s.t,y⟩ ρ)) id,λbj=>?_⟩
       refine⟨p7 aj,λw0 I0 w I m aW aG aL=>?_⟩
       obtain⟨j,aH,ag,ah⟩:=mS (P:=P) (w:=w) (ρ:=aW) aa.enters aL aj
       rw[aH]
       show Calls P s.f j w _
       obtain⟨ab,vs,Y⟩:∃ai vs,j.toList=ai::vs:=by
        cases aE:j.toList with
        |nil=>
             have:j.toList.length=F.length+1:=by simpa using ag
             rw[aE]at this;simp at this
        |cons a b=>exact⟨a,b,rfl⟩
       have aK:vs.length=F.length:=by
        have:j.toList.length=F.length+1:=by simpa using ag
        rw[Y]at this;simpa using this
       have O:∀(i:Nat),j[i]?=(ab::vs)[i]?:=λi=>by rw[←Y];simp
       obtain⟨J,al,aV,aD,aF,_⟩:=jk F l I vs _ G aG aK (λi v x k B=>ah (i+1) v x (by rw[O];simpa using k) (by simpa using B)) aN
       have ak:=aa.jX b y aT G id ar (List.map s.t.enc zs) (cp s.args a) (by rw[aq,sV]) bb
       refine(ak w0 I0 w J m j aV (by rw[←Array.length_toList,Y];simpa using aD) λi v x k B=>?_).mono ?_
       ·rw[O]at k
        cases i with
        |zero=>
         simp at k B;subst k;subst B
         exact(ah 0 ab (.row id) (by rw[O];rfl) rfl).mono al
        |succ i=>
         simp only[List.getElem?_cons_succ]at k B
         rw[List.getElem?_map,Option.map_eq_some_iff]at B
         obtain⟨d,aC,rfl⟩:=B
         exact .d _ _ (aF i v d k aC)
       rintro e bt ⟨v,af,J',m',aO,aP,aQ⟩
       exact⟨v,af,J',m',al.trans aO,aP,aQ⟩
     cases h
    cases h
   cases h
  cases h
 ·rename_i sz rest
  obtain⟨Z,F,rfl,U,aJ⟩:∃Z F,as=Z::F∧RX ρ (.aX sz) Z∧F2 (RX ρ) rest F:=by
   cases aY with
   |cons ay az=>exact⟨_,_,rfl,ay,az⟩
  have U:=ua U
  subst U
  split at h
  ·rename_i s xs l' aI
   simp only[Option.some.injEq]at h
   subst h
   obtain⟨au,av,ax⟩:=B4 aI
   subst av
   obtain⟨a,G,aM,aN,an⟩:=lE a6 aJ ax
   obtain⟨b,ad,aq⟩:=BK (t:=.list s.t) (x:=.nil s.t) (v:=([]:List s.t.den)) rfl aM
   cases hi with
   |call _ _ _ _ _ _ D ao y aR aS aT aU=>
    cases aU
    obtain⟨fn,M,aa⟩:=aZ.turns s au
    rw[aR]at M
    injection M with M
    subst M
    have:=(kF ad.1 ad.2).symm.trans aS
    injection this with this
    have aA:b=ao:=by injection this
    subst aA
    refine⟨.d (.aw []),.eY [] [] rfl (λi c d aB=>by simp at aB),G++[.row 0 s.t.size (List.map s.t.enc y)],F2.app (RL.mono a1 an) (.cons (show bd ((n,⟨.list s.t,y⟩)::ρ) _ _ from .row 0 s.t (.var n) y aa.val (fg n ⟨.list s.t,y⟩ ρ)) .nil),λbj=>?_⟩
    refine⟨p7 aj,λw0 I0 w I m aW aG aL=>?_⟩
    obtain⟨j,aH,ag,ah⟩:=mS (P:=P) (w:=w) (ρ:=aW) aa.enters aL aj
    rw[aH]
    show Calls P s.f j w _
    obtain⟨ab,vs,Y⟩:∃ai vs,j.toList=ai::vs:=by
     cases aE:j.toList with
     |nil=>
          have:j.toList.length=F.length+1:=by simpa using ag
          rw[aE]at this;simp at this
     |cons a b=>exact⟨a,b,rfl⟩
    have aK:vs.length=F.length:=by
     have:j.toList.length=F.length+1:=by simpa using ag
     rw[Y]at this;simpa using this
    have O:∀(i:Nat),j[i]?=(ab::vs)[i]?:=λi=>by rw[←Y];simp
    obtain⟨J,al,aV,aD,aF,_⟩:=jk F l I vs _ G aG aK (λi v x k B=>ah (i+1) v x (by rw[O];simpa using k) (by simpa using B)) aN
    haveI:=jG
    obtain⟨bq,br,a7,bh⟩:=aV.H2 0 s.t.size
    have bo:ab=.slice none 0 0:=by
     have:=ah 0 ab (.aX sz) (by rw[O];rfl) rfl
     cases this;rfl
    have bl:(G++[AO.row 0 s.t.size []])[G.length]?=some (.row 0 s.t.size []):=by simp
    have ak:=aa.jX b y aT (G++[.row 0 s.t.size []]) G.length 0 [] (cp s.args a) (by rw[aq,sV];rfl) bl
    have bn:(G++[AO.row 0 s.t.size []]).set G.length (.row 0 s.t.size (List.map s.t.enc y))=G++[.row 0 s.t.size (List.map s.t.enc y)]:=by simp
    rw[bn]at ak
    refine(ak w0 I0 w J bq j br (by rw[←Array.length_toList,Y];simpa using aD) λi v x k B=>?_).mono ?_
    ·rw[O]at k
     cases i with
     |zero=>
      simp at k B;subst k;subst B
      rw[bo]
      exact .row none 0 0 G.length (by simp) (λ_=>bh)
     |succ i=>
      simp only[List.getElem?_cons_succ]at k B
      rw[List.getElem?_map,Option.map_eq_some_iff]at B
      obtain⟨d,aC,rfl⟩:=B
      exact .d _ _ ((aF i v d k aC).mono a7.cB)
    rintro e bt ⟨v,af,J',m',aO,aP,aQ⟩
    exact⟨v,af,J',m',al.trans (a7.trans aO),aP,aQ⟩
  cases h
 cases h
theorem Sr{I J:aq}{m m':Nat→Value}{l l':List AO}{v:Value}{k:List NS}{ds:List D}(h:ah J m' l' v (.agg (gI k ds))):ah J m l v (.agg (gI k ds)):=by
 have U:∀(k:List NS)(ds:List D)(i:Nat) t,(gI k ds)[i]?=some t→(∃d,t=.d d)∨∃s,t=.aX s:=by
  intro k
  induction k with
  |nil=>intro ds i t j;simp[gI]at j
  |cons x k B=>
   intro ds i t j
   cases x with
   |eH w=>
    cases ds with
    |nil=>simp[gI]at j
    |cons d ds=>
     cases i with
     |zero=>simp[gI]at j;exact .inl ⟨d,j.symm⟩
     |succ i=>exact B ds i t (by simpa [gI]using j)
   |nil s=>
    cases i with
    |zero=>simp[gI]at j;exact .inr ⟨s,j.symm⟩
    |succ i=>exact B ds i t (by simpa [gI]using j)
 cases h with
 |agg vs ts F G M=>
  refine .agg vs _ F G λi v t O j=>?_
  have:=M i v t O j
  rcases U k ds i t j with ⟨d,rfl⟩| ⟨s,rfl⟩
  ·cases this with|d _ _ h=>exact .d _ _ h
  cases this;exact .aX _
theorem KV(ai:eM P C cs)(an:RL ρ lX l){g:FuncId}{ts:List TX}{as:List T}(ag:F2 (RX ρ) ts as)(M:dj V.E ρT o=some (g,as))(h:sD C lX n g ts=some q)(hi:bp cs n ρ q.ins ae)(al:Ext ρ ae):bm P o ρT l nid ae q:=by
 unfold sD at h
 split at h
 ·rename_i s xs l' ay
  simp only[Option.some.injEq]at h;subst h
  obtain⟨aa,ab,ad⟩:=wU ay
  obtain⟨a,O,U,aC,aD⟩:=lE an ag ad
  cases hi with
  |call _ _ _ _ _ _ D Z y aG aH aI aJ=>
   cases aJ
   obtain⟨fn,j,B⟩:=ai.ns s aa
   rw[aG]at j
   injection j with j
   subst j
   have:=(kF U.1 U.2).symm.trans aH
   injection this with this
   have af:a=Z:=by injection this
   subst af
   subst ab
   refine⟨_,OA B.res (fg n _ ρ),O,RL.mono al aD,λaL=>?_⟩
   refine⟨p7 M,λw0 I0 w I m aK av G=>?_⟩
   obtain⟨k,aw,aq,ar⟩:=mS (P:=P) (w:=w) (ρ:=aK) B.enters G M
   rw[aw]
   show Calls P s.f k w _
   obtain⟨J,aB,Y,ao,au,_⟩:=jk as l I k.toList _ O av (by simpa using aq) (λi v x F G=>ar i v x (by simpa using F) G) aC
   refine(B.jX a y aI w J k Y.sat (by rw[←Array.length_toList];exact ao) (λi v d F aj=>au i v d (by simpa using F) aj)).mono ?_
   rintro e aM ⟨v,J',ak,ah,aA,az,ax⟩
   obtain⟨aE,aF⟩:=Y.call ah aA az
   exact⟨v,ak,J',m,aB.trans aF,aE,Sr (I:=J) ax⟩
 cases h
theorem Bb{D:Callee}(G:eD P D){as:List T}{F:List AO}{a:(ay D.args).den}{y:(ay D.res).den}(M:dj V.E ρT o=some (D.f,as))(an:eZ l as=some (cp D.args a,F))(ak:D.fn a=some y):br P o ρT l (.d ((ay D.res).enc y)) F:=by
 refine⟨p7 M,λw0 I0 w I m ar af B=>?_⟩
 obtain⟨j,ag,ab,ad⟩:=mS (P:=P) (w:=w) (ρ:=ar) G.enters B M
 rw[ag]
 show Calls P D.f j w _
 obtain⟨J,al,O,aa,ae,_⟩:=jk as l I j.toList _ F af (by simpa using ab) (λi v x k B=>ad i v x (by simpa using k) B) an
 refine(G.jX a y ak w J j O.sat (by rw[←Array.length_toList];exact aa) (λi v d k Y=>ae i v d (by simpa using k) Y)).mono ?_
 rintro e au ⟨v,J',Z,U,aj,ai,ah⟩
 obtain⟨ao,aq⟩:=O.call U aj ai
 exact⟨v,Z,J',m,al.trans aq,ao,.d _ _ ah⟩
theorem B7{g:FuncId}{A R:List Ty}:∀{ss:List gp}{k F:Nat},tg g A R ss k=some F→∃j s,F=k+j∧ss[j]?=some s∧s.f=g∧s.args=A∧s.res=R
 | [],k,F,h=>by cases h
 |s::r,k,F,h=>by
  simp only[tg]at h
  cases B:(Nat.beq s.f g&&decide (s.args=A)&&decide (s.res=R))with
  |true=>
   simp only[B,cond_true,Option.some.injEq]at h
   simp only[Bool.and_eq_true,decide_eq_true_eq]at B
   exact⟨0,s,by omega,rfl,Nat.eq_of_beq_eq_true B.1.1,B.1.2,B.2⟩
  |false=>
   simp only[B,cond_false]at h
   obtain⟨j,s',O,G,M⟩:=B7 h
   exact⟨j+1,s',by omega,by simpa using G,M⟩
theorem Uu{x a:X}{ty:Ty}{z:ty.den}{fs:List Nat}{m:Nat}(ag:x.den ρ=some ⟨.fns fs,m⟩):∀{ks:List Nat}{j:Nat},Tr.wp cs (Ap n x a ks j) ρ gH (λk v=>k=0∧v=⟨ty,z⟩) →
  ∃(i k:Nat)(D:Callee)(F:(ay D.args).den)(y:(ay D.res).den),ks[i]?=some k∧m=j+i∧cs[k]?=some D∧a.den ρ=some ⟨ay D.args,F⟩∧D.fn F=some y∧(⟨ay D.res,y⟩:Sy.V)=⟨ty,z⟩:=by
 have ab:∀{k:Nat},Tr.wp cs (.call n k a (.out 0 (.var n))) ρ gH (λk v=>k=0∧v=⟨ty,z⟩)→∃(D:Callee)(F:(ay D.args).den)(y:(ay D.res).den),cs[k]?=some D∧a.den ρ=some ⟨ay D.args,F⟩∧D.fn F=some y∧(⟨ay D.res,y⟩:Sy.V)=⟨ty,z⟩:=by
  rintro k ⟨D,F,y,B,G,Y,v,O,_,af⟩
  refine⟨D,F,y,B,G,Y,?_⟩
  rw[show(X.var n).den ((n,⟨ay D.res,y⟩)::ρ)=_ from fg n _ ρ]at O
  injection O with O
  rw[O,af]
 have ad:∀(j:Nat),(X.u2 .aj (.u1 .te x) (.int .i64 (Int.ofNat j))).den ρ=some ⟨.bool,aj (Int.ofNat m) (Int.ofNat j)⟩:=λj=>by
  simp only[X.den,ag,dp,bF]
 have ae:∀{j:Nat},aj (Int.ofNat m) (Int.ofNat j)=true→m=j:=λ{j} h=>by
  have:=of_decide_eq_true h
  exact Int.ofNat.inj this
 intro ks
 induction ks with
 |nil=>intro j h;exact h.elim
 |cons k r ah=>
  intro j h
  cases r with
  |nil=>
   obtain⟨B,G⟩:=h
   rw[ad]at B
   injection B with B
   injection B with _ B
   obtain⟨D,F,y,U,M,Z,aa⟩:=ab G
   exact⟨0,k,D,F,y,rfl,by have:=ae (eq_of_heq (heq_of_eq B));omega,U,M,Z,aa⟩
  |cons ak r=>
   obtain⟨b0,B,G,Y⟩:=h
   rw[ad]at B
   injection B with B
   injection B with _ B
   have B:aj (Int.ofNat m) (Int.ofNat j)=b0:=eq_of_heq (heq_of_eq B)
   cases b0 with
   |true=>
    obtain⟨D,F,y,U,M,Z,aa⟩:=ab (G rfl)
    exact⟨0,k,D,F,y,rfl,by have:=ae B;omega,U,M,Z,aa⟩
   |false=>
    obtain⟨i,k2,D,F,y,ai,U,M⟩:=ah (Y rfl)
    exact⟨i+1,k2,D,F,y,by simpa using ai,by omega,M⟩
theorem C8{α β:Type}{f:α→Option β}:∀{xs:List α}{ys:List β},xs.mapM f=some ys→∀{i:Nat}{y:β},ys[i]?=some y→∃x,xs[i]?=some x∧f x=some y
 | [],ys,h,i,y,j=>by simp at h;subst h;simp at j
 |x::xs,ys,h,i,y,j=>by
  simp only[List.mapM_cons,Option.bind_eq_bind,Option.bind_eq_some_iff,Option.pure_def,Option.some.injEq]at h
  obtain⟨b,B,G,F,rfl⟩:=h
  cases i with
  |zero=>simp at j;subst j;exact⟨x,rfl,B⟩
  |succ i=>exact(C8 F (by simpa using j)).imp λx k=>⟨by simpa using k.1,k.2⟩
theorem Ur(ak:eM P C cs)(Z:RL ρ lX l){fs:List Nat}{x:X}{ts:List TX}{as:List T}{m:Nat}(ar:x.den ρ=some ⟨.fns fs,m⟩)(Y:F2 (RX ρ) ts as)(aj:∀g,dV fs m=.fn g→dj V.E ρT o=some (g,as))(h:Ao C lX n fs x ts=some q)(hi:bp cs n ρ q.ins ae)(al:Ext ρ ae):bm P o ρT l nid ae q:=by
 cases fs with
 |nil=>cases h
 |cons ah r=>
  simp only[Ao]at h
  split at h
  ·rename_i aJ xs l' s aq
   split at h
   ·rename_i ks ao
    simp only[Option.some.injEq]at h;subst h
    obtain⟨_,_,_,_,ag⟩:=wV Z Y aq
    obtain⟨a,av,M,aa,aw⟩:=lE Z Y ag
    cases hi with
    |prog _ _ _ _ _ _ z ad aC=>
     cases aC
     obtain⟨i,k,D,af,y,ax,ay,az,aA,aB,ab⟩:=Uu ar ad
     obtain⟨g,aD,aE⟩:=C8 ao ax
     obtain⟨j,s',aN,aF,O,B,F⟩:=B7 aE
     have:k=j:=by omega
     subst this
     obtain⟨aH,G,aG,U⟩:=ak.sigs _ _ aF
     rw[az]at G
     injection G with G
     subst G
     subst aG
     have O:D.f=g:=O
     have B:D.args=s.args:=B
     have F:D.res=s.res:=F
     have an:dV (ah::r) m=.fn D.f:=by
      rw[ay,Nat.add_comm]
      simp only[dV,aD,O]
     obtain⟨aL,aK,aM⟩:=s
     simp only at B F M aa z ad ab⊢
     subst B;subst F
     have:=(kF M.1 M.2).symm.trans aA
     injection this with this
     have ai:a=af:=by injection this
     subst ai
     have au:y=z:=by injection ab
     subst au
     exact⟨_,HW U.res (fg n _ ρ),av,RL.mono al aw,λaI=>Bb U (aj _ an) aa aB⟩
   cases h
  cases h
theorem Bc(af:eM P C cs)(O:RL ρ lX l){g:FuncId}{ts:List TX}{as:List T}(M:F2 (RX ρ) ts as)(ad:dj V.E ρT o=some (g,as))(h:pW C lX n g ts=some q)(hi:bp cs n ρ q.ins ae)(ag:Ext ρ ae):bm P o ρT l nid ae q:=by
 unfold pW at h
 split at h
 ·rename_i k xs l' s ai
  simp only[Option.some.injEq]at h;subst h
  obtain⟨j,aw,Z,F,aa⟩:=wV O M ai
  obtain⟨a,aj,U,ak,al⟩:=lE O M aa
  cases hi with
  |call _ _ _ _ _ _ D Y y an ao aq ar=>
   cases ar
   have ah:k=j:=by omega
   subst ah
   obtain⟨av,B,au,G⟩:=af.sigs _ _ Z
   rw[an]at B
   injection B with B
   subst B
   subst au
   have:=(kF U.1 U.2).symm.trans ao
   injection this with this
   have ab:a=Y:=by injection this
   subst ab
   have F:D.f=g:=F
   subst F
   refine⟨_,HW G.res (fg n _ ρ),aj,RL.mono ag al,λax=>Bb G ad ak aq⟩
 cases h
theorem KW(ab:bb P V C)(G:eM P C cs){c:Call}{f:Operand}(k:o.op=.call c)(j:c.callee=.value f)(O:RL ρ lX l)(al:∀x∈o.op.operands,RX ρ (ρX x) (ρT x))(h:cq C ρX lX n nid o=some q)(hi:bp cs n ρ q.ins ae)(F:Ext ρ ae):bm P o ρT l nid ae q:=by
 have aq:=F
 have M:=al f (by simp[k,Op.operands,Call.operands,j])
 have ad:∀x∈c.args.toList,RX ρ (ρX x) (ρT x):=λx an=>al x (by simp[k,Op.operands,Call.operands,j];right;simpa using an)
 simp only[cq,k,j]at h
 split at h
 ·rename_i g ts ah
  obtain⟨ak,k1,k2⟩:=sM M ah
  have U:F2 (RX ρ) (fU C.E c.argTypes.toList (c.args.toList.map ρX)++ts) (dZ V.E c.argTypes.toList (c.args.toList.map ρT)++ak):=(pI ab (oE ad)).app k1
  have Y:dj V.E ρT o=some (g,dZ V.E c.argTypes.toList (c.args.toList.map ρT)++ak):=by
   rcases k2 with e| ⟨e,rfl⟩| ⟨ds,e,rfl⟩
   ·simp only[dj,k,j,e]
   ·simp only[dj,k,j,e,List.append_nil]
   simp only[dj,k,j,e]
  generalize dZ V.E c.argTypes.toList (c.args.toList.map ρT)++ak=as at U Y
  cases ai:sD C lX n g (fU C.E c.argTypes.toList (c.args.toList.map ρX)++ts)with
  |some ao=>
   rw[ai]at h
   simp only[Option.some.injEq]at h
   subst h
   exact KV G O U Y ai hi F
  |none=>
  rw[ai]at h
  simp only at h
  cases af:pW C lX n g (fU C.E c.argTypes.toList (c.args.toList.map ρX)++ts)with
  |none=>rw[af]at h;exact Ua G O U Y h hi F
  |some ao=>
  rw[af]at h
  simp only[Option.some.injEq]at h
  subst h
  exact Bc G O U Y af hi F
 split at h
 ·rename_i fs x ag
  rw[ag]at M
  obtain⟨_,m,Z,B⟩:=dN M
  have B:ρT f=.d (dV fs m):=B
  exact Ur (V:=V) G O Z (pI ab (oE ad)) (λg ah=>by simp only[dj,k,j,B,ah]) h hi F
 ·rename_i g t x ag
  rw[ag]at M
  obtain⟨_,v,Z,B⟩:=dN M
  have B:ρT f=.d (.aa g (t.enc v)):=B
  cases aj:cF t with
  |false=>rw[aj]at h;cases h
  |true=>
   rw[aj]at h
   simp only[cond_true]at h
   refine Bc (V:=V) G O (.cons (.d t _ v (bx aj) ?_) (pI ab (oE ad))) ?_ h hi F
   ·simp only[X.den,Z];rfl
   simp only[dj,k,j,B]
 cases h
theorem bm.rU{ρT':Operand→T}(h:bm P o ρT' l nid ae q)(O:∀I m v x,x∈o.op.operands→ah I m l v (ρT x)→ah I m l v (ρT' x)):bm P o ρT l nid ae q:=by
 have k:∀{t:T}{l':List AO},br P o ρT' l t l'→br P o ρT l t l':=λh=>⟨h.1,λw0 I0 w I m ρ M U=>h.2 w0 I0 w I m ρ M λx B=>O I m _ x B (U x B)⟩
 obtain⟨t,G,j⟩:=h
 refine⟨t,G,?_⟩
 split at j
 ·exact k j
 ·obtain⟨F,k1,k2,Y⟩:=j
  exact⟨F,k1,λh=>k (k2 h),λh=>k (Y h)⟩
 obtain⟨l',k1,k2⟩:=j
 exact⟨l',k1,λh=>k (k2 h)⟩
theorem Om{x:Operand}(j:o.op=.nilCheck x)(B:RX ρ (ρX x) (ρT x))(h:(match ρX x with |.ptr id off=>c6 (.ptr id off)|_=>none)=some q)(hi:bp cs n ρ q.ins ae):bm P o ρT l nid ae q:=by
 generalize ρX x=A at h B
 generalize O:ρT x=ab at B
 cases B with
 |ptr id off=>
  have:=eh h;subst this;cases hi
  refine⟨.ptr id off,.ptr _ _,⟨λc F=>(by rw[j]at F;cases F),λw0 I0 w I m r Z Y=>?_⟩⟩
  have k:=Y x (by simp[j,Op.operands])
  rw[O]at k
  generalize aa:r x=v at k
  cases k with
  |ptr _ b _ G M=>
   have U:(execOp r o).run P w=.ok (.value (.pointer (some ⟨b,off,none⟩))) w:=by
    unfold execOp
    simp only[j,aa]
    rfl
   rw[U]
   exact⟨I,m,.refl ..,Z,.ptr id b off G M⟩
 |_=>simp at h
theorem wP(F:bb P V C)(ab:eM P C cs)(O:RL ρ lX l)(B:∀x∈o.op.operands,RX ρ (ρX x) (ρT x))(aa:∀g ls,au.dP g=some ls→ρT (.global g)=.aS ls.length [.agg (ls.map (.int .i64))] 0 0)(Y:Ext ρ ae)(h:cq C ρX lX n nid o=some q)(hi:bp cs n ρ q.ins ae):bm P o ρT l nid ae q:=by
 have G:=h
 unfold cq at h
 split at h
 ·rename_i x j;exact Du F (.inl j) (B x (by simp[j,Op.operands])) h hi
 ·rename_i x j;exact Du F (.inr j) (B x (by simp[j,Op.operands])) h hi
 ·rename_i c a b j;exact yt F j B G hi
 ·rename_i e x j;exact KJ F j (B x (by simp[j,Op.operands])) G hi
 ·rename_i e j;exact JN F j G hi
 ·rename_i t a j;exact NM F j O (B a (by simp[j,Op.operands])) h hi Y
 ·rename_i t a x j;exact(zS (ρX:=λy=>nX C.E t (ρX y)) (ρT:=λy=>typed V.E t (ρT y)) F j O (vF F (B a (by simp[j,Op.operands])) t) (vF F (B x (by simp[j,Op.operands])) t) h hi Y).rU λI m v y _ ad=>vG ad
 ·rename_i x j;exact Om j (B x (by simp[j,Op.operands])) h hi
 ·rename_i s x f j;exact Mb F j (B x (by simp[j,Op.operands])) h hi
 ·rename_i s x f j;exact Md F j (B x (by simp[j,Op.operands])) h hi
 ·rename_i op ty x y aj j;exact KF F j (B x (by simp[j,Op.operands])) (B y (by simp[j,Op.operands])) G hi
 ·rename_i c x j;exact Oc F j (B x (by simp[j,Op.operands])) h hi
 ·rename_i op ty x j;exact Uh F j (B x (by simp[j,Op.operands])) G hi
 ·rename_i t x i j
  split at h
  ·exact M3 F j aa (B i (by simp[j,Op.operands])) h hi Y
  exact M4 F j O (B x (by simp[j,Op.operands])) (B i (by simp[j,Op.operands])) h hi Y
 ·rename_i t x i j;exact M6 F j (B x (by simp[j,Op.operands])) (B i (by simp[j,Op.operands])) G hi
 ·rename_i t x lo ah j;exact S8 F j O B G hi
 ·rename_i t af j;exact KQ F j B G hi
 ·rename_i t len af j;exact KO F j O B G hi
 ·rename_i x i j;exact L5 F j (B x (by simp[j,Op.operands])) G hi
 ·rename_i c j
  split at h
  ·rename_i f M;exact KW F ab j M O B G hi Y
  ·rename_i M
   split at h
   ·rename_i x t U Z
    exact NJ F j M U Z O (B x (by simp[j,Op.operands,Call.operands,M,←Array.mem_toList_iff,U])) h hi
   cases h
  ·rename_i M
   split at h
   ·rename_i s x t t' U Z
    split at h
    ·rename_i e;subst e
     exact JR F j M U Z O (B s (by simp[j,Op.operands,Call.operands,M,←Array.mem_toList_iff,U])) (B x (by simp[j,Op.operands,Call.operands,M,←Array.mem_toList_iff,U])) h hi
    cases h
   cases h
  ·rename_i M;exact Dd F j B (.inl M) G hi
  ·rename_i M;exact Dd F j B (.inr M) G hi
  ·rename_i M
   split at h
   ·rename_i x k t t' U Z
    exact LN F j M U Z O (B x (by simp[j,Op.operands,Call.operands,M,←Array.mem_toList_iff,U])) (B k (by simp[j,Op.operands,Call.operands,M,←Array.mem_toList_iff,U])) h hi
   cases h
  cases h
 ·rename_i t a b j;exact NU F j O (B a (by simp[j,Op.operands])) (B b (by simp[j,Op.operands])) h hi
 ·rename_i t j;exact xU F j O G hi
 ·rename_i t x j;exact xT F j (B x (by simp[j,Op.operands])) O G hi
 ·rename_i t m k x j;exact Db F (.inl j) O (B m (by simp[j,Op.operands])) (B k (by simp[j,Op.operands])) (B x (by simp[j,Op.operands])) h hi
 ·rename_i t m k x j;exact Db F (.inr j) O (B m (by simp[j,Op.operands])) (B k (by simp[j,Op.operands])) (B x (by simp[j,Op.operands])) h hi
 ·rename_i t x k ok j;exact NN F j O (B x (by simp[j,Op.operands])) (B k (by simp[j,Op.operands])) G hi
 ·rename_i ai t x j;exact wz F j (B x (by simp[j,Op.operands])) G hi
 ·rename_i g first ag j;exact NT F j B G hi
 cases h
end
end Go.Sy
namespace Go.af
open Go Go.RowKit
variable [aL]
section
variable {P:Program}{V:Env}{w0 w:World}{I0 I:aq}{m:Nat→Value}{l:List AO}
theorem av.Cv(B:av w0 I0 w I m l){id e size:Nat}{ks vs:List D}{op:Option Nat}(j:l[id]?=some (.aU e size ks vs op)):Le I m l I m (l.set id (.map ks vs))∧av w0 I0 w I m (l.set id (.map ks vs)):=by
 have k:Le I m l I m (l.set id (.map ks vs)):=Le.setKind j rfl rfl (by simp)
 obtain⟨b,M,F,O,U,Y,Z,aa,ab,G,_⟩:=B.obj id _ j
 exact⟨k,B.je j (by simp) (b:=b) (by rw[F];rfl) G rfl rfl k rfl rfl rfl (Nat.le_refl _) (Nat.le_refl _) (λ_ _=>rfl) ⟨b,M,F,O,U,Y,Z,aa,ab,G⟩⟩
theorem av.MF(G:av w0 I0 w I m l){id e size:Nat}(Z:0<size)(k:l[id]?=some (.map [] [])):Le I m l I m (l.set id (.aU e size [] [] none))∧av w0 I0 w I m (l.set id (.aU e size [] [] none)):=by
 have F:Le I m l I m (l.set id (.aU e size [] [] none)):=Le.setKind k rfl rfl (by simp)
 obtain⟨b,B,M,aa,ab,O,ad,ae,af,U⟩:=G.obj id _ k
 have ag:B.1.size=0:=by simpa using O
 exact⟨F,G.je k (by simp) (b:=b) (by rw[M];rfl) U rfl rfl F rfl rfl rfl (Nat.le_refl _) (Nat.le_refl _) (λ_ _=>rfl) ⟨b,B,M,aa,ab,O,ad,ae,af,U,Z,λ_=>0,
  λi en d _ Y=>(by have:=(Array.getElem?_eq_some_iff.1 Y).1;omega),λi j _ hi=>(by omega),λq i _ hi=>(by omega)⟩⟩
theorem fY.rd{j:Nat}{v:Value}{e size:Nat}{els:List D}(h:fY j w I v e size els):Rd I v (.slice size els):=by
 obtain⟨xs,k,B,F,G⟩:=h
 exact pz k B F λb M=>(G b M).2.1
end
end Go.af
namespace Go.af
open Go Go.RowKit
variable [aL]
section
variable {P:Program}{V:Env}{w0 w:World}{I0 I:aq}{m:Nat→Value}{l:List AO}
theorem fY.nil{j:Nat}{e size:Nat}:fY j w I (.slice none 0 0) e size []:=⟨[],⟨by simp,.inl ⟨rfl,rfl⟩⟩,by simp,by simp,by simp[own]⟩
theorem av.Cr(aa:av w0 I0 w I m l){id e size i:Nat}{ks vs:List D}{els:List D}{v:Value}(aj:l[id]?=some (.aU e size ks vs none))(aT:∀q o,q≠id→l[q]?=some o→o.oS=false)(ak:(∃b U,m id=.map (some b)∧MapAt w.heap[b]? U∧∃en,U.1[i]?=some en∧en.val=v∧vs[i]?=some (.slice size els))∨(ks.length≤i∧els=[]∧v=.slice none 0 0)) :
  Le I m l I (aC m l.length v) (l.set id (.aU e size ks vs (some i))++[.aM e size els])∧av w0 I0 w I (aC m l.length v) (l.set id (.aU e size ks vs (some i))++[.aM e size els]):=by
 have aS:id<l.length:=(List.getElem?_eq_some_iff.1 aj).1
 obtain⟨b,U,aG,a6,aH,a7,a8,ba,bb,bc,aI,ao,k1,k2,aE⟩:=aa.obj id _ aj
 have aR:fY w0.heap.size w I v e size els∧(∀G,own v=some G→i<U.1.size∧G=ao i):=by
  rcases ak with ⟨G,es',ab,aY,en,aF,aZ,a1⟩| ⟨ab,rfl,rfl⟩
  ·rw[aG]at ab;injection ab with ab;injection ab with ab;subst ab
   have:es'=U:=by
    have F:=aY.1;rw[aH.1]at F;injection F with F;injection F with F O
    exact Prod.ext F.symm O.symm
   subst this
   obtain⟨els',au,aJ,al,an⟩:=k1 i en _ (by simp) aF a1
   injection au with _ au;subst au
   rw[aZ]at al an
   exact⟨an,λG M=>⟨(Array.getElem?_eq_some_iff.1 aF).1,by rw[al]at M;injection M with M;exact M.symm⟩⟩
  exact⟨.nil,λG M=>by cases M⟩
 obtain⟨aQ,ax⟩:=aR
 have aA:Le I m l I (aC m l.length v) (l.set id (.aU e size ks vs (some i))++[.aM e size els]):=by
  have F:Le I m l I m (l.set id (.aU e size ks vs (some i))):=Le.setKind aj rfl rfl (by simp)
  refine F.trans ⟨.refl I,by simp,λk B ak=>⟨?_,bq m v (by simp at B;omega)⟩,λk B ar=>⟨?_,bq m v (by simp at B;omega)⟩,λk bd s' els' B ay=>⟨els',?_⟩⟩
  ·unfold isVar at ak⊢;rw[List.getElem?_append_left B];exact ak
  ·unfold isRow at ar⊢;rw[List.getElem?_append_left B]at ar;exact ar
  rw[List.getElem?_append_left B]at ay;exact ay
 have aN:∀j,j<U.1.size→∃u,I.cell (ao j) 0=some u:=λj Z=>by
  obtain⟨els',_,aJ,al,an⟩:=k1 j U.1[j] vs[j] (by simp) (Array.getElem?_eq_getElem Z) (List.getElem?_eq_getElem (by omega))
  exact an.ou aI aJ al
 have aB:∀j G,alive l j=true→own (m j)=some G→own v≠some G:=λj G Z M aX=>by
  obtain⟨hi,rfl⟩:=ax G aX
  obtain⟨o,az,aP⟩:=bg.1 Z
  rcases (aa.obj j o az).Am aP M with h|h
  ·exact aE j i (by unfold bO;rw[az];exact h) hi (by simp) M
  obtain⟨u,aW⟩:=aN i hi;rw[aW]at h;cases h
 refine⟨aA,aa.below,aa.sat,aa.ext,λk o B=>?_,λa c G af ah aw ad ae=>?_⟩
 ·rcases Nat.lt_or_ge k l.length with hkl|hkl
  ·rw[List.getElem?_append_left (by simpa using hkl)]at B
   rw[bq m v (by omega)]
   by_cases aq:k=id
   ·subst aq
    rw[List.getElem?_set,if_pos rfl,if_pos aS]at B
    injection B with B;subst B
    refine⟨b,U,aG,a6,aH,a7,a8,ba,bb,bc,aI,ao,λj en d Z=>k1 j en d (by simp),λa c F O aL _ _=>k2 a c F O aL (by simp) (by simp),λq j Y Z aV M=>?_⟩
    rcases oR Y with ⟨ag,Y⟩| ⟨ag,_⟩
    ·rw[bq m v (by simp at ag;omega)]at M
     rcases tC Y with Y| ⟨_,Y⟩
     ·exact aE q j Y Z (by simp) M
     cases Y
    rw[ag,List.length_set,cD]at M
    obtain⟨hi,aO⟩:=ax _ M
    exact k2 i j (λe=>aV (by rw[e])) hi Z (by simp) (by simp) aO.symm
   rw[List.getElem?_set,if_neg (Ne.symm aq)]at B
   exact(aa.obj k o B).CM aA (λ_ _=>rfl) (λ_ _=>⟨rfl,rfl⟩) (aT k o aq B)
  rw[List.getElem?_append_right (by simpa using hkl)]at B
  have aK:k=l.length:=by
   have:=(List.getElem?_eq_some_iff.1 B).1;simp at this;omega
  subst aK
  simp at B;subst B
  rw[cD]
  exact aQ
 have ai:∀q,q≠l.length→alive (l.set id (.aU e size ks vs (some i))++[.aM e size els]) q=true→alive l q=true:=λq Y ah=>by
  obtain⟨o,F,O⟩:=bg.1 ah
  have ag:q<l.length:=by have:=(List.getElem?_eq_some_iff.1 F).1;simp at this;omega
  rw[List.getElem?_append_left (by simpa using ag)]at F
  by_cases aD:q=id
  ·subst aD;exact bg.2 ⟨_,aj,by simp⟩
  rw[List.getElem?_set,if_neg (Ne.symm aD)]at F;exact bg.2 ⟨o,F,O⟩
 by_cases F:a=l.length
 ·subst F;rw[cD]at ad;rw[bq m v (Ne.symm af)]at ae
  exact aB c G (ai c (Ne.symm af) aw) ae ad
 by_cases O:c=l.length
 ·subst O;rw[cD]at ae;rw[bq m v af]at ad
  exact aB a G (ai a af ah) ad ae
 rw[bq m v F]at ad;rw[bq m v O]at ae
 exact aa.sep a c G af (ai a F ah) (ai c O aw) ad ae
end
end Go.af
namespace Go.af
open Go Go.RowKit
variable [aL]
section
variable {P:Program}{V:Env}{w0 w w':World}{I0 I:aq}{m:Nat→Value}{l:List AO}
theorem av.kill(h:av w0 I0 w I m l){k:Nat}{a:AO}(Y:l[k]?=some a)(ae:a.isVar=false):Le I m l I m (l.set k .dead)∧av w0 I0 w I m (l.set k .dead):=by
 have ad:k<l.length:=(List.getElem?_eq_some_iff.1 Y).1
 have M:(l.set k AO.dead)[k]?=some .dead:=by rw[List.getElem?_set,if_pos rfl,if_pos ad]
 have G:∀q,q≠k→(l.set k AO.dead)[q]?=l[q]?:=λq F=>by rw[List.getElem?_set,if_neg (Ne.symm F)]
 have Z:Le I m l I m (l.set k .dead):=by
  refine⟨.refl I,by simp,λq F hh=>⟨?_,rfl⟩,λq F hh=>⟨?_,rfl⟩,λq e s els F hh=>⟨els,?_⟩⟩
  ·by_cases e:q=k
   ·subst e;unfold isVar at hh;rw[Y]at hh;simp[ae]at hh
   unfold isVar at hh⊢;rw[G q e];exact hh
  ·by_cases e:q=k
   ·subst e;unfold isRow at hh;rw[M]at hh;simp[AO.isRow]at hh
   unfold isRow at hh⊢;rw[G q e]at hh;exact hh
  by_cases e:q=k
  ·subst e;rw[M]at hh;rcases hh with hh|hh<;>cases hh
  rw[G q e]at hh;exact hh
 refine⟨Z,h.below,h.sat,h.ext,λid o B=>?_,λi j b aa hi ab=>?_⟩
 ·by_cases e:id=k
  ·subst e;rw[M]at B;injection B with B;subst B;trivial
  rw[G id e]at B
  exact(h.obj id o B).dD Z (λ_ _=>rfl) (λ_ _=>⟨rfl,rfl⟩) (.set (λ_ _ _=>rfl) λh=>by cases h)
 have O:∀q,alive (l.set k .dead) q=true→alive l q=true:=λq F=>by
  obtain⟨o,B,U⟩:=bg.1 F
  by_cases e:q=k
  ·subst e;rw[M]at B;injection B with B;exact absurd B.symm U
  rw[G q e]at B;exact bg.2 ⟨o,B,U⟩
 exact h.sep i j b aa (O i hi) (O j ab)
theorem av.Cq(h:av w0 I0 w I m l){id B e size i b:Nat}{ks an vs ag:List D}{els:List D}{aa es':ME}(au:l[id]?=some (.aU e size ks vs (some i)))(ae:l[B]?=some (.aM e size els))(aE:els≠[])(ar:m id=.map (some b))(aX:MapAt w.heap[b]? aa)(a6:w'.os=w.os)(bc:w'.tape=w.tape)(a7:w'.output=w.output)(aW:w.drawn≤w'.drawn)(ba:w.heap.size≤w'.heap.size)(aP:∀k,k≠b→w'.heap[k]?=w.heap[k]?)(aY:MapAt w'.heap[b]? es')(n1:es'.1.size=an.length)(bj:es'.1.size=ag.length)(bl:∀(j:Nat)(en:MapEntry)(d:D),es'.1[j]?=some en→an[j]?=some d→Rd I en.key d)(ay:∀(j:Nat)(en:MapEntry)(d:D),es'.1[j]?=some en→ag[j]?=some d→(j=i∧en.val=m B∧d=.slice size els)∨(j≠i∧vs[j]?=some d∧∃G,aa.1[j]?=some G∧G.val=en.val)) :
  Le I m l I m ((l.set B .dead).set id (.aU e size an ag none))∧av w0 I0 w' I m ((l.set B .dead).set id (.aU e size an ag none)):=by
 have aN:id≠B:=λe=>by subst e;rw[au]at ae;cases ae
 obtain⟨bh,bp⟩:=h.kill ae rfl
 have aO:(l.set B .dead)[id]?=some (.aU e size ks vs (some i)):=by rw[List.getElem?_set,if_neg (Ne.symm aN)];exact au
 have aL:Le I m (l.set B .dead) I m ((l.set B .dead).set id (.aU e size an ag none)):=Le.setKind aO rfl rfl (by simp)
 obtain⟨b0,aA,ai,bm,bn,bs,bt,bu,bo,aF,aT,az,k1,k2,aR⟩:=h.obj id _ au
 rw[ar]at ai;injection ai with ai;injection ai with ai;subst ai
 have:aA=aa:=by
  have F:=aX.1;rw[bn.1]at F;injection F with F;injection F with F ab
  exact Prod.ext F ab
 subst this
 have aC:fY w0.heap.size w I (m B) e size els:=h.obj B _ ae
 obtain⟨g,al⟩:∃g,own (m B)=some g:=by
  obtain⟨xs,F,_⟩:=aC
  rcases F.2 with ⟨_,bf⟩| ⟨g,bq,cur,ab,_⟩
  ·exact absurd (List.eq_nil_of_length_eq_zero bf) aE
  exact⟨g,by rw[ab];rfl⟩
 have br:g≠b:=λe=>by
  subst e
  exact h.sep B id g (Ne.symm aN) (bg.2 ⟨_,ae,by simp⟩) (bg.2 ⟨_,au,by simp⟩) al (by rw[ar];rfl)
 have bb:∀Z u,I.cell Z 0=some u→w'.heap[Z]?=w.heap[Z]?:=λZ u ax=>aP Z λe=>by subst e;rw[aF.1 0]at ax;cases ax
 have aK:∀{v:Value}{aa:List D}{Z:Nat},aa≠[]→own v=some Z→fY w0.heap.size w I v e size aa→fY w0.heap.size w' I v e size aa:=λ{v aa Z} aZ ad aJ=>by
  obtain⟨u,ax⟩:=aJ.ou aT aZ ad
  exact aJ.dD (λ_ _ h=>h) λaV aq=>⟨bb aV u (by rw[ad]at aq;injection aq with aq;subst aq;exact ax),rfl,rfl⟩
 have a1:∀{j:Nat}{en G:MapEntry}{d:D},j≠i→vs[j]?=some d→aA.1[j]?=some G→G.val=en.val→∃els,d=.slice size els∧els≠[]∧own en.val=some (az j)∧fY w0.heap.size w' I en.val e size els:=λ{j en G d} af aj ak bd=>by
  obtain⟨els,ao,U,M,ah⟩:=k1 j G d (λe=>af (Option.some.inj e).symm) ak aj
  rw[bd]at M ah
  exact⟨els,ao,U,M,aK U M ah⟩
 refine⟨bh.trans aL,bp.je aO (by simp) (b:=b) (by rw[ar];rfl) aF rfl rfl aL a6 bc a7 aW ba aP ⟨b,es',ar,bm,aY,n1,bj,bl,λj en d ak aj=>?_,aF,aT,λj=>if j=i then g else az j,λj en d _ ak aj=>?_,λa c aB aH aI _ _=>?_,λq j O af _ ad=>?_⟩⟩
 ·rcases ay j en d ak aj with ⟨rfl,U,rfl⟩| ⟨ao,U,G,M,ah⟩
  ·rw[U];exact aC.rd
  rw[←ah];exact bo j G d M U
 ·rcases ay j en d ak aj with ⟨rfl,U,rfl⟩| ⟨ao,U,G,M,ah⟩
  ·dsimp only;rw[U,if_pos rfl];exact⟨els,rfl,aE,al,aK aE al aC⟩
  dsimp only;rw[if_neg ao];exact a1 ao U M ah
 ·have aG:∀j,j<es'.1.size→j≠i→j<aA.1.size:=λj af Y=>by
   rcases ay j es'.1[j] ag[j] (Array.getElem?_eq_getElem af) (List.getElem?_eq_getElem (by omega))with ⟨e,_⟩| ⟨_,_,G,M,_⟩
   ·exact absurd e Y
   exact(Array.getElem?_eq_some_iff.1 M).1
  have aS:∀j,j<es'.1.size→j≠i→g≠az j:=λj af Y e=>aR B j (by unfold bO;rw[ae];rfl) (aG j af Y) (λe=>Y (Option.some.inj e).symm) (by rw[al,e])
  dsimp only
  by_cases F:a=i
  ·subst F;rw[if_pos rfl,if_neg (Ne.symm aB)];exact aS c aI (Ne.symm aB)
  rw[if_neg F]
  by_cases ab:c=i
  ·subst ab;rw[if_pos rfl];exact Ne.symm (aS a aH F)
  rw[if_neg ab];exact k2 a c aB (aG a aH F) (aG c aI ab) (λe=>F (Option.some.inj e).symm) (λe=>ab (Option.some.inj e).symm)
 rcases tC O with O| ⟨_,O⟩
 ·have aQ:q≠B:=λe=>by
   subst e;unfold bO at O;rw[List.getElem?_set,if_pos rfl,if_pos (List.getElem?_eq_some_iff.1 ae).1]at O;simp[AO.bO]at O
  have aw:bO l q=true:=by unfold bO at O⊢;rw[List.getElem?_set,if_neg (Ne.symm aQ)]at O;exact O
  have a8:alive l q=true:=by
   unfold bO at aw
   cases aD:l[q]? with
   |none=>simp[aD]at aw
   |some o=>exact bg.2 ⟨o,aD,λe=>by subst e;simp[aD,AO.bO]at aw⟩
  dsimp only at ad
  by_cases Y:j=i
  ·subst Y;rw[if_pos rfl]at ad
   exact h.sep q B g aQ a8 (bg.2 ⟨_,ae,by simp⟩) ad al
  rw[if_neg Y]at ad
  rcases ay j es'.1[j] ag[j] (Array.getElem?_eq_getElem af) (List.getElem?_eq_getElem (by omega))with ⟨e,_⟩| ⟨_,_,G,M,_⟩
  ·exact absurd e Y
  exact aR q j aw (Array.getElem?_eq_some_iff.1 M).1 (λe=>Y (Option.some.inj e).symm) ad
 cases O
end
end Go.af
namespace Go.af
open Go Go.RowKit
variable [aL]
section
variable {P:Program}{V:Env}{w0 w w':World}{I0 I:aq}{m:Nat→Value}{l:List AO}
theorem MH(hE:bw P V.E)(ao:av w0 I0 w I m l){t:TypeId}{x v:Value}{K:KT}{kd:D}{aP:TI}{id O e size:Nat}{ks vs els:List D}(aG:eU V.E t=some (K,aP))(an:K.ok kd=true)(ax:Rd I (bf kd) kd)(aA:ah I m l x (.map id))(aJ:v=m O)(Z:l[id]?=some (.aU e size ks vs (some ((bW kd ks 0).getD ks.length))))(aw:l[O]?=some (.aM e size els))(ay:els≠[])(aH:gZ K ks=true) :
  ∃w',(Instr.mapUpdate t x (bf kd) v).run P w=.ok () w' ∧
   let l':=(l.set O .dead).set id (match bW kd ks 0 with|some j=>.aU e size ks (vs.set j (.slice size els)) none|none=>.aU e size (ks++[kd]) (vs++[.slice size els]) none)
   Le I m l I m l'∧av w0 I0 w' I m l':=by
 subst aJ
 obtain⟨aS,aQ,aE,aj,aT⟩:=kn hE aG
 obtain⟨b,⟨M,G⟩,ad,aC,U,s1,ae,af,aO,aR,_⟩:=ao.obj id _ Z
 have aD:=U
 replace U:w.heap[b]?=some (.map M G)∧MapKept.Stamped M G:=U
 simp only at s1 ae af aO
 have aK:x=.map (some b):=by
  cases aA with
  |map r _ aa ar=>
   have:=ar (by unfold isRow;rw[Z];rfl)
   rw[ad]at this;exact this.symm
 subst aK
 have au:=aj.ck w kd an
 have aI:=aj.stays w kd an
 rcases aj.find I w kd M.toList ks an (by simpa using s1) (λj e d ad aC=>af j e d (by simpa using ad) aC) aH with ⟨aa,ak,aN⟩| ⟨j,aF,aa,ar,aB,aL,ak⟩
 ·have hi:(bW kd ks 0).getD ks.length=ks.length:=by rw[aa];rfl
  rw[hi]at Z
  simp only[aa]
  have aq:=MapKept.run_setObj_map (P:=P) (.map (M.push {key:=bf kd,val:=m O,born:=G}) (G+1)) U.1
  obtain⟨ag,ai⟩:=MapKept.heap_set (o':=.map (M.push {key:=bf kd,val:=m O,born:=G}) (G+1)) U.1
  refine⟨{w with heap:=w.heap.setIfInBounds b (.map (M.push {key:=bf kd,val:=m O,born:=G}) (G+1))},?_,?_⟩
  ·unfold Instr.mapUpdate
   simp only[Sem.run_bind,run_underlying aE,Result.andThen_ok,MapKept.run_getObj_map U.1,au,ak,aq]
  refine ao.Cq Z aw ay ad aD rfl rfl rfl (Nat.le_refl _) (by simp) (λk al=>ai k al) (es':=(M.push {key:=bf kd,val:=m O,born:=G},G+1)) ⟨ag,MapKept.stamped_push U.2 (by simpa using aN)⟩ (by simp[s1]) (by simp[ae]) (λi e d B F=>?_) λi en d B F=>?_
  ·rw[Array.getElem?_push]at B
   split at B
   ·injection B with B;subst B
    rename_i hi;subst hi
    rw[s1,List.getElem?_append_right (Nat.le_refl _)]at F;simp at F;subst F;exact ax
   have hi:i<ks.length:=by have:=(Array.getElem?_eq_some_iff.1 B).1;omega
   rw[List.getElem?_append_left hi]at F;exact af i e d B F
  rw[Array.getElem?_push]at B
  split at B
  ·injection B with B;subst B
   rename_i hi;subst hi
   rw[ae,List.getElem?_append_right (Nat.le_refl _)]at F;simp at F;subst F
   exact .inl ⟨s1,rfl,rfl⟩
  have hi:i<M.size:=(Array.getElem?_eq_some_iff.1 B).1
  rw[List.getElem?_append_left (by omega)]at F
  exact .inr ⟨by omega,F,en,B,rfl⟩
 have hi:(bW kd ks 0).getD ks.length=j:=by rw[aa];simp
 rw[hi]at Z
 simp only[aa]
 have ab:M[j]?=some aF:=by simpa using ar
 have aq:=MapKept.run_setObj_map (P:=P) (.map (M.modify j λe=>{e with key:=bf kd,val:=m O}) G) U.1
 obtain⟨ag,ai⟩:=MapKept.heap_set (o':=.map (M.modify j λe=>{e with key:=bf kd,val:=m O}) G) U.1
 refine⟨{w with heap:=w.heap.setIfInBounds b (.map (M.modify j λe=>{e with key:=bf kd,val:=m O}) G)},?_,?_⟩
 ·unfold Instr.mapUpdate
  simp only[Sem.run_bind,run_underlying aE,Result.andThen_ok,MapKept.run_getObj_map U.1,au,ak,ab,Option.map_some,Option.getD_some,aB,aI,aq]
 refine ao.Cq Z aw ay ad aD rfl rfl rfl (Nat.le_refl _) (by simp) (λk al=>ai k al) (es':=(M.modify j λe=>{e with key:=bf kd,val:=m O},G)) ⟨ag,MapKept.stamped_modify U.2 j _ (λ_ _=>rfl) (λx aA Y=>by rw[ab]at Y;injection Y with Y;subst Y;exact aB.symm)⟩ (by simp[s1]) (by simp[ae]) (λi e d B F=>?_) λi en d B F=>?_
 ·rw[Array.getElem?_modify]at B
  split at B
  ·rename_i hi;subst hi
   rw[ab]at B;simp at B;subst B
   rw[aL]at F;injection F with F;subst F;exact ax
  exact af i e d B F
 rw[Array.getElem?_modify]at B
 split at B
 ·rename_i hi;subst hi
  rw[ab]at B;simp at B;subst B
  have Y:j<vs.length:=by rw[←ae];exact(Array.getElem?_eq_some_iff.1 ab).1
  rw[List.getElem?_set,if_pos rfl,if_pos Y]at F
  injection F with F;exact .inl ⟨rfl,rfl,F.symm⟩
 rename_i az
 rw[List.getElem?_set,if_neg az]at F
 exact .inr ⟨λe=>az e.symm,F,en,B,rfl⟩
theorem UU{E:bN}{t:TypeId}{s b e sz:Nat}{z:Value}(h:eL z.cells.toList [.slice sz []]=true)(j:gY z=false):z=.slice none 0 0:=by
 cases z with
 |agg cs=>simp[gY]at j
 |slice a n c=>
  simp only[Value.cells,eL,Bool.and_true]at h
  unfold lG at h
  split at h<;>simp_all
 |_=>simp_all [Value.cells,eL,lG]
theorem MB(hE:bw P V.E)(aa:av w0 I0 w I m l){t:TypeId}{x:Value}{K:KT}{kd:D}{id e ak size sz aj zs:Nat}{ks vs:List D}(al:eU V.E t=some (K,⟨sz,aj,[.slice zs []],.slice ak⟩))(Z:K.ok kd=true)(au:ah I m l x (.map id))(O:l[id]?=some (.aU e size ks vs none))(ad:∀q o,q≠id→l[q]?=some o→o.oS=false)(aq:gZ K ks=true){els:List D}(B:match bW kd ks 0 with|some j=>vs[j]?=some (.slice size els)|none=>els=[]) :
  ∃v,(Instr.lookup t x (bf kd) false).run P w=.ok v w∧(∃A c k,v=.slice A c k) ∧
   let l':=l.set id (.aU e size ks vs (some ((bW kd ks 0).getD ks.length)))++[.aM e size els]
   Le I m l I (aC m l.length v) l'∧av w0 I0 w I (aC m l.length v) l':=by
 obtain⟨ay,aI,aD,Y,aE⟩:=kn hE al
 obtain⟨b,M,U,ag,ai,s1,aO,aA,aB,aJ,_⟩:=aa.obj id _ O
 obtain⟨z,aF,aG,aH,aP⟩:=rE hE aE w
 have ax:z=.slice none 0 0:=UU (E:=V.E) (t:=t) (s:=0) (b:=0) (e:=0) aG (by rw[aH];rfl)
 subst ax
 have aw:x=.map (some b):=by
  cases au with
  |map r _ F G=>
   have:=G (by unfold isRow;rw[O];rfl)
   rw[U]at this;exact this.symm
 subst aw
 have an:=Y.ck w kd Z
 have aK:=Y.stays w kd Z
 have af:∀r,(Instr.findKey ay (bf kd) M.1.toList).run P w=.ok r w→(Instr.lookup t (.map (some b)) (bf kd) false).run P w=.ok (match r with|some (_,v)=>v|none=>.slice none 0 0) w:=by
  intro r ao
  unfold Instr.lookup
  simp only[Sem.run_bind,run_underlying aD,Result.andThen_ok,Sem.run_pure,MapKept.run_getObj_map ai.1,an,ao]
  cases r<;>simp[aF]
 rcases Y.find I w kd M.1.toList ks Z (by simpa using s1) (λj e d U ag=>aA j e d (by simpa using U) ag) aq with ⟨F,G,_⟩| ⟨j,en,F,G,aL,aN,az⟩
 ·rw[F]at B
  have B:els=[]:=B
  refine⟨_,af _ G,⟨_,_,_,rfl⟩,?_⟩
  rw[F]
  exact aa.Cr O ad (.inr ⟨Nat.le_refl _,B,rfl⟩)
 rw[F]at B
 have B:vs[j]?=some (.slice size els):=by simpa using B
 have ab:M.1[j]?=some en:=by simpa using G
 have ae:=aB j en _ ab B
 have ar:∃A c k,en.val=.slice A c k:=by
  generalize en.val=u at ae
  cases ae<;>exact⟨_,_,_,rfl⟩
 refine⟨_,af _ az,ar,?_⟩
 rw[F]
 simp only[Option.getD_some]
 exact aa.Cr O ad (.inl ⟨b,M,U,ai,en,ab,rfl,B⟩)
end
end Go.af
namespace Go.Sy
open Go Go.af
variable [au][bK][bB][bV][aL]
section
variable {P:Program}{V:Env}{C:Cx}{o:Oper}{ops:List Oper}{ρX:Operand→TX}{ρT:Operand→T}{lX:List AX}{l:List AO}{n nid:Nat}{cs:List Callee}{ρ ae:az}{q:bL}
theorem I4{e:TypeId}{kk:Ty}{u:Ty}{a:AX}{U:AO}{x:X}(ah:isVal u)(af:0<u.size)(Z:bd ρ a U)(h:vA e kk u a=some x) :
  isVal kk∧∃m:List (kk.den×List u.den),x.den ρ=some ⟨.map kk (.list u),m⟩∧∀(w0:World)(I0:aq)(w:World)(I:aq)(B:Nat→Value)(l:List AO)(id:Nat),l[id]?=some U→av w0 I0 w I B l →
   Le I B l I B (l.set id (.aU e u.size (m.map λp=>kk.enc p.1) (m.map λp=>(Ty.list u).enc p.2) none))∧av w0 I0 w I B (l.set id (.aU e u.size (m.map λp=>kk.enc p.1) (m.map λp=>(Ty.list u).enc p.2) none)):=by
 unfold vA at h
 split at h
 ·rename_i ab ag aa y
  split at h
  ·rename_i G
   obtain⟨rfl,rfl,rfl⟩:=G
   simp only[Option.some.injEq]at h;subst h
   cases Z with
   |aU _ _ _ _ m M Y ad j=>
    refine⟨M,m,j,λw0 I0 w I B l id F O=>?_⟩
    have:l.set id (.aU ab aa.size (m.map λp=>ag.enc p.1) (m.map λp=>(Ty.list aa).enc p.2) none)=l:=by
     refine List.ext_getElem? λk=>?_
     rw[List.getElem?_set]
     split
     ·rename_i M;subst M;rw[if_pos (List.getElem?_eq_some_iff.1 F).1,F]
     rfl
    rw[this]
    exact⟨.refl ..,O⟩
  cases h
 ·rename_i k v ai aj
  split at h
  ·rename_i G
   obtain⟨rfl,rfl,rfl,rfl⟩:=G
   simp only[Option.some.injEq]at h;subst h
   cases Z with
   |map _ _ _ m Y ad j=>
    have ae:m=[]:=by
     simp only[X.den]at j
     injection j with j
     cases j;rfl
    subst ae
    exact⟨Y,[],rfl,λw0 I0 w I B l id F O=>O.MF af F⟩
  cases h
 cases h
def vU(a b:AO):Prop:=a=b∨∃e s ks vs op,a=.aU e s ks vs op∧b=.map ks vs
theorem Ak{w0 w:World}{I0 I:aq}{m:Nat→Value}:∀{j k:List AO}(pre:List AO),F2 vU j k→av w0 I0 w I m (pre++j)→Le I m (pre++j) I m (pre++k)∧av w0 I0 w I m (pre++k)
 | [],[],pre,_,h=>⟨.refl ..,h⟩
 |a::r,b::F,pre,.cons h1 B,h=>by
  have e:∀(x:AO)(s:List AO),pre++x::s=(pre++[x])++s:=λx s=>by simp
  rcases h1 with rfl| ⟨el,s,ks,vs,op,rfl,rfl⟩
  ·rw[e a r]at h
   have:=Ak (pre++[a]) B h
   rw[e a r,e a F];exact this
  have G:(pre++AO.aU el s ks vs op::r)[pre.length]?=some (.aU el s ks vs op):=by simp
  obtain⟨k1,k2⟩:=h.Cv G
  have M:(pre++AO.aU el s ks vs op::r).set pre.length (.map ks vs)=(pre++[.map ks vs])++r:=by simp
  rw[M]at k1 k2
  obtain⟨O,U⟩:=Ak (pre++[.map ks vs]) B k2
  rw[e (.map ks vs) F]
  exact⟨k1.trans O,U⟩
theorem Ul{a:AX}{j:AO}(B:bd ρ a j):∃k,bd ρ (vM a) k∧vU j k:=by
 cases B with
 |aU e kk t x m F M O G=>exact⟨_,.map kk (.list t) x m F (bx rfl) G,.inr ⟨_,_,_,_,_,rfl,rfl⟩⟩
 |_=>exact⟨_,by constructor<;>assumption,.inl rfl⟩
theorem Nf{a:AX}{j:AO}(k:bd ρ a j)(h:xw a=false):j.oS=false:=by
 cases k<;>first|rfl|cases h|skip
 rename_i o B
 cases j<;>first|rfl|cases B
theorem Jl{id:Nat}:∀{lX:List AX}{l:List AO}(i:Nat),RL ρ lX l→qE id lX i=true→∃l',RL ρ (mD id lX i) l'∧F2 vU l l'∧(∀k,i+k=id→(mD id lX i)[k]?=lX[k]?∧l'[k]?=l[k]?)∧∀k o,i+k≠id→l'[k]?=some o→o.oS=false
 | [],[],i,_,_=>⟨[],.nil,.nil,λk _=>⟨rfl,rfl⟩,λk o _ h=>by simp at h⟩
 |a::r,b::s,i,.cons h1 U,F=>by
  simp only[qE,Bool.and_eq_true,Bool.or_eq_true,Bool.not_eq_true']at F
  obtain⟨l',k1,k2,Z,G⟩:=Jl (i+1) U F.2
  cases hi:Nat.beq i id with
  |true=>
   have:=Nat.eq_of_beq_eq_true hi
   subst this
   refine⟨b::l',by simp only[mD,hi,cond_true];exact .cons h1 k1,.cons (.inl rfl) k2,λk B=>?_,λk o B j=>?_⟩
   ·have:k=0:=by omega
    subst this
    exact⟨by simp[mD,hi],rfl⟩
   cases k with
   |zero=>omega
   |succ k=>exact G k o (by omega) (by simpa using j)
  |false=>
   have ae:i≠id:=λe=>by subst e;rw[Nat.beq_refl]at hi;cases hi
   obtain⟨O,M,aa⟩:=Ul h1
   have Y:xw (vM a)=false:=by rcases F.1 with h|h;exact absurd h (by rw[hi];simp);exact h
   refine⟨O::l',by simp only[mD,hi,cond_false];exact .cons M k1,.cons aa k2,λk B=>?_,λk o B j=>?_⟩
   ·cases k with
    |zero=>omega
    |succ k=>
     obtain⟨ab,ad⟩:=Z k (by omega)
     exact⟨by simpa [mD,hi]using ab,by simpa using ad⟩
   cases k with
   |zero=>simp at j;subst j;exact Nf M Y
   |succ k=>exact G k o (by omega) (by simpa using j)
theorem br.pre{t:T}{l1 l':List AO}(M:∀(w0:World)(I0:aq)(w:World)(I:aq)(m:Nat→Value),av w0 I0 w I m l→Le I m l I m l1∧av w0 I0 w I m l1)(h:br P o ρT l1 t l'):br P o ρT l t l':=by
 refine⟨h.1,λw0 I0 w I m ρ O Y=>?_⟩
 obtain⟨j,U⟩:=M w0 I0 w I m O
 exact(h.2 w0 I0 w I m ρ U λx G=>(Y x G).mono j).mono λv w' ⟨J,m',k,B,F⟩=>⟨J,m',j.trans k,B,F⟩
theorem Mu{t e:TypeId}(h:tn C t=some e):∃sz k z M j O B U,C.E t=some ⟨sz,k,z,.map M j⟩∧C.E j=some ⟨O,B,U,.slice e⟩:=by
 unfold tn at h
 split at h
 ·rename_i F
  split at h
  ·rename_i G
   simp only[Option.some.injEq]at h;subst h
   exact⟨_,_,_,_,_,_,_,_,F,G⟩
  cases h
 cases h
theorem MD(B:bb P V C){t e:TypeId}{kk:Ty}{u:Ty}(ad:C.ty t=some (.map kk (.list u)))(al:gi C t kk=true)(ak:tn C t=some e):∃K sz Y,eU V.E t=some (K,⟨sz,Y,[.slice u.size []],.slice e⟩)∧(∀a:kk.den,K.ok (kk.enc a)=true)∧isVal u∧0<u.size:=by
 obtain⟨K,i,j,aj,au,av,k⟩:=B.map ad al
 obtain⟨s1,aF,aG,aA,aH,ae,af,U,Z,aa⟩:=Mu ak
 obtain⟨ax,M,_,_,_,ab,_⟩:=B.info ad
 rw[B.E,Z]at M
 simp only[Option.some.injEq]at M;subst M
 simp only[lR,Bool.and_eq_true,decide_eq_true_eq]at ab
 obtain⟨sz,Y,aI,ar,ay,O,aB,aC,aD,ao,aq,aE⟩:=B.list ab.1.1.1.1.2
 rw[B.E,aa]at O
 simp only[Option.some.injEq,TI.mk.injEq,TD.slice.injEq]at O
 obtain⟨rfl,rfl,rfl,rfl⟩:=O
 have F:eU V.E t=some (K,⟨ae,af,U,.slice e⟩):=by
  unfold eU at j⊢
  rw[B.E,Z]at j⊢
  simp only at j⊢
  rw[aa]at j⊢
  split at j
  ·rename_i az aw ag G
   injection G with G
   subst G
   injection j with j
   injection j with ah ai
   subst ah;subst ai
   first|rfl|rw[ag]
  cases j
 rw[j]at F
 injection F with F
 injection F with _ F
 subst F
 refine⟨K,ae,af,?_,aj,ao,aq⟩
 rw[j]
 have an:U=[.slice u.size []]:=by
  unfold mG at k
  simp only[iD,eP,eu]at k
  match U,k with
  | [d],k=>
   simp only[iC,Bool.and_true]at k
   unfold pL at k
   split at k<;>simp_all
  | [],k=>simp[iC]at k
  |_::_::_,k=>simp[iC]at k
 rw[an]
theorem OP{e sz:Nat}{α:Type}{kk:Ty}{m:kk.den}{w:α}(zs:List (kk.den×α))(f:α→D):(match bW (kk.enc m) (zs.map λp=>kk.enc p.1) 0 with|some j=>AO.aU e sz (zs.map λp=>kk.enc p.1) ((zs.map λp=>f p.2).set j (f w)) none|none=>AO.aU e sz ((zs.map λp=>kk.enc p.1)++[kk.enc m]) ((zs.map λp=>f p.2)++[f w]) none) =
  AO.aU e sz ((fR kk zs m w).map λp=>kk.enc p.1) ((fR kk zs m w).map λp=>f p.2) none:=by
 have h:=DQ (t:=kk) (m:=m) (w:=w) zs f
 cases F:bW (kk.enc m) (zs.map λp=>kk.enc p.1) 0 with
 |some j=>
  rw[F]at h
  simp only at h⊢
  injection h with k B
  rw[B,←k]
 |none=>
  rw[F]at h
  simp only at h⊢
  injection h with k B
  rw[B,←k]
theorem MI(U:bb P V C){t:TypeId}{x k:Operand}(F:o.op=.lookup t x k false)(af:RL ρ lX l)(an:RX ρ (ρX x) (ρT x))(ad:RX ρ (ρX k) (ρT k))(h:xp C t lX nid (ρX x) (ρX k)=some q):q.ins=[]∧bm P o ρT l nid ρ q:=by
 unfold xp at h
 split at h
 ·rename_i kk u id bq ao aR ay az
  rw[ay]at an;rw[az]at ad
  obtain⟨bp,m,ai,aQ⟩:=dN ad
  have aC:=oY an
  split at h
  ·rename_i e a aH aJ
   split at h
   ·rename_i y a7
    split at h
    ·rename_i aN;subst aN
     cases M:(gi C t kk&&qE id lX 0)with
     |false=>simp[M]at h
     |true=>
      simp only[M,cond_true,Option.some.injEq]at h
      subst h
      simp only[Bool.and_eq_true]at M
      obtain⟨aO,aS⟩:=M
      obtain⟨K,sz,bj,al,Y,Z,ak⟩:=MD U (l5 aR) aO aH
      obtain⟨aw,aD,aE⟩:=F2.left af aJ
      obtain⟨a6,B,ab,aY⟩:=I4 Z ak aE a7
      obtain⟨l1,bc,au,bd,bh⟩:=Jl (id:=id) 0 af aS
      obtain⟨_,bg⟩:=bd id (by omega)
      have ag:l1[id]?=some aw:=bg.trans aD
      have aK:id<l1.length:=(List.getElem?_eq_some_iff.1 ag).1
      have aI:(X.u3 .l7 y ao (.nil u)).den ρ=some ⟨.list u,kr kk B m []⟩:=by
       have aF:bZ (.list u) ⟨.list u,([]:List u.den)⟩=some []:=eG (.list u) _
       have aG:bZ kk ⟨kk,m⟩=some m:=eG kk m
       simp only[X.den,ab,ai,mC,aF,aG]
      refine⟨rfl,.row nid,.row _,_,F2.app (F2.set bc (.eg e kk u y ao B m a6 Z ak ab ai) id) (.cons (.aM e u _ (kr kk B m []) Z aI) .nil),λaT=>?_⟩
      subst aT
      refine br.pre (l1:=l1) (λw0 I0 w I aa G=>by simpa using Ak [] au (by simpa using G)) ?_
      refine br.pre (l1:=l1.set id (.aU e u.size (B.map λp=>kk.enc p.1) (B.map λp=>(Ty.list u).enc p.2) none)) (λw0 I0 w I aa G=>aY w0 I0 w I aa l1 id ag G) ?_
      refine⟨by simp[F],λw0 I0 w I aa av aV aj=>?_⟩
      have aq:=aj x (by simp[F,Op.operands])
      have ar:=aj k (by simp[F,Op.operands])
      rw[aC]at aq;rw[aQ]at ar
      obtain⟨_,_,_,aB,_⟩:=kn U.ok.E al
      have a1:av k=bf (kk.enc m):=aB.rd (Y m) (bn ar)
      have aP:l.length=l1.length:=au.len
      obtain⟨v,aW,⟨A,c,ax,aZ⟩,ah,G⟩:=MB (P:=P) U.ok.E aV (kd:=kk.enc m) (e:=e) (size:=u.size) (els:=(kr kk B m []).map u.enc) al (Y m) aq (by rw[List.getElem?_set,if_pos rfl,if_pos aK]) (λj ba aL F=>by
       rw[List.getElem?_set,if_neg (Ne.symm aL)]at F
       exact bh j ba (by omega) F) (oU Y B) (by
       cases ae:bW (kk.enc m) (B.map λp=>kk.enc p.1) 0 with
       |some j=>
        obtain⟨bl,a8,bo,aA,O,_⟩:=tL ae
        have:j=a8:=by omega
        subst this
        simp only
        rw[List.getElem?_map,aA]
        simp only[Option.map_some,O,sV]
       |none=>
        obtain⟨O,_⟩:=tK ae
        simp only
        rw[O];rfl)
      have hex:(execOp av o).run P w=.ok (.value v) w:=by unfold execOp;simp[F,a1,aW]
      rw[hex]
      simp only[bI]
      have aX:∀b:AO,(l1.set id (.aU e u.size (B.map λp=>kk.enc p.1) (B.map λp=>(Ty.list u).enc p.2) none)).set id b=l1.set id b:=λb=>by rw[List.set_set]
      simp only[aX,List.length_set]at ah G
      refine⟨I,_,ah,G,?_⟩
      rw[aP]
      subst aZ
      exact .row A c ax l1.length (by simp) λ_=>by rw[cD]
    cases h
   cases h
  cases h
 cases h
theorem Ox{y:X}{u:Ty}{xs:List u.den}(h:uc y=true)(j:y.den ρ=some ⟨.list u,xs⟩):xs≠[]:=by
 unfold uc at h
 split at h
 ·rename_i a b c
  intro e;subst e
  simp only[X.den]at j
  cases k:a.den ρ with
  |none=>simp[k]at j
  |some af=>
   cases F:b.den ρ with
   |none=>simp[k,F]at j
   |some ag=>
    cases G:c.den ρ with
    |none=>simp[k,F,G]at j
    |some ah=>
     simp only[k,F,G]at j
     obtain⟨B,aj⟩:=ah
     cases B with
     |list B=>
      cases M:bZ B ag with
      |none=>simp[bF,M]at j
      |some z=>
       simp only[bF,M]at j
       obtain⟨O,ai⟩:=af
       cases O with
       |list O=>
        simp only at j
        split at j
        ·rename_i ys ad
         have U:=jT ad
         cases U
         injection j with j
         have Y:B=u:=by injection j with ab _;injection ab
         subst Y
         have Z:List.append ai (List.cons z aj)=[]:=by injection j with _ ak
         have ae:∀(α:Type)(a b:List α)(z:α),List.append a (List.cons z b)≠[]:=λα a b z h=>by
          have aa:a++z::b=[]:=h
          simp at aa
         exact ae _ _ _ _ Z
        cases j
       |_=>simp at j
     |_=>simp[bF]at j
 cases h
theorem MJ(Z:bb P V C){t:TypeId}{M k x:Operand}(G:o.op=.mapUpdate t M k x)(ad:RL ρ lX l)(ak:RX ρ (ρX M) (ρT M))(aj:RX ρ (ρX k) (ρT k))(aq:RX ρ (ρX x) (ρT x))(h:xq C t lX (ρX M) (ρX k) (ρX x)=some q):q.ins=[]∧bm P o ρT l nid ρ q:=by
 unfold xq at h
 split at h
 ·rename_i id bp au B ay az aA
  rw[ay]at ak;rw[az]at aj;rw[aA]at aq
  obtain⟨bo,m,al,aQ⟩:=dN aj
  have aD:=oY ak
  have aB:=rD aq
  split at h
  ·rename_i e kk u mx a8 bh br y aN aK
   split at h
   ·rename_i aL
    obtain⟨rfl,rfl,rfl,aR⟩:=aL
    cases F:(gi C t kk&&X.beq au a8&&uc y)with
    |false=>simp[F]at h
    |true=>
     simp only[F,cond_true,Option.some.injEq]at h
     subst h
     simp only[Bool.and_eq_true]at F
     have:=X.beq_eq F.1.2
     subst this
     obtain⟨bc,aE,aF⟩:=F2.left ad aN
     obtain⟨bd,ai,aG⟩:=F2.left ad aK
     cases aF with
     |eg _ _ _ _ _ j n0 aZ aY aX aJ U=>
      rw[al]at U
      injection U with U
      cases U
      cases aG with
      |aM _ _ _ xs _ ar=>
       have aS:=Ox F.2 ar
       obtain⟨K,i,ah,aa,_⟩:=Z.map (l5 aR) F.1.1
       have aH:bZ (.list u) ⟨.list u,xs⟩=some xs:=eG (.list u) _
       have aI:bZ kk ⟨kk,m⟩=some m:=eG kk m
       have aT:(X.u3 .o6 mx au y).den ρ=some ⟨.map kk (.list u),fR kk j m xs⟩:=by
        simp only[X.den,aJ,al,ar,mC,aH,aI]
       refine⟨rfl,.undef,.undef _,_,F2.set (F2.set ad .dead B) (.aU e kk u _ (fR kk j m xs) aZ aY aX aT) id,λbj=>?_⟩
       refine⟨by simp[G],λw0 I0 w I O Y aV ae=>?_⟩
       have aw:=ae M (by simp[G,Op.operands])
       have ax:=ae k (by simp[G,Op.operands])
       have ag:=ae x (by simp[G,Op.operands])
       rw[aD]at aw;rw[aQ]at ax;rw[aB]at ag
       obtain⟨_,_,_,aC,_⟩:=kn Z.ok.E ah
       have ab:=bn ax
       have ao:Y k=bf (kk.enc m):=aC.rd (aa m) ab
       rw[ao]at ab
       have a1:Y x=O B:=by
        generalize Y x=bs at ag
        cases ag with
        |row A c bg _ bq ba=>exact(ba (by unfold af.isRow;rw[ai];rfl)).symm
       obtain⟨w',aW,aO,a6⟩:=MH (P:=P) (V:=V) Z.ok.E aV (kd:=kk.enc m) ah (aa m) ab aw a1 aE ai (by simpa using aS) (oU aa j)
       have hex:(execOp Y o).run P w=.ok .skip w':=by unfold execOp;simp[G,ao,aW]
       have an:=OP (e:=e) (sz:=u.size) (kk:=kk) (m:=m) (w:=xs) j (λx=>(Ty.list u).enc x)
       have bl:∀a b:AO,a=b→(l.set B .dead).set id a=(l.set B .dead).set id b:=λa b h=>by rw[h]
       have aP:Le I O l I O ((l.set B .dead).set id (.aU e u.size ((fR kk j m xs).map λp=>kk.enc p.1) ((fR kk j m xs).map λp=>(Ty.list u).enc p.2) none)):=by rw[←an];exact aO
       have a7:av w0 I0 w' I O ((l.set B .dead).set id (.aU e u.size ((fR kk j m xs).map λp=>kk.enc p.1) ((fR kk j m xs).map λp=>(Ty.list u).enc p.2) none)):=by rw[←an];exact a6
       rw[hex]
       simp only[bI]
       exact⟨I,O,aP,a7,.undef _⟩
   cases h
  cases h
 cases h
theorem Ut(h:ga P V):ga P {V with sub:=true}:=⟨h.E,h.C,h.eq,h.F,h.prog⟩
theorem TG(k:bb P V C){t:TypeId}{x lo:Operand}(an:o.op=.slice t x (some lo) none none)(O:RL ρ lX l)(Z:RX ρ (ρX x) (ρT x))(Y:RX ρ (ρX lo) (ρT lo))(h:zT C t lX (ρX x) (ρX lo)=some q)(hi:bp cs n ρ q.ins ae):bm P o ρT l nid ae q:=by
 unfold zT at h
 split at h
 ·rename_i s1 aw ax e u id au av hE ao ab ad
  rw[ab]at Z;rw[ad]at Y
  obtain⟨m,B,aa⟩:=eI Y
  have ag:=rD Z
  split at h
  ·rename_i aA aK xs ak
   split at h
   ·rename_i aq;subst aq
    simp only[Option.some.injEq]at h;subst h
    obtain⟨k1,k2⟩:=fE hi
    cases k2
    obtain⟨ay,ah,ai⟩:=F2.left O ak
    cases ai with
    |row _ _ _ zs aH ar=>
     obtain⟨sz,az,aL,aD,i,j,F,af,aF,aG,aI,aJ⟩:=k.list ao
     have G:V.E t=some ⟨s1,aw,ax,.slice e⟩:=by rw[k.E];exact hE
     rw[G]at j
     simp only[Option.some.injEq,TI.mk.injEq,TD.slice.injEq]at j
     obtain⟨rfl,rfl,rfl,rfl⟩:=j
     have U:(ff xs).den ρ=some ⟨.int .i64,(zs.length:Int)⟩:=by simp only[ff,X.den,ar,dp]
     have M:0≤m∧m≤zs.length:=by
      simp only[X.den,iX,B,U,bF]at k1
      have k1:(aB 0 m&&aB m (zs.length:Int))=true:=ed k1
      simpa using k1
     have aj:evalOp {V with sub:=true} ρT l nid o=⟨.sub id m.toNat zs.length,.aC l,0≤m∧m≤zs.length⟩:=by
      simp only[evalOp,an,G,ag,Option.map_some,Option.map_none,if_true,mz,ah,aa,cL,List.length_map]
      rw[if_pos ⟨by simp[aE,F,af],by rw[F];rfl⟩]
     exact⟨_,.sub id av (ff xs) au .i64 m zs.length M.1 B U,l,O,λal=>br.aC (Ut k.ok) aj M rfl al⟩
   cases h
  cases h
 cases h
theorem Lq(F:bb P V C){c:Call}{t:TypeId}{x:Operand}(aD:o.op=.call c)(Y:c.callee=.builtin .clear)(ar:c.args.toList=[x])(ax:c.argTypes.toList=[t])(ag:RL ρ lX l)(Z:RX ρ (ρX x) (ρT x))(h:wv C t lX (ρX x)=some q)(hi:bp cs n ρ q.ins ae):bm P o ρT l nid ae q:=by
 have B:evalOp V ρT l nid o=jV V.E t l (ρT x):=by simp only[evalOp,aD,Y,ar,ax]
 unfold wv at h
 split at h
 ·rename_i s1 aK aL e u id lo ay hE aG al
  rw[al]at Z
  split at h
  ·rename_i ak k xs z az aI
   split at h
   ·rename_i aH;subst aH
    cases U:X.beq ay (ff xs)with
    |false=>simp[U]at h
    |true=>
     simp only[U,cond_true,Option.some.injEq]at h;subst h
     have:=X.beq_eq U
     subst this
     cases hi
     generalize aT:ρT x=a1 at B Z
     cases Z with
     |sub _ _ _ k1 k2 m aU aZ aj M=>
      obtain⟨aO,au,aw⟩:=F2.left ag az
      cases aw with
      |row _ _ _ zs aR ai=>
       obtain⟨sz,aP,a6,aQ,i,O,ab,an,ao,ad,aS,aq⟩:=F.list aG
       have af:V.E t=some ⟨s1,aK,aL,.slice e⟩:=by rw[F.E];exact hE
       rw[af]at O
       simp only[Option.some.injEq,TI.mk.injEq,TD.slice.injEq]at O
       obtain⟨rfl,rfl,rfl,rfl⟩:=O
       obtain⟨aY,G,aV,aW,aX,_,aJ⟩:=F.info aq
       rw[ab]at G
       injection G with G;subst G
       obtain⟨aa,aM,aN⟩:=Ay (ρ:=ρ) ad aJ ao aI
       have ah:(ff xs).den ρ=some ⟨.int .i64,(zs.length:Int)⟩:=by simp only[ff,X.den,ai,dp]
       rw[ah]at M
       injection M with M
       cases M
       have aE:(X.u2 .rep (.u2 (.sub .i64) (ff xs) lo) z).den ρ=some ⟨.list k,List.replicate (zs.length-m.toNat) aa⟩:=by
        have:((zs.length:Int)-m).toNat=zs.length-m.toNat:=by omega
        rw[←this]
        simp only[X.den,ah,aj,aM,bF]
        rfl
       have aF:(X.u2 .take xs lo).den ρ=some ⟨.list k,zs.take m.toNat⟩:=by simp only[X.den,ai,aj,bF]
       have av:=vW aF aE
       simp only[jV,af,ab,au]at B
       rw[if_pos ⟨an.symm,by simp,by omega⟩,aN]at B
       have aA:List.take m.toNat (zs.map k.enc)++List.replicate ((zs.length:Int).toNat-m.toNat) (k.enc aa)=(zs.take m.toNat++List.replicate (zs.length-m.toNat) aa).map k.enc:=by simp[List.map_append,List.map_take]
       rw[aA]at B
       exact⟨_,.eY [] [] rfl (λj c d Y=>by simp at Y),_,F2.set ag (.row ak k _ _ ad av) id,λaB=>br.aC F.ok B trivial rfl aB⟩
   cases h
  cases h
 cases h
end
end Go.Sy
namespace Go.af
open Go Go.RowKit
variable [aL]
section
variable {P:Program}{V:Env}{w0 w w':World}{I0 I:aq}{m:Nat→Value}{l L:List AO}
theorem av.TW(G:av w0 I0 w I m l){id:Nat}(j:l[id]?=some (.map [] [])):Le I m l I m (l.set id (.bD [] []))∧av w0 I0 w I m (l.set id (.bD [] [])):=by
 have F:Le I m l I m (l.set id (.bD [] [])):=Le.setKind j rfl rfl (by simp)
 obtain⟨b,B,M,aa,ab,k,ae,af,ag,O⟩:=G.obj id _ j
 have ad:B.1.size=0:=by simpa using k
 exact⟨F,G.je j (by simp) (b:=b) (by rw[M];rfl) O rfl rfl F rfl rfl rfl (Nat.le_refl _) (Nat.le_refl _) (λ_ _=>rfl) ⟨b,B,M,aa,ab,k,by simpa using k,λi e d Y U=>by simp at U,λi e t Y Z=>by simp at Z,O⟩⟩
theorem T9(hE:bw P V.E)(al:av w0 I0 w I m l){t:TypeId}{x v:Value}{K:KT}{kd:D}{aI:TI}{id:Nat}{ks:List D}{ts:List T}{ad:T}(ar:eU V.E t=some (K,aI))(aj:K.ok kd=true)(ay:Rd I (bf kd) kd)(aE:ah I m l x (.map id))(aD:ah I m l v ad)(Z:l[id]?=some (.bD ks ts))(aA:gZ K ks=true)(az:bW kd ks 0=none) :
  ∃w',(Instr.mapUpdate t x (bf kd) v).run P w=.ok () w'∧Le I m l I m (l.set id (.bD (ks++[kd]) (ts++[ad])))∧av w0 I0 w' I m (l.set id (.bD (ks++[kd]) (ts++[ad]))):=by
 obtain⟨aM,aL,aJ,ai,aN⟩:=kn hE ar
 obtain⟨b,⟨G,F⟩,Y,ae,M,s1,ag,af,an,ak⟩:=al.obj id _ Z
 replace M:w.heap[b]?=some (.map G F)∧MapKept.Stamped G F:=M
 simp only at s1 ag af an
 have aF:x=.map (some b):=by
  cases aE with
  |map r _ ab aG=>
   have:=aG (by unfold isRow;rw[Z];rfl)
   rw[Y]at this;exact this.symm
 subst aF
 have au:=ai.ck w kd aj
 have aB:own (m id)=some b:=by rw[Y];rfl
 have aa:Le I m l I m (l.set id (.bD (ks++[kd]) (ts++[ad]))):=Le.setKind Z rfl rfl (by simp)
 rcases ai.find I w kd G.toList ks aj (by simpa using s1) (λj e d Y ae=>af j e d (by simpa using Y) ae) aA with ⟨ab,aw,aH⟩| ⟨j,aK,ab,_⟩
 ·have aC:=MapKept.run_setObj_map (P:=P) (.map (G.push {key:=bf kd,val:=v,born:=F}) (F+1)) M.1
  obtain⟨ao,aq⟩:=MapKept.heap_set (o':=.map (G.push {key:=bf kd,val:=v,born:=F}) (F+1)) M.1
  refine⟨{w with heap:=w.heap.setIfInBounds b (.map (G.push {key:=bf kd,val:=v,born:=F}) (F+1))},?_,aa,?_⟩
  ·unfold Instr.mapUpdate
   simp only[Sem.run_bind,run_underlying aJ,Result.andThen_ok,MapKept.run_getObj_map M.1,au,aw,aC]
  refine al.je Z (by simp) aB ak rfl rfl aa rfl rfl rfl (Nat.le_refl _) (by simp) (λk ax=>aq k ax) ?_
  refine⟨b,(G.push {key:=bf kd,val:=v,born:=F},F+1),Y,ae,⟨ao,MapKept.stamped_push M.2 (by simpa using aH)⟩,by simp[s1],by simp[ag],λi e d B O=>?_,λi e t' B U=>?_,ak⟩
  ·rw[Array.getElem?_push]at B
   split at B
   ·injection B with B;subst B
    rename_i hi;subst hi
    rw[s1,List.getElem?_append_right (Nat.le_refl _)]at O;simp at O;subst O;exact ay
   have hi:i<ks.length:=by have:=(Array.getElem?_eq_some_iff.1 B).1;omega
   rw[List.getElem?_append_left hi]at O;exact af i e d B O
  rw[Array.getElem?_push]at B
  split at B
  ·injection B with B;subst B
   rename_i hi;subst hi
   rw[ag,List.getElem?_append_right (Nat.le_refl _)]at U;simp at U;subst U;exact aD.mono aa
  have hi:i<ts.length:=by have:=(Array.getElem?_eq_some_iff.1 B).1;omega
  rw[List.getElem?_append_left hi]at U;exact(an i e t' B U).mono aa
 rw[az]at ab;cases ab
theorem TV(hE:bw P V.E)(al:av w0 I0 w I m l){t:TypeId}{x:Value}{ok:Bool}{K:KT}{kd:D}{aA:TI}{id:Nat}{ks:List D}{ts:List T}(af:eU V.E t=some (K,aA))(Z:K.ok kd=true)(ao:ah I m l x (.map id))(aa:l[id]?=some (.bD ks ts))(ak:gZ K ks=true) :
  ∃u,(Instr.lookup t x (bf kd) ok).run P w=.ok u w∧match bW kd ks 0 with
   |some j=>∀k,ts[j]?=some k→ah I m l u (if ok then .aw [k,.d (.bool true)]else k)
   |none=>ah I m l u (if ok then .aw [.undef,.d (.bool false)]else .undef):=by
 obtain⟨ar,aE,aB,Y,aC⟩:=kn hE af
 obtain⟨b,O,U,ae,ax,s1,aI,ay,az,aF⟩:=al.obj id _ aa
 obtain⟨z,aD,aJ,aK,aL⟩:=rE hE aC w
 have aq:x=.map (some b):=by
  cases ao with
  |map r _ M F=>
   have:=F (by unfold isRow;rw[aa];rfl)
   rw[U]at this;exact this.symm
 subst aq
 have ag:=Y.ck w kd Z
 have ab:∀r,(Instr.findKey ar (bf kd) O.1.toList).run P w=.ok r w→(Instr.lookup t (.map (some b)) (bf kd) ok).run P w=.ok (if ok then .tuple #[match r with|some (_,v)=>v|none=>z,.bool r.isSome]else match r with|some (_,v)=>v|none=>z) w:=by
  intro r aj
  unfold Instr.lookup
  simp only[Sem.run_bind,run_underlying aB,Result.andThen_ok,Sem.run_pure,MapKept.run_getObj_map ax.1,ag,aj]
  cases r<;>simp[aD]<;>split<;>simp
 have ad:∀(u:Value)(b:Bool)(k:T),ah I m l u k→ah I m l (.tuple #[u,.bool b]) (.aw [k,.d (.bool b)]):=λu b k h=>.aw _ _ rfl λi v t B G=>by
  rcases i with _|_|i
  ·simp at B G;subst B;subst G;exact h
  ·simp at B G;subst B;subst G;exact .d _ _ (.bool _)
  simp at B
 rcases Y.find I w kd O.1.toList ks Z (by simpa using s1) (λj e d U ae=>ay j e d (by simpa using U) ae) ak with ⟨M,F,_⟩| ⟨j,en,M,F,aG,aH,au⟩
 ·refine⟨_,ab _ F,?_⟩
  rw[M]
  cases ok with
  |true=>exact ad z false .undef (.undef _)
  |false=>exact .undef _
 refine⟨_,ab _ au,?_⟩
 rw[M]
 intro k an
 have ai:O.1[j]?=some en:=by simpa using F
 have:=az j en k ai an
 cases ok with
 |true=>exact ad _ true k this
 |false=>exact this
def T.ew:T→Bool
 |.ar _ _=>true
 |.d (.fn _)=>true
 |.d (.ar _ _)=>true
 |_=>false
theorem wx{v:Value}{t:T}(h:ah I m L v t)(j:t.ew=true):v.cells = #[v]∧v.oneCell'=true:=by
 cases h with
 |ar g vs ts B F=>exact⟨rfl,rfl⟩
 |d v x k=>cases k<;>simp[T.ew]at j<;>exact⟨rfl,rfl⟩
 |_=>simp[T.ew]at j
def T.eC:T→T
 |.agg [c]=>c
 |.d (.agg [y])=>.d y
 |t=>t
theorem Lr{v:Value}{t:T}(h:ah I m L v t)(j:t.eC.ew=true):∃u,v.cells = #[u]∧u.oneCell'=true∧ah I m L u t.eC:=by
 have M:t.eC=t→∃u,v.cells = #[u]∧u.oneCell'=true∧ah I m L u t.eC:=λe=>by
  rw[e]at j⊢
  exact⟨v,(wx h j).1,(wx h j).2,h⟩
 cases h with
 |agg vs ts B F k=>
  match ts,B,k,j with
  | [c],B,k,j=>
   match vs,B,F,k with
   | ⟨[u]⟩,_,F,k=>exact⟨u,rfl,F 0 u rfl,k 0 u c rfl rfl⟩
  | [],_,_,j=>simp[T.eC,T.ew]at j
  |_::_::_,_,_,j=>simp[T.eC,T.ew]at j
 |d v x O=>
  cases O with
  |agg cs ds B F k=>
   match ds,B,k,j with
   | [d],B,k,j=>
    match cs,B,k with
    | ⟨[u]⟩,_,k=>
     have G:ah I m L u (.d d):=.d _ _ (k 0 u d rfl rfl)
     exact⟨u,rfl,(wx G j).2,G⟩
   | [],_,_,j=>simp[T.eC,T.ew]at j
   |_::_::_,_,_,j=>simp[T.eC,T.ew]at j
  |_=>exact M rfl
 |_=>exact M rfl
theorem TM(hE:bw P V.E)(az:av w0 I0 w I m L){nid:Nat}(ar:L[nid]?=some .dead){ρ:Operand→Value}{ρT:Operand→T}{t e:TypeId}{sz an:Nat}{z:List D}{len:Nat}{k:Array (Nat×Operand)}(aD:V.E t=some ⟨sz,an,z,.slice e⟩)(ax:∀p∈k.toList,ah I m L (ρ p.2) (ρT p.2))(ao:∀p∈k.toList,(ρT p.2).eC.ew=true)(ag:(V.E e).isSome=true∧aE V.E e=1)(aM:len≠0)(aN:len≤16777216)(aj:k.toList.map (·.1)=List.range len) :
  ∃w' m',(Instr.buildSlice t len (k.map λ(i,x)=>(i,ρ x))).run P w=.ok (.slice (some ⟨w.heap.size,0,none⟩) len len) w'∧Le I m L I m' (L.set nid (.var e (k.toList.map λp=>(ρT p.2).eC)))∧av w0 I0 w' I m' (L.set nid (.var e (k.toList.map λp=>(ρT p.2).eC)))∧ah I m' (L.set nid (.var e (k.toList.map λp=>(ρT p.2).eC))) (.slice (some ⟨w.heap.size,0,none⟩) len len) (.bj nid len):=by
 have M:=fV hE aD
 obtain⟨i,hi⟩:=Option.isSome_iff_exists.1 ag.1
 obtain⟨x,af,k1,k2,aO,aH,aP,aQ,aR,aS⟩:=dz (hE e i hi)
 have O:i.size=1:=by have:=ag.2;simpa [aE,hi]using this
 have aw:0<i.size:=by omega
 have Z:k.toList.length=len:=by have:=congrArg List.length aj;simpa using this
 have Y:∀p∈k.toList,∃u,(ρ p.2).cells = #[u]∧u.oneCell'=true∧ah I m L u (ρT p.2).eC:=λp B=>Lr (ax p B) (ao p B)
 have aF:∀v∈k.toList.map (λp=>ρ p.2),v.cells.size=i.size:=by
  intro v G
  obtain⟨p,B,rfl⟩:=List.mem_map.1 G
  obtain⟨u,M,_⟩:=Y p B
  rw[M,O];rfl
 obtain⟨r,aq,aB,aA⟩:=Great.fill_dense aw (k.toList.map λp=>ρ p.2) 0 ((Array.range (len*i.size)).map (af.cells[· % af.cells.size]!)) aF (by simp[Z])
 have aG:(k.map λ(i,x)=>(i,ρ x)).toList=((k.toList.map λp=>ρ p.2).zipIdx 0).map λx=>(x.2,x.1):=by
  apply List.ext_getElem?
  intro j
  simp only[Array.toList_map,List.getElem?_map,List.getElem?_zipIdx,Nat.zero_add,Option.map_map]
  cases B:k.toList[j]? with
  |none=>simp
  |some p=>
   have U:j<len:=by rw[←Z];exact(List.getElem?_eq_some_iff.1 B).1
   have:(k.toList.map (·.1))[j]?=some p.1:=by rw[List.getElem?_map,B];rfl
   rw[aj,List.getElem?_range U]at this
   injection this with this
   simp[this]
 have aC:=run_buildSlice (P:=P) w t e len (k.map λ(i,x)=>(i,ρ x)) r x af M k1 aH (by rw[k2,O];omega) (by rw[k2,O];omega) (by rw[aG,k2];exact aq)
 have ak:r.size=len:=by rw[aB];simp[O]
 have ai:∀(j:Nat) u,r[j]?=some u→∃p,k.toList[j]?=some p∧(ρ p.2).cells = #[u]:=λj u M=>by
  have U:j<len:=by rw[←ak];exact(Array.getElem?_eq_some_iff.1 M).1
  have B:k.toList[j]?=some (k.toList[j]'(by omega)):=List.getElem?_eq_getElem (by omega)
  refine⟨_,B,?_⟩
  rw[aA j,if_pos (by simp[O];rw[←Array.length_toList,Z];exact U)]at M
  obtain⟨aa,F,_⟩:=Y _ (List.mem_of_getElem? B)
  simp only[O,Nat.div_one,Nat.sub_zero,Nat.mod_one,List.getElem?_map,B,Option.map_some,Option.bind_some,F]at M
  have:aa=u:=by simpa using M
  rw[F,this]
 obtain⟨m',aK,aL,al⟩:=ya (ty:=e) (vs:=r) (cs:=k.toList.map λp=>(ρT p.2).eC) az ar (by simp[ak,←Z]) (λu ae=>by
  obtain⟨j,U,rfl⟩:=List.mem_iff_getElem.1 ae
  obtain⟨p,B,ab⟩:=ai j _ (by rw[←Array.getElem?_toList];exact List.getElem?_eq_getElem U)
  obtain⟨aa,F,au,_⟩:=Y p (List.mem_of_getElem? B)
  rw[ab]at F
  simp at F
  subst F
  exact au) (λj u t' ae ad=>by
  obtain⟨p,B,ab⟩:=ai j u (by simpa using ae)
  rw[List.getElem?_map,B]at ad
  simp at ad
  subst ad
  obtain⟨aa,F,_,ay⟩:=Y p (List.mem_of_getElem? B)
  rw[ab]at F
  have:u=aa:=by simpa using F
  rw[this];exact ay)
 refine⟨_,m',aC,aK,aL,?_⟩
 generalize G:Value.pointer (some ⟨w.heap.size,0,none⟩)=v at al
 cases al with
 |ptr _ b _ aI aJ=>
  injection G with G;injection G with G;injection G with G;subst G
  exact .bj nid _ len len aI aJ (Nat.le_refl _) (by unfold maxLen;omega)
theorem IP(hE:bw P V.E){t e:TypeId}{sz B:Nat}{z:List D}{x:Value}{k:IntKind}{n:Int}{id len:Nat}(M:V.E t=some ⟨sz,B,z,.slice e⟩)(j:(V.E e).isSome=true∧aE V.E e=1)(Y:ah I m L x (.bj id len))(F:0≤n)(G:n<len) :
  ∃u,(Instr.indexAt t x (.int k n)).run P w=.ok u w∧ah I m L u (.ptr id n.toNat):=by
 have U:=fV hE M
 obtain⟨i,hi⟩:=Option.isSome_iff_exists.1 j.1
 have O:i.size=1:=by have:=j.2;simpa [aE,hi]using this
 cases Y with
 |bj _ b _ c Z aa ab ad=>
  refine⟨_,by simp[Instr.indexAt,run_underlying U,asIntOf,F,G,gL hE hi,O];rfl,?_⟩
  have e:(⟨b,0,none⟩:Addr).add n.toNat=⟨b,n.toNat,none⟩:=by simp[Addr.add];omega
  rw[e]
  exact .ptr id b n.toNat Z aa
theorem TL(hE:bw P V.E){t e ty:TypeId}{sz j:Nat}{z:List D}{x:Value}{id len:Nat}(k:V.E t=some ⟨sz,j,z,.slice e⟩)(F:ah I m L x (.bj id len)) :
  (Builtin.len_ #[t] ty #[x]).run P w=.ok (.int .i64 len) w:=by
 have B:=fV hE k
 cases F with
 |bj _ b _ c G M O U=>simp[Builtin.len_,run_underlying B,goInt]
end
end Go.af
namespace Go.af
open Go Go.RowKit
variable [aL]
section
variable {P:Program}{V:Env}{w0:World}{I0:aq}{w:World}{I:aq}{m:Nat→Value}{L:List AO}{ρ:Operand→Value}
theorem KM(hE:bw P V.E)(U:av w0 I0 w I m L){t e:TypeId}{sz au:Nat}{z:List D}{len:Nat}{B:Array (Nat×Operand)}{ds:List D}(aK:V.E t=some ⟨sz,au,z,.slice e⟩)(a1:B.toList.length=ds.length)(aP:∀(i:Nat) p d,B.toList[i]?=some p→ds[i]?=some d→Rd I (ρ p.2) d)(Z:(V.E e).isSome=true∧0<aE V.E e)(aD:len≠0)(aw:B.toList.map (·.1)=List.range len∧len*aE V.E e≤16777216∧ds.all (λd=>d.cells.length == aE V.E e&&d.cells.all D.one)=true) :
  ∃w' m',(Instr.buildSlice t len (B.map λ(i,x)=>(i,ρ x))).run P w=.ok (.slice (some ⟨w.heap.size,0,none⟩) len len) w'∧Le I m L I m' (L++[.row e (aE V.E e) ds])∧av w0 I0 w' I m' (L++[.row e (aE V.E e) ds])∧ah I m' (L++[.row e (aE V.E e) ds]) (.slice (some ⟨w.heap.size,0,none⟩) len len) (.row L.length):=by
 have M:=fV hE aK
 obtain⟨ai,ax,aj⟩:=aw
 obtain⟨i,hi⟩:=Option.isSome_iff_exists.1 Z.1
 obtain⟨x,ag,k1,k2,aV,aO,aW,aX,aY,aZ⟩:=dz (hE e i hi)
 have ar:aE V.E e=i.size:=by simp[aE,hi]
 rw[ar]at ax aj⊢
 have aa:0<i.size:=by rw[←ar];exact Z.2
 have af:B.toList.length=len:=by have:=congrArg List.length ai;simpa using this
 have aA:ds.length=len:=by omega
 have Y:∀d∈ds,d.cells.length=i.size∧∀y∈d.cells,y.one=true:=λd F=>by
  have:=List.all_eq_true.1 aj d F
  simp only[Bool.and_eq_true,beq_iff_eq,List.all_eq_true]at this
  exact this
 have ak:∀(j:Nat) p d,B.toList[j]?=some p→ds[j]?=some d→Cells I (ρ p.2).cells.toList d.cells:=λj p d G F=>
  HJ (aP j p d G F) (List.all_eq_true.2 (Y d (List.mem_of_getElem? F)).2)
 have aM:∀v∈B.toList.map (λp=>ρ p.2),v.cells.size=i.size:=by
  intro v aL
  obtain⟨p,G,rfl⟩:=List.mem_map.1 aL
  obtain⟨j,ae,rfl⟩:=List.mem_iff_getElem.1 G
  have an:j<ds.length:=by omega
  have:=(ak j _ _ (List.getElem?_eq_getElem ae) (List.getElem?_eq_getElem an)).1
  have aT:=(Y _ (List.getElem_mem an)).1
  rw[Array.length_toList]at this;omega
 obtain⟨r,aB,aI,aH⟩:=Great.fill_dense aa (B.toList.map λp=>ρ p.2) 0 ((Array.range (len*i.size)).map (ag.cells[· % ag.cells.size]!)) aM (by simp[af])
 have aN:(B.map λ(i,x)=>(i,ρ x)).toList=((B.toList.map λp=>ρ p.2).zipIdx 0).map λx=>(x.2,x.1):=by
  apply List.ext_getElem?
  intro j
  simp only[Array.toList_map,List.getElem?_map,List.getElem?_zipIdx,Nat.zero_add,Option.map_map]
  cases G:B.toList[j]? with
  |none=>simp
  |some p=>
   have ae:j<len:=by rw[←af];exact(List.getElem?_eq_some_iff.1 G).1
   have:(B.toList.map (·.1))[j]?=some p.1:=by rw[List.getElem?_map,G];rfl
   rw[ai,List.getElem?_range ae]at this
   injection this with this
   simp[this]
 have aJ:=run_buildSlice (P:=P) w t e len (B.map λ(i,x)=>(i,ρ x)) r x ag M k1 aO (by rw[k2];omega) (by rw[k2];have:=Nat.mul_pos (Nat.pos_of_ne_zero aD) aa;omega) (by rw[aN,k2];exact aB)
 have aq:r.size=len*i.size:=by rw[aI];simp
 have ay:∀(j:Nat) u y,r[j]?=some u→(flat ds)[j]?=some y→Rd I u y:=λj u y M ab=>by
  have ao:j<len*i.size:=by rw[←aq];exact(Array.getElem?_eq_some_iff.1 M).1
  rw[aH j,if_pos (by simp[af];exact ao)]at M
  simp only[Nat.sub_zero,List.getElem?_map]at M
  have aU:j/i.size<len:=Nat.div_lt_of_lt_mul (by rw[Nat.mul_comm];exact ao)
  have aG:j%i.size<i.size:=Nat.mod_lt _ aa
  have G:B.toList[j/i.size]?=some (B.toList[j/i.size]'(by omega)):=List.getElem?_eq_getElem (by omega)
  have F:ds[j/i.size]?=some (ds[j/i.size]'(by omega)):=List.getElem?_eq_getElem (by omega)
  rw[G]at M
  have al:=flat_get ds (λd F=>(Y d F).1) (j/i.size) (j%i.size) _ F aG
  rw[Nat.mul_comm,Nat.div_add_mod]at al
  rw[al]at ab
  exact(ak _ _ _ G F).2.2 (j%i.size) u y (by simpa using M) ab
 have aF:len≤maxLen:=by unfold maxLen;have:len≤len*i.size:=Nat.le_mul_of_pos_right _ aa;omega
 obtain⟨aQ,aR,aS⟩:=U.qY (w':=w.alloc (.cells r e)) (v:=.slice (some ⟨w.heap.size,0,none⟩) len len) (row:=none) (lo:=L) (e:=e) (size:=i.size) (els:=ds) (xs:=r.toList) rfl (λk a ad=>.inr ad) (λ_ _ _ h=>h)
  (World.grownBy_alloc w _ none) (by simp) (λb O=>by cases O) (λb O=>by cases O)
  (
   λb O=>by
   simp[own]at O;subst O
   refine⟨U.below.size,U.sat.cM (Nat.le_refl _),λk aC Z=>?_⟩
   obtain⟨a,ad,az⟩:=bg.1 aC
   have:=((U.obj k a ad).lt az Z).1;omega)
  (by rw[aA];exact World.ownsRow_lit w _ len U.below.size aF aq) Y (λj u y M ab=>ay j u y (by simpa using M) ab) ⟨_,_,_,rfl⟩
 exact⟨_,_,aJ,aQ,aR,aS⟩
theorem KN(hE:bw P V.E)(ad:av w0 I0 w I m L){t e:TypeId}{sz G:Nat}{z:List D}{len:Nat}{j:Array (Nat×Operand)}{ds:List D}(ae:V.E t=some ⟨sz,G,z,.slice e⟩)(ag:j.toList.length=ds.length)(ai:∀(i:Nat) p d,j.toList[i]?=some p→ds[i]?=some d→Rd I (ρ p.2) d)(aa:(V.E e).isSome=true∧0<aE V.E e)(ab:len≠0)(Y:j.toList.map (·.1)=List.range len∧len*aE V.E e≤16777216∧ds.all (λd=>d.cells.length == aE V.E e&&d.cells.all D.one)=true) :
  ∃w' J m',(Instr.buildSlice t len (j.map λ(i,x)=>(i,ρ x))).run P w=.ok (.slice (some ⟨w.heap.size,0,none⟩) len len) w'∧Le I m L J m' (L++[.aM e (aE V.E e) ds])∧av w0 I0 w' J m' (L++[.aM e (aE V.E e) ds])∧ah J m' (L++[.aM e (aE V.E e) ds]) (.slice (some ⟨w.heap.size,0,none⟩) len len) (.aQ L.length (.slice (aE V.E e) ds)):=by
 obtain⟨w',m',M,O,U,k⟩:=KM hE ad ae ag ai aa ab Y
 have B:(L++[AO.row e (aE V.E e) ds])[L.length]?=some (.row e (aE V.E e) ds):=by simp
 have af:(L++[AO.row e (aE V.E e) ds]).set L.length (.aM e (aE V.E e) ds)=L++[.aM e (aE V.E e) ds]:=by simp
 have Z:bY (L++[AO.row e (aE V.E e) ds]) (.row L.length)=some (.slice (aE V.E e) ds,L++[.aM e (aE V.E e) ds]):=by
  simp only[bY,B,af]
 obtain⟨J,le,r,F,_⟩:=Ab U k Z
 refine⟨w',J,m',M,O.trans le,r,?_⟩
 generalize ak:Value.slice (some ⟨w.heap.size,0,none⟩) len len=v at k F
 cases k with
 |row A n c _ al aj=>
  refine .aQ A n c L.length _ (by simp) (λ_=>aj ?_) F
  unfold isRow
  rw[B];rfl
end
end Go.af
namespace Go.Sy
open Go Go.af
variable [au][bK][bB][bV][aL]
section
variable {P:Program}{V:Env}{C:Cx}{o:Oper}{ρX:Operand→TX}{ρT:Operand→T}{lX:List AX}{l:List AO}{n nid:Nat}{cs:List Callee}{ρ ae:az}{q:bL}
theorem Lt{x:TX}{u:T}(h:RX ρ x u)(j:Sy.ew x=true):u.ew=true:=by
 cases h with
 |ar f cs ts _ _=>rfl
 |e8 f cs ts _ _=>rfl
 |d t x v k B=>cases t<;>simp[Sy.ew]at j<;>rfl
 |_=>simp[Sy.ew]at j
theorem C6{t:TypeId}{kk:IntKind}(h:qu C t=some kk):∃j,eU C.E t=some (.int kk,j):=by
 unfold qu at h
 split at h
 ·rename_i j e
  injection h with h;subst h
  exact⟨j,e⟩
 cases h
theorem Oj(j:bb P V C){t:TypeId}(G:o.op=.makeMap t none)(B:RL ρ lX l)(h:x9 C t lX nid=some q):q.ins=[]∧bm P o ρT l nid ρ q:=by
 have k:evalOp V ρT l nid o=⟨.map nid,.aC (l++[.map [] []]),True⟩:=by simp only[evalOp,G]
 unfold x9 at h
 split at h
 ·rename_i kk _ _
  injection h with h;subst h
  exact⟨rfl,_,.map nid,_,F2.app B (.cons (.hZ kk) .nil),λF=>br.aC j.ok k trivial rfl F⟩
 cases h
theorem CO{kk:IntKind}{n:Int}:∀(ks:List Int)(q:Nat),n∉ks→bW (.int kk n) (ks.map (.int kk)) q=none
 | [],_,_=>rfl
 |k::ks,q,h=>by
  simp only[List.mem_cons,not_or]at h
  simp only[List.map_cons,bW]
  rw[if_neg (show ¬fe (.int kk n) (.int kk k)=true from by simpa [fe]using h.1)]
  exact CO ks _ h.2
theorem CP{kk:IntKind}(ks:List Int):gZ (.int kk) (ks.map (.int kk))=true:=by
 unfold gZ
 rw[List.all_eq_true]
 intro d j
 obtain⟨k,_,rfl⟩:=List.mem_map.1 j
 simp[KT.ok,fF]
theorem DP(aa:bb P V C){t:TypeId}{j k x:Operand}(ho:o.op=.mapUpdate t j k x∨o.op=.insert t j k x)(M:RL ρ lX l)(ad:RX ρ (ρX j) (ρT j))(ab:RX ρ (ρX k) (ρT k))(ag:RX ρ (ρX x) (ρT x))(h:uC C t lX (ρX j) (ρX k) (ρX x)=some q):q.ins=[]∧bm P o ρT l nid ρ q:=by
 unfold uC at h
 split at h
 ·rename_i id ah k1 n kk an ao aq
  rw[an]at ad;rw[ao]at ab
  have ar:=oY ad
  obtain⟨aF,n1,aE⟩:=eI ab
  have n1:(some (⟨.int k1,n⟩:Sy.V))=some ⟨.int ah,aF⟩:=n1
  injection n1 with n1
  cases n1
  split at h
  ·rename_i aD ks ts aw
   split at h
   ·rename_i av
    obtain⟨aI,aJ,aA⟩:=av
    subst ah
    subst aD
    injection h with h;subst h
    obtain⟨aL,ae⟩:=C6 aq
    rw[←aa.E]at ae
    obtain⟨aH,G,au⟩:=F2.left M aw
    have ai:∀(l1:List AO)(B:List T),F2 (RX ρ) ts B→l1.length=l.length→l1[id]?=some (.bD (ks.map (.int kk)) B)→br P o ρT l1 .undef (l1.set id (.bD ((ks++[n]).map (.int kk)) (B++[ρT x]))):=λl1 B U aK ay=>by
     refine⟨by rcases ho with ho|ho<;>simp[ho],λw0 I0 w I aj Z aB O=>?_⟩
     have ak:=O j (by rcases ho with ho|ho<;>simp[ho,Op.operands])
     have al:=O k (by rcases ho with ho|ho<;>simp[ho,Op.operands])
     have aG:=O x (by rcases ho with ho|ho<;>simp[ho,Op.operands])
     rw[ar]at ak;rw[aE]at al
     have F:=bn al
     have af:Z k=.int kk n:=by generalize Z k=aM at F;cases F;rfl
     rw[af]at F
     obtain⟨w',aC,az,Y⟩:=T9 (P:=P) aa.ok.E aB (kd:=.int kk n) ae (by simp[KT.ok,fF]) F ak aG ay (CP ks) (CO ks 0 aA)
     have hex:(execOp Z o).run P w=.ok .skip w':=by unfold execOp;rcases ho with ho|ho<;>simp[ho,af]<;>rw[show(Value.int kk n)=bf (.int kk n)from rfl,aC]<;>rfl
     rw[hex]
     simp only[bI]
     rw[List.map_append]
     exact⟨I,aj,az,Y,.undef _⟩
    cases au with
    |bD _ _ _ B U=>
     exact⟨rfl,.undef,.undef _,_,F2.set M (.bD kk _ _ _ (F2.app U (.cons ag .nil))) id,λ_=>ai l B U rfl G⟩
    |hZ _=>
     have ax:id<l.length:=(List.getElem?_eq_some_iff.1 G).1
     refine⟨rfl,.undef,.undef _,_,F2.set M (.bD kk ([]++[n]) ([]++[ρX x]) ([]++[ρT x]) (.cons ag .nil)) id,λ_=>?_⟩
     refine br.pre (l1:=l.set id (.bD [] [])) (λw0 I0 w I aj Y=>Y.TW G) ?_
     have:=ai (l.set id (.bD [] [])) [] .nil (by simp) (by rw[List.getElem?_set,if_pos rfl,if_pos ax];rfl)
     rw[List.set_set]at this
     exact this
   cases h
  cases h
 cases h
theorem BW{f:Nat×Operand→TX}{g:Nat×Operand→T}:∀{ps:List (Nat×Operand)},(∀p∈ps,RX ρ (f p) (g p))→F2 (RX ρ) (ps.map f) (ps.map g)
 | [],_=>.nil
 |p::ps,h=>.cons (h p (by simp)) (BW λq j=>h q (by simp[j]))
theorem Ji{x:TX}{u:T}(h:RX ρ x u)(k:Sy.ew (nY x)=true):RX ρ (nY x) u.eC:=by
 cases h with
 |agg cs ts B j=>
  match cs,ts,B,j,k with
  | [c],[t],_,j,_=>exact j 0 c t rfl rfl
  | [],_,_,_,k=>cases k
  |_::_::_,_,_,_,k=>cases k
 |fA cs ds B j=>
  match cs,ds,B,j,k with
  | [c],[d],_,j,_=>exact j 0 c d rfl rfl
  | [],_,_,_,k=>cases k
  |_::_::_,_,_,_,k=>cases k
 |ar f cs ts B j=>exact .ar f cs ts B j
 |e8 f cs ts B j=>exact .e8 f cs ts B j
 |d t x v B j=>cases t<;>simp[nY,Sy.ew]at k<;>exact .d _ _ _ B j
 |_=>simp[nY,Sy.ew]at k
theorem Ms(F:bb P V C){t:TypeId}{B:Array (Nat×Operand)}(M:o.op=.build t B)(Y:∀x∈o.op.operands,RX ρ (ρX x) (ρT x))(h:xj C ρX t B=some q):q.ins=[]∧bm P o ρT l nid ρ q:=by
 have k:∀p∈B.toList,RX ρ (ρX p.2) (ρT p.2):=λp k=>Y p.2 (by simp[M,Op.operands];exact⟨p.1,by simpa using k⟩)
 unfold xj at h
 split at h
 ·rename_i s1 aa z fs hE _
  cases j:fs.all (λf=>(C.E f.2).isSome)with
  |false=>rw[j]at h;cases h
  |true=>
   rw[j]at h
   simp only[cond_true]at h
   split at h
   ·rename_i ds U
    cases G:ds.all Sy.ew with
    |false=>rw[G]at h;cases h
    |true=>
     rw[G]at h
     have:=eh h;subst this
     obtain⟨O,k1,k2⟩:=yr (ρX:=ρX) (ρT:=ρT) (cT:=[fX z]) k (.cons (.undef _) .nil) U
     have Z:evalOp V ρT l nid o=.ok (eA true O):=by
      simp only[evalOp,M,F.E,hE]
      rw[if_pos j]
      simp only[List.map_cons,List.map_nil,k1]
     exact⟨rfl,.val F.ok Z trivial rfl (Ij k2)⟩
   cases h
 cases h
theorem TH(af:bb P V C){t:TypeId}{len:Nat}{j:Array (Nat×Operand)}(aa:o.op=.buildSlice t len j)(aw:∀x∈o.op.operands,RX ρ (ρX x) (ρT x))(h:zU C ρX t nid len j=some q):q.ins=[]∧bm P o ρT l nid ρ q:=by
 unfold zU at h
 split at h
 ·rename_i sz aC z e hE _
  cases Z:(!Nat.beq len 0&&Nat.ble len 16777216&&decide (j.toList.map (·.1)=List.range len)&&(C.E e).isSome&&Nat.beq (aE C.E e) 1&&j.toList.all (λp=>Sy.ew (nY (ρX p.2))))with
  |false=>simp only[Z,cond_false]at h;cases h
  |true=>
   simp only[Z,cond_true]at h
   injection h with h;subst h
   simp only[Bool.and_eq_true,Bool.not_eq_true',decide_eq_true_eq,List.all_eq_true]at Z
   obtain⟨⟨⟨⟨⟨al,an⟩,ao⟩,ad⟩,ar⟩,ab⟩:=Z
   have ay:len≠0:=λe=>by subst e;simp at al
   have az:len≤16777216:=Nat.le_of_ble_eq_true an
   have ak:=Nat.eq_of_beq_eq_true ar
   have aj:∀p∈j.toList,RX ρ (ρX p.2) (ρT p.2):=λp k=>aw p.2 (by simp only[aa,Op.operands];simp;exact⟨p.1,by simpa using k⟩)
   rw[←af.E]at hE ad ak
   have ax:∀p∈j.toList,(ρT p.2).eC.ew=true:=λp k=>Lt (Ji (aj p k) (ab p k)) (ab p k)
   have ae:∀(w0:World)(I0:aq)(w:World)(I:aq)(m:Nat→Value)(B:Operand→Value)(L:List AO),av w0 I0 w I m L→L[nid]?=some .dead→(∀x∈o.op.operands,ah I m L (B x) (ρT x)) →
     bI P ((execOp B o).run P w) λv w'=>∃m',Le I m L I m' (L.set nid (.var e (j.toList.map λp=>(ρT p.2).eC)))∧av w0 I0 w' I m' (L.set nid (.var e (j.toList.map λp=>(ρT p.2).eC)))∧ah I m' (L.set nid (.var e (j.toList.map λp=>(ρT p.2).eC))) v (.bj nid len):=λw0 I0 w I m B L Y O U=>by
    obtain⟨w',m',F,G,M,au⟩:=TM (P:=P) (ρ:=B) (ρT:=ρT) af.ok.E Y O hE (λp k=>U p.2 (by simp only[aa,Op.operands];simp;exact⟨p.1,by simpa using k⟩)) ax ⟨ad,ak⟩ ay az ao
    have hex:(execOp B o).run P w=.ok (.value (.slice (some ⟨w.heap.size,0,none⟩) len len)) w':=by unfold execOp;simp[aa,F]
    simp only[hex,bI]
    exact⟨m',G,M,au⟩
   have ai:∀c,o.op ≠ .defer c:=by simp[aa]
   refine⟨rfl,.bj nid len,.bj _ _,.var e (j.toList.map λp=>(ρT p.2).eC),.var e _ _ (BW λp k=>Ji (aj p k) (ab p k)),λO=>⟨ai,λw0 I0 w I m B Y U=>?_⟩,λO=>⟨ai,λw0 I0 w I m B Y U=>?_⟩⟩
   ·subst O
    obtain⟨aB,ag⟩:=Y.push
    have:=ae w0 I0 w I m B (l++[.dead]) aB (by simp) λx h=>(U x h).mono ag
    have aA:(l++[AO.dead]).set l.length (.var e (j.toList.map λp=>(ρT p.2).eC))=l++[.var e (j.toList.map λp=>(ρT p.2).eC)]:=by simp
    rw[aA]at this
    exact this.mono λv w' ⟨m',F,G,M⟩=>⟨I,m',ag.trans F,G,M⟩
   exact(ae w0 I0 w I m B l Y O U).mono λv w' ⟨m',F,G,M⟩=>⟨I,m',F,G,M⟩
 cases h
theorem NK(Y:bb P V C){t:TypeId}{len:Nat}{j:Array (Nat×Operand)}(M:o.op=.buildSlice t len j)(aA:RL ρ lX l)(ar:∀x∈o.op.operands,RX ρ (ρX x) (ρT x))(h:xL C ρX t lX nid len j=some q):q.ins=[]∧bm P o ρT l nid ρ q:=by
 have aa:∀p∈j.toList,RX ρ (ρX p.2) (ρT p.2):=λp aa=>ar p.2 (by simp[M,Op.operands];exact⟨p.1,by simpa using aa⟩)
 unfold xL at h
 cases af:C.lits with
 |false=>rw[af]at h;cases h
 |true=>
 rw[af]at h
 simp only[cond_true]at h
 split at h
 ·rename_i s1 aV z e u hE aJ
  obtain⟨sz,aP,aW,aS,i,F,ae,ao,aT,U,aq,aU⟩:=Y.list aJ
  have an:=F
  rw[Y.E,hE]at F
  simp only[Option.some.injEq,TI.mk.injEq,TD.slice.injEq]at F
  obtain⟨rfl,rfl,rfl,rfl⟩:=F
  have ab:aE V.E e=u.size:=by simp[aE,ae,ao]
  cases G:(!Nat.beq len 0&&decide (j.toList.map (·.1)=List.range len)&&Nat.ble (len*u.size) 16777216)with
  |false=>rw[G]at h;cases h
  |true=>
   rw[G]at h
   simp only[cond_true]at h
   simp only[Bool.and_eq_true,decide_eq_true_eq,Bool.not_eq_true']at G
   obtain⟨⟨ax,ay⟩,az⟩:=G
   have k2:=Nat.le_of_ble_eq_true az
   have aD:len≠0:=by rintro rfl;simp at ax
   split at h
   ·rename_i xs l1 Z
    simp only[Option.some.injEq]at h
    subst h
    obtain⟨a,aj,aL,ak,aN⟩:=lE aA (BV (ρX:=ρX) (ρT:=ρT) aa) Z
    obtain⟨zs,c1,c2,aR⟩:=xJ aL
    have au:(zs.map u.enc).all (λd=>d.cells.length == u.size&&d.cells.all D.one)=true:=by
     rw[List.all_eq_true]
     intro d Z
     obtain⟨z,_,rfl⟩:=List.mem_map.1 Z
     rw[gy U]
     simp only[beq_self_eq_true,Bool.true_and,List.all_eq_true]
     exact oB U z
    rw[c2]at ak
    have av:j.toList.map (·.1)=List.range len∧len*aE V.E e≤16777216∧(zs.map u.enc).all (λd=>d.cells.length == aE V.E e&&d.cells.all D.one)=true:=by rw[ab];exact⟨ay,k2,au⟩
    refine⟨rfl,.aQ nid (.slice u.size (zs.map u.enc)),.aQ nid u _ zs c1,aj++[.aM e u.size (zs.map u.enc)],F2.app aN (.cons (.aM e u _ zs U c1) .nil),λaF=>⟨by simp[M],λw0 I0 w I m ad aI aG=>?_⟩⟩
    obtain⟨J,aK,aO,aB,aH,aC⟩:=jk (j.toList.map λp=>ρT p.2) l I (j.toList.map λp=>ad p.2) (zs.map u.enc) aj aI (by simp) (λi v x k O=>by
     rw[List.getElem?_map]at k O
     cases B:j.toList[i]? with
     |none=>rw[B]at k;cases k
     |some p=>
      rw[B]at k O
      simp at k O
      subst k;subst O
      exact aG p.2 (by simp[M,Op.operands];exact⟨p.1,by simpa using List.mem_of_getElem? B⟩)) ak
    obtain⟨w',al,m',k1,ag,ah,ai⟩:=KN (P:=P) (ρ:=ad) (ds:=zs.map u.enc) Y.ok.E aO an (by simpa using aB) (λi p d B aw=>aH i _ d (by rw[List.getElem?_map,B];rfl) aw) ⟨by simp[ae],by rw[ab];exact aq⟩ aD av
    rw[ab]at ag ah ai
    have hex:(execOp ad o).run P w=.ok (.value (.slice (some ⟨w.heap.size,0,none⟩) len len)) w':=by unfold execOp;simp[M,k1]
    simp only[hex,bI]
    rw[aF,←aC]
    exact⟨al,m',aK.trans ag,ah,ai⟩
   cases h
 cases h
def sU:T→T
 |.aQ _ x=>.d x
 |y=>y
def vn:T→T
 |.aQ id _=>.row id
 |y=>y
theorem LS{x:TX}{u:T}(h:RX ρ x u):RX ρ (BI x) (sU u):=by
 cases h with
 |aQ id t x xs j=>exact ml j
 |_=>first| (show RX ρ _ _;constructor<;>assumption)|skip
theorem SN{x:TX}{u:T}(h:RX ρ x u):RX ρ (Ii x) (vn u):=by
 cases h with
 |aQ id t x xs j=>exact .row id
 |_=>first| (show RX ρ _ _;constructor<;>assumption)|skip
theorem LU{I:aq}{m:Nat→Value}{l:List AO}{v:Value}{u:T}(h:ah I m l v u):ah I m l v (sU u):=by
 cases u with
 |aQ id x=>cases h with|aQ A n c _ _ k B j=>exact .d _ _ j
 |_=>exact h
theorem SO{I:aq}{m:Nat→Value}{l:List AO}{v:Value}{u:T}(h:ah I m l v u):ah I m l v (vn u):=by
 cases u with
 |aQ id x=>cases h with|aQ A n c _ _ j k B=>exact .row A n c _ j k
 |_=>exact h
theorem zX{id len:Nat}{u:T}(h:RX ρ (.bj id len) u):u=.bj id len:=by cases h;rfl
theorem TJ(O:bb P V C){t:TypeId}{x i:Operand}(B:o.op=.indexAddr t x i)(Z:RX ρ (ρX x) (ρT x))(hi:RX ρ (ρX i) (ρT i))(h:zV C t (ρX x) (ρX i)=some q):q.ins=[]∧bm P o ρT l nid ρ q:=by
 unfold zV at h
 split at h
 ·rename_i sz ar z e id len F k1 n hE ag ah
  rw[ag]at Z;rw[ah]at hi
  have ak:=zX Z
  obtain⟨aq,n1,ao⟩:=eI hi
  have n1:(some (⟨.int k1,n⟩:Sy.V))=some ⟨.int F,aq⟩:=n1
  injection n1 with n1
  cases n1
  cases j:(decide (0≤n)&&decide (n<Int.ofNat len)&&(C.E e).isSome&&Nat.beq (aE C.E e) 1)with
  |false=>simp only[j,cond_false]at h;cases h
  |true=>
   simp only[j,cond_true]at h
   have:=eh h;subst this
   simp only[Bool.and_eq_true,decide_eq_true_eq]at j
   obtain⟨⟨⟨ad,ae⟩,M⟩,af⟩:=j
   have Y:=Nat.eq_of_beq_eq_true af
   rw[←O.E]at hE M Y
   refine⟨rfl,.ptr id n.toNat,.ptr _ _,by simp[B],λw0 I0 w I m G al U=>?_⟩
   have aa:=U x (by simp[B,Op.operands])
   have ab:=U i (by simp[B,Op.operands])
   rw[ak]at aa;rw[ao]at ab
   have an:G i=.int F n:=by have:=bn ab;generalize G i=au at this;cases this;rfl
   obtain⟨u,ai,aj⟩:=IP (P:=P) (w:=w) (k:=F) O.ok.E hE ⟨M,Y⟩ aa ad ae
   have hex:(execOp G o).run P w=.ok (.value u) w:=by unfold execOp;simp[B,an,ai]
   simp only[hex,bI]
   exact⟨I,m,.refl ..,al,aj⟩
 cases h
theorem TK(G:bb P V C){c:Call}{x:Operand}{t:TypeId}(B:o.op=.call c)(O:c.callee=.builtin .len)(M:c.args.toList=[x])(af:c.argTypes.toList=[t])(U:RX ρ (ρX x) (ρT x))(h:zW C t (ρX x)=some q):q.ins=[]∧bm P o ρT l nid ρ q:=by
 unfold zW at h
 split at h
 ·rename_i sz ag z e id len hE j
  rw[j]at U
  have ab:=zX U
  have:=eh h;subst this
  rw[←G.E]at hE
  refine⟨rfl,.d (.int .i64 len),fx (tw _),by simp[B],λw0 I0 w I m F ae ad=>?_⟩
  have Y:=ad x (by simp[B,Op.operands,Call.operands,O,←Array.mem_toList_iff,M])
  rw[ab]at Y
  have aa:=TL (P:=P) (w:=w) (ty:=o.type) G.ok.E hE Y
  have j:c.args.map F = #[F x]:=by apply Array.toList_inj.1;simp[M]
  have Z:c.argTypes = #[t]:=by apply Array.toList_inj.1;simp[af]
  have hex:(execOp F o).run P w=.ok (.value (.int .i64 len)) w:=mV O B (λk=>rfl) (by rw[j,Z];exact aa)
  simp only[hex,bI]
  exact⟨I,m,.refl ..,ae,.d _ _ (.int _ _)⟩
 cases h
end
end Go.Sy
namespace Go.Sy
open Go Go.af
variable [au][bK][bB][bV][aL]
section
variable {P:Program}{V:Env}{C:Cx}{o:Oper}{ops:List Oper}{ρX:Operand→TX}{ρT:Operand→T}{lX:List AX}{l:List AO}{n nid:Nat}{cs:List Callee}{ρ ae:az}{q:bL}
theorem wN(G:bb P V C)(af:eM P C cs)(M:RL ρ lX l)(F:∀x∈o.op.operands,RX ρ (ρX x) (ρT x))(ab:∀g ls,au.dP g=some ls→ρT (.global g)=.aS ls.length [.agg (ls.map (.int .i64))] 0 0)(ad:Ext ρ ae)(h:mU C ops ρX lX n nid o=some q)(hi:bp cs n ρ q.ins ae):bm P o ρT l nid ae q:=by
 unfold mU at h
 split at h
 ·rename_i Z B
  injection h with h;subst h
  have an:(Z.ins=[]∧bm P o ρT l nid ρ Z)∨bm P o ρT l nid ae Z:=by
   unfold Cs at B
   split at B
   ·rename_i t x k j
    split at B
    ·cases Y:B8 ops _ with
     |false=>rw[Y]at B;cases B
     |true=>
      rw[Y]at B
      exact .inl (MI G j M (F x (by simp[j,Op.operands])) (F k (by simp[j,Op.operands])) B)
    cases B
   ·rename_i t aa k x j
    split at B
    ·rename_i aq ah
     injection B with B;subst B
     exact .inl (MJ G j M (F aa (by simp[j,Op.operands])) (F k (by simp[j,Op.operands])) (F x (by simp[j,Op.operands])) ah)
    exact .inl (DP G (.inl j) M (F aa (by simp[j,Op.operands])) (F k (by simp[j,Op.operands])) (F x (by simp[j,Op.operands])) B)
   ·rename_i t aa k x j
    exact .inl (DP G (.inr j) M (F aa (by simp[j,Op.operands])) (F k (by simp[j,Op.operands])) (F x (by simp[j,Op.operands])) B)
   ·rename_i t j
    exact .inl (Oj G j M B)
   ·rename_i t len ao j
    split at B
    ·rename_i aq ah
     injection B with B;subst B
     exact .inl (TH G j F ah)
    exact .inl (NK G j M F B)
   ·rename_i t ao j
    exact .inl (Ms G j F B)
   ·rename_i t x i j
    exact .inl (TJ G j (F x (by simp[j,Op.operands])) (F i (by simp[j,Op.operands])) B)
   ·rename_i t x lo j
    split at B
    ·cases Y:Br ops _ with
     |false=>rw[Y]at B;cases B
     |true=>
      rw[Y]at B
      exact .inr (TG G j M (F x (by simp[j,Op.operands])) (F lo (by simp[j,Op.operands])) B hi)
    cases B
   ·rename_i c j
    split at B
    ·rename_i x t U O ai
     exact .inr (Lq G j U O ai M (F x (by simp[j,Op.operands,Call.operands,U,←Array.mem_toList_iff,O])) B hi)
    ·rename_i x t U O ai
     exact .inl (TK G j U O ai (F x (by simp[j,Op.operands,Call.operands,U,←Array.mem_toList_iff,O])) B)
    cases B
   cases B
  rcases an with ⟨k1,k2⟩|k2
  ·rw[k1]at hi
   cases hi
   exact k2
  exact k2
 split at h
 ·rename_i Z B
  injection h with h;subst h
  exact wP G af M F ab ad B hi
 cases al:C.lits with
 |false=>rw[al]at h;cases h
 |true=>
  rw[al]at h
  simp only[cond_true]at h
  split at h
  ·rename_i Z B
   injection h with h;subst h
   refine bm.rU (ρT':=λy=>sU (ρT y)) (wP G af M (λx ak=>LS (F x ak)) (λg ls ag=>?_) ad B hi) λI m v x _ aj=>LU aj
   show sU (ρT (.global g))=_
   rw[ab g ls ag];rfl
  refine bm.rU (ρT':=λy=>vn (ρT y)) (wP G af M (λx ak=>SN (F x ak)) (λg ls ag=>?_) ad h hi) λI m v x _ aj=>SO aj
  show vn (ρT (.global g))=_
  rw[ab g ls ag];rfl
end
end Go.Sy
