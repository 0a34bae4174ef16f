import Derived.Test.YthhlipkkjippfaaGreatDoorX5
import Derived.Shelf.GgSortFunc.InsertionK
import Derived.Shelf.SlSortCmp.InsertionK
import Derived.Sort.AssemblyPlain
import Derived.Test.YthhlipkkjippfaaGreatDoorProg
import Derived.Test.YthhlipkkjippfaaGreatDoorCards
import Derived.Test.YthhlipkkjippfaaGreatDoorTie
import Derived.OpenShut
import Derived.Deep.DeepHandedRow
import Derived.Lib.LaidTab
set_option linter.all false
namespace Go.Sy
open Go Go.ak
variable [aI][cz][dg][bm][oy]
section
variable {P:Program}{V:Env}{C:Cx}{cs:List Callee}
theorem vJ.of[bS]{f:FuncId}{fn:Func}{c:Code}{ds:List D}{sh:List NS}{rd:List D}(U:c6 P V)(ae:P.funcs[f]?=some fn)(Y:fn.body=some c)(aw:ds.length<=fn.ntmps)(h:∀(R:bS),R.r=none->∀w0 I0,aX P w0 I0 fn.ntmps c ⟨kq 0 ds,[]⟩ λe s=>(e=.ret\/e=.normal)/\nS (fn.results.toList.map λv=>(eX V s v).2)/\(fn.results.toList.map λv=>(eX V s v).1)=[.agg (fO sh rd)]):vJ P f ds (.agg (fO sh rd)):=by
 intro w I vs al af ai;let R:bS:=⟨none,I.df⟩;refine zl (R:=λe w'=>∃v J,e=.returned v/\dq w.heap.size w w'/\ff w.heap.size I J/\cZ w' J/\az J (λ_=>undef) [] v (.agg (fO sh rd))) rfl ae Y ?_;have aj:Rel w I fn.ntmps ⟨kq 0 ds,[]⟩ {tmps:=vs++Array.replicate (fn.ntmps-vs.size) undef,defers:=[]} w:=by
  refine⟨by simp;omega,I,λ_=>undef,⟨dq.refl _ _,al,ff.refl _ _,by simp,by simp[ak.alive,ak.isVar,ak.isRow]⟩,eJ.nil λ_ h=>h,λk=>?_⟩;rw[H8];simp only[j3,hK,Nat.sub_zero];cases F:ds[k]? with
  |none=>exact .undef _
  |some d=>
   have G:k<vs.size:=by rw[af];exact(db.1 F).1
   have hv:vs[k]?=some vs[k]:=e5 G;have:(vs++Array.replicate (fn.ntmps-vs.size) undef).getD k undef=vs[k]:=by
    rw[hz,j1 G,hv];rfl
   rw[this];exact .d _ _ (ai k _ d hv F)
 refine na (λe a ax ⟨s,⟨ab,ag,M⟩,ah⟩=>?_) (h R rfl w I _ _ aj);obtain⟨_,av,m,ao,Z,an⟩:=ah;obtain⟨w',J,j,_,aa,ad⟩:=zE (P:=P) (fn:=fn) (a:=a) ab ao Z;refine ad _ ?_;have ht:∀k,az J m s.l (a.tmps.getD k undef) (get s.t k):=λk=>aa _ _ (an k);obtain⟨B,aq,ar,au⟩:=yl (P:=P) U.E j ht fn.results.toList ag;have N:(results fn a.tmps).run P w'=.ok (if h:B.length=1 then B[0]else .tuple B.toArray) w':=by
  rw[CG];simp only[e8,sb,adZ,aq,Result.andThen_ok,Sem.run_pure];simp
 have O:fn.results.toList.length=1:=by
  have:=dn List.length M;simpa using this
 have hl:B.length=1:=ar.trans O;rw[adK hl]at N;refine⟨_,N,_,J,rfl,j.below,j.ext,j.sat,OS (I:=J) (au 0 _ _ (c5 (by omega)) (by rw[M];rfl))⟩
def HY{ρ:aU}:∀{sh:List NS}{cs:List TX}{ts:List T}{xs:List X},pB sh cs=some xs->F2 (RX ρ) cs ts->∃a:(aP (cM sh)).den,jH ρ (cM sh) xs a/\ts=fO sh (cJ (cM sh) a)
 | [],[],ts,xs,h,k=>by
  simp only[pB,c4]at h;subst h;cases k;exact⟨(),⟨rfl,λj u U=>by simp[cM]at U⟩,rfl⟩
 | [],_::_,_,_,h,_=>by cases h
 |.dI t::r,c::cs,ts,xs,h,k=>by
  cases c with
  |d u x=>
   simp only[pB]at h;split at h
   ·rename_i Y;subst Y;simp only[e4]at h;obtain⟨ys,h,rfl⟩:=h;cases k with
    |cons F G=>
     obtain⟨a,M,rfl⟩:=HY h G;obtain⟨hv,v,O,N⟩:=j7 F;obtain⟨b,n1,Z⟩:=Ec O M;refine⟨b,n1,?_⟩;show _=fO (.dI u::r) (cJ (u::cM r) b);rw[Z,N];rfl
   cases h
  |_=>cases h
 |.dI t::r,[],_,_,h,_=>by cases h
 |.nil s::r,c::cs,ts,xs,h,k=>by
  cases c with
  |bq s'=>
   simp only[pB]at h;cases B:Nat.beq s s' with
   |false=>rw[B]at h;cases h
   |true=>
    rw[B]at h;have:=eb B;subst this;cases k with
    |cons F G=>
     obtain⟨a,M,rfl⟩:=HY (sh:=r) h G;cases F;exact⟨a,M,rfl⟩
  |_=>cases h
 |.nil s::r,[],_,_,h,_=>by cases h
def wx(sh:List NS):Bool:=sh.any λx=>match x with
 |.nil _=>true
 |_=>false
def PE:∀{sh:List NS}{cs:List TX}{xs:List X},pB sh cs=some xs->wx sh=true->∃(i s:Nat),cs[i]?=some (.bq s)
 | [],_,_,_,h=>by cases h
 |.dI t::r,c::cs,xs,h,k=>by
  cases c with
  |d u x=>
   simp only[pB]at h;split at h
   ·simp only[e4]at h;obtain⟨ys,h,_⟩:=h;obtain⟨i,s,hi⟩:=PE h k;exact⟨i+1,s,by simpa using hi⟩
   cases h
  |_=>cases h
 |.dI t::r,[],_,h,_=>by cases h
 |.nil s::r,c::cs,xs,h,_=>by
  cases c with
  |bq s'=>exact⟨0,s',rfl⟩
  |_=>cases h
 |.nil s::r,[],_,h,_=>by cases h
variable [cH][bS]
def abc{σ:Sk}{s:St}{ρ:aU}(N:bM P V C)(h:bh ρ σ s){rs:List ResultVar}{sh:List NS}(Y:wx sh=true){x:X}(j:HJ C rs sh σ=some x){r:(aP (cM sh)).den}(U:x.den ρ=some ⟨aP (cM sh),r⟩) :
  nS (rs.map λv=>(eX V s v).2)/\(rs.map λv=>(eX V s v).1)=[.agg (fO sh (cJ (cM sh) r))]:=by
 unfold HJ at j;split at j
 ·rename_i cs O;simp only[e4]at j;obtain⟨xs,F,rfl⟩:=j;obtain⟨Z,G⟩:=yk N h O;refine⟨Z,?_⟩;generalize (rs.map λv=>(eX V s v).1)=L at G⊢;cases G with
  |cons aa ab=>
   cases ab;cases aa with
   |agg _ ts k B=>
    obtain⟨a,M,rfl⟩:=HY F (F2.of k B);have e:=(ou M.1 M.2).symm.trans U;injection e with e;injection e with _ e;subst e;rfl
   |iN _ ds k B=>
    obtain⟨i,s',hi⟩:=PE F Y;have hl:i<ds.length:=by rw[<-k];exact(db.1 hi).1
    have:=B i _ _ hi (c5 hl);cases this
 cases j
end
section
variable {P:Program}{V:Env}{C:Cx}{cs:List Callee}
def WN{f:FuncId}{fn:Func}{c:Code}{B:List Ty}{sh:List NS}{a:(aP B).den}{r:(aP (cM sh)).den}(G:bM P V C)(aa:fG P C cs)(O:mY P C.lU)(af:C.nt=fn.ntmps)(ae:P.follows .mixedOrders=true)(ad:P.funcs[f]?=some fn)(Z:fn.body=some c)(Y:∀t∈B,isVal t)(ai:wx sh=true)(hl:B.length<=fn.ntmps)(h:nB cs (Ig C fn.results.toList c B sh) B (cM sh) a=some r):vJ P f (cJ B a) (.agg (fO sh (cJ (cM sh) r))):=by
 haveI:bS:=bP;refine vJ.of G.ok ad Z (by rw[Ed];exact hl) λR U w0 I0=>?_;have aj:=Lt (p:=λv=>v=⟨aP (cM sh),r⟩) (λv hv=>by
  have hv:dc (aP (cM sh)) v=some r:=hv;exact oD hv) (KV h)
 have ag:bh (nu B a 0) ⟨B.length,pG 0 B,[]⟩ ⟨kq 0 (cJ B a),[]⟩:=
  ⟨by have:=Ef (ts:=B) (a:=a) (k:=0);simpa using this,H9 Y λj v hv=>Eg hv,.nil⟩
 have F:=Ll (V:=V) (cs:=cs) O ae 400 C [] ⟨jn fn.results.toList,[],jn fn.results.toList⟩ c ⟨B.length,pG 0 B,[]⟩ w0 I0 G aa rfl (λ_=>U) (λ_ _=>rfl);rw[af]at F;refine jU.go (Λ:=MN) (R0:=R) F ag (λx F=>by cases F) (λ_ _ _ _ _ _ h=>h) aj ?_;rintro e bA ρ' J' ⟨ab,x,v,M,N,rfl⟩ _ _ s' ah;refine⟨?_,abc G ah ai M N⟩;rcases ab with rfl|rfl
 ·exact .inl rfl
 exact .inr rfl
theorem YM{f:FuncId}{fn:Func}{j:List Ty}{sh:List NS}{g:(aP j).den->Option (aP (cM sh)).den}(M:bM P V C)(U:fG P C cs)(N:mY P C.lU)(aa:C.nt=fn.ntmps)(Z:P.follows .mixedOrders=true)(F:P.funcs[f]?=some fn)(G:nA fn j (cM sh)=true)(ae:wx sh=true)(h:∀a,nB cs (Ig C fn.results.toList (hZ fn) j sh) j (cM sh) a=g a):qU P f j sh g:=by
 simp only[nA,dk,ek,gj]at G;obtain⟨⟨⟨⟨af,B⟩,ag⟩,ah⟩,ai⟩:=G;have Y:Enters P f:=Enters.of F ⟨af,B⟩;have O:∀t∈j,isVal t:=λt ht=>cy (ag t ht);have ab:∀t∈cM sh,isVal t:=λt ht=>cy (ah t ht);have k:fn.body=some (hZ fn):=by
  unfold hZ;cases k:fn.body with
  |none=>rw[k]at B;cases B
  |some c=>rfl
 exact⟨Y,λa r ad=>WN M U N aa Z F k O ae (hg ai) (by rw[h];exact ad),ab⟩
end
end Go.Sy
namespace Go.ak
open Go Go.RowKit cL Go.Proofs Go.Sort
variable [bm]
def Yc(w:World)(b:Nat)(f:Array Value->Array Value)(cur:Array Value)(e:TypeId)(B:Nat×Nat)(h:w.heap[b]?=some (.cells cur e B)):mapBlock w b f=w.setRow b (f cur):=by
 unfold mapBlock World.setRow;congr 1;apply Array.ext_getElem?;intro k;simp only[o2];by_cases j:b=k
 ·subst j;simp[h,onCells]
 simp[j]
def ZM(F cur:Array Value)(k:F.size<=cur.size):(putCells (λv=>v) 0 F cur).toList=F.toList++cur.toList.drop F.size:=by
 apply hX;intro i;have j:(putCells (λv=>v) 0 F cur).toList[i]?=(cur[i]?).map λx=>if i<F.size then F[i]! else x:=by
  rw[j4];unfold putCells;rw[Array.getElem?_mapIdx];simp
 rw[j,hC];by_cases hi:i<F.size
 ·have:i<cur.size:=by omega
  simp[hi,this]
 simp[hi,kd,show F.size+(i-F.size)=i by omega]
def WJ{α:Type}[Inhabited α](venc:α->List Value)(k:Nat)(hv:∀x,(venc x).length=k)(d:Array α):(flatK venc k d).toList=d.toList.flatMap venc:=by
 apply hX;intro i;have O:∀(l:List α)(i:Nat),(l.flatMap venc)[i]?=(l[i/k]?).bind λx=>(venc x)[i%k]?:=by
  intro l;induction l with
  |nil=>intro i;simp
  |cons x l Y=>
   intro i;rw[hL,hC,hv];by_cases hi:i<k
   ·rw[if_pos hi,Nat.div_eq_of_lt hi,Nat.mod_eq_of_lt hi];simp
   rw[if_neg hi,Y];have hk:0<k\/k=0:=by omega
   rcases hk with hk|hk
   ·have M:i/k=(i-k)/k+1:=by rw[Nat.div_eq_sub_div hk (by omega)]
    have N:i%k=(i-k)%k:=by rw[Nat.mod_eq_sub_mod (by omega)]
    rw[M,N];simp
   subst hk;have j:∀y:α,venc y=[]:=λy=>j0 (hv y);simp[j]
 rw[O];have U:(flatK venc k d).toList.length=d.size*k:=by simp
 by_cases hi:i<d.size*k
 ·have hk:0<k:=by
             rcases s6 k with h|h;· subst h;simp at hi
             exact h
  have B:i/k<d.size:=(rv hk).2 hi;have G:i%k<k:=q6 _ hk;have F:=get_flatK venc k d i hi;rw[j4,e5 (by simpa using hi),j4,e5 B];rw[q8 _ i (by simpa using hi),q8 d _ B]at F;rw[F];simp only[Option.bind_some];rw[q8 _ _ (by rw[hv];exact G),c5 (by rw[hv];exact G)]
 rw[hJ (by rw[U];omega)];rcases s6 k with h|h
 ·subst h;have j:∀y:α,venc y=[]:=λy=>j0 (hv y);cases d.toList[i/0]?<;>simp[j]
 rw[hJ (by rw[Array.length_toList];exact(Nat.le_div_iff_mul_le h).2 (by omega))];rfl
section
variable {P:Program}{V:Env}{w0 w:World}{I0 I:aD}{m:Nat->Value}{l:List AO}{α:Type}[Inhabited α]
def aJ.grown(h:aJ w0 I0 w I m l)(q:Nat)(M:Array Obj):aJ w0 I0 (grow (w.drewN q) M) I m l/\Le I m l I m l:=by
 have B:∀k,k<w.heap.size->(grow (w.drewN q) M).heap[k]?=w.heap[k]?:=λk F=>by simp[grow,Array.getElem?_append,F]
 refine h.call ⟨rfl,rfl,rfl,by simp[grow],λk F=>B k F,λ_=>by simp[grow,World.drewN]⟩ (ff.refl _ _) ⟨λb o v j=>?_,λb N j=>?_,λb G=>(B b (h.sat.kW G)).trans (h.sat.df b G),h.sat.dK⟩
 ·exact(ma (w:=w) (a:=⟨b,o,none⟩) (B b (h.sat.lt j))).trans (h.sat.cell b o v j)
 have O:=h.sat.mp b N j;exact dR.to (B b (h.sat.nM j)) O
def aJ.sorted(ah:aJ w0 I0 w I m l){id b c e size:Nat}{els:List D}{ys:List α}{venc:α->List Value}{denc:α->D}(ag:l[id]?=some (.row e size els))(ae:m id=.slice (some ⟨b,0,none⟩) els.length c)(F:ys.length=els.length)(hv:∀x,(venc x).length=size)(ab:∀x,(denc x).cells.length=size/\∀y∈(denc x).cells,y.one=true)(aF:∀x(j:Nat) u y,(venc x)[j]?=some u->(denc x).cells[j]?=some y->Rd I u y)(q:Nat)(M:Array Obj) :
  Le I m l I m (l.set id (.row e size (ys.map denc)))/\aJ w0 I0 (sortWorldK venc size w b 0 q ys.toArray M) I m (l.set id (.row e size (ys.map denc))):=by
 obtain⟨xs,aj,aM,aN,aO⟩:=ah.obj id _ ag;rw[ae]at aj;obtain⟨aL,ax⟩:=aj;rcases ax with ⟨U,_⟩| ⟨g,aH,cur,U,av,O,af,aw,aa,aI⟩
 ·cases U
 injection U with G aK aE;injection G with G;injection G with G;subst G;subst aE;have N:(flatK venc size ys.toArray).size=els.length*size:=by simp[F]
 have Y:(flatK venc size ys.toArray).toList=ys.flatMap venc:=by rw[WJ venc size hv]
 have aB:els.length*size<=cur.size:=by rw[aa];exact la _ af
 have Z:=ZM (flatK venc size ys.toArray) cur (by rw[N];exact aB);have ai:sortWorldK venc size w b 0 q ys.toArray M=grow ((w.setRow b (putCells (λv=>v) 0 (flatK venc size ys.toArray) cur)).drewN q) M:=by
  unfold sortWorldK putRowK putRow;have aA:(Sort.ahead w q).heap[b]?=some (.cells cur e (0,0)):=O;rw[Yc _ b _ cur e (0,0) aA];rfl
 generalize aC:putCells (λv=>v) 0 (flatK venc size ys.toArray) cur=new at Z ai;have aD:new.size=cur.size:=by rw[<-aC];simp[putCells]
 have az:flat (ys.map denc)=ys.flatMap λx=>(denc x).cells:=by simp[flat,q5]
 have ak:(ys.flatMap venc).length=(ys.map denc).length*size:=by rw[<-Y,Array.length_toList,N,hP,F]
 have al:new.toList.take ((ys.map denc).length*size)=ys.flatMap venc:=by
  rw[Z,hP,F,<-N,J1 (by rw[Array.length_toList];exact ec _),j5 (by rw[Array.length_toList];exact ec _),Y]
 have an:∀d∈ys.map denc,d.cells.length=size/\∀x∈d.cells,x.one=true:=by
  intro d ay;obtain⟨x,_,rfl⟩:=gg.1 ay;exact ab x
 have ao:∀(j:Nat) u y,(ys.flatMap venc)[j]?=some u->(flat (ys.map denc))[j]?=some y->Rd I u y:=by
  intro j u y k B;rw[az]at B;have key:∀(zs:List α)(j:Nat),(zs.flatMap venc)[j]?=some u->(zs.flatMap λx=>(denc x).cells)[j]?=some y->Rd I u y:=by
   intro zs;induction zs with
   |nil=>intro j k;simp at k
   |cons z zs aG=>
    intro j k B;rw[hL,hC,hv]at k;rw[hL,hC,(ab z).1]at B;by_cases ad:j<size
    ·rw[if_pos ad]at k B;exact aF z j u y k B
    rw[if_neg ad]at k B;exact aG _ k B
  exact key ys j k B
 obtain⟨aq,ar⟩:=ah.C0 (n:=els.length) (c:=c) (cur:=cur) (new:=new) (xs:=ys.flatMap venc) (els':=ys.map denc) ag ae O ⟨ak,.inr ⟨b,c,new,by simp[F],av,K1 w b cur new e (0,0) O,by simpa [F]using af,aw,by rw[aD,aa],al⟩⟩ an ao;obtain⟨au,_⟩:=ar.grown q M;rw[ai];exact⟨aq,au⟩
def Xb(Z:bm.on){w w':World}(h:dq w.heap.size w w'):∃q O,w'=grow (w.drewN q) O:=by
 refine⟨w'.drawn-w.drawn,w'.heap.extract w.heap.size w'.heap.size,?_⟩;obtain⟨Y,ae,aa,O,ad⟩:=w';obtain⟨B,F,G,U,M,j⟩:=h;have j:=j Z;simp only at B F G U M j;subst B;subst F;subst G;unfold grow World.drewN;simp only;congr 1
 ·apply Array.ext_getElem?;intro k;rw[Array.getElem?_append];split
  ·rename_i N;exact M k N
  rename_i N;simp only[Array.getElem?_extract];by_cases ab:k<Y.size
  ·have:w.heap.size+(k-w.heap.size)=k:=by omega
   rw[this];simp;omega
  rw[Array.getElem?_eq_none (by omega)];simp;omega
 omega
theorem KG(Z:bm.on){P:Program}{g k:Nat}{venc:α->List Value}{denc:α->D}{cf:α->α->Int}{caps:List D}(N:∀x y,gA P g ([denc x,denc y]++caps) (.int .i64 (cf x y)))(G:∀I x,Rd I (.agg (venc x).toArray) (denc x)){oC off size:Nat}{w:World}{I:aD}{vs:Array Value}(U:vs.size=caps.length)(O:∀(i:Nat) v d,vs[i]?=some v->caps[i]?=some d->Rd I v d)(ae:∀(mm:Nat)(F:Array Obj)(j:Array α),j.size=size->cZ (sortWorldK venc k w oC off mm j F) I):CmpLays P g vs venc k cf oC off size w:=by
 intro mm F j ad x y;have af:(#[Value.agg (venc x).toArray,Value.agg (venc y).toArray]++vs).size=([denc x,denc y]++caps).length:=by
  rw[Array.size_append,dT,U];rfl
 have ab:∀(i:Nat) v d,(#[Value.agg (venc x).toArray,Value.agg (venc y).toArray]++vs)[i]?=some v->([denc x,denc y]++caps)[i]?=some d->Rd I v d:=by
  intro i v d hv B;rcases i with _|_|i
  ·rw[j1 (by simp)]at hv;simp at hv B;subst hv;subst B;exact G I x
  ·rw[j1 (by simp)]at hv;simp at hv B;subst hv;subst B;exact G I y
  rw[q7 (by simp)]at hv;exact O i v d (by simpa using hv) (by simpa using B)
 have h:=N x y (sortWorldK venc k w oC off mm j F) I (#[Value.agg (venc x).toArray,Value.agg (venc y).toArray]++vs) (ae mm F j ad) af ab;refine h.mono ?_;rintro e w' ⟨v,J,Y,M,_,_,aa⟩;cases aa;exact⟨Y,Xb Z M⟩
theorem PV{P:Program}{g:Nat}{fd:D}{e size:Nat}{venc:α->List Value}{denc:α->D}{S:Array α->Array α}(av:∀d,(S d).size=d.size)(aJ:∀(b c:Nat)(d:Array α)(w:World)(I:aD)(U:Value),HoldsK venc size w b 0 d->b<w.heap.size->d.size<4611686018427387904->Rd I U fd->(∀(mm:Nat)(G:Array Obj)(O:Array α),O.size=d.size->cZ (sortWorldK venc size w b 0 mm O G) I)->Calls P g #[.slice (some ⟨b,0,none⟩) d.size c,U] w λe w'=>e=.returned (.tuple #[])/\∃n G,w'=sortWorldK venc size w b 0 n (S d) G)(aT:∀(p:Option Addr)(c:Nat)(U:Value)(w:World),Calls P g #[.slice p 0 c,U] w λe w'=>e=.returned (.tuple #[])/\w'=w)(hv:∀x,(venc x).length=size)(ae:∀x,(denc x).cells.length=size/\∀y∈(denc x).cells,y.one=true)(ax:∀(I:aD) x (j:Nat) u y,(venc x)[j]?=some u->(denc x).cells[j]?=some y->Rd I u y)(aO:∀(I:aD) x (j:Nat) u y,(denc x).cells[j]?=some y->Rd I u y->(venc x)[j]?=some u){l:List AO}{id:Nat}{xs:List α}(M:l[id]?=some (.row e size (xs.map denc)))(aY:xs.length<4611686018427387904) :
  sU P g [.row id,.d fd] l (.d (.aL [])) (l.set id (.row e size ((S xs.toArray).toList.map denc))):=by
 intro w0 I0 w I m au aa aW aw;obtain⟨v0,ab,rfl⟩:∃v0 ab,au = #[v0,ab]:=by
  match au,aW with
  | ⟨[a,b]⟩,_=>exact⟨a,b,rfl⟩
 have h0:=aw 0 v0 (.row id) rfl rfl;have ad:=cw (aw 1 ab (.d fd) rfl rfl);obtain⟨ys,az,a6,a7,bg⟩:=aa.obj id _ M;obtain⟨A,n,c,al,aj⟩:∃A n c,v0=.slice A n c/\m id=v0:=by
  cases h0 with
  |row A n c _ bh a8=>exact⟨A,n,c,rfl,a8 (by simp[isRow,M,AO.isRow])⟩
 rw[aj,al]at az;obtain⟨aZ,aH⟩:=az;have aP:id<l.length:=(db.1 M).1;rcases aH with ⟨ak,aS⟩| ⟨b,ba,cur,ak,bb,ai,bf,bc,bd,aX⟩
 ·injection ak with ao aq ar;subst ao;subst aq;subst ar;have a1:xs=[]:=by simpa using aS
  subst a1;subst al;refine(aT none 0 _ w).mono ?_;rintro aA w' ⟨ag,an⟩;subst an;have aG:(S ([]:List α).toArray).toList=[]:=by have:=av ([]:List α).toArray;exact j0 (by rw[Array.length_toList,this];rfl)
  have aV:l.set id (.row e size ((S ([]:List α).toArray).toList.map denc))=l:=by
   rw[aG];apply hX;intro k;rw[e0];by_cases N:id=k
   ·subst N;rw[if_pos rfl,if_pos aP,M]
   rw[if_neg N]
  rw[aV];exact⟨_,ag,I,m,.refl ..,aa,.d _ _ (.aL #[] [] rfl (λi v d h=>by simp at h))⟩
 injection ak with ao aq ar;subst ao;subst aq;subst ar;subst al;have Y:(xs.map denc).length=xs.toArray.size:=by simp
 have aI:∀j,j<xs.toArray.size*size->∃u,cur[j]?=some u/\ys[j]?=some u/\(flatK venc size xs.toArray)[j]! = u:=by
  intro j F;have aQ:j<ys.length:=by rw[aZ,Y];exact F
  obtain⟨z,B⟩:∃z,ys[j]?=some z:=⟨_,c5 aQ⟩;have aK:cur[j]?=some z:=by
   have B:=B;rw[<-aX,hQ]at B;split at B
   ·simpa using B
   cases B
  refine⟨_,aK,B,?_⟩;have N:0<size:=by
               rcases s6 size with h|h;· subst h;simp at F
               exact h
  have af:j/size<xs.toArray.size:=(rv N).2 F;have Z:j%size<size:=q6 _ N;rw[get_flatK venc size xs.toArray j F];have ah:=flat_get (xs.map denc) (λd aN=>(a6 d aN).1) (j/size) (j%size) (denc xs[j/size]) (by rw[e3,c5 (by simpa using af)];rfl) Z;rw[o7,Ds]at ah;obtain⟨y,ay⟩:∃y,(denc xs[j/size]).cells[j%size]?=some y:=⟨_,c5 (by rw[(ae (xs[j/size]'(by simpa using af))).1];exact Z)⟩;rw[ay]at ah;have aU:=a7 j _ y B ah;have:=aO I _ _ _ _ ay aU;rw[q8 xs.toArray _ af,q8 _ _ (by rw[hv];exact Z)];rw[c5 (by rw[hv];exact Z)]at this;simpa using this
 have aF:HoldsK venc size w b 0 xs.toArray:=by
  intro j F;rw[size_flatK]at F;obtain⟨u,ad,_,aE⟩:=aI j F;rw[aE];refine⟨?_,?_⟩
  ·simp[World.cell?,ai,ad]
  simp[World.frozen?,ai]
 have aR:b<w.heap.size:=(e6.1 ai).1;rw[Y];refine(aJ b c xs.toArray w I ab aF aR (by simpa using aY) ad (λmm G O aM=>(aa.sorted (ys:=O.toList) (venc:=venc) (denc:=denc) M (by rw[aj]) (by rw[Array.length_toList,aM,Y]) hv ae (λx j u y=>ax I x j u y) mm G).2.sat)).mono ?_;rintro aA w' ⟨ag,q,G,an⟩;obtain⟨aB,aC⟩:=aa.sorted (ys:=(S xs.toArray).toList) (venc:=venc) (denc:=denc) M (by rw[aj]) (by rw[Array.length_toList,av,Y]) hv ae (λx j u y=>ax I x j u y) q G;refine⟨_,ag,I,m,aB,?_,.d _ _ (.aL #[] [] rfl (λi v d h=>by simp at h))⟩;rw[an];simpa using aC
end
end Go.ak
namespace Go.ak
open Go Go.RowKit cL Go.Proofs Go.Sort
def vD:D->Value
 |.int k n=>.int k n
 |.bool b=>.bool b
 |.str s=>.string s
 |_=>undef
def pA:D->Bool
 |.int .. =>true
 |.bool _=>true
 |.str _=>true
 |_=>false
def QC(I:aD){y:D}(h:pA y=true):Rd I (vD y) y:=by cases y<;>simp[pA]at h<;>constructor
def ac7{I:aD}{u:Value}{y:D}(h:pA y=true)(r:Rd I u y):u=vD y:=by cases y<;>simp[pA]at h<;>cases r<;>rfl
section
variable {α:Type}[cL α]
def gX(x:α):List Value:=(enc x:D).cells.map vD
structure Flat(α:Type)[cL α](k:Nat):Prop where
 agg:∀x:α,(enc x:D)=.agg (enc x:D).cells
 len:∀x:α,(enc x:D).cells.length=k
 sc:∀(x:α),∀y∈(enc x:D).cells,pA y=true
def HR{y:D}(h:pA y=true):y.one=true:=by cases y<;>simp[pA]at h<;>rfl
def Flat.rd{k:Nat}(F:Flat α k)(I:aD)(x:α):Rd I (.agg (gX x).toArray) (enc x):=by
 rw[F.agg x];refine .agg _ _ (by simp[gX,D.cells]) (λd j=>HR (F.sc x d j)) λi v d hv j=>?_;simp only[gX,zx,e3]at hv;have B:(enc x:D).cells[i]?=some d:=j;rw[B]at hv;simp at hv;subst hv;exact QC I (F.sc x d (dd B))
def Flat.vd{k:Nat}(F:Flat α k)(I:aD)(x:α)(j:Nat)(u:Value)(y:D)(B:(gX x)[j]?=some u)(G:(enc x:D).cells[j]?=some y):Rd I u y:=by
 simp only[gX,e3,G]at B;simp at B;subst B;exact QC I (F.sc x y (dd G))
def Flat.dv{k:Nat}(F:Flat α k)(I:aD)(x:α)(j:Nat)(u:Value)(y:D)(B:(enc x:D).cells[j]?=some y)(G:Rd I u y):(gX x)[j]?=some u:=by
 simp only[gX,e3,B];rw[ac7 (F.sc x y (dd B)) G];rfl
end
section
variable {α:Type}
def fU(cf:α->α->Int)(l:List α):List α:=l.mergeSort λa b=>!decide (cf b a<0)
def oj(cf:α->α->Int)(l:List α):(fU cf l).Perm l:=q2 _ _
def lt_iff(cf:α->α->Int)(a b:α):ltOf cf a b=true↔cf a b<0:=by simp[ltOf]
def Ar(cf:α->α->Int)(a b:α):ltOf cf a b=false↔¬cf a b<0:=by simp[ltOf]
def oq{cf:α->α->Int}(h:SWO (ltOf cf))(l:List α):(fU cf l).Pairwise λa b=>¬cf b a<0:=by
 have:=List.pairwise_mergeSort (le:=λa b=>!decide (cf b a<0)) (λa b c F j=>by
  simp only[gj,hA]at *;exact(Ar cf _ _).1 (h.ntrans _ _ _ ((Ar cf _ _).2 j) ((Ar cf _ _).2 F))) (λa b=>by
  simp only[iv,gj,hA];by_cases B:cf b a<0
  ·right;intro j;have k:=h.trans _ _ _ ((lt_iff cf _ _).2 j) ((lt_iff cf _ _).2 B);rw[h.irrefl]at k;cases k
  left;exact B) l
 exact this.imp λh=>by simpa using h
def gY(cf:α->α->Int)(l:List α):Prop:=∀a∈l,∀b∈l,¬cf a b<0->¬cf b a<0->a=b
def yw{cf:α->α->Int}{l m:List α}(hl:l.Pairwise λa b=>¬cf b a<0)(N:m.Pairwise λa b=>¬cf b a<0)(j:l.Perm m)(M:gY cf l):l=m:=
 List.Perm.eq_of_pairwise (le:=λa b=>¬cf b a<0) (λa b k B F G=>M a k b (j.symm.subset B) G F) hl N j
def gY.perm{cf:α->α->Int}{l m:List α}(h:gY cf l)(j:l.Perm m):gY cf m:=λa k b B=>h a (j.symm.subset k) b (j.symm.subset B)
section
variable {ok:α->Prop}[Inhabited {x:α // ok x}]
def oE(ok:α->Prop)(cf:α->α->Int)(a b:{x:α // ok x}):Int:=cf a.1 b.1
def CP{cf:α->α->Int}(h:SWO (ltOf cf)):SWO (ltOf (oE ok cf)):=⟨λx=>h.irrefl x.1,λx y z=>h.trans x.1 y.1 z.1,λx y z=>h.ntrans x.1 y.1 z.1⟩
def iM(ok:α->Prop)[Inhabited {x:α // ok x}](cf:α->α->Int)(d:Array {x:α // ok x}):Array {x:α // ok x}:=Go.Sort.pdq (ltOf (oE ok cf)) d 0 d.size (Go.Lib.bitLen d.size) true true
def H3{cf:α->α->Int}(h:SWO (ltOf cf))(d:Array {x:α // ok x}):Go.Sort.PermIn 0 d.size d (iM ok cf d)/\Go.Sort.SortedIn (ltOf (oE ok cf)) 0 d.size (iM ok cf d):=
 Go.Sort.pdq_sorts (ltOf (oE ok cf)) (CP h) d 0 d.size (Go.Lib.bitLen d.size) true true (j3 _) (ec _) (Or.inl rfl)
def PQ{cf:α->α->Int}(M:SWO (ltOf cf)){xs:List α}(h:∀x∈xs,ok x)(U:gY cf xs):∃k:List {x:α // ok x},k.map (·.1)=xs/\(iM ok cf k.toArray).toList.map (·.1)=fU cf xs:=by
 refine⟨xs.pmap Subtype.mk h,by simp[List.map_pmap],?_⟩;generalize Y:xs.pmap Subtype.mk h=k;have Z:k.map (·.1)=xs:=by rw[<-Y];simp[List.map_pmap]
 obtain⟨F,O⟩:=H3 M k.toArray;have N:=F.1;have af:(iM ok cf k.toArray).toList.Perm k:=by
  have B:=F.2.2;simp only[<-N,Array.extract_size]at B;rw[N,Array.extract_size]at B;simpa using B
 have ag:((iM ok cf k.toArray).toList.map (·.1)).Pairwise λa b=>¬cf b a<0:=by
  rw[r1];refine lb.2 λi j hi ad ab=>?_;have aa:i<(iM ok cf k.toArray).size:=by simpa using hi
  have ae:j<(iM ok cf k.toArray).size:=by simpa using ad
  have:=O i j (j3 _) ab (by omega);rw[q8 (iM ok cf k.toArray) i aa,q8 (iM ok cf k.toArray) j ae]at this;have:=(Ar (oE ok cf) _ _).1 this;simpa [oE]using this
 have G:((iM ok cf k.toArray).toList.map (·.1)).Perm xs:=by rw[<-Z];exact af.map _
 exact yw ag (oq M xs) (G.trans (oj cf xs).symm) (U.perm G.symm)
end
end
section
variable {α:Type}[cL α]
theorem Wx(B:bm)[D0:bm](aw:@bm.on B)(ak:@bm.dI B=@bm.dI D0){P:Program}{g j e k:Nat}{caps:List D}{ok:α->Prop}[Inhabited {x:α // ok x}]{cf:α->α->Int}(F:Flat α k)(Y:SWO (ltOf cf))(ai:∀x y,ok x->ok y->@gA B P j ([enc x,enc y]++caps) (.int .i64 (cf x y)))(
   ah:∀(b c:Nat)(d:Array {x:α // ok x})(w:World)(vs:Array Value),CmpLays P j vs (λx:{x:α // ok x}=>gX x.1) k (oE ok cf) b 0 d.size w->HoldsK (λx:{x:α // ok x}=>gX x.1) k w b 0 d->b<w.heap.size->d.size<4611686018427387904 ->
   Calls P g #[.slice (some ⟨b,0,none⟩) d.size c,.func (.func j) #[] vs] w λe w'=>e=.returned (.tuple #[])/\∃n N,w'=sortWorldK (λx:{x:α // ok x}=>gX x.1) k w b 0 n (iM ok cf d) N)(aq:∀(p:Option Addr)(c:Nat)(M:Value)(w:World),Calls P g #[.slice p 0 c,M] w λe w'=>e=.returned (.tuple #[])/\w'=w){l:List AO}{id:Nat}{xs:List α}(ar:l[id]?=some (.row e k (xs.map enc)))(Z:xs.length<4611686018427387904)(av:∀x∈xs,ok x)(af:gY cf xs) :
  sU P g [.row id,.d (.aH j caps)] l (.d (.aL [])) (l.set id (.row e k ((fU cf xs).map enc))):=by
 obtain⟨O,U,ao⟩:=PQ Y av af;have au:l[id]?=some (.row e k (O.map λx:{x:α // ok x}=>(enc x.1:D))):=by rw[ar,<-U,k7];rfl
 have:=PV (P:=P) (g:=g) (fd:=.aH j caps) (S:=iM ok cf) (venc:=λx:{x:α // ok x}=>gX x.1) (denc:=λx:{x:α // ok x}=>(enc x.1:D)) (λd=>(H3 Y d).1.1)
  (
   λb c d w I M ae ag aj an ax=>by
   obtain⟨vs,rfl,ab,ad⟩:∃vs,M=.func (.func j) #[] vs/\vs.size=caps.length/\∀(i:Nat) v d,vs[i]?=some v->caps[i]?=some d->Rd I v d:=by
    cases an with
    |aH _ vs _ az aA=>exact⟨vs,rfl,az,aA⟩
   exact ah b c d w vs (@KG B _ _ aw _ _ _ _ (λx:{x:α // ok x}=>(enc x.1:D)) _ _ (λx y=>ai x.1 y.1 x.2 y.2) (λI x=>F.rd I x.1) _ _ _ _ I _ ab ad (λmm N aa al=>by
    have G:=ax mm N aa al;exact @cZ.mk B _ _ G.cell G.mp G.df (λg d h=>G.dK g d (by rw[<-ak];exact h)))) ae ag aj) aq
  (λx=>by simp[gX,F.len]) (λx=>⟨F.len x.1,λy ay=>HR (F.sc x.1 y ay)⟩) (λI x=>F.vd I x.1) (λI x=>F.dv I x.1) au (by rw[<-U]at Z;simpa using Z)
 have e:(iM ok cf O.toArray).toList.map (λx:{x:α // ok x}=>(enc x.1:D))=(fU cf xs).map enc:=by rw[<-ao,k7];rfl
 rw[e]at this;exact this
end
end Go.ak
namespace Go.Sy
open Go Go.ak
local instance adF:bm:=⟨False,λ_=>none⟩
attribute [local instance] bP
theorem ah{β:Type}{c:Bool}{a b:Option β}(h:c=true):ab c a b=a:=by subst h;rfl
theorem ag{β:Type}{c:Bool}{a b:Option β}(h:c=false):ab c a b=b:=by subst h;rfl
theorem aF{α:Type}{l:List α}{k:Nat}{x:α}(h:l[k]?=some x):an l (k:Int)=some x:=by unfold an;rw[if_pos (by omega)];simpa using h
def bG{β:Type}{p:Bool}{o:Option β}(h:p=true):ae p o=o:=by subst h;rfl
theorem av{β:Type}{n:Int}{o:Option β}(h: -9223372036854775808<=n/\n<=9223372036854775807):ae (ai n) o=o:=bG (c3 h)
theorem ew{α β:Type}(x:α)(f:α->Option β):aR (some (.inl x)) f=f x:=rfl
theorem e9{α β:Type}(y:β)(f:α->Option β):aR (some (.inr y)) f=some y:=rfl
theorem au{α β:Type}{o:Option α}{f:α->Option β}{x:α}(h:o=some x):aa o f=f x:=by subst h;rfl
theorem di{α β:Type}{o:Option (α⊕β)}{f:α->Option β}{x:α⊕β}(h:o=some x):aR o f=Sum.elim f some x:=by subst h;cases x<;>rfl
theorem gE{β:Type}(a b:Option β):ab false a b=b:=rfl
def aZ{α:Type}{l:List α}{k:Nat}{x:α}(h:l[k]?=some x):k<l.length:=(db.1 h).1
def rJ(c d:Bool):ab c (some true) (some d)=some (c||d):=by cases c<;>rfl
def fK(c d:Bool):ab c (some d) (some false)=some (c&&d):=by cases c<;>rfl
def Xk(c d:Bool):ab c (some false) (some d)=some (!c&&d):=by cases c<;>rfl
def Lz{α:Type}(l:List α)(p:α->Bool):l.any p=(l.find? p).isSome:=by
 rw[gl,List.find?_isSome,hM]
theorem rF{α:Type}{f:α->Int}{l:List α}(h:(l.map f).Nodup){a b:α}(ha:a∈l)(hb:b∈l)(e:f a=f b):a=b:=by
 induction l with
 |nil=>cases ha
 |cons x l j=>
  simp only[e7,h5,gg]at h;rcases fa.1 ha with rfl|ha<;>rcases fa.1 hb with rfl|hb
  ·rfl
  ·exact absurd ⟨b,‹_›,e.symm⟩ h.1
  ·exact absurd ⟨a,‹_›,e⟩ h.1
  exact j h.2 ‹_› ‹_›
def cV{α σ ρ:Type}(f:σ->α->σ⊕ρ)(fin:σ->ρ):List α->σ->ρ
 | [],z=>fin z
 |x::xs,z=>match f z x with
  |.inl z'=>cV f fin xs z'
  |.inr r=>r
theorem cu{α σ G ρ:Type}(st:σ->Int->G){step:G->Option (G⊕ρ)}{l:List α}(f:σ->α->σ⊕ρ)(fin:σ->ρ)(Inv:Nat->σ->Prop)(h:∀(k:Nat) x z,l[k]?=some x->Inv k z->step (st z (k:Int))=some (match f z x with |.inl z'=>.inl (st z' ((k+1:Nat):Int)) |.inr r=>.inr r))(U:∀(k:Nat) x z z',l[k]?=some x->Inv k z->f z x=.inl z'->Inv (k+1) z')(O:∀z,Inv l.length z->step (st z (l.length:Int))=some (.inr (fin z)))(B:σ)(h0:Inv 0 B):aA step (st B 0)=some (cV f fin l B):=by
 have key:∀(n k:Nat)(z:σ),k+n=l.length->Inv k z->aA step (st z (k:Int))=some (cV f fin (l.drop k) z):=by
  intro n;induction n with
  |zero=>
   intro k z Y hi;have:k=l.length:=by omega
   subst this;rw[zc];exact uk (O z hi)
  |succ n Z=>
   intro k z Y hi;have M:k<l.length:=by omega
   have N:l[k]?=some l[k]:=c5 M;rw[hS M];have j:=h k _ z N hi;simp only[cV];cases F:f z l[k]with
   |inl z'=>
    rw[F]at j;rw[FJ j];exact Z (k+1) z' (by omega) (U k _ z z' N hi F)
   |inr r=>
    rw[F]at j;rw[uk j]
 simpa using key l.length 0 B (by omega) h0
theorem eh{α σ ρ:Type}{f:σ->α->σ⊕ρ}{fin:σ->ρ}(g:σ->α->σ):∀(l:List α)(z:σ),(∀z x,x∈l->f z x=.inl (g z x))->cV f fin l z=fin (l.foldl g z)
 | [],z,_=>rfl
 |x::l,z,h=>by
  simp only[cV,h z x (by simp),List.foldl_cons];exact eh g l _ λz y j=>h z y (by simp[j])
theorem il{α ρ:Type}{step:Int->Option (Int⊕(Unit⊕ρ))}{l:List α}(p:α->Bool)(r:ρ)(h:∀(k:Nat) x,l[k]?=some x->step (k:Int)=some (if p x=true then .inr (.inr r)else .inl ((k+1:Nat):Int)))(B:step (l.length:Int)=some (.inr (.inl ()))) :
  aA step 0=some (if l.any p=true then .inr r else .inl ()):=by
 have:=cu (σ:=Unit) (st:=λ_ k=>k) (step:=step) (l:=l) (λ_ x=>if p x=true then .inr (.inr r)else .inl ()) (λ_=>.inl ()) (λ_ _=>True) (λk x z F _=>by
  rw[h k x F];split<;>rename_i j<;>simp[j]) (λ_ _ _ _ _ _ _=>trivial) (λz _=>B) () trivial
 rw[this];congr 1;clear this h B;induction l with
 |nil=>rfl
 |cons x l G=>
  simp only[cV,List.any_cons];by_cases j:p x=true
  ·simp[j]
  simp only[j,lB];simpa using G
def nJ{ρ:Type}{step:Int->Option (Int⊕(Unit⊕ρ))}(n:Nat)(p:Nat->Bool)(r:ρ)(h:∀(k:Nat),k<n->step (k:Int)=some (if p k=true then .inr (.inr r)else .inl ((k+1:Nat):Int)))(F:step (n:Int)=some (.inr (.inl ()))) :
  aA step 0=some (if(List.range n).any p=true then .inr r else .inl ()):=
 il (l:=List.range n) p r (λk x j=>by
  have B:=aZ j;rw[ia (by simpa using B)]at j;injection j with j;subst j;exact h k (by simpa using B)) (by rw[r2];exact F)
theorem nL{α:Type}{step:Int->Option (Int⊕(Unit⊕Int))}{l:List α}(p:α->Bool)(h:∀(k:Nat) x,l[k]?=some x->step (k:Int)=some (if p x=true then .inr (.inr (k:Int))else .inl ((k+1:Nat):Int)))(F:step (l.length:Int)=some (.inr (.inl ()))) :
  aA step 0=some (match l.findIdx? p with|some i=>.inr (i:Int)|none=>.inl ()):=by
 have:=cu (σ:=Nat) (st:=λ_ k=>k) (step:=step) (l:=l) (λz x=>if p x=true then .inr (.inr (z:Int))else .inl (z+1)) (λ_=>.inl ()) (λk z=>z=k) (λk x z M G=>by
  subst G;rw[h z x M];split<;>rename_i B<;>simp[B]) (λk x z z' _ G j=>by
  split at j
  ·cases j
  injection j with j;omega) (λz _=>F) 0 rfl
 rw[this];congr 1;clear this h F;have key:∀(l:List α)(z:Nat),cV (λ(z:Nat) x=>if p x=true then .inr (.inr (z:Int))else .inl (z+1)) (λ_=>(.inl ():Unit⊕Int)) l z=match l.findIdx? p with|some i=>.inr ((z+i:Nat):Int)|none=>.inl ():=by
  intro l;induction l with
  |nil=>intro z;simp[cV]
  |cons x l N=>
   intro z;simp only[cV,pa];by_cases B:p x=true
   ·simp[B]
   simp only[B,h9,hR];rw[N];cases l.findIdx? p<;>simp<;>omega
 simpa using key l 0
def ix{α:Type}(l:List α)(p:α->Bool):Int:=match l.findIdx? p with|some i=>(i:Int)|none=> -1
def E7{α:Type}(l:List α)(p:α->Bool):decide (0<=ix l p)=l.any p:=by
 have:(l.findIdx? p).isSome=l.any p:=List.findIdx?_isSome;unfold ix;cases j:l.findIdx? p with
 |none=>rw[j]at this;simp[<-this]
 |some i=>rw[j]at this;simp[<-this]
def oP{α:Type}(l:List α)(p:α->Bool):(l.find? p=none/\ix l p = -1)\/∃(k:Nat)(x:α),l[k]?=some x/\l.find? p=some x/\ix l p=(k:Int)/\p x=true:=by
 unfold ix;induction l with
 |nil=>left;simp
 |cons x l O=>
  rw[pa,List.find?_cons];by_cases G:p x=true
  ·right;exact⟨0,x,rfl,by simp[G],by simp[G],G⟩
  simp only[G];rcases O with ⟨M,B⟩| ⟨k,y,M,B,F,N⟩
  ·left;refine⟨M,?_⟩;cases j:l.findIdx? p with
   |none=>simp[j]
   |some i=>rw[j]at B;exact absurd B (by simp only;omega)
  right;refine⟨k+1,y,by simpa using M,B,?_,N⟩;cases j:l.findIdx? p with
  |none=>rw[j]at F;exact absurd F (by simp only;omega)
  |some i=>rw[j]at F;simp at F;simp[j];omega
def mR{α:Type}(q:α->Bool)(r:α->α->Bool)(l:List α)(k:Nat):Bool:=match l[k]? with|some y=>q y||(l.take k).any λx=>r x y|none=>false
def HS{α:Type}(q:α->Bool)(r:α->α->Bool)(l:List α):(List.range l.length).any (mR q r l)=true↔¬((∀x∈l,q x=false)/\l.Pairwise λx y=>r x y=false):=by
 rw[hM];constructor
 ·rintro⟨k,B,h⟩ ⟨U,M⟩;have B:=ib.1 B;unfold mR at h;rw[c5 B]at h;simp only[iv,hM]at h;rcases h with h| ⟨x,G,h⟩
  ·rw[U _ (ie B)]at h;cases h
  obtain⟨j,F,rfl⟩:=sm.1 G;rw[lb]at M;rw[M j k (by omega) B (by omega)]at h;cases h
 intro h;refine fl λN=>h ⟨λx G=>?_,?_⟩
 ·refine fl λO=>N ?_;obtain⟨k,B,rfl⟩:=hF.1 G;refine⟨k,ib.2 B,?_⟩;unfold mR;rw[c5 B];simp at O;simp[O]
 rw[lb];intro i j hi F Z;refine fl λY=>N ⟨j,ib.2 F,?_⟩;unfold mR;rw[c5 F];simp only[iv,hM];right;exact⟨l[i],sm.2 ⟨i,by omega,rfl⟩,by simpa using Y⟩
def CR{α:Type}{l:List α}{k j:Nat}{x:α}(h:(l.take k)[j]?=some x):j<k/\l[j]?=some x:=by
 have B:=aZ h;rw[fb]at B;rw[List.getElem?_take_of_lt (by omega)]at h;exact⟨by omega,h⟩
def vj{α:Type}(id:α->Int)(l:List α):(l.Pairwise λx y=>decide (id x=id y)=false)↔(l.map id).Nodup:=by
 unfold List.Nodup;rw[r1];simp
def cP:List Int->Int
 | []=>0
 |x::l=>if x=0 then cP l else x
def bf{α:Type}(K:α->List Int)(a b:α):Int:=cP ((K a).zipWith (· - ·) (K b))
def LN:∀l:List Int,cP (l.zipWith (· - ·) l)=0
 | []=>rfl
 |x::l=>by
  simp only[List.zipWith_cons_cons,cP];rw[if_pos (by omega)];exact LN l
def EI:∀(a b c:List Int),a.length=b.length->b.length=c.length->cP (a.zipWith (· - ·) b)<0->cP (b.zipWith (· - ·) c)<0->cP (a.zipWith (· - ·) c)<0
 | [],[],[],_,_,h,_=>by simp[cP]at h
 |x::a,y::b,z::c,h1,B,j,k=>by
  simp only[List.zipWith_cons_cons,cP]at j k⊢;have F:=EI a b c (by simpa using h1) (by simpa using B);split at j<;>split at k<;>split<;>first|omega|exact F j k
 | [],_::_,_,h,_,_,_=>by simp at h
 |_::_,[],_,h,_,_,_=>by simp at h
 |_::_,_::_,[],_,h,_,_=>by simp at h
 | [],[],_::_,_,h,_,_=>by simp at h
def zP:∀(a b c:List Int),a.length=b.length->b.length=c.length->¬cP (a.zipWith (· - ·) b)<0->¬cP (b.zipWith (· - ·) c)<0->¬cP (a.zipWith (· - ·) c)<0
 | [],[],[],_,_,h,_=>by simp[cP]
 |x::a,y::b,z::c,h1,B,j,k=>by
  simp only[List.zipWith_cons_cons,cP]at j k⊢;have F:=zP a b c (by simpa using h1) (by simpa using B);split at j<;>split at k<;>split<;>first|omega|exact F j k
 | [],_::_,_,h,_,_,_=>by simp at h
 |_::_,[],_,h,_,_,_=>by simp at h
 |_::_,_::_,[],_,h,_,_=>by simp at h
 | [],[],_::_,_,h,_,_=>by simp at h
def LR:∀(a b:List Int),a.length=b.length->cP (a.zipWith (· - ·) b)=0->a=b
 | [],[],_,_=>rfl
 |x::a,y::b,h1,j=>by
  simp only[List.zipWith_cons_cons,cP]at j;split at j
  ·rename_i h;rw[LR a b (by simpa using h1) j];congr 1;omega
  rename_i h;exact absurd j h
 | [],_::_,h,_=>by simp at h
 |_::_,[],h,_=>by simp at h
def wv:∀(a b:List Int),a.length=b.length->cP (b.zipWith (· - ·) a) = - cP (a.zipWith (· - ·) b)
 | [],[],_=>rfl
 |x::a,y::b,h=>by
  have j:=wv a b (by simpa using h);simp only[List.zipWith_cons_cons,cP];split<;>split<;>omega
 | [],_::_,h=>by simp at h
 |_::_,[],h=>by simp at h
def CQ{α:Type}{K:α->List Int}{n:Nat}(j:∀a,(K a).length=n):Go.Sort.SWO (Go.Proofs.ltOf (bf K)) where
 irrefl x:=by
  unfold Go.Proofs.ltOf bf;rw[LN];rfl
 trans x y z k B:=by
  have k:=fv k;have B:=fv B;exact c3 (EI (K x) (K y) (K z) (by rw[j,j]) (by rw[j,j]) k B)
 ntrans x y z k B:=by
  have k:=vc k;have B:=vc B;exact da (zP (K x) (K y) (K z) (by rw[j,j]) (by rw[j,j]) k B)
theorem zr{α:Type}{K:α->List Int}{n:Nat}(j:∀a,(K a).length=n){a b:α}(B:¬bf K a b<0)(k:¬bf K b a<0):K a=K b:=by
 have F:=wv (K a) (K b) (by rw[j,j]);unfold bf at B k;rw[F]at k;exact LR _ _ (by rw[j,j]) (by omega)
def bk{α:Type}(p:α->Bool)(l:List α):Nat:=(l.reverse.dropWhile p).length
def Xt{α:Type}(p:α->Bool)(l:List α)(x:α):List α:=l.take (bk p l)++[x]++l.drop (bk p l)
abbrev eL{α:Type}(m:List (Int×α)):List Int:=m.map (·.1)
theorem oX{α:Type}(k:Int)(d:α):ar ([]:List (Int×α)) k d=d:=rfl
theorem Yz{α:Type}(k:Int):dU ([]:List (Int×α)) k=false:=rfl
def rU{α:Type}(p:Int×α)(m:List (Int×α))(k:Int)(d:α):ar (p::m) k d=if p.1=k then p.2 else ar m k d:=by
 unfold ar;rw[List.find?_cons];by_cases h:p.1=k
 ·rw[if_pos h,show(p.1 == k)=true by simpa using h];rfl
 rw[if_neg h,show(p.1 == k)=false by simpa using h]
def qt{α:Type}(p:Int×α)(m:List (Int×α))(k:Int):dU (p::m) k=(decide (p.1=k)||dU m k):=by
 unfold dU;rw[List.any_cons];congr 1
def wP{α:Type}(n:Int):∀(m:List (Int×α)),dU m n=true↔n∈eL m
 | []=>by simp[dU]
 |p::m=>by
  rw[qt,iv,wP n m,ea];simp only[eL,e7,fa];constructor<;>(rintro(h|h);exact .inl h.symm;exact .inr h)
theorem uq{α:Type}(p:Int×α)(m:List (Int×α))(k:Int)(v:α):aM (p::m) k v=if p.1=k then(k,v)::m else p::aM m k v:=rfl
def mH{α:Type}(n:Int)(v:α)(k:Int)(z:α):∀(m:List (Int×α)),ar (aM m n v) k z=if k=n then v else ar m k z
 | []=>by
  show ar [(n,v)] k z=_;rw[rU,oX];by_cases h:k=n
  ·rw[if_pos h,if_pos h.symm]
  rw[if_neg h,if_neg (hU h)]
 |p::m=>by
  have B:=mH n v k z m;rw[uq];by_cases h:p.1=n
  ·rw[if_pos h,rU,rU];by_cases j:k=n
   ·rw[if_pos j,if_pos j.symm]
   rw[if_neg j,if_neg (hU j),if_neg (by rw[h];exact hU j)]
  rw[if_neg h,rU,rU,B];by_cases j:k=n
  ·subst j;rw[if_neg h,if_pos rfl,if_pos rfl]
  rw[if_neg j,if_neg j]
def Aw{α:Type}(n:Int)(v:α)(k:Int):∀(m:List (Int×α)),dU (aM m n v) k=(decide (k=n)||dU m k)
 | []=>by
  show dU [(n,v)] k=_;rw[qt,Yz];congr 1;exact j2.2 eq_comm
 |p::m=>by
  have j:=Aw n v k m;rw[uq];by_cases h:p.1=n
  ·rw[if_pos h,qt,qt,h];rw[show decide (n=k)=decide (k=n)from j2.2 eq_comm];cases decide (k=n)<;>simp
  rw[if_neg h,qt,qt,j];cases decide (p.1=k)<;>cases decide (k=n)<;>simp
def Az{α:Type}(n:Int)(v:α):∀(m:List (Int×α)),(aM m n v).length=if dU m n=true then m.length else m.length+1
 | []=>rfl
 |p::m=>by
  have j:=Az n v m;rw[uq,qt];by_cases h:p.1=n
  ·rw[if_pos h,if_pos (by simp[h])];rfl
  rw[if_neg h,List.length_cons,j];simp only[h,decide_false,lB];split<;>simp
def Ns{α:Type}{n:Int}(v:α):∀{m:List (Int×α)},n∉eL m->aM m n v=m++[(n,v)]
 | [],_=>rfl
 |p::m,h=>by
  simp only[eL,e7,fa,not_or]at h;rw[uq,if_neg (hU h.1),Ns v h.2];rfl
def Ay{α:Type}(n:Int)(v:α)(k:Int)(m:List (Int×α)):k∈eL (aM m n v)↔k=n\/k∈eL m:=by
 rw[<-wP,Aw,iv,ea,wP]
def Nq{α:Type}(n:Int)(v:α):∀{m:List (Int×α)},(eL m).Nodup->(eL (aM m n v)).Nodup
 | [],_=>by show [n].Nodup;simp
 |p::m,h=>by
  simp only[eL,e7,h5]at h;rw[uq];by_cases e:p.1=n
  ·rw[if_pos e];simp only[eL,e7,h5];exact⟨by rw[<-e];exact h.1,h.2⟩
  rw[if_neg e];simp only[eL,e7,h5];refine⟨λj=>?_,Nq n v h.2⟩;rcases (Ay n v p.1 m).1 j with h'|h'
  ·exact e h'
  exact h.1 h'
def EN{α ρ:Type}(bad:α->Bool)(id:α->Int)(r:ρ):∀(l:List α)(z:List (Int×Bool)),cV (λ(z:List (Int×Bool)) x=>if bad x||ar z (id x) false then(.inr (.inr r):_⊕(Unit⊕ρ))else .inl (aM z (id x) true)) (λ_=>.inl ()) l z =
  if(∀x∈l,bad x=false)/\(l.map id).Nodup/\(∀x∈l,ar z (id x) false=false)then .inl ()else .inr r
 | [],z=>by simp[cV]
 |x::l,z=>by
  have N:=EN bad id r l (aM z (id x) true);simp only[cV];by_cases h:bad x||ar z (id x) false
  ·rw[if_pos h,if_neg];rintro⟨k,_,j⟩;rw[k x (by simp),j x (by simp)]at h;cases h
  rw[if_neg h];simp only[iv,not_or,k5]at h;dsimp only;rw[N];have e:((∀y∈l,bad y=false)/\(l.map id).Nodup/\∀y∈l,ar (aM z (id x) true) (id y) false=false)↔((∀y∈x::l,bad y=false)/\((x::l).map id).Nodup/\∀y∈x::l,ar z (id y) false=false):=by
   simp only[mH,fa,e7,h5,gg];constructor
   ·rintro⟨k,F,j⟩;refine⟨?_,⟨?_,F⟩,?_⟩
    ·rintro y (rfl|hy)
     ·exact h.1
     exact k y hy
    ·rintro⟨y,hy,M⟩;have:=j y hy;rw[if_pos M]at this;cases this
    rintro y (rfl|hy)
    ·exact h.2
    have:=j y hy;split at this
    ·cases this
    exact this
   rintro⟨k,⟨F,j⟩,G⟩;refine⟨λy hy=>k y (.inr hy),j,λy hy=>?_⟩;rw[if_neg λe=>F ⟨y,hy,e⟩];exact G y (.inr hy)
  by_cases B:((∀y∈x::l,bad y=false)/\((x::l).map id).Nodup/\∀y∈x::l,ar z (id y) false=false)
  ·rw[if_pos B,if_pos (e.2 B)]
  rw[if_neg B,if_neg λh=>B (e.1 h)]
def jx{α:Type}(id:α->Int)(l:List α):List (Int×α):=l.map λx=>(id x,x)
def jC{σ ρ:Type}{step:σ->Option (σ⊕ρ)}{z z':σ}(h:step z=some (.inl z')):aA step z=aA step z':=FJ h
theorem fj{σ ρ:Type}{step:σ->Option (σ⊕ρ)}{z:σ}{r:ρ}(h:step z=some (.inr r)):aA step z=some r:=uk h
def jR(n lo hi:Int):aa (ab (leI lo n) (some (leI n hi)) (some false)) (λv:Bool=>some v)=some (decide (lo<=n/\n<=hi)):=by
 by_cases h:lo<=n<;>simp[h,rH,af]
def iL{b:Bool}{p:Prop}[Decidable p](h:b=true↔p):some b=some (decide p):=dn some (gl.2 (by rw[h,ea]))
def yT(a b c:Bool):ab a (ab b (some c) (some false)) (some false)=some (a&&b&&c):=by cases a<;>cases b<;>rfl
def M4{α:Type}[DecidableEq α]{step:Int->Option (Int⊕(Unit⊕Bool))}{a b:List α}(hl:a.length=b.length)(h:∀(k:Nat) x y,a[k]?=some x->b[k]?=some y->step (k:Int)=some (if x=y then .inl ((k+1:Nat):Int)else .inr (.inr false)))(M:step (a.length:Int)=some (.inr (.inl ()))) :
  aA step 0=some (if a=b then .inl ()else .inr false):=by
 rw[nJ a.length (λk=>!decide (a[k]?=b[k]?)) false (λk B=>by
  have F:a[k]?=some a[k]:=c5 B;have G:b[k]?=some b[k]:=c5 (by omega);rw[h k _ _ F G,F,G];by_cases j:a[k]=b[k]
  ·rw[if_pos j,if_neg (by simp[j])]
  rw[if_neg j,if_pos (by simp[j])]) M]
 congr 1;by_cases j:a=b
 ·rw[if_pos j,if_neg];subst j;simp
 rw[if_neg j,if_pos];refine fl λO=>j (hX λk=>?_);by_cases B:k<a.length
 ·refine fl λN=>O (hM.2 ⟨k,ib.2 B,by simp[N]⟩)
 rw[hJ (by omega),hJ (by omega)]
def Ps{α:Type}[DecidableEq α]{beq:α->α->Bool}(M:∀a b,beq a b=decide (a=b)){a b:List α}(Y:a.length<=1048576):(ab (!(aC (a.length:Int) (b.length:Int))) (some false) (aR (aA (λB:Int=>ab (aj B (a.length:Int)) (aa (an a B) λO=>aa (an b B) λU=>ab (!(beq O U)) (some (.inr (.inr false))) (ae (ai (B+1)) <|some (.inl (B+1)))) (some (.inr (.inl ())))) 0) λ(B:Unit)=>some true))=some (decide (a=b)):=by
 by_cases hl:a.length=b.length
 ·rw[ag (by simp[hl]),M4 hl (λk x y F G=>by
   have N:=aZ F;rw[ah (by simpa using N),aY (aF F),aY (aF G),M];by_cases j:x=y
   ·rw[ag (by simp[j]),av (by omega),if_pos j];rfl
   rw[ah (by simp[j]),if_neg j]) (by rw[ag (by simp)])]
  by_cases j:a=b
  ·rw[if_pos j,ew];simp[j]
  rw[if_neg j,e9];simp[j]
 have:a≠b:=λh=>hl (by rw[h]);rw[ah (by simp;omega)];simp[this]
theorem mq{α:Type}{step:Int->Option (Int⊕(Unit⊕Int))}{l:List α}(p:α->Bool)(h:∀(k:Nat) x,l[k]?=some x->step (k:Int)=some (if p x=true then .inr (.inr (k:Int))else .inl ((k+1:Nat):Int)))(j:step (l.length:Int)=some (.inr (.inl ()))) :
  (aa (aR (aA step 0) λ_=>some (-1)) λx=>some (leI 0 x))=some (l.any p):=by
 rw[nL p h j,<-E7];unfold ix;cases l.findIdx? p<;>rfl
def uw{α:Type}(r:α->α->Bool)(l:List α)(k:Nat):Bool:=match l[k]?,l[k+1]? with
 |some a,some b=>r a b
 |_,_=>true
def my{α:Type}(r:α->α->Bool)(l:List α):Bool:=(List.range (l.length-1)).all (uw r l)
def zt{α:Type}{r:α->α->Bool}{l:List α}:my r l=true↔∀(k:Nat) a b,l[k]?=some a->l[k+1]?=some b->r a b=true:=by
 unfold my;rw[ek];constructor
 ·intro h k a b B j;have:=h k (ib.2 (by have:=aZ j;omega));unfold uw at this;rwa [B,j]at this
 intro h k F;unfold uw;split
 ·rename_i a b B j;exact h k a b B j
 rfl
def X3{α:Type}{step:Int->Option (Int⊕(Unit⊕Bool))}{l:List α}(r:α->α->Bool)(h:∀(k:Nat) a b,l[k]?=some a->l[k+1]?=some b->step ((k:Int)+1)=some (if r a b=true then .inl (k:Int)else .inr (.inr false)))(h0:∀z:Int,z<=0->step z=some (.inr (.inl ()))) :
  aA step ((l.length:Int)-1)=some (if my r l=true then .inl ()else .inr false):=by
 have key:∀n,n<l.length->aA step (n:Int)=some (if(List.range n).all (uw r l)=true then .inl ()else .inr false):=by
  intro n;induction n with
  |zero=>intro _;rw[uk (h0 _ (by simp))];rfl
  |succ n O=>
   intro N;have F:l[n]?=some l[n]:=c5 (by omega);have G:l[n+1]?=some l[n+1]:=c5 N;have B:=h n _ _ F G;have M:uw r l n=r l[n] l[n+1]:=by unfold uw;rw[F,G]
   rw[F8,List.all_append];simp only[List.all_cons,List.all_nil,p2];rw[M];by_cases j:r l[n] l[n+1]=true
   ·rw[if_pos j]at B;rw[j,p2,<-O (by omega)];exact FJ B
   rw[if_neg j]at B;rw[if_neg (by simp[j])];exact uk B
 unfold my;by_cases hl:l.length=0
 ·rw[uk (h0 _ (by omega)),hl];rfl
 have:=key (l.length-1) (by omega);rw[show((l.length-1:Nat):Int)=(l.length:Int)-1 by omega]at this;exact this
theorem DW{α:Type}{R:α->α->Prop}(B:∀a b c,R a b->R b c->R a c):∀{l:List α},(∀(k:Nat) a b,l[k]?=some a->l[k+1]?=some b->R a b)->l.Pairwise R
 | [],_=>List.Pairwise.nil
 | [a],_=>by simp
 |a::b::l,h=>by
  have j:=DW B (l:=b::l) λk x y F G=>h (k+1) x y (by simpa using F) (by simpa using G);rw[vf];refine⟨λy hy=>?_,j⟩;have h0:=h 0 a b rfl rfl;rcases fa.1 hy with rfl|hy
  ·exact h0
  exact B _ _ _ h0 ((vf.1 j).1 y hy)
def Ho{α:Type}{R:α->α->Prop}{l:List α}(h:l.Pairwise R)(k:Nat)(a b:α)(B:l[k]?=some a)(j:l[k+1]?=some b):R a b:=by
 have M:=aZ j;have F:a=l[k]:=by rw[c5 (by omega)]at B;exact(nn B).symm
 have G:b=l[k+1]:=by rw[c5 (by omega)]at j;exact(nn j).symm
 rw[F,G];exact(lb.1 h) k (k+1) (by omega) (by omega) (by omega)
def L1{α β:Type}(id:α->Int)(g:α->β):∀(l:List α)(z:List (Int×β)),(l.foldl (λm x=>aM m (id x) (g x)) z).length<=z.length+l.length/\((l.foldl (λm x=>aM m (id x) (g x)) z).length=z.length+l.length↔(l.map id).Nodup/\∀x∈l,dU z (id x)=false)
 | [],z=>by simp
 |x::l,z=>by
  obtain⟨O,M⟩:=L1 id g l (aM z (id x) (g x));have F:=Az (id x) (g x) z;rw[List.foldl_cons,List.length_cons];by_cases k:dU z (id x)=true
  ·rw[if_pos k]at F;refine⟨by omega,⟨λh=>by omega,λh=>?_⟩⟩;have:=h.2 x (by simp);rw[k]at this;cases this
  rw[if_neg k]at F;refine⟨by omega,?_⟩;rw[show(List.foldl (λm x=>aM m (id x) (g x)) (aM z (id x) (g x)) l).length=z.length+(l.length+1)↔(List.foldl (λm x=>aM m (id x) (g x)) (aM z (id x) (g x)) l).length=(aM z (id x) (g x)).length+l.length by omega,M];simp only[e7,h5,gg,fa,Aw];constructor
  ·rintro⟨B,j⟩;refine⟨⟨?_,B⟩,?_⟩
   ·rintro⟨y,hy,N⟩;have:=j y hy;simp[N]at this
   rintro y (rfl|hy)
   ·simpa using k
   have:=j y hy;simp at this;exact this.2
  rintro⟨⟨G,B⟩,j⟩;refine⟨B,λy hy=>?_⟩;rw[da (λe=>G ⟨y,hy,e⟩),j y (.inr hy)];rfl
end Go.Sy
namespace Go.Sy
open Go Go.ak Go.RowKit Go.Proofs Go.Sort
variable [aI][cz][dg]
@[reducible] noncomputable def Ee(i:Nat)(d:bT.cp i)(hi:∀x y:bT.cp i,aI.cells i x=aI.cells i y->x=y):cL (bT.cp i):=
 ⟨λx=>.agg (aI.cells i x),λz=>open Classical in if h:∃x,D.agg (aI.cells i x)=z then Classical.choose h else d,aI.sz i,
  λx=>by
  have h:∃y,D.agg (aI.cells i y)=D.agg (aI.cells i x):=⟨x,rfl⟩;have e:∀(dec:Decidable (∃y,D.agg (aI.cells i y)=D.agg (aI.cells i x))),(@dite _ _ dec (λh=>Classical.choose h) λ_=>d)=x:=λdec=>by
   rw[adK h];have:=nb h;injection this with this;exact hi _ _ this
  exact e _,
  λx=>cz.len i x,λx y j=>cz.AJ i x y j⟩
open Classical in
noncomputable def sC{α β:Type}(ok:β->α->Prop)(cf:β->α->α->Int)(a:List α×β):Option (List α):=
 if(∀x∈a.1,ok a.2 x)/\gY (cf a.2) a.1/\a.1.length<4611686018427387904 then some (fU (cf a.2) a.1)else none
theorem Qs(M:bm)[D0:bm](ao:@bm.on M)(ai:@bm.dI M=@bm.dI D0){P:Program}{g F i k:Nat}{t:Ty}(d:bT.cp i)(hi:∀x y:bT.cp i,aI.cells i x=aI.cells i y->x=y)(ab:∀x:bT.cp i,(aI.cells i x).length=k)(aq:∀(x:bT.cp i),∀y∈aI.cells i x,pA y=true){ok:t.den->bT.cp i->Prop}{cf:t.den->bT.cp i->bT.cp i->Int}(al:∀c,∃x,ok c x)(ad:∀c,SWO (ltOf (cf c)))(ah:∀c x y,ok c x->ok c y->@gA M P F ([(Ty.st i).enc x,(Ty.st i).enc y]++(t.eZ c).2) (.int .i64 (cf c x y)))(aj:ak.Enters P g)(
   ag:∀(e:Nat)(B:bT.cp i->Prop)[Inhabited {x:bT.cp i // B x}](N:bT.cp i->bT.cp i->Int),SWO (ltOf N)->∀(b c:Nat)(d:Array {x:bT.cp i // B x})(w:World)(vs:Array Value),CmpLays P F vs (λx:{x:bT.cp i // B x}=>(aI.cells i x.1).map vD) k (oE B N) b 0 d.size w->HoldsK (λx:{x:bT.cp i // B x}=>(aI.cells i x.1).map vD) k w b 0 d->b<w.heap.size->d.size<4611686018427387904 ->
   Calls P g #[.slice (some ⟨b,0,none⟩) d.size c,.func (.func F) #[] vs] w λe w'=>e=.returned (.tuple #[])/\∃n aw,w'=sortWorldK (λx:{x:bT.cp i // B x}=>(aI.cells i x.1).map vD) k w b 0 n (iM B N d) aw)(an:∀(p:Option Addr)(c:Nat)(ae:Value)(w:World),Calls P g #[.slice p 0 c,ae] w λe w'=>e=.returned (.tuple #[])/\w'=w) :
  oz P g (.st i) [.aH F t] (sC ok cf):=by
 refine⟨aj,cy rfl,λa r j l id e els ds Z hl=>?_⟩;change List (bT.cp i)×t.den at a;change List (bT.cp i)at r;obtain⟨xs,c⟩:=a;have j:sC ok cf (xs,c)=some r:=j;unfold sC at j;split at j
 ·rename_i af;injection j with j;subst j;obtain⟨O,U,Y⟩:=af;have O:∀x∈xs,ok c x:=O;have U:gY (cf c) xs:=U;have Y:xs.length<4611686018427387904:=Y;have Z:[Ty.enc (.list (.st i)) xs,Ty.enc (.aH F t) c]=D.slice (Ty.st i).size els::ds:=Z;injection Z with G ax;subst ax;have G:D.slice (Ty.st i).size (xs.map (Ty.st i).enc)=D.slice (Ty.st i).size els:=G;injection G with _ G;subst G;have ar:(Ty.st i).size=k:=by rw[<-ab d];exact(cz.len i d).symm
  rw[ar]at hl⊢;obtain⟨ay,av⟩:=al c;haveI:Inhabited {x:bT.cp i // ok c x}:=⟨⟨ay,av⟩⟩;letI:cL (bT.cp i):=Ee i d hi;exact @Wx (bT.cp i) (Ee i d hi) M D0 ao ai P g F e k (t.eZ c).2 (ok c) _ (cf c) ⟨λx=>rfl,λx=>ab x,λx y aa=>aq x y aa⟩ (ad c) (λx y au aa=>ah c x y au aa)
   (ag e (ok c) (cf c) (ad c)) an l id xs hl Y O U
 cases j
end Go.Sy
namespace Go.ak
open Go Go.RowKit cL Go.Proofs Go.Sort
section
variable {α:Type}[cL α]
variable {α:Type}
variable {ok:α->Prop}[Inhabited {x:α // ok x}]
variable {α:Type}[cL α]
theorem Wy(B:bm)[D0:bm](aw:@bm.on B)(ak:@bm.dI B=@bm.dI D0){P:Program}{g j e k:Nat}{ok:α->Prop}[Inhabited {x:α // ok x}]{cf:α->α->Int}(F:Flat α k)(Y:SWO (ltOf cf))(ai:∀x y,ok x->ok y->@gA B P j ([enc x,enc y]++[]) (.int .i64 (cf x y)))(
   ah:∀(b c:Nat)(d:Array {x:α // ok x})(w:World)(vs:Array Value),CmpLays P j vs (λx:{x:α // ok x}=>gX x.1) k (oE ok cf) b 0 d.size w->HoldsK (λx:{x:α // ok x}=>gX x.1) k w b 0 d->b<w.heap.size->d.size<4611686018427387904 ->
   Calls P g #[.slice (some ⟨b,0,none⟩) d.size c,.func (.func j) #[] vs] w λe w'=>e=.returned (.tuple #[])/\∃n N,w'=sortWorldK (λx:{x:α // ok x}=>gX x.1) k w b 0 n (iM ok cf d) N)(aq:∀(p:Option Addr)(c:Nat)(M:Value)(w:World),Calls P g #[.slice p 0 c,M] w λe w'=>e=.returned (.tuple #[])/\w'=w){l:List AO}{id:Nat}{xs:List α}(ar:l[id]?=some (.row e k (xs.map enc)))(Z:xs.length<4611686018427387904)(av:∀x∈xs,ok x)(af:gY cf xs) :
  sU P g [.row id,.d (.fn j)] l (.d (.aL [])) (l.set id (.row e k ((fU cf xs).map enc))):=by
 obtain⟨O,U,ao⟩:=PQ Y av af;have au:l[id]?=some (.row e k (O.map λx:{x:α // ok x}=>(enc x.1:D))):=by rw[ar,<-U,k7];rfl
 have:=PV (P:=P) (g:=g) (fd:=.fn j) (S:=iM ok cf) (venc:=λx:{x:α // ok x}=>gX x.1) (denc:=λx:{x:α // ok x}=>(enc x.1:D)) (λd=>(H3 Y d).1.1)
  (
   λb c d w I M ae ag aj an ax=>by
   obtain⟨vs,rfl,ab,ad⟩:∃vs,M=.func (.func j) #[] vs/\vs.size=([]:List D).length/\∀(i:Nat) v d,vs[i]?=some v->([]:List D)[i]?=some d->Rd I v d:=by
    cases an;exact⟨#[],rfl,rfl,by simp⟩
   exact ah b c d w vs (@KG B _ _ aw _ _ _ _ (λx:{x:α // ok x}=>(enc x.1:D)) _ _ (λx y=>ai x.1 y.1 x.2 y.2) (λI x=>F.rd I x.1) _ _ _ _ I _ ab ad (λmm N aa al=>by
    have G:=ax mm N aa al;exact @cZ.mk B _ _ G.cell G.mp G.df (λg d h=>G.dK g d (by rw[<-ak];exact h)))) ae ag aj) aq
  (λx=>by simp[gX,F.len]) (λx=>⟨F.len x.1,λy ay=>HR (F.sc x.1 y ay)⟩) (λI x=>F.vd I x.1) (λI x=>F.dv I x.1) au (by rw[<-U]at Z;simpa using Z)
 have e:(iM ok cf O.toArray).toList.map (λx:{x:α // ok x}=>(enc x.1:D))=(fU cf xs).map enc:=by rw[<-ao,k7];rfl
 rw[e]at this;exact this
end
end Go.ak
namespace Go.Proofs.YthhlipkkjippfaaGreatDoor
open Go Go.ak Go.Sy
abbrev zI:D:=.int .i64 0
def zs(n:Nat):List D:=List.replicate n zI
def C1:List (Nat×TI):=[(2,⟨1,8,[zI],.dE .i64⟩),
 (3,⟨1,8,[zI],.dE .i64⟩),
 (4,⟨1,1,[.bool false],.jJ⟩),
 (5,⟨1,1,[.int .u8 0],.dE .u8⟩),
 (6,⟨1,1,[.int .u8 0],.dE .u8⟩),
 (7,⟨4,24,[zI,zI,.bool false,.int .u8 0],.struct [(0,2),(1,3),(2,4),(3,6)]⟩),
 (8,⟨4,24,[zI,zI,.bool false,.int .u8 0],.struct [(0,2),(1,3),(2,4),(3,6)]⟩),
 (9,⟨1,16,[.str ⟨#[]⟩],.string⟩),
 (10,⟨1,16,[.str ⟨#[]⟩],.string⟩),
 (11,⟨1,16,[.str ⟨#[]⟩],.string⟩),
 (12,⟨1,8,[.int .u64 0],.dE .u64⟩),
 (13,⟨2,24,[.str ⟨#[]⟩,.int .u64 0],.struct [(0,9),(1,12)]⟩),
 (14,⟨2,24,[.str ⟨#[]⟩,.int .u64 0],.struct [(0,9),(1,12)]⟩),
 (15,⟨1,8,[.dV],.jJ⟩),
 (16,⟨1,8,[.dV],.jJ⟩),
 (17,⟨1,8,[.dV],.jJ⟩),
 (18,⟨1,8,[.dV],.struct [(0,17)]⟩),
 (19,⟨1,8,[.dV],.struct [(0,17)]⟩),
 (21,⟨1,4,[.int .i32 0],.dE .i32⟩),
 (22,⟨1,24,[.slice 4 []],.slice 79⟩),
 (23,⟨1,24,[.slice 13 []],.slice 95⟩),
 (24,⟨1,24,[.slice 12 []],.slice 126⟩),
 (25,⟨4,80,[zI,.slice 4 [],.slice 13 [],.slice 12 []],.struct [(0,3),(1,22),(2,23),(3,24)]⟩),
 (26,⟨4,80,[zI,.slice 4 [],.slice 13 [],.slice 12 []],.struct [(0,3),(1,22),(2,23),(3,24)]⟩),
 (27,⟨1,24,[.slice 3 []],.slice 68⟩),
 (28,⟨1,24,[.slice 3 []],.slice 269⟩),
 (29,⟨3,24,zs 3,.struct [(0,3),(1,3),(2,3)]⟩),
 (30,⟨3,24,zs 3,.struct [(0,3),(1,3),(2,3)]⟩),
 (31,⟨1,24,[.slice 3 []],.slice 70⟩),
 (32,⟨7,104,[zI,.slice 3 [],.slice 3 [],zI,zI,zI,.slice 3 []],.struct [(0,3),(1,27),(2,28),(3,30),(6,31)]⟩),
 (33,⟨7,104,[zI,.slice 3 [],.slice 3 [],zI,zI,zI,.slice 3 []],.struct [(0,3),(1,27),(2,28),(3,30),(6,31)]⟩),
 (34,⟨1,24,[.slice 3 []],.slice 364⟩),
 (35,⟨12,208,[zI,.slice 4 [],.slice 13 [],.slice 12 [],zI,.slice 3 [],.slice 3 [],zI,zI,zI,.slice 3 [],.slice 3 []],.struct [(0,26),(4,33),(11,34)]⟩),
 (36,⟨12,208,[zI,.slice 4 [],.slice 13 [],.slice 12 [],zI,.slice 3 [],.slice 3 [],zI,zI,zI,.slice 3 [],.slice 3 []],.struct [(0,26),(4,33),(11,34)]⟩),
 (37,⟨1,24,[.slice 1 []],.slice 3⟩),
 (38,⟨9,136,[zI,zI,.slice 3 [],.slice 3 [],zI,zI,zI,.slice 3 [],.slice 1 []],.struct [(0,3),(1,33),(8,37)]⟩),
 (39,⟨9,136,[zI,zI,.slice 3 [],.slice 3 [],zI,zI,zI,.slice 3 [],.slice 1 []],.struct [(0,3),(1,33),(8,37)]⟩),
 (40,⟨1,24,[.slice 2 []],.slice 65⟩),
 (44,⟨1,24,[.slice 8 []],.slice 62⟩),
 (45,⟨1,8,[zI],.dE .i64⟩),
 (54,⟨1,8,[.map [] []],.map 3 4⟩),
 (57,⟨2,16,[zI,zI],.struct [(0,3),(1,3)]⟩),
 (58,⟨2,16,[zI,zI],.struct [(0,3),(1,3)]⟩),
 (59,⟨3,24,zs 3,.struct [(0,3),(1,3),(2,3)]⟩),
 (60,⟨3,24,zs 3,.struct [(0,3),(1,3),(2,3)]⟩),
 (61,⟨8,64,zs 8,.struct [(0,3),(1,58),(3,58),(5,60)]⟩),
 (62,⟨8,64,zs 8,.struct [(0,3),(1,58),(3,58),(5,60)]⟩),
 (63,⟨1,24,[.slice 5 []],.slice 138⟩),
 (64,⟨2,32,[zI,.slice 5 []],.struct [(0,3),(1,63)]⟩),
 (65,⟨2,32,[zI,.slice 5 []],.struct [(0,3),(1,63)]⟩),
 (67,⟨3,24,zs 3,.struct [(0,3),(1,3),(2,3)]⟩),
 (68,⟨3,24,zs 3,.struct [(0,3),(1,3),(2,3)]⟩),
 (69,⟨3,24,zs 3,.struct [(0,3),(1,3),(2,3)]⟩),
 (70,⟨3,24,zs 3,.struct [(0,3),(1,3),(2,3)]⟩),
 (72,⟨1,24,[.slice 2 []],.slice 75⟩),
 (74,⟨2,16,[zI,zI],.struct [(0,3),(1,3)]⟩),
 (75,⟨2,16,[zI,zI],.struct [(0,3),(1,3)]⟩),
 (78,⟨4,32,zs 4,.struct [(0,3),(1,58),(3,3)]⟩),
 (79,⟨4,32,zs 4,.struct [(0,3),(1,58),(3,3)]⟩),
 (92,⟨2,16,[zI,zI],.struct [(0,3),(1,3)]⟩),
 (93,⟨2,16,[zI,zI],.struct [(0,3),(1,3)]⟩),
 (94,⟨13,104,zs 13,.struct [(0,3),(1,3),(2,3),(3,3),(4,3),(5,93),(7,60),(10,60)]⟩),
 (95,⟨13,104,zs 13,.struct [(0,3),(1,3),(2,3),(3,3),(4,3),(5,93),(7,60),(10,60)]⟩),
 (97,⟨1,8,[.dV],.jJ⟩),
 (108,⟨1,8,[.map [] []],.map 3 40⟩),
 (116,⟨2,16,[zI,zI],.struct [(0,3),(1,3)]⟩),
 (117,⟨2,16,[zI,zI],.struct [(0,3),(1,3)]⟩),
 (125,⟨12,96,zs 12,.struct [(0,3),(1,3),(2,3),(3,3),(4,3),(5,58),(7,58),(9,60)]⟩),
 (126,⟨12,96,zs 12,.struct [(0,3),(1,3),(2,3),(3,3),(4,3),(5,58),(7,58),(9,60)]⟩),
 (129,⟨7,104,[zI,.slice 3 [],.slice 3 [],zI,zI,zI,.slice 3 []],.struct [(0,33)]⟩),
 (130,⟨7,104,[zI,.slice 3 [],.slice 3 [],zI,zI,zI,.slice 3 []],.struct [(0,33)]⟩),
 (136,⟨1,24,[.slice 10 []],.slice 170⟩),
 (137,⟨5,56,[zI,zI,zI,zI,.slice 10 []],.struct [(0,3),(1,3),(2,58),(4,136)]⟩),
 (138,⟨5,56,[zI,zI,zI,zI,.slice 10 []],.struct [(0,3),(1,3),(2,58),(4,136)]⟩),
 (140,⟨15,264,[zI,.slice 4 [],.slice 13 [],.slice 12 [],zI,zI,.slice 3 [],.slice 3 [],zI,zI,zI,.slice 3 [],.slice 1 [],.slice 2 [],.slice 8 []],.struct [(0,26),(4,39),(13,72),(14,44)]⟩),
 (141,⟨15,264,[zI,.slice 4 [],.slice 13 [],.slice 12 [],zI,zI,.slice 3 [],.slice 3 [],zI,zI,zI,.slice 3 [],.slice 1 [],.slice 2 [],.slice 8 []],.struct [(0,26),(4,39),(13,72),(14,44)]⟩),
 (144,⟨13,104,zs 13,.struct [(0,95)]⟩),
 (145,⟨13,104,zs 13,.struct [(0,95)]⟩),
 (152,⟨1,8,[.map [] []],.map 3 24⟩),
 (169,⟨10,80,zs 10,.struct [(0,3),(1,3),(2,3),(3,58),(5,58),(7,60)]⟩),
 (170,⟨10,80,zs 10,.struct [(0,3),(1,3),(2,3),(3,58),(5,58),(7,60)]⟩),
 (176,⟨1,8,[.map [] []],.map 3 170⟩),
 (206,⟨1,8,[.map [] []],.map 3 3⟩),
 (234,⟨1,8,[.int .u64 0],.dE .u64⟩),
 (249,⟨1,8,[.map [] []],.map 3 95⟩),
 (269,⟨3,24,zs 3,.struct [(0,3),(1,3),(2,3)]⟩),
 (272,⟨1,8,[.map [] []],.map 70 4⟩),
 (281,⟨7,56,zs 7,.array 7 3⟩),
 (283,⟨1,8,[zI],.dE .i64⟩),
 (290,⟨1,4,[.int .u32 0],.dE .u32⟩),
 (292,⟨1,8,[.int .u64 0],.dE .u64⟩),
 (311,⟨1,8,[.int .u64 0],.dE .u64⟩),
 (315,⟨1,8,[.dV],.jJ⟩),
 (327,⟨1,8,[.dV],.jJ⟩),
 (349,⟨4,40,[.dV,.dV,.dV,.str ⟨#[]⟩],.struct [(0,17),(1,17),(2,17),(3,9)]⟩),
 (350,⟨4,40,[.dV,.dV,.dV,.str ⟨#[]⟩],.struct [(0,17),(1,17),(2,17),(3,9)]⟩),
 (351,⟨0,0,[],.array 0 16⟩),
 (352,⟨0,0,[],.struct [(0,351)]⟩),
 (353,⟨0,0,[],.struct [(0,351)]⟩),
 (355,⟨1,1,[.int .u8 0],.dE .u8⟩),
 (356,⟨1,1,[.int .u8 0],.dE .u8⟩),
 (358,⟨1,8,[.dV],.jJ⟩),
 (359,⟨1,4,[.int .i32 0],.dE .i32⟩),
 (360,⟨1,4,[.int .i32 0],.dE .i32⟩),
 (361,⟨11,48,[.int .u64 0,.int .u64 0,.int .u32 0,.int .u8 0,.int .u8 0,.int .u8 0,.int .u8 0,.kg,.dV,.int .i32 0,.int .i32 0],.struct [(0,12),(1,12),(2,290),(3,355),(4,5),(5,5),(6,356),(7,357),(8,358),(9,359),(10,360)]⟩),
 (362,⟨11,48,[.int .u64 0,.int .u64 0,.int .u32 0,.int .u8 0,.int .u8 0,.int .u8 0,.int .u8 0,.kg,.dV,.int .i32 0,.int .i32 0],.struct [(0,12),(1,12),(2,290),(3,355),(4,5),(5,5),(6,356),(7,357),(8,358),(9,359),(10,360)]⟩),
 (363,⟨3,24,zs 3,.struct [(0,3),(1,58)]⟩),
 (364,⟨3,24,zs 3,.struct [(0,3),(1,58)]⟩)]++[1,41,42,43,47,48,49,51,52,53,56,66,71,73,77,81,82,83,85,86,88,90,91,96,99,101,102,103,104,105,106,107,109,111,112,113,114,115,118,119,120,121,122,123,124,127,128,131,132,133,134,135,139,143,147,148,149,150,151,153,154,155,156,157,158,159,160,161,162,163,164,165,166,168,171,172,173,174,175,178,179,180,181,182,183,184,185,186,188,189,190,191,192,193,194,195,196,197,198,199,200,201,202,203,204,205,207,208,209,210,211,212,213,214,215,216,217,218,219,220,222,223,224,225,226,227,228,229,230,231,232,233,235,236,237,238,239,240,241,242,243,244,245,246,247,248,251,252,253,254,255,256,257,258,259,260,261,262,263,264,265,266,267,268,270,271,273,274,275,276,277,278,280,282,285,286,287,288,289,291,293,295,296,297,298,299,300,301,302,303,304,305,306,308,310,312,313,314,316,317,318,319,320,321,322,323,324,325,326,328,329,330,331,332,333,334,335,336,337,338,339,340,341,342,343,344,345,346,347,348,354,357].map λn=>(n,⟨1,8,[.kg],.jJ⟩)
def lC:cn:=λt=>(C1.find? λp=>Nat.beq p.1 t).map (·.2)
structure Rat where
 n:Int
 d:Int
 deriving DecidableEq
structure aT where
 id:Int
 length:Rat
 key:Int
 deriving DecidableEq
structure Interval where
 steps:Int
 bL:Int
 deriving DecidableEq
structure aV where
 step:Int
 alter:Int
 aO:Int
 deriving DecidableEq
structure Part where
 id:Int
 oi:Int
 of:Int
 aO:Int
 dC:Int
 shift:Interval
 low:aV
 high:aV
 deriving DecidableEq
structure aq where
 id:Int
 part:Int
 aw:Int
 aS:Int
 br:Int
 start:Rat
 length:Rat
 aN:aV
 deriving DecidableEq
structure Score where
 version:Int
 bars:(List aT)
 parts:(List Part)
 notes:(List aq)
 deriving DecidableEq
structure Jump where
 at_:Int
 to:Int
 de:Int
 deriving DecidableEq
structure Repeat where
 from_:Int
 aW:Int
 times:Int
 deriving DecidableEq
structure Ending where
 from_:Int
 aW:Int
 pass:Int
 deriving DecidableEq
structure Cut where
 from_:Int
 aW:Int
 pass:Int
 deriving DecidableEq
structure Form where
 bars:Int
 bg:(List Repeat)
 bC:(List Ending)
 jump:Jump
 bd:(List Cut)
 deriving DecidableEq
structure sZ where
 aw:Int
 quarter:Rat
 deriving DecidableEq
structure c8 where
 score:Score
 form:Form
 Il:(List sZ)
 deriving DecidableEq
structure Room where
 version:Int
 form:Form
 bp:(List Int)
 deriving DecidableEq
structure ay where
 part:Int
 start:Rat
 length:Rat
 aN:aV
 deriving DecidableEq
structure Written where
 id:Int
 aS:Int
 br:Int
 start:Rat
 length:Rat
 aN:aV
 deriving DecidableEq
structure aB where
 aw:Int
 key:Int
 length:Rat
 notes:(List Written)
 deriving DecidableEq
structure View where
 part:Int
 aK:(List aB)
 deriving DecidableEq
structure aE where
 aw:Int
 pass:Int
 deriving DecidableEq
structure Fraction where
 n:Int
 d:Int
 deriving DecidableEq
structure Order where
 form:Form
 deriving DecidableEq
structure yP where
 score:Score
 room:Room
 QH:(List aE)
 Qj:(List ay)
 deriving DecidableEq
structure Reader where
 part:Part
 deriving DecidableEq
def cp:Nat->Type
 |0=>Rat
 |1=>aT
 |2=>Interval
 |3=>aV
 |4=>Part
 |5=>aq
 |6=>Score
 |7=>Jump
 |8=>Repeat
 |9=>Ending
 |10=>Cut
 |11=>Form
 |12=>sZ
 |13=>c8
 |14=>Room
 |15=>ay
 |16=>Written
 |17=>aB
 |18=>View
 |19=>aE
 |20=>Fraction
 |21=>Order
 |22=>yP
 |23=>Reader
 |_+24=>Unit
instance:bT:=⟨cp⟩
def bW:Nat->List Ty
 |0=>[.int .i64,.int .i64]
 |1=>[.int .i64,.st 0,.int .i64]
 |2=>[.int .i64,.int .i64]
 |3=>[.int .i64,.int .i64,.int .i64]
 |4=>[.int .i64,.int .i64,.int .i64,.int .i64,.int .i64,.st 2,.st 3,.st 3]
 |5=>[.int .i64,.int .i64,.int .i64,.int .i64,.int .i64,.st 0,.st 0,.st 3]
 |6=>[.int .i64,.list (.st 1),.list (.st 4),.list (.st 5)]
 |7=>[.int .i64,.int .i64,.int .i64]
 |8=>[.int .i64,.int .i64,.int .i64]
 |9=>[.int .i64,.int .i64,.int .i64]
 |10=>[.int .i64,.int .i64,.int .i64]
 |11=>[.int .i64,.list (.st 8),.list (.st 9),.st 7,.list (.st 10)]
 |12=>[.int .i64,.st 0]
 |13=>[.st 6,.st 11,.list (.st 12)]
 |14=>[.int .i64,.st 11,.list (.int .i64)]
 |15=>[.int .i64,.st 0,.st 0,.st 3]
 |16=>[.int .i64,.int .i64,.int .i64,.st 0,.st 0,.st 3]
 |17=>[.int .i64,.int .i64,.st 0,.list (.st 16)]
 |18=>[.int .i64,.list (.st 17)]
 |19=>[.int .i64,.int .i64]
 |20=>[.int .i64,.int .i64]
 |21=>[.st 11]
 |22=>[.st 6,.st 14,.list (.st 19),.list (.st 15)]
 |23=>[.st 4]
 |_+24=>[]
def szs:Nat->Nat
 |0=>2
 |1=>4
 |2=>2
 |3=>3
 |4=>13
 |5=>12
 |6=>4
 |7=>3
 |8=>3
 |9=>3
 |10=>3
 |11=>7
 |12=>3
 |13=>12
 |14=>9
 |15=>8
 |16=>10
 |17=>5
 |18=>2
 |19=>2
 |20=>2
 |21=>7
 |22=>15
 |23=>13
 |_+24=>0
def un:∀i,cp i->(aP (bW i)).den
 |0=>λ(x:Rat)=>(x.n,x.d)
 |1=>λ(x:aT)=>(x.id,x.length,x.key)
 |2=>λ(x:Interval)=>(x.steps,x.bL)
 |3=>λ(x:aV)=>(x.step,x.alter,x.aO)
 |4=>λ(x:Part)=>(x.id,x.oi,x.of,x.aO,x.dC,x.shift,x.low,x.high)
 |5=>λ(x:aq)=>(x.id,x.part,x.aw,x.aS,x.br,x.start,x.length,x.aN)
 |6=>λ(x:Score)=>(x.version,x.bars,x.parts,x.notes)
 |7=>λ(x:Jump)=>(x.at_,x.to,x.de)
 |8=>λ(x:Repeat)=>(x.from_,x.aW,x.times)
 |9=>λ(x:Ending)=>(x.from_,x.aW,x.pass)
 |10=>λ(x:Cut)=>(x.from_,x.aW,x.pass)
 |11=>λ(x:Form)=>(x.bars,x.bg,x.bC,x.jump,x.bd)
 |12=>λ(x:sZ)=>(x.aw,x.quarter)
 |13=>λ(x:c8)=>(x.score,x.form,x.Il)
 |14=>λ(x:Room)=>(x.version,x.form,x.bp)
 |15=>λ(x:ay)=>(x.part,x.start,x.length,x.aN)
 |16=>λ(x:Written)=>(x.id,x.aS,x.br,x.start,x.length,x.aN)
 |17=>λ(x:aB)=>(x.aw,x.key,x.length,x.notes)
 |18=>λ(x:View)=>(x.part,x.aK)
 |19=>λ(x:aE)=>(x.aw,x.pass)
 |20=>λ(x:Fraction)=>(x.n,x.d)
 |21=>λ(x:Order)=>(x.form)
 |22=>λ(x:yP)=>(x.score,x.room,x.QH,x.Qj)
 |23=>λ(x:Reader)=>(x.part)
 |_+24=>λ_=>()
def eH:∀i,(aP (bW i)).den->cp i
 |0=>λx=>(⟨x.1,x.2⟩:Rat)
 |1=>λx=>(⟨x.1,x.2.1,x.2.2⟩:aT)
 |2=>λx=>(⟨x.1,x.2⟩:Interval)
 |3=>λx=>(⟨x.1,x.2.1,x.2.2⟩:aV)
 |4=>λx=>(⟨x.1,x.2.1,x.2.2.1,x.2.2.2.1,x.2.2.2.2.1,x.2.2.2.2.2.1,x.2.2.2.2.2.2.1,x.2.2.2.2.2.2.2⟩:Part)
 |5=>λx=>(⟨x.1,x.2.1,x.2.2.1,x.2.2.2.1,x.2.2.2.2.1,x.2.2.2.2.2.1,x.2.2.2.2.2.2.1,x.2.2.2.2.2.2.2⟩:aq)
 |6=>λx=>(⟨x.1,x.2.1,x.2.2.1,x.2.2.2⟩:Score)
 |7=>λx=>(⟨x.1,x.2.1,x.2.2⟩:Jump)
 |8=>λx=>(⟨x.1,x.2.1,x.2.2⟩:Repeat)
 |9=>λx=>(⟨x.1,x.2.1,x.2.2⟩:Ending)
 |10=>λx=>(⟨x.1,x.2.1,x.2.2⟩:Cut)
 |11=>λx=>(⟨x.1,x.2.1,x.2.2.1,x.2.2.2.1,x.2.2.2.2⟩:Form)
 |12=>λx=>(⟨x.1,x.2⟩:sZ)
 |13=>λx=>(⟨x.1,x.2.1,x.2.2⟩:c8)
 |14=>λx=>(⟨x.1,x.2.1,x.2.2⟩:Room)
 |15=>λx=>(⟨x.1,x.2.1,x.2.2.1,x.2.2.2⟩:ay)
 |16=>λx=>(⟨x.1,x.2.1,x.2.2.1,x.2.2.2.1,x.2.2.2.2.1,x.2.2.2.2.2⟩:Written)
 |17=>λx=>(⟨x.1,x.2.1,x.2.2.1,x.2.2.2⟩:aB)
 |18=>λx=>(⟨x.1,x.2⟩:View)
 |19=>λx=>(⟨x.1,x.2⟩:aE)
 |20=>λx=>(⟨x.1,x.2⟩:Fraction)
 |21=>λx=>(⟨x⟩:Order)
 |22=>λx=>(⟨x.1,x.2.1,x.2.2.1,x.2.2.2⟩:yP)
 |23=>λx=>(⟨x⟩:Reader)
 |_+24=>λ_=>()
def DQ(x:Rat):List D:=[.int .i64 x.n,.int .i64 x.d]
def zm(x:aT):List D:=[.int .i64 x.id,.int .i64 x.length.n,.int .i64 x.length.d,.int .i64 x.key]
def DR(x:Interval):List D:=[.int .i64 x.steps,.int .i64 x.bL]
def UW(x:aV):List D:=[.int .i64 x.step,.int .i64 x.alter,.int .i64 x.aO]
def zp(x:Part):List D:=[.int .i64 x.id,.int .i64 x.oi,.int .i64 x.of,.int .i64 x.aO,.int .i64 x.dC,.int .i64 x.shift.steps,.int .i64 x.shift.bL,.int .i64 x.low.step,.int .i64 x.low.alter,.int .i64 x.low.aO,.int .i64 x.high.step,.int .i64 x.high.alter,.int .i64 x.high.aO]
def tj(x:aq):List D:=[.int .i64 x.id,.int .i64 x.part,.int .i64 x.aw,.int .i64 x.aS,.int .i64 x.br,.int .i64 x.start.n,.int .i64 x.start.d,.int .i64 x.length.n,.int .i64 x.length.d,.int .i64 x.aN.step,.int .i64 x.aN.alter,.int .i64 x.aN.aO]
def UX(x:Score):List D:=[.int .i64 x.version,.slice 4 (List.map (λy=>D.agg (zm y)) x.bars),.slice 13 (List.map (λy=>D.agg (zp y)) x.parts),.slice 12 (List.map (λy=>D.agg (tj y)) x.notes)]
def DT(x:Jump):List D:=[.int .i64 x.at_,.int .i64 x.to,.int .i64 x.de]
def tn(x:Repeat):List D:=[.int .i64 x.from_,.int .i64 x.aW,.int .i64 x.times]
def tp(x:Ending):List D:=[.int .i64 x.from_,.int .i64 x.aW,.int .i64 x.pass]
def pX(x:Cut):List D:=[.int .i64 x.from_,.int .i64 x.aW,.int .i64 x.pass]
def UO(x:Form):List D:=[.int .i64 x.bars,.slice 3 (List.map (λy=>D.agg (tn y)) x.bg),.slice 3 (List.map (λy=>D.agg (tp y)) x.bC),.int .i64 x.jump.at_,.int .i64 x.jump.to,.int .i64 x.jump.de,.slice 3 (List.map (λy=>D.agg (pX y)) x.bd)]
def Ky(x:sZ):List D:=[.int .i64 x.aw,.int .i64 x.quarter.n,.int .i64 x.quarter.d]
def UP(x:c8):List D:=[.int .i64 x.score.version,.slice 4 (List.map (λy=>D.agg (zm y)) x.score.bars),.slice 13 (List.map (λy=>D.agg (zp y)) x.score.parts),.slice 12 (List.map (λy=>D.agg (tj y)) x.score.notes),.int .i64 x.form.bars,.slice 3 (List.map (λy=>D.agg (tn y)) x.form.bg),.slice 3 (List.map (λy=>D.agg (tp y)) x.form.bC),.int .i64 x.form.jump.at_,.int .i64 x.form.jump.to,.int .i64 x.form.jump.de,.slice 3 (List.map (λy=>D.agg (pX y)) x.form.bd),.slice 3 (List.map (λy=>D.agg (Ky y)) x.Il)]
def UQ(x:Room):List D:=[.int .i64 x.version,.int .i64 x.form.bars,.slice 3 (List.map (λy=>D.agg (tn y)) x.form.bg),.slice 3 (List.map (λy=>D.agg (tp y)) x.form.bC),.int .i64 x.form.jump.at_,.int .i64 x.form.jump.to,.int .i64 x.form.jump.de,.slice 3 (List.map (λy=>D.agg (pX y)) x.form.bd),.slice 1 (List.map (λy=>D.int .i64 y) x.bp)]
def zn(x:ay):List D:=[.int .i64 x.part,.int .i64 x.start.n,.int .i64 x.start.d,.int .i64 x.length.n,.int .i64 x.length.d,.int .i64 x.aN.step,.int .i64 x.aN.alter,.int .i64 x.aN.aO]
def zo(x:Written):List D:=[.int .i64 x.id,.int .i64 x.aS,.int .i64 x.br,.int .i64 x.start.n,.int .i64 x.start.d,.int .i64 x.length.n,.int .i64 x.length.d,.int .i64 x.aN.step,.int .i64 x.aN.alter,.int .i64 x.aN.aO]
def Kz(x:aB):List D:=[.int .i64 x.aw,.int .i64 x.key,.int .i64 x.length.n,.int .i64 x.length.d,.slice 10 (List.map (λy=>D.agg (zo y)) x.notes)]
def UR(x:View):List D:=[.int .i64 x.part,.slice 5 (List.map (λy=>D.agg (Kz y)) x.aK)]
def KA(x:aE):List D:=[.int .i64 x.aw,.int .i64 x.pass]
def DS(x:Fraction):List D:=[.int .i64 x.n,.int .i64 x.d]
def US(x:Order):List D:=[.int .i64 x.form.bars,.slice 3 (List.map (λy=>D.agg (tn y)) x.form.bg),.slice 3 (List.map (λy=>D.agg (tp y)) x.form.bC),.int .i64 x.form.jump.at_,.int .i64 x.form.jump.to,.int .i64 x.form.jump.de,.slice 3 (List.map (λy=>D.agg (pX y)) x.form.bd)]
def UT(x:yP):List D:=[.int .i64 x.score.version,.slice 4 (List.map (λy=>D.agg (zm y)) x.score.bars),.slice 13 (List.map (λy=>D.agg (zp y)) x.score.parts),.slice 12 (List.map (λy=>D.agg (tj y)) x.score.notes),.int .i64 x.room.version,.int .i64 x.room.form.bars,.slice 3 (List.map (λy=>D.agg (tn y)) x.room.form.bg),.slice 3 (List.map (λy=>D.agg (tp y)) x.room.form.bC),.int .i64 x.room.form.jump.at_,.int .i64 x.room.form.jump.to,.int .i64 x.room.form.jump.de,.slice 3 (List.map (λy=>D.agg (pX y)) x.room.form.bd),.slice 1 (List.map (λy=>D.int .i64 y) x.room.bp),.slice 2 (List.map (λy=>D.agg (KA y)) x.QH),.slice 8 (List.map (λy=>D.agg (zn y)) x.Qj)]
def UU(x:Reader):List D:=[.int .i64 x.part.id,.int .i64 x.part.oi,.int .i64 x.part.of,.int .i64 x.part.aO,.int .i64 x.part.dC,.int .i64 x.part.shift.steps,.int .i64 x.part.shift.bL,.int .i64 x.part.low.step,.int .i64 x.part.low.alter,.int .i64 x.part.low.aO,.int .i64 x.part.high.step,.int .i64 x.part.high.alter,.int .i64 x.part.high.aO]
abbrev vS(a b:Rat):Bool:=c9 (DQ a) (DQ b)
abbrev Kj(a b:Interval):Bool:=c9 (DR a) (DR b)
abbrev Kl(a b:aq):Bool:=c9 (tj a) (tj b)
abbrev DL(a b:Jump):Bool:=c9 (DT a) (DT b)
abbrev Kh(a b:Cut):Bool:=c9 (pX a) (pX b)
abbrev Km(a b:ay):Bool:=c9 (zn a) (zn b)
abbrev rh(a b:Written):Bool:=c9 (zo a) (zo b)
abbrev Ki(a b:Fraction):Bool:=c9 (DS a) (DS b)
def cells:∀i,cp i->List D
 |0=>DQ
 |1=>zm
 |2=>DR
 |3=>UW
 |4=>zp
 |5=>tj
 |6=>UX
 |7=>DT
 |8=>tn
 |9=>tp
 |10=>pX
 |11=>UO
 |12=>Ky
 |13=>UP
 |14=>UQ
 |15=>zn
 |16=>zo
 |17=>Kz
 |18=>UR
 |19=>KA
 |20=>DS
 |21=>US
 |22=>UT
 |23=>UU
 |_+24=>λ_=>[]
def pI(i x):un i (eH i x)=x:=by(iterate 24 (rcases i with _|i;rfl));rfl
def Ga(i x):eH i (un i x)=x:=by(iterate 24 (rcases i with _|i;rfl));rfl
def YL:List Int:=[0,2,4,5,7,9,11]
def qh:Nat->Option (List Int):=λg=>bif Nat.beq g 0 then some YL else none
instance:aI:=⟨bW,szs,un,eH,cells,pI,Ga,qh⟩
def fX:List (Nat×Ty):=[(2,.int .i64),(3,.int .i64),(4,.bool),(5,.int .u8),(6,.int .u8),(9,.str),(10,.str),(11,.str),(12,.int .u64),(21,.int .i32),(22,.list (.st 1)),(23,.list (.st 4)),(24,.list (.st 5)),(25,.st 6),(26,.st 6),(27,.list (.st 8)),(28,.list (.st 9)),(29,.st 7),(30,.st 7),(31,.list (.st 10)),(32,.st 11),(33,.st 11),(34,.list (.st 12)),(35,.st 13),(36,.st 13),(37,.list (.int .i64)),(38,.st 14),(39,.st 14),(40,.list (.st 18)),(44,.list (.st 15)),(45,.int .i64),(54,.map (.int .i64) (.bool)),(57,.st 0),(58,.st 0),(59,.st 3),(60,.st 3),(61,.st 15),(62,.st 15),(63,.list (.st 17)),(64,.st 18),(65,.st 18),(67,.st 8),(68,.st 8),(69,.st 10),(70,.st 10),(72,.list (.st 19)),(74,.st 19),(75,.st 19),(78,.st 1),(79,.st 1),(92,.st 2),(93,.st 2),(94,.st 4),(95,.st 4),(108,.map (.int .i64) (.list (.st 18))),(116,.st 20),(117,.st 20),(125,.st 5),(126,.st 5),(129,.st 21),(130,.st 21),(136,.list (.st 16)),(137,.st 17),(138,.st 17),(140,.st 22),(141,.st 22),(144,.st 23),(145,.st 23),(152,.map (.int .i64) (.list (.st 5))),(169,.st 16),(170,.st 16),(176,.map (.int .i64) (.st 16)),(206,.map (.int .i64) (.int .i64)),(234,.int .u64),(249,.map (.int .i64) (.st 4)),(269,.st 9),(272,.map (.st 10) (.bool)),(283,.int .i64),(290,.int .u32),(292,.int .u64),(311,.int .u64),(355,.int .u8),(356,.int .u8),(359,.int .i32),(360,.int .i32),(363,.st 12),(364,.st 12)]
def acS:TypeId->Option Ty:=λt=>(fX.find? λp=>Nat.beq p.1 t).map (·.2)
def acp(i a):aI.cells i a=cellsOf (aI.bW i) (aI.un i a):=by(iterate 24 (rcases i with _|i;rfl));rfl
def acq(i a):(aI.cells i a).length=aI.sz i:=by(iterate 24 (rcases i with _|i;rfl));rfl
def acr(i a):(aI.cells i a).all D.one=true:=by(iterate 24 (rcases i with _|i;rfl));rfl
instance:cz:=⟨acp,acq,λi a=>ek.1 (acr i a)⟩
def acs(i):(aI.bW i).all dN=true:=by(iterate 24 (rcases i with _|i;rfl));rfl
instance:dg:=haveI:bm:=⟨True,λ_=>none⟩;⟨λi t h=>cy (ek.1 (acs i) t h)⟩
class nc where
 on:Prop
def acE:Nat->Option D:=λg=>(qh g).map λl=>.agg (l.map (.int .i64))
instance oI[nc]:bm:=⟨nc.on,acE⟩
instance [nc]:oy:=⟨λg ls h=>by show(qh g).map _=_;rw[show qh g=some ls from h];rfl⟩
variable [nc]
def acT:C1.all (λp=>yB Tryz.prog p.1 p.2)=true:=by kernel_rfl
def P7:ct Tryz.prog lC:=by
 have h:=ct.Gl acT;have e:(λt=>(C1.find? λp=>p.1 == t).map (·.2))=lC:=by funext t;exact dn (Option.map Prod.snd) (Ez C1 t)
 rw[<-e];exact h
def rI(n:Nat):List Lf:=List.replicate n (.int .i64)
def zH:List (Nat×List Lf):=[(4,[.bool]),(58,rI 2),(79,rI 4),(93,rI 2),(60,rI 3),(95,rI 13),(126,rI 12),(30,rI 3),(68,rI 3),(269,rI 3),(70,rI 3),(364,rI 3),(62,rI 8),(170,rI 10),(75,rI 2),(117,rI 2),(145,rI 13)]
def Wa:qT Tryz.prog (MS zH):=qT.Gl (by kernel_rfl)
def EV:List Nat:=[40,53,62,76,96,118,119,135,144,147,148,153,157,190,196,200,201,208,211,222,225,229,231,233,234,273,276,278,280]
def eqs:TypeId->Option (List Lf):=λt=>(zH.find? λp=>Nat.beq p.1 t).map (·.2)
def K6:qT Tryz.prog eqs:=by
 have e:MS zH=eqs:=by funext t;exact dn (Option.map Prod.snd) (Ez zH t)
 rw[<-e];exact Wa
def cx(j:Nat)(k:List lI)(fs:List (Nat×Func))(ts:List lJ):Cx:=⟨lC,acS,eqs,j,k,fs,0,false,EV,ts,[]⟩
noncomputable def K3:Env:={E:=lC,C:=λ_ _=>none,jE:=eqs,P:=Tryz.prog}
def Vw:fX.all (λp=>sJ (cx 0 [] [] []) p.1 p.2)=true:=by kernel_rfl
theorem D5(j:Nat)(k:List lI)(fs:List (Nat×Func))(ts:List lJ):bM Tryz.prog K3 (cx j k fs ts):=haveI:=bP;⟨⟨P7,(λ_ _ _ _ h=>by cases h),K6,(λ_ _ _ _ h=>by cases h),rfl⟩,rfl,rfl,rfl,Zc Vw⟩
def mixed:Tryz.prog.follows .mixedOrders=true:=by kernel_rfl
noncomputable def nF:List (Nat×Func):=[(234,Tryz.f234),(70,Tryz.f70),(154,Tryz.f154),(236,Tryz.f236),(237,Tryz.f237),(259,Tryz.f259),(281,Tryz.f281),(310,Tryz.f310),(233,Tryz.f233),(152,Tryz.f152),(271,Tryz.f271),(32,Tryz.f32),(34,Tryz.f34),(35,Tryz.f35),(73,Tryz.f73),(72,Tryz.f72),(157,Tryz.f157),(61,Tryz.f61),(135,Tryz.f135),(136,Tryz.f136),(137,Tryz.f137),(225,Tryz.f225),(123,Tryz.f123),(209,Tryz.f209),(232,Tryz.f232),(210,Tryz.f210),(226,Tryz.f226),(227,Tryz.f227),(211,Tryz.f211),(119,Tryz.f119),(148,Tryz.f148),(231,Tryz.f231),(147,Tryz.f147),(229,Tryz.f229)]
def Fc:mY Tryz.prog nF:=WV ⟨Tryz.func234,Tryz.func70,Tryz.func154,Tryz.func236,Tryz.func237,Tryz.func259,Tryz.func281,Tryz.func310,Tryz.func233,Tryz.func152,Tryz.func271,Tryz.func32,Tryz.func34,Tryz.func35,Tryz.func73,Tryz.func72,Tryz.func157,Tryz.func61,Tryz.func135,Tryz.func136,Tryz.func137,Tryz.func225,Tryz.func123,Tryz.func209,Tryz.func232,Tryz.func210,Tryz.func226,Tryz.func227,Tryz.func211,Tryz.func119,Tryz.func148,Tryz.func231,Tryz.func147,Tryz.func229,trivial⟩ (by kernel_rfl)
def MK{f:FuncId}{fn:Func}{j k:List Ty}{g:(aP j).den->Option (aP k).den}(cs:List Sy.Callee)(ts:List ju)(B:cs.foldr (λc p=>gZ Tryz.prog c/\p) True)(M:ts.foldr (λc p=>oz Tryz.prog c.f c.t c.args c.fn/\p) True)(F:Tryz.prog.funcs[f]?=some fn)(G:nA fn j k=true)(h:∀a,nB (cs++ts.map ju.kD) (sD (cx fn.ntmps (cs.map kn) nF (qM ts cs.length)) fn.results.toList (hZ fn) j k) j k a=g a):gZ Tryz.prog ⟨f,j,k,g⟩:=Kt (D5 fn.ntmps (cs.map kn) nF (qM ts cs.length)) (Kx B M rfl rfl rfl) Fc rfl mixed F G h
theorem kk{f:FuncId}{fn:Func}{j k:List Ty}{g:(aP j).den->Option (aP k).den}(cs:List Sy.Callee)(B:cs.foldr (λc p=>gZ Tryz.prog c/\p) True)(F:Tryz.prog.funcs[f]?=some fn)(G:nA fn j k=true)(h:∀a,nB (cs++[]) (sD (cx fn.ntmps (cs.map kn) nF []) fn.results.toList (hZ fn) j k) j k a=g a):gZ Tryz.prog ⟨f,j,k,g⟩:=MK cs [] B trivial F G h
structure Bk where
 c:Sy.Callee
 k:gZ Tryz.prog c
def ze(j:List Bk):(j.map Bk.c).foldr (λc p=>gZ Tryz.prog c/\p) True:=by
 induction j with
 |nil=>trivial
 |cons b r B=>exact⟨b.k,B⟩
abbrev tI:Ty:=.int .i64
noncomputable def bk(j k:List Ty)(g:(aP j).den->Option (aP k).den)(B:List Bk){f:FuncId}{fn:Func}(F:Tryz.prog.funcs[f]?=some fn)(G:nA fn j k=true:=by kernel_rfl)(h:∀a,nB (B.map Bk.c++[]) (sD (cx fn.ntmps ((B.map Bk.c).map kn) nF []) fn.results.toList (hZ fn) j k) j k a=g a:=by intro a;kernel_rfl):Bk:=⟨⟨f,j,k,g⟩,kk (B.map Bk.c) (ze B) F G h⟩
noncomputable def DM(j B:List Ty)(g:(aP j).den->Option (aP B).den)(k:List Bk)(ts:List ju)(M:ts.foldr (λc p=>oz Tryz.prog c.f c.t c.args c.fn/\p) True){f:FuncId}{fn:Func}(F:Tryz.prog.funcs[f]?=some fn)(G:nA fn j B=true:=by kernel_rfl)(h:∀a,nB (k.map Bk.c++ts.map ju.kD) (sD (cx fn.ntmps ((k.map Bk.c).map kn) nF (qM ts (k.map Bk.c).length)) fn.results.toList (hZ fn) j B) j B a=g a:=by intro a;kernel_rfl):Bk:=⟨⟨f,j,B,g⟩,MK (k.map Bk.c) ts (ze k) M F G h⟩
noncomputable def KL(j:Nat)(k:List lI)(ns:List pQ):Cx:={cx j k nF []with wX:=ns}
def Vx(j:Nat)(k:List lI)(ns:List pQ):bM Tryz.prog K3 (KL j k ns):=have h:=D5 j k nF [];⟨h.ok,h.E,h.eq,h.sub,h.ty⟩
structure Nk where
 c:mZ
 k:qU Tryz.prog c.f c.args c.sh c.fn
def YU(ns:List Nk):(ns.map Nk.c).foldr (λc p=>qU Tryz.prog c.f c.args c.sh c.fn/\p) True:=by
 induction ns with
 |nil=>trivial
 |cons b r j=>exact⟨b.k,j⟩
noncomputable def nk(j:List Ty)(sh:List NS)(g:(aP j).den->Option (aP (cM sh)).den)(k:List Bk){f:FuncId}{fn:Func}(B:Tryz.prog.funcs[f]?=some fn)(F:nA fn j (cM sh)=true:=by kernel_rfl)(G:wx sh=true:=by rfl)(h:∀a,nB (k.map Bk.c++[]) (Ig (cx fn.ntmps ((k.map Bk.c).map kn) nF []) fn.results.toList (hZ fn) j sh) j (cM sh) a=g a:=by intro a;kernel_rfl):Nk:=⟨⟨f,j,sh,g⟩,YM (D5 fn.ntmps ((k.map Bk.c).map kn) nF []) (Kx (ts:=[]) (ze k) trivial rfl rfl rfl) Fc rfl mixed B F G h⟩
noncomputable def Uz(k B:List Ty)(g:(aP k).den->Option (aP B).den)(j:List Bk)(ns:List Nk){f:FuncId}{fn:Func}(F:Tryz.prog.funcs[f]?=some fn)(G:nA fn k B=true:=by kernel_rfl)(h:∀a,nB (j.map Bk.c++(ns.map Nk.c).map mZ.kD) (sD (KL fn.ntmps ((j.map Bk.c).map kn) (r8 (ns.map Nk.c) (j.map Bk.c).length)) fn.results.toList (hZ fn) k B) k B a=g a:=by intro a;kernel_rfl):Bk:=⟨⟨f,k,B,g⟩,Kt (Vx fn.ntmps ((j.map Bk.c).map kn) (r8 (ns.map Nk.c) (j.map Bk.c).length)) (UN (ze j) (YU ns) rfl rfl rfl) Fc rfl mixed F G h⟩
end Go.Proofs.YthhlipkkjippfaaGreatDoor
namespace Go.Proofs.YthhlipkkjippfaaGreatDoor
open Go Go.ak Go.Sy Go.RowKit Go.ChangeShapes Go.WideShapes
def own:ownKnob Tryz.prog.godebug=none:=by kernel_rfl
def laidOut:laidOutB Tryz.prog=true:=by kernel_rfl
theorem oC:sR (λH=>Rows.uptoBulk (H:=H)) (λH=>Rows.uptoBulkAll (H:=H)) where
 str _ bs:=by simp[Rows.uptoBulk]
 sl _ a b:=by simp[Rows.uptoBulk]
 agg _ a:=by simp[Rows.uptoBulk]
 nil _:=by simp[Rows.uptoBulkAll]
 cons _ d r:=by simp[Rows.uptoBulkAll]
 one _ d:=by
  cases d with
  |lit l=>cases l<;>simp[Rows.uptoBulk]
  |_=>simp[Rows.uptoBulk]
def abJ{H:Type}{en:TypeId×Value->H}{W:World}{base:Nat}{sp:Nat->Bool}{held:Bool}(b:Bool):DataW.Trod en Tryz.prog W base sp held 4 (.bool b) (.lit (.bool b)) []:=⟨1,by simp[DataW.trod,Value.cells,Tryz.underlying4]⟩
def UG{H:Type}{d:DataW H}{l:List (DataW H)}(h:d∈l):Rows.uptoBulk d<=Rows.uptoBulkAll l:=by
 induction l with
 |nil=>cases h
 |cons x r j=>
  simp only[Rows.uptoBulkAll];rcases fa.1 h with e|e
  ·subst e;omega
  have:=j e;omega
theorem H0{H:Type}{ds:List (DataW H)}(h:Rows.uptoSmall H ds=true){d:DataW H}(j:d∈ds):Rows.uptoBulk d<=1048576:=by
 have k:Rows.uptoBulkAll ds<=1048576:=fv h;have:=UG j;omega
def Md:Tryz.prog.globalNamed "partbook/pitch.naturals" = some 0:=by kernel_rfl
def WX:(Tryz.prog.globals[0]?).map (·.type)=some 281:=by kernel_rfl
def U6:Tryz.prog.cellsOf 281=7:=by kernel_rfl
def UZ:Tryz.prog.cellsOf 3=1:=by kernel_rfl
def vA:List Int:=[0,2,4,5,7,9,11]
def table{W:World}(h:laidMetH Tryz.prog [("partbook/pitch.naturals",Rows.laid_partbook_pitch_naturals)] W):Lib.TabIs Tryz.prog W "partbook/pitch.naturals" .i64 vA:=
 Lib.tabIs_of_head (rest:=[]) Md WX Tryz.underlying281 Tryz.underlying3 UZ U6 h
def dK[nc]{W:World}(h:laidMetH Tryz.prog [("partbook/pitch.naturals",Rows.laid_partbook_pitch_naturals)] W):∀g d,bm.dI g=some d->Rd (allI W) (.pointer (some ⟨g,0,none⟩)) (.box d):=by
 intro g d O;have j:(qh g).map (λl=>D.agg (l.map (.int .i64)))=some d:=O;by_cases G:g=0
 ·subst G;have e:(qh 0).map (λl=>D.agg (l.map (.int .i64)))=some (.agg (vA.map (.int .i64))):=rfl;rw[e]at j;injection j with j;subst j;have ht:=λi hi=>(table h).cell Md i hi;refine .box 0 _ (λk=>(W.cell? ⟨0,k,none⟩).getD undef) (λx F=>?_) (λk U=>?_) (λk x F=>?_)
  ·obtain⟨n,_,rfl⟩:=gg.1 (show x∈vA.map (D.int .i64)from F);rfl
  ·have B:k<vA.length:=by simpa [D.cells]using U
   show W.cell? ⟨0,k,none⟩=_;rw[ht k B];rfl
  have N:(vA.map (D.int .i64))[k]?=some x:=F;rw[e3]at N;obtain⟨n,M,rfl⟩:=e4.1 N;have B:k<vA.length:=(db.1 M).1;rw[ht k B,List.getD_eq_getElem?_getD,M];exact .int _ _
 have h0:Nat.beq g 0=false:=by
  cases h:Nat.beq g 0 with
  |false=>rfl
  |true=>exact absurd (eb h) G
 have e:qh g=none:=by simp only[qh,h0,cond_false]
 rw[e]at j;cases j
end Go.Proofs.YthhlipkkjippfaaGreatDoor
namespace Go.Proofs.YthhlipkkjippfaaGreatDoor
open Go Go.ak Go.Sy
variable [nc]
set_option maxRecDepth 100000
noncomputable def nW:Int->Option Int:=λ(v0)=>ae (ai (fk v0)) <|some (max v0 (fk v0))
noncomputable def JT:=bk [tI] [tI] nW [] Tryz.func216
def gL(a b:Int):Int:=if h:b=0 then a else gL b (a.tmod b)
termination_by b.natAbs
decreasing_by
 rw[adW];exact q6 _ (by omega)
def Cl(a:Int):gL a 0=a:=by rw[gL];simp
def Hh{a b:Int}(h:b≠0):gL a b=gL b (a.tmod b):=by rw[gL];simp[h]
noncomputable def gN:Nat->(Int×(Int×Unit))->Option Int
 |0=>λ_=>none
 |n+1=>λ(v0,j,k)=>ab (aC j 0) (some v0) (ae (!(aC j 0)) <|aa (gN n (j,((Int.tmod v0 j),k))) λB=>some B)
abbrev aG:List Ty:=[tI,tI,.self 230]
def kG:∀n,gZ Tryz.prog ⟨230,aG,[tI],gN n⟩
 |0=>⟨Enters.of Tryz.func230 (by decide),(λa r h=>by cases h),λt h=>cy (ek.1 (rfl:aG.all dN=true) t h),λt h=>cy (ek.1 (rfl:[tI].all dN=true) t h)⟩
 |n+1=>(bk aG [tI] (gN (n+1)) [⟨_,kG n⟩] Tryz.func230).k
def L9:∀(k:Nat)(a b:Int),b.natAbs<k->gN k (a,b,())=some (gL a b)
 |k+1,a,b,h=>by
  by_cases j:b=0
  ·subst j;rw[Cl];rfl
  have B:(a.tmod b).natAbs<b.natAbs:=by rw[adW];exact q6 _ (by omega)
  have:=L9 k b (a.tmod b) (by omega);simp only[gN,this,Hh j];simp[ab,ae,j,aa,aC]
noncomputable def N6:(Int×(Int×Unit))->Option Int:=λ(v0,j,k)=>some (gL v0 j)
noncomputable def Ti:Bk:=⟨⟨230,aG,[tI],N6⟩,⟨(kG 0).enters,λ(a:Int×(Int×Unit)) r h=>(kG (a.2.1.natAbs+1)).kF a r ((L9 _ a.1 a.2.1 (p3 _)).trans h),(kG 0).args,(kG 0).res⟩⟩
noncomputable def uR:Fraction->Option Fraction:=λ(v0)=>aa (nW v0.n) λB=>aa (nW v0.d) λF=>aa (N6 (B,(F,()))) λk=>aa (ab (aj v0.d 0) (ae (ai (fk k)) <|some (fk k)) (some k)) λj=>ae (!(aC j 0)) <|ae (ai (Int.tdiv v0.n j)) <|ae (!(aC j 0)) <|ae (ai (Int.tdiv v0.d j)) <|some (⟨(Int.tdiv v0.n j),(Int.tdiv v0.d j)⟩:Fraction)
noncomputable def JS:=bk [.st 20] [.st 20] uR [JT,Ti] Tryz.func143
noncomputable def uA(f:Fraction)(g:Int):Option Fraction:=bQ (g≠0) (bQ (ig (f.n.tdiv g)) (bQ (ig (f.d.tdiv g)) (some ⟨f.n.tdiv g,f.d.tdiv g⟩)))
noncomputable def w7(f:Fraction):Option Fraction:=
 aa (nW f.n) λa=>aa (nW f.d) λb=>
 ab (decide (f.d<0)) (bQ (ig (0-gL a b)) (uA f (0-gL a b))) (uA f (gL a b))
def N7(f:Fraction):uR f=w7 f:=by
 unfold uR w7;have j:∀g:Int,(ae (!(aC g 0)) <|ae (ai (Int.tdiv f.n g)) <|ae (!(aC g 0)) <|ae (ai (Int.tdiv f.d g)) <|some (⟨(Int.tdiv f.n g),(Int.tdiv f.d g)⟩:Fraction))=uA f g:=λg=>by
  unfold uA bQ ae;by_cases k:g=0<;>by_cases j:ig (f.n.tdiv g)<;>by_cases B:ig (f.d.tdiv g)<;>simp[k,j,B,aC,ai]
 refine dn (aa _) (funext λa=>dn (aa _) (funext λb=>?_));show aa (ab (aj f.d 0) (ae (ai (fk (gL a b))) <|some (fk (gL a b))) (some (gL a b))) _=_;simp only[j];by_cases h:f.d<0
 ·generalize G:0-gL a b=z;have F:fk (gL a b)=z:=G;by_cases hi:ig z<;>simp[ab,h,F,hi,aa,ae,bQ,aj,ai]
 simp[ab,h,aa,aj]
end Go.Proofs.YthhlipkkjippfaaGreatDoor
namespace Go.Proofs.YthhlipkkjippfaaGreatDoor
open Go Go.ak Go.Sy
noncomputable def l7:(Int×Int)->Option Rat:=λ(v0,j)=>some (⟨v0,j⟩:Rat)
noncomputable def GC:Unit->Option (c8×Room):=λ()=>aa (l7 (0,1)) λv0=>aa (l7 (1,1)) λj=>aa (l7 (4,1)) λk=>some ((⟨(⟨3,[(⟨1,k,0⟩:aT)],[(⟨1,0,0,0,2,(⟨0,0⟩:Interval),(⟨0,0,0⟩:aV),(⟨0,0,8⟩:aV)⟩:Part),(⟨2,0,1,1,1,(⟨0,0⟩:Interval),(⟨0,0,0⟩:aV),(⟨0,0,8⟩:aV)⟩:Part)],[(⟨5,1,1,0,0,v0,j,(⟨0,0,4⟩:aV)⟩:aq)]⟩:Score),(⟨0,([]:List Repeat),([]:List Ending),(⟨0,0,0⟩:Jump),([]:List Cut)⟩:Form),([]:List sZ)⟩:c8),(⟨3,(⟨1,[(⟨0,1,2⟩:Repeat)],([]:List Ending),(⟨0,0,0⟩:Jump),([]:List Cut)⟩:Form),([]:List Int)⟩:Room))
noncomputable def BV:Order->Option Bool:=λ(v0)=>aR (aA (λk:(Int×Int)=>ab (aj k.2 (v0.form.bg.length:Int)) (aa (an v0.form.bg k.2) λj=>aa (ab (aj j.from_ k.1) (some true) (ab (leI j.aW j.from_) (some true) (ab (aj v0.form.bars j.aW) (some true) (ab (aj j.times 1) (some true) (some (aj 9 j.times)))))) λB=>ab B (some (.inr (.inr false))) (ae (ai (k.2+1)) <|some (.inl (j.aW,(k.2+1))))) (some (.inr (.inl ())))) (0,0)) λk=>some (leI (v0.form.bg.length:Int) 100)
noncomputable def GP:(Repeat×Ending)->Option Bool:=λ(v0,j)=>aa (ab (leI v0.from_ j.from_) (some (leI j.aW v0.aW)) (some false)) λk=>some k
noncomputable def G6:((List Repeat)×Ending)->Option Int:=λ(v0,k)=>aR (aA (λj:Int=>ab (aj j (v0.length:Int)) (aa (an v0 j) λB=>aa (GP (B,k)) λF=>ab F (some (.inr (.inr j))) (ae (ai (j+1)) <|some (.inl (j+1)))) (some (.inr (.inl ())))) 0) λj=>some (-1)
noncomputable def Cb:((List Repeat)×Ending)->Option Bool:=λ(v0,j)=>aa (G6 (v0,j)) λk=>some (leI 0 k)
noncomputable def BU:Order->Option Bool:=λ(v0)=>aR (aA (λk:(Int×Int)=>ab (aj k.2 (v0.form.bC.length:Int)) (aa (an v0.form.bC k.2) λj=>aa (Cb (v0.form.bg,j)) λF=>aa (ab (aj j.from_ k.1) (some true) (ab (leI j.aW j.from_) (some true) (ab (!F) (some true) (ab (aj j.pass 1) (some true) (some (aj 9 j.pass)))))) λB=>ab B (some (.inr (.inr false))) (ae (ai (k.2+1)) <|some (.inl (j.aW,(k.2+1))))) (some (.inr (.inl ())))) (0,0)) λk=>some (leI (v0.form.bC.length:Int) 100)
noncomputable def GR:(Repeat×Int)->Option Bool:=λ(v0,j)=>aa (ab (aj v0.from_ j) (some (aj j v0.aW)) (some false)) λk=>some k
noncomputable def G7:((List Repeat)×Int)->Option Int:=λ(v0,k)=>aR (aA (λj:Int=>ab (aj j (v0.length:Int)) (aa (an v0 j) λB=>aa (GR (B,k)) λF=>ab F (some (.inr (.inr j))) (ae (ai (j+1)) <|some (.inl (j+1)))) (some (.inr (.inl ())))) 0) λj=>some (-1)
noncomputable def GX:((List Repeat)×Int)->Option Bool:=λ(v0,j)=>aa (G7 (v0,j)) λk=>some (leI 0 k)
noncomputable def uT:(Order×Int)->Option Bool:=λ(v0,j)=>aa (GX (v0.form.bg,j)) λk=>some k
noncomputable def BX:Order->Option Bool:=λ(v0)=>ab (DL v0.form.jump (⟨0,0,0⟩:Jump)) (some true) (aa (ab (aj v0.form.jump.at_ 1) (some true) (ab (aj v0.form.bars v0.form.jump.at_) (some true) (ab (aj v0.form.jump.to 0) (some true) (ab (leI v0.form.jump.at_ v0.form.jump.to) (some true) (ab (leI v0.form.jump.de v0.form.jump.to) (some true) (some (aj v0.form.bars v0.form.jump.de))))))) λk=>ab k (some false) (aa (aa (uT (v0,v0.form.jump.at_)) λj=>ab (!j) (aa (uT (v0,v0.form.jump.to)) λB=>ab (!B) (aa (uT (v0,v0.form.jump.de)) λF=>some (!F)) (some false)) (some false)) λj=>some j))
noncomputable def BW:(Order×Cut)->Option Bool:=λ(v0,j)=>aa (ab (leI 0 j.from_) (ab (aj j.from_ j.aW) (ab (leI j.aW v0.form.bars) (ab (leI 0 j.pass) (some (leI j.pass 20)) (some false)) (some false)) (some false)) (some false)) λk=>some k
noncomputable def BT:Order->Option Bool:=λ(v0)=>aR (aA (λj:(Int×(List (Cut×Bool)))=>ab (aj j.1 (v0.form.bd.length:Int)) (aa (an v0.form.bd j.1) λk=>aa (aa (BW (v0,k)) λB=>ab (!B) (some true) (some (mI 10 j.2 k false))) λB=>ab B (some (.inr (.inr false))) (ae (ai (j.1+1)) <|some (.inl ((j.1+1),(k9 10 j.2 k true))))) (some (.inr (.inl ())))) (0,([]:List (Cut×Bool)))) λj=>some (leI (v0.form.bd.length:Int) 100)
noncomputable def GS:Order->Option Order:=λ(v0)=>some v0
noncomputable def xP:(Order×(Int×(Int×Bool)))->Option (Int×(Int×(Order×Bool))):=λ(v0,j,k,B)=>some (j,(k,(v0,B)))
noncomputable def GQ:(Ending×(Int×Int))->Option Bool:=λ(v0,j,k)=>aa (ab (leI v0.from_ j) (ab (aj j v0.aW) (some (!(aC v0.pass k))) (some false)) (some false)) λB=>some B
noncomputable def G3:((List Ending)×(Int×Int))->Option Int:=λ(v0,k)=>aR (aA (λj:Int=>ab (aj j (v0.length:Int)) (aa (an v0 j) λB=>aa (GQ (B,(k.1,k.2))) λF=>ab F (some (.inr (.inr j))) (ae (ai (j+1)) <|some (.inl (j+1)))) (some (.inr (.inl ())))) 0) λj=>some (-1)
noncomputable def GW:((List Ending)×(Int×Int))->Option Bool:=λ(v0,j)=>aa (G3 (v0,j)) λk=>some (leI 0 k)
noncomputable def jg:(Order×(Int×Int))->Option Bool:=λ(v0,j,k)=>aa (GW (v0.form.bC,(j,k))) λB=>some B
noncomputable def BY:Order->Option Bool:=λ(v0)=>aR (aa (GS v0) λU=>aa (ab (aC U.form.jump.at_ 0) (some U.form.bars) (some U.form.jump.at_)) λZ=>aR (aa (xP (U,(0,(Z,true)))) λN=>aA (λF:(Int×((List (Int×Int))×Int))=>ab (aj F.2.2 N.2.1) (aR (aa (aR (aA (λk:Int=>ab (aj k (N.2.2.1.form.bg.length:Int)) (aa (an N.2.2.1.form.bg k) λG=>ab (aC G.from_ F.2.2) (some (.inr (.inr k))) (ae (ai (k+1)) <|some (.inl (k+1)))) (some (.inr (.inl ())))) 0) λk=>some (-1)) λk=>ab (aj k 0) (ae (ai ((ar F.2.1 F.2.2 0)+1)) <|ae (ai (F.1+1)) <|ab (aj 20000 (F.1+1)) (some (.inr (.inr (.inr (.inr false))))) (some (.inl ((F.1+1),((aM F.2.1 F.2.2 ((ar F.2.1 F.2.2 0)+1)),F.2.2))))) (aa (an N.2.2.1.form.bg k) λG=>aa (ab N.2.2.2 (some 1) (some G.times)) λO=>aR (aA (λM:(Int×(Int×(List (Int×Int))))=>ab (leI M.1 G.times) (aR (aA (λj:(Int×(Int×(List (Int×Int))))=>ab (aj j.1 G.aW) (aR (aa (jg (N.2.2.1,(j.1,M.1))) λB=>ab (!B) (ae (ai ((ar j.2.2 j.1 0)+1)) <|ae (ai (j.2.1+1)) <|ab (aj 20000 (j.2.1+1)) (some (.inr (.inr (.inr (.inr (.inr (.inr (.inr (.inr (.inr false)))))))))) (some (.inl ((j.2.1+1),(aM j.2.2 j.1 ((ar j.2.2 j.1 0)+1)))))) (some (.inl (j.2.1,j.2.2)))) λB=>ae (ai (j.1+1)) <|some (.inl ((j.1+1),(B.1,B.2)))) (some (.inr (.inl (j.2.1,j.2.2))))) (G.from_,(M.2.1,M.2.2))) λj=>ae (ai (M.1+1)) <|some (.inl ((M.1+1),(j.1,j.2)))) (some (.inr (.inl (M.2.1,M.2.2))))) (O,(F.1,F.2.1))) λM=>ae (ai (G.aW-1)) <|some (.inl (M.1,(M.2,(G.aW-1)))))) λk=>ae (ai (k.2.2+1)) <|some (.inl (k.1,(k.2.1,(k.2.2+1))))) (some (.inr (.inl (F.1,F.2.1))))) (0,(([]:List (Int×Int)),N.1))) λN=>aa (xP (U,(U.form.jump.to,(U.form.jump.de,false)))) λF=>aA (λk:(Int×((List (Int×Int))×Int))=>ab (aj k.2.2 F.2.1) (aR (aa (aR (aA (λG:Int=>ab (aj G (F.2.2.1.form.bg.length:Int)) (aa (an F.2.2.1.form.bg G) λO=>ab (aC O.from_ k.2.2) (some (.inr (.inr G))) (ae (ai (G+1)) <|some (.inl (G+1)))) (some (.inr (.inl ())))) 0) λG=>some (-1)) λG=>ab (aj G 0) (ae (ai ((ar k.2.1 k.2.2 0)+1)) <|ae (ai (k.1+1)) <|ab (aj 20000 (k.1+1)) (some (.inr (.inr (.inr false)))) (some (.inl ((k.1+1),((aM k.2.1 k.2.2 ((ar k.2.1 k.2.2 0)+1)),k.2.2))))) (aa (an F.2.2.1.form.bg G) λO=>aa (ab F.2.2.2 (some 1) (some O.times)) λM=>aR (aA (λj:(Int×(Int×(List (Int×Int))))=>ab (leI j.1 O.times) (aR (aA (λB:(Int×(Int×(List (Int×Int))))=>ab (aj B.1 O.aW) (aR (aa (jg (F.2.2.1,(B.1,j.1))) λY=>ab (!Y) (ae (ai ((ar B.2.2 B.1 0)+1)) <|ae (ai (B.2.1+1)) <|ab (aj 20000 (B.2.1+1)) (some (.inr (.inr (.inr (.inr (.inr (.inr (.inr (.inr false))))))))) (some (.inl ((B.2.1+1),(aM B.2.2 B.1 ((ar B.2.2 B.1 0)+1)))))) (some (.inl (B.2.1,B.2.2)))) λY=>ae (ai (B.1+1)) <|some (.inl ((B.1+1),(Y.1,Y.2)))) (some (.inr (.inl (B.2.1,B.2.2))))) (O.from_,(j.2.1,j.2.2))) λB=>ae (ai (j.1+1)) <|some (.inl ((j.1+1),(B.1,B.2)))) (some (.inr (.inl (j.2.1,j.2.2))))) (M,(k.1,k.2.1))) λj=>ae (ai (O.aW-1)) <|some (.inl (j.1,(j.2,(O.aW-1)))))) λG=>ae (ai (G.2.2+1)) <|some (.inl (G.1,(G.2.1,(G.2.2+1))))) (some (.inr (.inl ())))) (N.1,(N.2,F.1))) λU=>some true
noncomputable def BS:Form->Option Bool:=λ(v0)=>aa (ab (leI 1 v0.bars) (ab (leI v0.bars 4000) (aa (BV (⟨v0⟩:Order)) λj=>ab j (aa (BU (⟨v0⟩:Order)) λk=>ab k (aa (BX (⟨v0⟩:Order)) λB=>ab B (aa (BT (⟨v0⟩:Order)) λF=>ab F (aa (BY (⟨v0⟩:Order)) λG=>some G) (some false)) (some false)) (some false)) (some false)) (some false)) (some false)) λj=>some j
noncomputable def GO:(Cut×aE)->Option Bool:=λ(v0,j)=>aa (ab (leI v0.from_ j.aw) (ab (aj j.aw v0.aW) (ab (aC v0.pass 0) (some true) (some (aC v0.pass j.pass))) (some false)) (some false)) λk=>some k
noncomputable def G2:((List Cut)×aE)->Option Int:=λ(v0,k)=>aR (aA (λj:Int=>ab (aj j (v0.length:Int)) (aa (an v0 j) λB=>aa (GO (B,k)) λF=>ab F (some (.inr (.inr j))) (ae (ai (j+1)) <|some (.inl (j+1)))) (some (.inr (.inl ())))) 0) λj=>some (-1)
noncomputable def ji:((List Cut)×aE)->Option Bool:=λ(v0,j)=>aa (G2 (v0,j)) λk=>some (leI 0 k)
noncomputable def uS:Form->Option ((List aE)×Int):=λ(v0)=>aa (BS v0) λaf=>ab (!af) (some (([]:List aE),1)) (aa (aa (GS (⟨v0⟩:Order)) λU=>aa (ab (aC U.form.jump.at_ 0) (some U.form.bars) (some U.form.jump.at_)) λad=>aa (aa (xP (U,(0,(ad,true)))) λO=>aA (λF:((List (Int×Int))×(Int×(List aE)))=>ab (aj F.2.1 O.2.1) (aa (aa (aR (aA (λk:Int=>ab (aj k (O.2.2.1.form.bg.length:Int)) (aa (an O.2.2.1.form.bg k) λG=>ab (aC G.from_ F.2.1) (some (.inr (.inr k))) (ae (ai (k+1)) <|some (.inl (k+1)))) (some (.inr (.inl ())))) 0) λk=>some (-1)) λk=>ab (aj k 0) (ae (ai ((ar F.1 F.2.1 0)+1)) <|aa (aa (ji (v0.bd,(⟨F.2.1,(ar (aM F.1 F.2.1 ((ar F.1 F.2.1 0)+1)) F.2.1 0)⟩:aE))) λG=>ab (!G) (ae (WP 16 (List.append F.2.2 [(⟨F.2.1,(ar (aM F.1 F.2.1 ((ar F.1 F.2.1 0)+1)) F.2.1 0)⟩:aE)])) <|some (List.append F.2.2 [(⟨F.2.1,(ar (aM F.1 F.2.1 ((ar F.1 F.2.1 0)+1)) F.2.1 0)⟩:aE)])) (some F.2.2)) λG=>some ((aM F.1 F.2.1 ((ar F.1 F.2.1 0)+1)),(F.2.1,G))) (aa (an O.2.2.1.form.bg k) λG=>aa (ab O.2.2.2 (some 1) (some G.times)) λM=>aa (aA (λN:(Int×((List (Int×Int))×(List aE)))=>ab (leI N.1 G.times) (aa (aA (λj:(Int×((List (Int×Int))×(List aE)))=>ab (aj j.1 G.aW) (aa (aa (jg (O.2.2.1,(j.1,N.1))) λB=>ab (!B) (ae (ai ((ar j.2.1 j.1 0)+1)) <|aa (aa (ji (v0.bd,(⟨j.1,(ar (aM j.2.1 j.1 ((ar j.2.1 j.1 0)+1)) j.1 0)⟩:aE))) λY=>ab (!Y) (ae (WP 16 (List.append j.2.2 [(⟨j.1,(ar (aM j.2.1 j.1 ((ar j.2.1 j.1 0)+1)) j.1 0)⟩:aE)])) <|some (List.append j.2.2 [(⟨j.1,(ar (aM j.2.1 j.1 ((ar j.2.1 j.1 0)+1)) j.1 0)⟩:aE)])) (some j.2.2)) λY=>some ((aM j.2.1 j.1 ((ar j.2.1 j.1 0)+1)),Y)) (some (j.2.1,j.2.2))) λB=>ae (ai (j.1+1)) <|some (.inl ((j.1+1),(B.1,B.2)))) (some (.inr (j.2.1,j.2.2)))) (G.from_,(N.2.1,N.2.2))) λj=>ae (ai (N.1+1)) <|some (.inl ((N.1+1),(j.1,j.2)))) (some (.inr (N.2.1,N.2.2)))) (M,(F.1,F.2.2))) λN=>ae (ai (G.aW-1)) <|some (N.1,((G.aW-1),N.2)))) λk=>ae (ai (k.2.1+1)) <|some (.inl (k.1,((k.2.1+1),k.2.2)))) (some (.inr (F.2.2,F.1)))) (([]:List (Int×Int)),(O.1,([]:List aE)))) λO=>aa (xP (U,(U.form.jump.to,(U.form.jump.de,false)))) λF=>aA (λk:((List aE)×((List (Int×Int))×Int))=>ab (aj k.2.2 F.2.1) (aa (aa (aR (aA (λG:Int=>ab (aj G (F.2.2.1.form.bg.length:Int)) (aa (an F.2.2.1.form.bg G) λM=>ab (aC M.from_ k.2.2) (some (.inr (.inr G))) (ae (ai (G+1)) <|some (.inl (G+1)))) (some (.inr (.inl ())))) 0) λG=>some (-1)) λG=>ab (aj G 0) (ae (ai ((ar k.2.1 k.2.2 0)+1)) <|aa (aa (ji (v0.bd,(⟨k.2.2,(ar (aM k.2.1 k.2.2 ((ar k.2.1 k.2.2 0)+1)) k.2.2 0)⟩:aE))) λM=>ab (!M) (ae (WP 16 (List.append k.1 [(⟨k.2.2,(ar (aM k.2.1 k.2.2 ((ar k.2.1 k.2.2 0)+1)) k.2.2 0)⟩:aE)])) <|some (List.append k.1 [(⟨k.2.2,(ar (aM k.2.1 k.2.2 ((ar k.2.1 k.2.2 0)+1)) k.2.2 0)⟩:aE)])) (some k.1)) λM=>some ((aM k.2.1 k.2.2 ((ar k.2.1 k.2.2 0)+1)),(k.2.2,M))) (aa (an F.2.2.1.form.bg G) λM=>aa (ab F.2.2.2 (some 1) (some M.times)) λN=>aa (aA (λj:(Int×((List aE)×(List (Int×Int))))=>ab (leI j.1 M.times) (aa (aA (λB:(Int×((List aE)×(List (Int×Int))))=>ab (aj B.1 M.aW) (aa (aa (jg (F.2.2.1,(B.1,j.1))) λY=>ab (!Y) (ae (ai ((ar B.2.2 B.1 0)+1)) <|aa (aa (ji (v0.bd,(⟨B.1,(ar (aM B.2.2 B.1 ((ar B.2.2 B.1 0)+1)) B.1 0)⟩:aE))) λZ=>ab (!Z) (ae (WP 16 (List.append B.2.1 [(⟨B.1,(ar (aM B.2.2 B.1 ((ar B.2.2 B.1 0)+1)) B.1 0)⟩:aE)])) <|some (List.append B.2.1 [(⟨B.1,(ar (aM B.2.2 B.1 ((ar B.2.2 B.1 0)+1)) B.1 0)⟩:aE)])) (some B.2.1)) λZ=>some ((aM B.2.2 B.1 ((ar B.2.2 B.1 0)+1)),Z)) (some (B.2.2,B.2.1))) λY=>ae (ai (B.1+1)) <|some (.inl ((B.1+1),(Y.2,Y.1)))) (some (.inr (B.2.1,B.2.2)))) (M.from_,(j.2.1,j.2.2))) λB=>ae (ai (j.1+1)) <|some (.inl ((j.1+1),(B.1,B.2)))) (some (.inr (j.2.1,j.2.2)))) (N,(k.1,k.2.1))) λj=>ae (ai (M.aW-1)) <|some (j.2,((M.aW-1),j.1)))) λG=>ae (ai (G.2.1+1)) <|some (.inl (G.2.2,(G.1,(G.2.1+1))))) (some (.inr k.1))) (O.1,(O.2,F.1))) λU=>some (U,0))
noncomputable def mM:Rat->Option Bool:=λ(v0)=>aa (ab (aj v0.d 1) (some true) (ab (aj 1000000 v0.d) (some true) (ab (aj v0.n (-1000000000)) (some true) (some (aj 1000000000 v0.n))))) λj=>ab j (some false) (aa (uR (⟨v0.n,v0.d⟩:Fraction)) λk=>some (Ki k (⟨v0.n,v0.d⟩:Fraction)))
noncomputable def AZ:Rat->Option Bool:=λ(v0)=>aa (aa (mM v0) λj=>ab j (ab (leI 0 v0.n) (ae (!(aC v0.d 0)) <|some (aC (Int.tmod 1680 v0.d) 0)) (some false)) (some false)) λj=>some j
noncomputable def sn:(Int×(Int×Int))->Option Bool:=λ(v0,j,k)=>aa (ab (leI j v0) (some (leI v0 k)) (some false)) λB=>some B
noncomputable def iH:aV->Option Bool:=λ(v0)=>aa (aa (sn (v0.step,(0,6))) λj=>ab j (aa (sn (v0.alter,((-4),4))) λk=>ab k (aa (sn (v0.aO,((-8),20))) λB=>some B) (some false)) (some false)) λj=>some j
noncomputable def AY:Written->Option Bool:=λ(v0)=>aa (ab (leI 0 v0.aS) (ab (leI v0.aS 9) (ab (leI 0 v0.br) (ab (leI v0.br 20) (aa (AZ v0.start) λj=>ab j (aa (iH v0.aN) λk=>some k) (some false)) (some false)) (some false)) (some false)) (some false)) λj=>some j
noncomputable def Gy:Written->Option Bool:=λ(v0)=>aa (AY v0) λj=>some (!j)
noncomputable def Ce:((List Written)×Unit)->Option Bool:=λ(v0,F)=>aa (aR (aA (λj:Int=>ab (aj j (v0.length:Int)) (aa (an v0 j) λk=>aa (Gy k) λB=>ab B (some (.inr (.inr j))) (ae (ai (j+1)) <|some (.inl (j+1)))) (some (.inr (.inl ())))) 0) λj=>some (-1)) λj=>some (leI 0 j)
noncomputable def sf:View->Option Bool:=λ(v0)=>aR (aA (λj:(Int×Int)=>ab (aj j.2 (v0.aK.length:Int)) (aa (an v0.aK j.2) λk=>ae (ai (j.1+(k.notes.length:Int))) <|aa (Ce (k.notes,())) λB=>ab B (some (.inr (.inr false))) (ae (ai (j.2+1)) <|some (.inl ((j.1+(k.notes.length:Int)),(j.2+1))))) (some (.inr (.inl j.1)))) (0,0)) λj=>aa (ab (leI (v0.aK.length:Int) 4000) (some (leI j 20000)) (some false)) λk=>some k
noncomputable def N9:(List Int)->Option (List Int):=λ(v0)=>some v0
noncomputable def Cd:((List Written)×Int)->Option Bool:=λ(v0,k)=>aa (aR (aA (λj:Int=>ab (aj j (v0.length:Int)) (aa (an v0 j) λB=>ab (aC B.br k) (some (.inr (.inr j))) (ae (ai (j+1)) <|some (.inl (j+1)))) (some (.inr (.inl ())))) 0) λj=>some (-1)) λj=>some (leI 0 j)
noncomputable def AT:(aB×(List Int))->Option Int:=λ(v0,G)=>aa (aa (N9 G) λk=>ae (ai ((k.length:Int)-1)) <|aA (λj:(Int×Int)=>ab (leI 0 j.1) (aa (an k j.1) λF=>aa (aa (Cd (v0.notes,F)) λB=>ab B (some F) (some j.2)) λB=>ae (ai (j.1-1)) <|some (.inl ((j.1-1),B))) (some (.inr j.2))) (((k.length:Int)-1),0)) λk=>some k
noncomputable def xb:(aB×(List Int))->Option aB:=λ(v0,M)=>aa (AT (v0,M)) λG=>aa (pd (List.isEmpty v0.notes) (some ([]:List Written)) (ae (WP 80 (List.append ([]:List Written) v0.notes)) <|some (List.append ([]:List Written) v0.notes))) λB=>aa (aa (aR (aA (λk:Int=>ab (aj k (B.length:Int)) (ae ((leI 0 k)&&(aj k (B.length:Int))) <|aa (an B k) λj=>ab (!(aC j.br G)) (some (.inr (.inr k))) (ae (ai (k+1)) <|some (.inl (k+1)))) (some (.inr (.inl ())))) 0) λk=>some (-1)) λk=>ab (aC k (-1)) (some B) (aa (ae (ai (k+1)) <|aA (λj:(Int×(Int×(List Written)))=>ab (aj j.2.1 (j.2.2.length:Int)) (aa (ae ((leI 0 j.2.1)&&(aj j.2.1 (j.2.2.length:Int))) <|aa (an j.2.2 j.2.1) λF=>ab (!(!(aC F.br G))) (ae ((leI 0 j.1)&&(aj j.1 (j.2.2.length:Int))) <|aa (an j.2.2 j.1) λN=>ae (ai (j.1+1)) <|some ((j.1+1),(List.set j.2.2 (Int.toNat j.1) F))) (some (j.1,j.2.2))) λF=>ae (ai (j.2.1+1)) <|some (.inl (F.1,((j.2.1+1),F.2)))) (some (.inr (j.1,j.2.2)))) (k,((k+1),B))) λj=>ae ((leI 0 j.1)&&(leI j.1 (j.2.length:Int))) <|ae ((leI 0 j.1)&&(leI j.1 ((List.append (List.take (Int.toNat j.1) j.2) (List.replicate (Int.toNat ((j.2.length:Int)-j.1)) ((⟨0,0,0,(⟨0,0⟩:Rat),(⟨0,0⟩:Rat),(⟨0,0,0⟩:aV)⟩:Written):Written))).length:Int))) <|some (List.take (Int.toNat j.1) (List.append (List.take (Int.toNat j.1) j.2) (List.replicate (Int.toNat ((j.2.length:Int)-j.1)) ((⟨0,0,0,(⟨0,0⟩:Rat),(⟨0,0⟩:Rat),(⟨0,0,0⟩:aV)⟩:Written):Written)))))) λk=>some (⟨v0.aw,v0.key,v0.length,k⟩:aB)
noncomputable def Gx:((List aB)×(List Int))->Option (List aB):=λ(v0,B)=>aa (aA (λj:(Int×(List aB))=>ab (aj j.1 (v0.length:Int)) (aa (an v0 j.1) λF=>aa (xb (F,B)) λk=>ae (WP 56 (List.append j.2 [k])) <|ae (ai (j.1+1)) <|some (.inl ((j.1+1),(List.append j.2 [k])))) (some (.inr j.2))) (0,([]:List aB))) λj=>some j
noncomputable def GA:(View×(List Int))->Option View:=λ(v0,j)=>aa (Gx (v0.aK,j)) λk=>some (⟨v0.part,k⟩:View)
noncomputable def ph:(View×(List Int))->Option (View×Int):=λ(v0,B)=>aR (aA (λj:Int=>ab (aj j (B.length:Int)) (aa (an B j) λF=>aa (ab (aj F 1) (some true) (ab (aj 20 F) (some true) (ab (aj 0 j) (ae (ai (j-1)) <|aa (an B (j-1)) λk=>some (leI F k)) (some false)))) λk=>ab k (some (.inr (.inr ((⟨0,([]:List aB)⟩:View),1)))) (ae (ai (j+1)) <|some (.inl (j+1)))) (some (.inr (.inl ())))) 0) λj=>aa (sf v0) λF=>ab (!F) (some ((⟨0,([]:List aB)⟩:View),1)) (aa (GA (v0,B)) λk=>some (k,0))
noncomputable def jh:(Int×(Int×Int))->Option Bool:=λ(v0,j,k)=>aa (ab (leI j v0) (some (leI v0 k)) (some false)) λB=>some B
noncomputable def uU:Int->Option Bool:=λ(v0)=>aa (jh (v0,(1,1000000))) λj=>some j
noncomputable def xg:Rat->Option Bool:=λ(v0)=>aa (aa (mM v0) λj=>ab j (ab (leI 0 v0.n) (ae (!(aC v0.d 0)) <|some (aC (Int.tmod 1680 v0.d) 0)) (some false)) (some false)) λj=>some j
noncomputable def sq:(Rat×Rat)->Option (Int×Int):=λ(v0,j)=>aa (aa (mM v0) λk=>ab (!k) (some true) (aa (mM j) λB=>some (!B))) λk=>ab k (some (0,1)) (ae (ai (v0.n*j.d)) <|ae (ai (j.n*v0.d)) <|ab (aj (v0.n*j.d) (j.n*v0.d)) (some ((-1),0)) (ab (aj (j.n*v0.d) (v0.n*j.d)) (some (1,0)) (some (0,0))))
noncomputable def xh:(Rat×Rat)->Option Bool:=λ(v0,j)=>aa (sq (v0,j)) λk=>some (aj k.1 0)
noncomputable def xf:(List aT)->Option Bool:=λ(v0)=>aR (aA (λk:(Int×(List (Int×Bool)))=>ab (aj k.1 (v0.length:Int)) (aa (an v0 k.1) λj=>aa (ab (aj j.id 1) (some true) (ab (aj 1000000 j.id) (some true) (ab (ar k.2 j.id false) (some true) (ab (aj j.key (-7)) (some true) (some (aj 7 j.key)))))) λF=>ab F (some (.inr (.inr false))) (aa (aa (xg j.length) λB=>ab (!B) (some true) (ab (aC j.length.n 0) (some true) (aa (xh ((⟨24,1⟩:Rat),j.length)) λG=>some G))) λB=>ab B (some (.inr (.inr false))) (ae (ai (k.1+1)) <|some (.inl ((k.1+1),(aM k.2 j.id true)))))) (some (.inr (.inl ())))) (0,([]:List (Int×Bool)))) λk=>aa (ab (leI 1 (v0.length:Int)) (some (leI (v0.length:Int) 4000)) (some false)) λj=>some j
noncomputable def sj:Interval->Option Bool:=λ(v0)=>aa (aa (sn (v0.steps,((-70),70))) λj=>ab j (aa (sn (v0.bL,((-120),120))) λk=>some k) (some false)) λj=>some j
noncomputable def pj:Interval->Option (Interval×Int):=λ(v0)=>aa (sj v0) λj=>ab (!j) (some ((⟨0,0⟩:Interval),1)) (ae (ai (fk v0.steps)) <|ae (ai (fk v0.bL)) <|some ((⟨(fk v0.steps),(fk v0.bL)⟩:Interval),0))
noncomputable def GB:Interval->Option Bool:=λ(v0)=>aa (pj v0) λj=>some (aC j.2 0)
noncomputable def uD:Interval->Option (Int×Int):=λ(v0)=>aa (GB v0) λj=>ab (!j) (some (0,1)) (ae (ai (7*v0.bL)) <|ae (ai (12*v0.steps)) <|ae (ai ((7*v0.bL)-(12*v0.steps))) <|some (((7*v0.bL)-(12*v0.steps)),0))
noncomputable def sr:Interval->Option Bool:=λ(v0)=>aa (uD v0) λk=>aa (ab (aC k.2 0) (aa (jh (v0.steps,((-21),21))) λj=>ab j (aa (jh (v0.bL,((-36),36))) λB=>ab B (aa (jh (k.1,((-12),12))) λF=>some F) (some false)) (some false)) (some false)) λj=>some j
noncomputable def qC:aV->Option Int:=λ(v0)=>ae (ai (12*v0.aO)) <|aa (an [0,2,4,5,7,9,11] v0.step) λj=>ae (ai ((12*v0.aO)+j)) <|ae (ai (((12*v0.aO)+j)+v0.alter)) <|some (((12*v0.aO)+j)+v0.alter)
noncomputable def mK:aV->Option (Int×Int):=λ(v0)=>aa (iH v0) λk=>ab (!k) (some (0,1)) (aa (qC v0) λj=>some (j,0))
noncomputable def nX:aV->Option Int:=λ(v0)=>aa (mK v0) λj=>some j.1
noncomputable def B4:Part->Option Bool:=λ(v0)=>aa (aa (uU v0.id) λG=>ab G (aa (jh (v0.oi,(0,99))) λj=>ab j (aa (jh (v0.of,(0,1000000))) λk=>ab k (aa (jh (v0.aO,((-2),2))) λB=>ab B (aa (jh (v0.dC,(1,40))) λF=>some F) (some false)) (some false)) (some false)) (some false)) λG=>aa (ab (!G) (some true) (ab (aC v0.of v0.id) (some true) (ab (aC v0.of 0) (ab (!(aC v0.aO 0)) (some true) (aa (sr v0.shift) λj=>some (!j))) (aa (sr v0.shift) λj=>some (!j))))) λj=>ab j (some false) (aa (aa (iH v0.low) λk=>ab k (aa (iH v0.high) λB=>ab B (aa (nX v0.low) λF=>aa (nX v0.high) λM=>some (leI F M)) (some false)) (some false)) λk=>some k)
noncomputable def B2:(Part×(List (Int×Part)))->Option Bool:=λ(v0,j)=>aa (ab (!(aC v0.of 0)) (ab (!(dU j v0.of)) (some true) (some (!(aC (ar j v0.of (⟨0,0,0,0,0,(⟨0,0⟩:Interval),(⟨0,0,0⟩:aV),(⟨0,0,0⟩:aV)⟩:Part)).of 0)))) (some false)) λk=>some k
noncomputable def Cf:((List Part)×(List (Int×Part)))->Option Int:=λ(v0,k)=>aR (aA (λj:Int=>ab (aj j (v0.length:Int)) (aa (an v0 j) λB=>aa (B2 (B,k)) λF=>ab F (some (.inr (.inr j))) (ae (ai (j+1)) <|some (.inl (j+1)))) (some (.inr (.inl ())))) 0) λj=>some (-1)
noncomputable def Ca:((List Part)×(List (Int×Part)))->Option Bool:=λ(v0,j)=>aa (Cf (v0,j)) λk=>some (leI 0 k)
noncomputable def B0:(List Part)->Option Bool:=λ(v0)=>aa (jh ((v0.length:Int),(1,60))) λB=>ab (!B) (some false) (aR (aA (λj:(Int×(List (Int×Part)))=>ab (aj j.1 (v0.length:Int)) (aa (an v0 j.1) λk=>aa (B4 k) λF=>ab (!F) (some (.inr (.inr false))) (ae (ai (j.1+1)) <|some (.inl ((j.1+1),(aM j.2 k.id k))))) (some (.inr (.inl j.2)))) (0,([]:List (Int×Part)))) λj=>aa (ab (aC (j.length:Int) (v0.length:Int)) (aa (Ca (v0,j)) λk=>some (!k)) (some false)) λk=>some k)
noncomputable def xj:(List aT)->Option (List (Int×Int)):=λ(v0)=>aa (aA (λj:(Int×(List (Int×Int)))=>ab (aj j.1 (v0.length:Int)) (aa (an v0 j.1) λk=>ae (ai (j.1+1)) <|some (.inl ((j.1+1),(aM j.2 k.id j.1)))) (some (.inr j.2))) (0,([]:List (Int×Int)))) λj=>some j
noncomputable def qB:Rat->Option (Int×Bool):=λ(v0)=>aa (aa (mM v0) λj=>ab (!j) (some true) (ab (aj v0.n 0) (some true) (ae (!(aC v0.d 0)) <|some (!(aC (Int.tmod 1680 v0.d) 0))))) λj=>ab j (some (0,false)) (ae (!(aC v0.d 0)) <|ae (ai (Int.tdiv 1680 v0.d)) <|ae (ai (v0.n*(Int.tdiv 1680 v0.d))) <|some ((v0.n*(Int.tdiv 1680 v0.d)),true))
noncomputable def si:(Int×(Int×Int))->Option Bool:=λ(v0,j,k)=>aa (ab (leI j v0) (some (leI v0 k)) (some false)) λB=>some B
noncomputable def xk:Int->Option Bool:=λ(v0)=>aa (si (v0,(1,1000000))) λj=>some j
noncomputable def A9:aV->Option Bool:=λ(v0)=>aa (aa (iH v0) λj=>ab j (aa (si (v0.alter,((-2),2))) λk=>ab k (aa (si (v0.aO,(0,9))) λB=>some B) (some false)) (some false)) λj=>some j
noncomputable def A8:(aT×aq)->Option Bool:=λ(v0,j)=>aa (qB j.start) λB=>aa (qB j.length) λk=>aa (qB v0.length) λG=>aa (ab B.2 (ab k.2 (ab (aj 0 k.1) (ae (ai (B.1+k.1)) <|ab (leI (B.1+k.1) G.1) (aa (xk j.id) λF=>ab F (aa (xk j.part) λM=>ab M (aa (si (j.aS,(0,9))) λN=>ab N (aa (si (j.br,(0,20))) λO=>ab O (aa (A9 j.aN) λU=>some U) (some false)) (some false)) (some false)) (some false)) (some false)) (some false)) (some false)) (some false)) λF=>some F
noncomputable def xi:((List aT)×(List aq))->Option Bool:=λ(v0,B)=>aa (aa (xf v0) λG=>ab (!G) (some true) (some (aj 20000 (B.length:Int)))) λG=>ab G (some false) (aa (xj v0) λM=>aR (aA (λj:(Int×(List (Int×Bool)))=>ab (aj j.1 (B.length:Int)) (aa (an B j.1) λk=>aa (ab (!(dU M k.aw)) (some true) (ab (ar j.2 k.id false) (some true) (aa (an v0 (ar M k.aw 0)) λF=>aa (A8 (F,k)) λN=>some (!N)))) λF=>ab F (some (.inr (.inr false))) (ae (ai (j.1+1)) <|some (.inl ((j.1+1),(aM j.2 k.id true))))) (some (.inr (.inl ())))) (0,([]:List (Int×Bool)))) λj=>some true)
noncomputable def B6:(aq×(List (Int×Part)))->Option Bool:=λ(v0,j)=>some (!(dU j v0.part))
noncomputable def G4:((List aq)×(List (Int×Part)))->Option Int:=λ(v0,k)=>aR (aA (λj:Int=>ab (aj j (v0.length:Int)) (aa (an v0 j) λB=>aa (B6 (B,k)) λF=>ab F (some (.inr (.inr j))) (ae (ai (j+1)) <|some (.inl (j+1)))) (some (.inr (.inl ())))) 0) λj=>some (-1)
noncomputable def B8:((List aq)×(List (Int×Part)))->Option Bool:=λ(v0,j)=>aa (G4 (v0,j)) λk=>some (leI 0 k)
noncomputable def B7:(aq×(List (Int×Part)))->Option Bool:=λ(v0,j)=>aa (nX v0.aN) λk=>aa (nX (ar j v0.part (⟨0,0,0,0,0,(⟨0,0⟩:Interval),(⟨0,0,0⟩:aV),(⟨0,0,0⟩:aV)⟩:Part)).low) λB=>aa (nX (ar j v0.part (⟨0,0,0,0,0,(⟨0,0⟩:Interval),(⟨0,0,0⟩:aV),(⟨0,0,0⟩:aV)⟩:Part)).high) λF=>aa (jh (k,(B,F))) λG=>some (!G)
noncomputable def G5:((List aq)×(List (Int×Part)))->Option Int:=λ(v0,k)=>aR (aA (λj:Int=>ab (aj j (v0.length:Int)) (aa (an v0 j) λB=>aa (B7 (B,k)) λF=>ab F (some (.inr (.inr j))) (ae (ai (j+1)) <|some (.inl (j+1)))) (some (.inr (.inl ())))) 0) λj=>some (-1)
noncomputable def B9:((List aq)×(List (Int×Part)))->Option Bool:=λ(v0,j)=>aa (G5 (v0,j)) λk=>some (leI 0 k)
noncomputable def xQ:((List Part)×(List aq))->Option Int:=λ(v0,B)=>aa (aA (λj:(Int×(List (Int×Part)))=>ab (aj j.1 (v0.length:Int)) (aa (aa (an v0 j.1) λk=>ab (aC k.of 0) (some (aM j.2 k.id k)) (some j.2)) λk=>ae (ai (j.1+1)) <|some (.inl ((j.1+1),k))) (some (.inr j.2))) (0,([]:List (Int×Part)))) λj=>aa (B8 (B,j)) λk=>ab k (some 22) (aa (B9 (B,j)) λF=>ab F (some 20) (some 0))
noncomputable def G1:((List aq)×(List aq))->Option Bool:=λ(v0,k)=>ab (!(aC (v0.length:Int) (k.length:Int))) (some false) (aR (aA (λj:Int=>ab (aj j (v0.length:Int)) (aa (an v0 j) λB=>aa (an k j) λF=>ab (!(Kl B F)) (some (.inr (.inr false))) (ae (ai (j+1)) <|some (.inl (j+1)))) (some (.inr (.inl ())))) 0) λj=>some true)
noncomputable def GV:Part->Option Int:=λ(v0)=>some v0.id
noncomputable def GU:(Part×(Unit×Int))->Option Bool:=λ(v0,B,j)=>aa (GV v0) λk=>some (aC k j)
noncomputable def Cg:((List Part)×(Unit×Int))->Option Int:=λ(v0,k)=>aR (aA (λj:Int=>ab (aj j (v0.length:Int)) (aa (an v0 j) λB=>aa (GU (B,(k.1,k.2))) λF=>ab F (some (.inr (.inr j))) (ae (ai (j+1)) <|some (.inl (j+1)))) (some (.inr (.inl ())))) 0) λj=>some (-1)
noncomputable def B3:((List Part)×(Int×Unit))->Option (Int×Bool):=λ(v0,k,B)=>aa (Cg (v0,(B,k))) λj=>some ((max j 0),(leI 0 j))
noncomputable def B5:(Score×Part)->Option (Score×(Int×Part)):=λ(v0,j)=>aa (ab (aC j.of 0) (some j.id) (some j.of)) λk=>some (v0,(k,j))
noncomputable def Hd:(Part×Int)->Option Bool:=λ(v0,j)=>some (aC v0.id j)
noncomputable def Ch:((List Part)×Int)->Option Int:=λ(v0,k)=>aR (aA (λj:Int=>ab (aj j (v0.length:Int)) (aa (an v0 j) λB=>aa (Hd (B,k)) λF=>ab F (some (.inr (.inr j))) (ae (ai (j+1)) <|some (.inl (j+1)))) (some (.inr (.inl ())))) 0) λj=>some (-1)
noncomputable def uX:(Score×Int)->Option (Reader×Bool):=λ(v0,k)=>aa (Ch (v0.parts,k)) λj=>ab (aj j 0) (some ((⟨(⟨0,0,0,0,0,(⟨0,0⟩:Interval),(⟨0,0,0⟩:aV),(⟨0,0,0⟩:aV)⟩:Part)⟩:Reader),false)) (aa (an v0.parts j) λB=>some ((⟨B⟩:Reader),true))
noncomputable def uB:(Int×Int)->Option Bool:=λ(v0,j)=>aa (ae (ai (fk j)) <|ab (leI (fk j) v0) (some (leI v0 j)) (some false)) λk=>some k
noncomputable def xc:aV->Option Int:=λ(v0)=>aa (mK v0) λj=>some j.1
noncomputable def uC:Part->Option Bool:=λ(v0)=>aa (uD v0.shift) λF=>aa (ab (aC F.2 0) (aa (uB (v0.shift.steps,21)) λk=>ab k (aa (uB (v0.shift.bL,36)) λj=>ab j (aa (uB (F.1,12)) λB=>some B) (some false)) (some false)) (some false)) λk=>aa (ab k (aa (iH v0.low) λj=>ab j (aa (iH v0.high) λB=>ab B (aa (xc v0.low) λG=>aa (xc v0.high) λM=>some (leI G M)) (some false)) (some false)) (some false)) λj=>some j
noncomputable def sg:Int->Option Bool:=λ(v0)=>aa (ab (leI (-7) v0) (some (leI v0 7)) (some false)) λj=>some j
noncomputable def uE:(Int×Interval)->Option (Int×(Interval×Int)):=λ(v0,B)=>aa (uD B) λk=>aa (ab (!(aC k.2 0)) (some true) (aa (sg v0) λF=>some (!F))) λF=>ab F (some (0,((⟨0,0⟩:Interval),1))) (ae (ai (k.1+v0)) <|aa (ab (aj 0 (k.1+v0)) (aa (aA (λj:(Int×Int)=>aa (sg j.2) λG=>ab (!G) (ae (ai (1*12)) <|ae (ai (j.2-(1*12))) <|ae (ai (j.1+1)) <|some (.inl ((j.1+1),(j.2-(1*12))))) (some (.inr (j.1,j.2)))) (B.steps,(k.1+v0))) λj=>some (j.1,j.2)) (aa (aA (λj:(Int×Int)=>aa (sg j.2) λG=>ab (!G) (ae (ai ((-1)*12)) <|ae (ai (j.2-((-1)*12))) <|ae (ai (j.1+(-1))) <|some (.inl ((j.1+(-1)),(j.2-((-1)*12))))) (some (.inr (j.1,j.2)))) (B.steps,(k.1+v0))) λj=>some (j.1,j.2))) λj=>some (j.2,((⟨j.1,B.bL⟩:Interval),0)))
noncomputable def GF:aV->Option Int:=λ(v0)=>ae (ai (7*v0.aO)) <|ae (ai ((7*v0.aO)+v0.step)) <|some ((7*v0.aO)+v0.step)
noncomputable def Bb:(Int×Int)->Option (Int×Int):=λ(v0,j)=>ae (!(aC j 0)) <|ae (ai (Int.tdiv v0 j)) <|ae (!(aC j 0)) <|ab (aj (Int.tmod v0 j) 0) (ae (ai ((Int.tdiv v0 j)-1)) <|ae (ai ((Int.tmod v0 j)+j)) <|some (((Int.tdiv v0 j)-1),((Int.tmod v0 j)+j))) (some ((Int.tdiv v0 j),(Int.tmod v0 j)))
noncomputable def xl:(aV×Interval)->Option (aV×Int):=λ(v0,j)=>aa (aa (iH v0) λM=>ab (!M) (some true) (aa (sj j) λF=>some (!F))) λM=>ab M (some ((⟨0,0,0⟩:aV),1)) (ab (Kj j (⟨0,0⟩:Interval)) (some (v0,0)) (aa (GF v0) λF=>ae (ai (F+j.steps)) <|aa (Bb ((F+j.steps),7)) λk=>aa (qC v0) λB=>ae (ai (B+j.bL)) <|aa (qC (⟨k.2,0,k.1⟩:aV)) λG=>ae (ai ((B+j.bL)-G)) <|aa (iH (⟨k.2,((B+j.bL)-G),k.1⟩:aV)) λN=>ab (!N) (some ((⟨0,0,0⟩:aV),3)) (some ((⟨k.2,((B+j.bL)-G),k.1⟩:aV),0))))
noncomputable def A4:(Part×(Int×aV))->Option (aV×Int):=λ(v0,G,F)=>aa (aa (aa (uC v0) λj=>ab (!j) (some (false,(0,0))) (aa (pj v0.shift) λk=>aa (uE (G,k.1)) λB=>aa (ab (!(aC k.2 0)) (some true) (some (!(aC B.2.2 0)))) λM=>ab M (some (false,(0,0))) (some (true,(B.2.1.steps,B.2.1.bL))))) λj=>ab (!j.1) (some (true,(j.2.1,j.2.2))) (aa (iH F) λk=>some ((!k),(j.2.1,j.2.2)))) λj=>ab j.1 (some ((⟨0,0,0⟩:aV),1)) (aa (xl (F,(⟨j.2.1,j.2.2⟩:Interval))) λk=>some (k.1,k.2))
noncomputable def x4:(Reader×(aT×aq))->Option Written:=λ(v0,k,j)=>aa (A4 (v0.part,(k.key,j.aN))) λB=>some (⟨j.id,j.aS,j.br,j.start,j.length,B.1⟩:Written)
noncomputable def A2:(Part×Int)->Option (Int×Int):=λ(v0,F)=>aa (aa (uC v0) λj=>ab (!j) (some (false,0)) (aa (pj v0.shift) λk=>aa (uE (F,k.1)) λB=>aa (ab (!(aC k.2 0)) (some true) (some (!(aC B.2.2 0)))) λG=>ab G (some (false,0)) (some (true,B.1)))) λj=>ab (!j.1) (some (0,1)) (some (j.2,0))
noncomputable def x2:(Reader×(aT×(List Written)))->Option aB:=λ(v0,j,k)=>aa (A2 (v0.part,j.key)) λB=>some (⟨j.id,B.1,j.length,k⟩:aB)
noncomputable def qF:Rat->Option Int:=λ(v0)=>aa (aa (mM v0) λj=>ab (!j) (some true) (ab (aj v0.n 0) (some true) (ae (!(aC v0.d 0)) <|some (!(aC (Int.tmod 1680 v0.d) 0))))) λj=>ab j (some (-1)) (ae (!(aC v0.d 0)) <|ae (ai (Int.tdiv 1680 v0.d)) <|ae (ai (v0.n*(Int.tdiv 1680 v0.d))) <|some (v0.n*(Int.tdiv 1680 v0.d)))
noncomputable def xZ:Written->Option Int:=λ(v0)=>aa (mK v0.aN) λj=>some j.1
noncomputable def AR:Int->Option Bool:=λ(v0)=>some (!(aC v0 v0))
noncomputable def qA:(Int×Int)->Option Int:=λ(v0,j)=>aa (AR v0) λB=>aa (AR j) λk=>ab B (ab k (some 0) (some (-1))) (ab k (some 1) (ab (aj v0 j) (some (-1)) (ab (aj j v0) (some 1) (some 0))))
noncomputable def se:(List Int)->Option Int:=λ(v0)=>aR (aA (λj:Int=>ab (aj j (v0.length:Int)) (aa (an v0 j) λk=>ab (!(aC k 0)) (some (.inr (.inr k))) (ae (ai (j+1)) <|some (.inl (j+1)))) (some (.inr (.inl ())))) 0) λj=>some 0
noncomputable def xY:(Written×Written)->Option Int:=λ(v0,j)=>aa (qF v0.start) λB=>aa (qF j.start) λF=>aa (qA (B,F)) λG=>aa (qA (v0.aS,j.aS)) λM=>aa (xZ v0) λN=>aa (xZ j) λO=>aa (qA (N,O)) λU=>aa (qA (v0.id,j.id)) λY=>aa (se [G,M,U,Y]) λk=>some k
noncomputable def Ci:((List Written)×Unit)->Option Bool:=λ(v0,G)=>aR (ae (ai ((v0.length:Int)-1)) <|aA (λj:Int=>ab (aj 0 j) (aa (an v0 j) λk=>ae (ai (j-1)) <|aa (an v0 (j-1)) λB=>aa (xY (k,B)) λF=>ab (aj F 0) (some (.inr (.inr false))) (ae (ai (j-1)) <|some (.inl (j-1)))) (some (.inr (.inl ())))) ((v0.length:Int)-1)) λj=>some true
noncomputable def x5:(Int×(Int×Int))->Option Bool:=λ(v0,j,k)=>aa (ab (leI j v0) (some (leI v0 k)) (some false)) λB=>some B
noncomputable def xX:(Written×Rat)->Option Bool:=λ(v0,G)=>aa (aa (x5 (v0.id,(1,1000000))) λB=>ab B (aa (x5 (v0.aS,(0,9))) λj=>ab j (aa (x5 (v0.br,(0,20))) λk=>some k) (some false)) (some false)) λB=>aa (qF v0.start) λj=>aa (qF v0.length) λk=>aa (ab B (aa (iH v0.aN) λF=>ab F (ab (leI 0 j) (ab (aj 0 k) (ae (ai (j+k)) <|aa (qF G) λM=>some (leI (j+k) M)) (some false)) (some false)) (some false)) (some false)) λF=>some F
noncomputable def A3:(Part×(Int×aV))->Option (aV×Int):=λ(v0,G,F)=>aa (aa (aa (uC v0) λj=>ab (!j) (some (false,(0,0))) (aa (pj v0.shift) λk=>aa (uE (G,k.1)) λB=>aa (ab (!(aC k.2 0)) (some true) (some (!(aC B.2.2 0)))) λM=>ab M (some (false,(0,0))) (some (true,(B.2.1.steps,B.2.1.bL))))) λj=>ab (!j.1) (some (true,(j.2.1,j.2.2))) (aa (iH F) λk=>some ((!k),(j.2.1,j.2.2)))) λj=>ab j.1 (some ((⟨0,0,0⟩:aV),1)) (aa (pj (⟨j.2.1,j.2.2⟩:Interval)) λk=>ab (!(aC k.2 0)) (some ((⟨0,0,0⟩:aV),k.2)) (aa (xl (F,k.1)) λB=>some (B.1,B.2)))
noncomputable def GM:(Rat×Rat)->Option Fraction:=λ(v0,j)=>ae (ai (v0.n*j.d)) <|ae (ai (j.n*v0.d)) <|ae (ai ((v0.n*j.d)+(j.n*v0.d))) <|ae (ai (v0.d*j.d)) <|some (⟨((v0.n*j.d)+(j.n*v0.d)),(v0.d*j.d)⟩:Fraction)
noncomputable def BR:Fraction->Option (Rat×Int):=λ(v0)=>aa (uR v0) λj=>aa (aa (nW j.n) λk=>ab (aj 1000000000 k) (some true) (some (aj 1000000 j.d))) λk=>ab k (some ((⟨0,0⟩:Rat),3)) (some ((⟨j.n,j.d⟩:Rat),0))
noncomputable def GN:(Rat×(Rat×(Rat×Rat)))->Option (Rat×Int):=λ(v0,G,j)=>aa (aa (mM v0) λk=>ab (!k) (some true) (aa (mM G) λB=>some (!B))) λk=>ab k (some ((⟨0,0⟩:Rat),1)) (aa (GM (j.1,j.2)) λB=>aa (BR B) λF=>some (F.1,F.2))
noncomputable def kh:(Rat×Rat)->Option (Rat×Int):=λ(v0,j)=>aa (GN (v0,(j,(v0,j)))) λk=>some (k.1,k.2)
noncomputable def N4:(List (Int×Bool))->Option (List (Int×Bool)):=λ(v0)=>some v0
noncomputable def N3:(aB×Int)->Option Int:=λ(v0,j)=>some j
noncomputable def xa:(aB×Int)->Option aB:=λ(v0,M)=>aa (N3 (v0,M)) λG=>aa (pd (List.isEmpty v0.notes) (some ([]:List Written)) (ae (WP 80 (List.append ([]:List Written) v0.notes)) <|some (List.append ([]:List Written) v0.notes))) λF=>aa (aa (aR (aA (λk:Int=>ab (aj k (F.length:Int)) (ae ((leI 0 k)&&(aj k (F.length:Int))) <|aa (an F k) λj=>aa (ab (aC j.aS 0) (some true) (some (aC j.aS G))) λB=>ab (!B) (some (.inr (.inr k))) (ae (ai (k+1)) <|some (.inl (k+1)))) (some (.inr (.inl ())))) 0) λk=>some (-1)) λk=>ab (aC k (-1)) (some F) (aa (ae (ai (k+1)) <|aA (λj:(Int×(Int×(List Written)))=>ab (aj j.2.1 (j.2.2.length:Int)) (aa (ae ((leI 0 j.2.1)&&(aj j.2.1 (j.2.2.length:Int))) <|aa (an j.2.2 j.2.1) λB=>aa (ab (aC B.aS 0) (some true) (some (aC B.aS G))) λN=>ab (!(!N)) (ae ((leI 0 j.1)&&(aj j.1 (j.2.2.length:Int))) <|aa (an j.2.2 j.1) λO=>ae (ai (j.1+1)) <|some ((j.1+1),(List.set j.2.2 (Int.toNat j.1) B))) (some (j.1,j.2.2))) λB=>ae (ai (j.2.1+1)) <|some (.inl (B.1,((j.2.1+1),B.2)))) (some (.inr (j.1,j.2.2)))) (k,((k+1),F))) λj=>ae ((leI 0 j.1)&&(leI j.1 (j.2.length:Int))) <|ae ((leI 0 j.1)&&(leI j.1 ((List.append (List.take (Int.toNat j.1) j.2) (List.replicate (Int.toNat ((j.2.length:Int)-j.1)) ((⟨0,0,0,(⟨0,0⟩:Rat),(⟨0,0⟩:Rat),(⟨0,0,0⟩:aV)⟩:Written):Written))).length:Int))) <|some (List.take (Int.toNat j.1) (List.append (List.take (Int.toNat j.1) j.2) (List.replicate (Int.toNat ((j.2.length:Int)-j.1)) ((⟨0,0,0,(⟨0,0⟩:Rat),(⟨0,0⟩:Rat),(⟨0,0,0⟩:aV)⟩:Written):Written)))))) λk=>some (⟨v0.aw,v0.key,v0.length,k⟩:aB)
noncomputable def Gw:((List aB)×Int)->Option (List aB):=λ(v0,B)=>aa (aA (λj:(Int×(List aB))=>ab (aj j.1 (v0.length:Int)) (aa (an v0 j.1) λF=>aa (xa (F,B)) λk=>ae (WP 56 (List.append j.2 [k])) <|ae (ai (j.1+1)) <|some (.inl ((j.1+1),(List.append j.2 [k])))) (some (.inr j.2))) (0,([]:List aB))) λj=>some j
noncomputable def Gz:(View×Int)->Option View:=λ(v0,j)=>aa (Gw (v0.aK,j)) λk=>some (⟨v0.part,k⟩:View)
noncomputable def w8:(View×Int)->Option (View×Int):=λ(v0,j)=>aa (aa (sf v0) λk=>ab (!k) (some true) (ab (aj j 0) (some true) (some (aj 9 j)))) λk=>ab k (some ((⟨0,([]:List aB)⟩:View),1)) (aa (Gz (v0,j)) λB=>some (B,0))
noncomputable def Gt:View->Option Bool:=λ(v0)=>aa (sf v0) λj=>some (!j)
noncomputable def G8:((List View)×Unit)->Option Int:=λ(v0,F)=>aR (aA (λj:Int=>ab (aj j (v0.length:Int)) (aa (an v0 j) λk=>aa (Gt k) λB=>ab B (some (.inr (.inr j))) (ae (ai (j+1)) <|some (.inl (j+1)))) (some (.inr (.inl ())))) 0) λj=>some (-1)
noncomputable def Cc:((List View)×Unit)->Option Bool:=λ(v0,j)=>aa (G8 (v0,j)) λk=>some (leI 0 k)
noncomputable def AW:(aB×aB)->Option Bool:=λ(v0,j)=>aa (ab (aC v0.aw j.aw) (ab (aC v0.key j.key) (some (vS v0.length j.length)) (some false)) (some false)) λk=>some k
noncomputable def G0:((List aB)×((List aB)×Unit))->Option Bool:=λ(v0,k,G)=>ab (!(aC (v0.length:Int) (k.length:Int))) (some false) (aR (aA (λj:Int=>ab (aj j (v0.length:Int)) (aa (an v0 j) λB=>aa (an k j) λF=>aa (AW (B,F)) λM=>ab (!M) (some (.inr (.inr false))) (ae (ai (j+1)) <|some (.inl (j+1)))) (some (.inr (.inl ())))) 0) λj=>some true)
noncomputable def AV:(View×View)->Option Bool:=λ(v0,k)=>aa (ab (aC v0.part k.part) (aa (G0 (v0.aK,(k.aK,()))) λj=>some j) (some false)) λj=>some j
noncomputable def Gu:(View×(List View))->Option Bool:=λ(v0,j)=>aa (an j 0) λk=>aa (AV (k,v0)) λB=>some (!B)
noncomputable def G9:((List View)×(List View))->Option Int:=λ(v0,k)=>aR (aA (λj:Int=>ab (aj j (v0.length:Int)) (aa (an v0 j) λB=>aa (Gu (B,k)) λF=>ab F (some (.inr (.inr j))) (ae (ai (j+1)) <|some (.inl (j+1)))) (some (.inr (.inl ())))) 0) λj=>some (-1)
noncomputable def GY:((List View)×(List View))->Option Bool:=λ(v0,j)=>aa (G9 (v0,j)) λk=>some (leI 0 k)
noncomputable def N5:(List (Int×Written))->Option (List (Int×Written)):=λ(v0)=>some v0
noncomputable def mL:((List ay)×(List ay))->Option Bool:=λ(v0,k)=>ab (!(aC (v0.length:Int) (k.length:Int))) (some false) (aR (aA (λj:Int=>ab (aj j (v0.length:Int)) (aa (an v0 j) λB=>aa (an k j) λF=>ab (!(Km B F)) (some (.inr (.inr false))) (ae (ai (j+1)) <|some (.inl (j+1)))) (some (.inr (.inl ())))) 0) λj=>some true)
noncomputable def Bp:Form->Option Bool:=λ(v0)=>aa (ab (leI v0.bars 60) (ab (leI (v0.bg.length:Int) 110) (ab (leI (v0.bC.length:Int) 60) (some (leI (v0.bd.length:Int) 110)) (some false)) (some false)) (some false)) λj=>some j
noncomputable def BN:(c8×Room)->Option Bool:=λ(v0,k)=>aa (ab (aj 12 (v0.score.bars.length:Int)) (some true) (ab (aj 8 (v0.score.parts.length:Int)) (some true) (ab (aj 30 (v0.score.notes.length:Int)) (some true) (aa (Bp k.form) λB=>ab (!B) (some true) (some (aj 40 (k.bp.length:Int))))))) λB=>ab B (some false) (aR (aA (λj:Int=>ab (aj j (v0.score.parts.length:Int)) (aa (an v0.score.parts j) λF=>ab (aj 6 F.dC) (some (.inr (.inr false))) (ae (ai (j+1)) <|some (.inl (j+1)))) (some (.inr (.inl ())))) 0) λj=>some true)
noncomputable def BA:View->Option Bool:=λ(v0)=>aa (aA (λj:(Int×Int)=>aa (ab (aj j.2 (v0.aK.length:Int)) (some (aj j.2 61)) (some false)) λk=>ab k (aa (an v0.aK j.2) λB=>ae (ai (j.1+(B.notes.length:Int))) <|ae (ai (j.2+1)) <|some (.inl ((j.1+(B.notes.length:Int)),(j.2+1)))) (some (.inr j.1))) (0,0)) λj=>aa (ab (leI (v0.aK.length:Int) 60) (some (leI j 80)) (some false)) λk=>some k
noncomputable def A6:(List View)->Option Bool:=λ(v0)=>aR (aA (λj:Int=>ab (aj j (v0.length:Int)) (aa (an v0 j) λB=>aa (ab (leI 50 j) (some true) (aa (BA B) λk=>some (!k))) λk=>ab k (some (.inr (.inr false))) (ae (ai (j+1)) <|some (.inl (j+1)))) (some (.inr (.inl ())))) 0) λj=>some true
noncomputable def xt:(Int×Int)->Option Int:=λ(v0,k)=>aa (aA (λj:(Int×Int)=>ab (!(aC j.2 0)) (ae (!(aC j.2 0)) <|some (.inl (j.2,(Int.tmod j.1 j.2)))) (some (.inr j.1))) (v0,k)) λj=>some j
noncomputable def fR:Rat->Option Int:=λ(v0)=>aa (ab (aj v0.d 1) (some true) (ae (!(aC v0.d 0)) <|ab (!(aC (Int.tmod 1680 v0.d) 0)) (some true) (ab (aj v0.n 0) (some true) (ab (aj 1000000000 v0.n) (some true) (aa (xt (v0.n,v0.d)) λj=>some (!(aC j 1))))))) λj=>ab j (some (-1)) (ae (!(aC v0.d 0)) <|ae (ai (Int.tdiv 1680 v0.d)) <|ae (ai (v0.n*(Int.tdiv 1680 v0.d))) <|some (v0.n*(Int.tdiv 1680 v0.d)))
noncomputable def xr:(List aT)->Option Bool:=λ(v0)=>aa (ab (aj (v0.length:Int) 1) (some true) (some (aj 4000 (v0.length:Int)))) λO=>ab O (some false) (aR (aA (λj:Int=>ab (aj j (v0.length:Int)) (aR (aa (an v0 j) λM=>aa (fR M.length) λN=>aa (aa (an v0 j) λB=>ab (aj B.id 1) (some true) (aa (an v0 j) λk=>ab (aj 1000000 k.id) (some true) (ab (aj N 1) (some true) (ab (aj 40320 N) (some true) (aa (an v0 j) λF=>ab (aj F.key (-7)) (some true) (aa (an v0 j) λG=>some (aj 7 G.key))))))) λB=>ab B (some (.inr (.inr (.inr false)))) (aA (λk:Int=>ab (aj k j) (aa (an v0 k) λF=>aa (an v0 j) λG=>ab (aC F.id G.id) (some (.inr (.inr (.inr (.inr false))))) (ae (ai (k+1)) <|some (.inl (k+1)))) (some (.inr (.inl ())))) 0)) λM=>ae (ai (j+1)) <|some (.inl (j+1))) (some (.inr (.inl ())))) 0) λj=>some true)
noncomputable def l8:(Int×(Int×Int))->Option Bool:=λ(v0,j,k)=>aa (ab (leI j v0) (some (leI v0 k)) (some false)) λB=>some B
noncomputable def Bf:(Int×(Int×Int))->Option Bool:=λ(v0,j,k)=>aa (ab (leI j v0) (some (leI v0 k)) (some false)) λB=>some B
noncomputable def GI:Interval->Option Bool:=λ(v0)=>aa (aa (Bf (v0.steps,((-70),70))) λj=>ab j (aa (Bf (v0.bL,((-120),120))) λk=>some k) (some false)) λj=>some j
noncomputable def xo:Interval->Option (Int×Int):=λ(v0)=>aa (GI v0) λj=>ab (!j) (some (0,1)) (ae (ai (7*v0.bL)) <|ae (ai (12*v0.steps)) <|ae (ai ((7*v0.bL)-(12*v0.steps))) <|some (((7*v0.bL)-(12*v0.steps)),0))
noncomputable def Bn:Interval->Option Bool:=λ(v0)=>aa (xo v0) λk=>aa (ab (aC k.2 0) (aa (l8 (v0.steps,((-21),21))) λj=>ab j (aa (l8 (v0.bL,((-36),36))) λB=>ab B (aa (l8 (k.1,((-12),12))) λF=>some F) (some false)) (some false)) (some false)) λj=>some j
noncomputable def pk:(Int×(Int×Int))->Option Bool:=λ(v0,j,k)=>aa (ab (leI j v0) (some (leI v0 k)) (some false)) λB=>some B
noncomputable def jF:aV->Option Bool:=λ(v0)=>aa (pk (v0.step,(0,6))) λk=>aa (pk (v0.alter,((-4),4))) λB=>aa (ab k (ab B (aa (pk (v0.aO,((-8),20))) λj=>some j) (some false)) (some false)) λj=>some j
noncomputable def GH:Int->Option Int:=λ(v0)=>ae (ai (2*v0)) <|aa (ab (aj 2 v0) (ae (ai ((2*v0)-1)) <|some ((2*v0)-1)) (some (2*v0))) λj=>some j
noncomputable def fQ:aV->Option Int:=λ(v0)=>ae (ai (12*v0.aO)) <|aa (GH v0.step) λj=>ae (ai ((12*v0.aO)+j)) <|ae (ai (((12*v0.aO)+j)+v0.alter)) <|some (((12*v0.aO)+j)+v0.alter)
noncomputable def Bj:Part->Option Bool:=λ(v0)=>aa (l8 (v0.id,(1,1000000))) λF=>aa (l8 (v0.oi,(0,99))) λG=>aa (l8 (v0.of,(0,1000000))) λM=>aa (l8 (v0.aO,((-2),2))) λN=>aa (l8 (v0.dC,(1,40))) λO=>aa (Bn v0.shift) λU=>aa (jF v0.low) λY=>aa (jF v0.high) λZ=>aa (ab (!F) (some true) (ab (!G) (some true) (ab (!M) (some true) (ab (!N) (some true) (ab (!O) (some true) (ab (!U) (some true) (ab (!Y) (some true) (some (!Z))))))))) λB=>ab B (some false) (aa (ab (!(aC v0.of v0.id)) (ab (!(aC v0.of 0)) (aa (fQ v0.low) λj=>aa (fQ v0.high) λk=>some (leI j k)) (ab (aC v0.aO 0) (aa (fQ v0.low) λj=>aa (fQ v0.high) λk=>some (leI j k)) (some false))) (some false)) λj=>some j)
noncomputable def qD:((List Part)×Int)->Option Int:=λ(v0,k)=>aR (aA (λj:Int=>ab (aj j (v0.length:Int)) (aa (an v0 j) λB=>ab (aC B.id k) (some (.inr (.inr j))) (ae (ai (j+1)) <|some (.inl (j+1)))) (some (.inr (.inl ())))) 0) λj=>some (-1)
noncomputable def Bl:(List Part)->Option Bool:=λ(v0)=>aa (ab (aj (v0.length:Int) 1) (some true) (some (aj 60 (v0.length:Int)))) λM=>ab M (some false) (aR (aA (λj:Int=>ab (aj j (v0.length:Int)) (aR (aa (an v0 j) λF=>aa (Bj F) λU=>aa (ab (!U) (some true) (aa (an v0 j) λk=>aa (qD (v0,k.id)) λB=>some (!(aC B j)))) λk=>ab k (some (.inr (.inr (.inr false)))) (aa (an v0 j) λB=>ab (aC B.of 0) (some (.inl ())) (aa (an v0 j) λN=>aa (qD (v0,N.of)) λG=>ab (aj G 0) (some (.inr (.inr (.inr false)))) (aa (an v0 G) λO=>ab (!(aC O.of 0)) (some (.inr (.inr (.inr false)))) (some (.inl ())))))) λF=>ae (ai (j+1)) <|some (.inl (j+1))) (some (.inr (.inl ())))) 0) λj=>some true)
noncomputable def xu:((List aT)×Int)->Option Int:=λ(v0,k)=>aR (aA (λj:Int=>ab (aj j (v0.length:Int)) (aa (an v0 j) λB=>ab (aC B.id k) (some (.inr (.inr j))) (ae (ai (j+1)) <|some (.inl (j+1)))) (some (.inr (.inl ())))) 0) λj=>some (-1)
noncomputable def Bd:aV->Option Bool:=λ(v0)=>aa (jF v0) λk=>aa (ab k (aa (pk (v0.alter,((-2),2))) λj=>ab j (aa (pk (v0.aO,(0,9))) λB=>some B) (some false)) (some false)) λj=>some j
noncomputable def uH:(Int×(Int×Int))->Option Bool:=λ(v0,j,k)=>aa (ab (leI j v0) (some (leI v0 k)) (some false)) λB=>some B
noncomputable def Bh:((List aT)×aq)->Option Bool:=λ(v0,j)=>aa (xu (v0,j.aw)) λG=>aa (Bd j.aN) λO=>aa (ab (aj G 0) (some true) (ab (!O) (some true) (aa (uH (j.id,(1,1000000))) λM=>ab (!M) (some true) (aa (uH (j.part,(1,1000000))) λk=>ab (!k) (some true) (aa (uH (j.aS,(0,9))) λB=>ab (!B) (some true) (aa (uH (j.br,(0,20))) λF=>some (!F))))))) λM=>ab M (some false) (aa (fR j.start) λk=>aa (fR j.length) λB=>aa (ab (leI 0 k) (ab (aj 0 B) (ae (ai (k+B)) <|aa (an v0 G) λF=>aa (fR F.length) λN=>some (leI (k+B) N)) (some false)) (some false)) λF=>some F)
noncomputable def Bi:((List aT)×(List aq))->Option Bool:=λ(v0,k)=>aa (xr v0) λO=>aa (ab (!O) (some true) (some (aj 20000 (k.length:Int)))) λG=>ab G (some false) (aR (aA (λj:Int=>ab (aj j (k.length:Int)) (aR (aa (an k j) λF=>aa (Bh (v0,F)) λU=>ab (!U) (some (.inr (.inr (.inr false)))) (aA (λB:Int=>ab (aj B j) (aa (an k B) λM=>aa (an k j) λN=>ab (aC M.id N.id) (some (.inr (.inr (.inr (.inr false))))) (ae (ai (B+1)) <|some (.inl (B+1)))) (some (.inr (.inl ())))) 0)) λF=>ae (ai (j+1)) <|some (.inl (j+1))) (some (.inr (.inl ())))) 0) λj=>some true)
noncomputable def uI:((List Part)×aq)->Option Int:=λ(v0,k)=>aa (qD (v0,k.part)) λj=>ab (aj j 0) (some (-1)) (aa (an v0 j) λB=>ab (!(aC B.of 0)) (some (-1)) (some j))
noncomputable def GJ:(Part×aV)->Option Bool:=λ(v0,j)=>aa (fQ j) λk=>aa (fQ v0.low) λB=>aa (fQ v0.high) λF=>aa (l8 (k,(B,F))) λG=>some G
noncomputable def xw:((List Part)×(List aq))->Option Int:=λ(v0,k)=>aR (aA (λB:Int=>ab (aj B (k.length:Int)) (aa (an k B) λj=>aa (uI (v0,j)) λF=>ab (aj F 0) (some (.inr (.inr 22))) (ae (ai (B+1)) <|some (.inl (B+1)))) (some (.inr (.inl ())))) 0) λB=>aR (aA (λj:Int=>ab (aj j (k.length:Int)) (aa (an k j) λF=>aa (uI (v0,F)) λG=>aa (an v0 G) λM=>aa (an k j) λN=>aa (GJ (M,N.aN)) λO=>ab (!O) (some (.inr (.inr 20))) (ae (ai (j+1)) <|some (.inl (j+1)))) (some (.inr (.inl ())))) 0) λj=>some 0
noncomputable def xv:((List aT)×aq)->Option (List Int):=λ(v0,j)=>aa (xu (v0,j.aw)) λk=>aa (fR j.start) λB=>aa (fQ j.aN) λF=>some [k,j.part,B,j.aS,F,j.id]
noncomputable def Bg:((List aT)×(aq×aq))->Option Bool:=λ(v0,F,G)=>aa (xv (v0,F)) λk=>aa (xv (v0,G)) λB=>aR (aA (λj:Int=>ab (aj j (k.length:Int)) (aa (an k j) λM=>aa (an B j) λN=>ab (!(aC M N)) (aa (an k j) λO=>aa (an B j) λU=>some (.inr (.inr (aj O U)))) (ae (ai (j+1)) <|some (.inl (j+1)))) (some (.inr (.inl ())))) 0) λj=>some false
noncomputable def uJ:Score->Option Bool:=λ(v0)=>aa (xr v0.bars) λM=>aa (Bl v0.parts) λN=>aa (aa (l8 (v0.version,(1,1000000))) λk=>ab (!k) (some true) (ab (!M) (some true) (some (!N)))) λk=>ab k (some false) (aa (Bi (v0.bars,v0.notes)) λO=>ab (!O) (some false) (aa (xw (v0.parts,v0.notes)) λB=>ab (!(aC B 0)) (some false) (aR (aA (λj:Int=>ab (aj j (v0.notes.length:Int)) (ae (ai (j-1)) <|aa (an v0.notes (j-1)) λF=>aa (an v0.notes j) λG=>aa (Bg (v0.bars,(F,G))) λU=>ab (!U) (some (.inr (.inr false))) (ae (ai (j+1)) <|some (.inl (j+1)))) (some (.inr (.inl ())))) 1) λj=>some true)))
noncomputable def Bw:((List Repeat)×Int)->Option Bool:=λ(v0,F)=>ab (aj 100 (v0.length:Int)) (some false) (aR (aA (λj:(Int×Int)=>ab (aj j.2 (v0.length:Int)) (aa (aa (an v0 j.2) λk=>ab (aj k.from_ j.1) (some true) (aa (an v0 j.2) λB=>aa (an v0 j.2) λG=>ab (leI G.aW B.from_) (some true) (aa (an v0 j.2) λM=>ab (aj F M.aW) (some true) (aa (an v0 j.2) λN=>ab (aj N.times 1) (some true) (aa (an v0 j.2) λO=>some (aj 9 O.times)))))) λk=>ab k (some (.inr (.inr false))) (aa (an v0 j.2) λB=>ae (ai (j.2+1)) <|some (.inl (B.aW,(j.2+1))))) (some (.inr (.inl ())))) (0,0)) λj=>some true)
noncomputable def Bu:((List Repeat)×(Int×Int))->Option Bool:=λ(v0,B,F)=>aR (aA (λj:Int=>ab (aj j (v0.length:Int)) (aa (aa (an v0 j) λk=>ab (leI k.from_ B) (aa (an v0 j) λG=>some (leI F G.aW)) (some false)) λk=>ab k (some (.inr (.inr true))) (ae (ai (j+1)) <|some (.inl (j+1)))) (some (.inr (.inl ())))) 0) λj=>some false
noncomputable def Bt:Form->Option Bool:=λ(v0)=>ab (aj 100 (v0.bC.length:Int)) (some false) (aR (aA (λk:(Int×Int)=>ab (aj k.2 (v0.bC.length:Int)) (aa (an v0.bC k.2) λj=>aa (ab (aj j.from_ k.1) (some true) (ab (leI j.aW j.from_) (some true) (aa (Bu (v0.bg,(j.from_,j.aW))) λB=>ab (!B) (some true) (ab (aj j.pass 1) (some true) (some (aj 9 j.pass)))))) λB=>ab B (some (.inr (.inr false))) (ae (ai (k.2+1)) <|some (.inl (j.aW,(k.2+1))))) (some (.inr (.inl ())))) (0,0)) λk=>some true)
noncomputable def uL:((List Repeat)×Int)->Option Bool:=λ(v0,B)=>aR (aA (λj:Int=>ab (aj j (v0.length:Int)) (aa (aa (an v0 j) λk=>ab (aj k.from_ B) (aa (an v0 j) λF=>some (aj B F.aW)) (some false)) λk=>ab k (some (.inr (.inr true))) (ae (ai (j+1)) <|some (.inl (j+1)))) (some (.inr (.inl ())))) 0) λj=>some false
noncomputable def Bv:Form->Option Bool:=λ(v0)=>ab (DL v0.jump (⟨0,0,0⟩:Jump)) (some true) (aa (ab (aj v0.jump.at_ 1) (some true) (ab (aj v0.bars v0.jump.at_) (some true) (ab (aj v0.jump.to 0) (some true) (ab (leI v0.jump.at_ v0.jump.to) (some true) (ab (leI v0.jump.de v0.jump.to) (some true) (some (aj v0.bars v0.jump.de))))))) λk=>ab k (some false) (aa (aa (uL (v0.bg,v0.jump.at_)) λj=>ab (!j) (aa (uL (v0.bg,v0.jump.to)) λB=>ab (!B) (aa (uL (v0.bg,v0.jump.de)) λF=>some (!F)) (some false)) (some false)) λj=>some j))
noncomputable def xy:(Form×Cut)->Option Bool:=λ(v0,j)=>aa (ab (leI 0 j.from_) (ab (aj j.from_ j.aW) (ab (leI j.aW v0.bars) (ab (leI 0 j.pass) (some (leI j.pass 20)) (some false)) (some false)) (some false)) (some false)) λk=>some k
noncomputable def xz:((List Cut)×Cut)->Option Int:=λ(v0,k)=>aR (aA (λj:Int=>ab (aj j (v0.length:Int)) (aa (an v0 j) λB=>ab (Kh B k) (some (.inr (.inr j))) (ae (ai (j+1)) <|some (.inl (j+1)))) (some (.inr (.inl ())))) 0) λj=>some (-1)
noncomputable def uK:(Form×Int)->Option Int:=λ(v0,k)=>aR (aA (λj:Int=>ab (aj j (v0.bg.length:Int)) (aa (an v0.bg j) λB=>ab (aC B.from_ k) (some (.inr (.inr j))) (ae (ai (j+1)) <|some (.inl (j+1)))) (some (.inr (.inl ())))) 0) λj=>some (-1)
noncomputable def pn:(Form×(Int×Int))->Option Bool:=λ(v0,B,F)=>aR (aA (λj:Int=>ab (aj j (v0.bC.length:Int)) (aa (an v0.bC j) λk=>aa (ab (leI k.from_ B) (ab (aj B k.aW) (some (!(aC k.pass F))) (some false)) (some false)) λG=>ab G (some (.inr (.inr false))) (ae (ai (j+1)) <|some (.inl (j+1)))) (some (.inr (.inl ())))) 0) λj=>some true
noncomputable def xA:Form->Option (List Int):=λ(v0)=>ab (aC v0.jump.at_ 0) (aa (aA (λk:(Int×(List Int))=>ab (aj k.1 v0.bars) (aa (uK (v0,k.1)) λF=>ab (aj F 0) (ae (WP 8 (List.append k.2 [k.1])) <|ae (ai (k.1+1)) <|some (.inl ((k.1+1),(List.append k.2 [k.1])))) (aa (an v0.bg F) λM=>aa (aA (λB:(Int×(List Int))=>ab (leI B.1 M.times) (aa (aA (λj:(Int×(List Int))=>ab (aj j.1 M.aW) (aa (aa (pn (v0,(j.1,B.1))) λG=>ab G (ae (WP 8 (List.append j.2 [j.1])) <|some (List.append j.2 [j.1])) (some j.2)) λG=>ae (ai (j.1+1)) <|some (.inl ((j.1+1),G))) (some (.inr j.2))) (M.from_,B.2)) λj=>ae (ai (B.1+1)) <|some (.inl ((B.1+1),j))) (some (.inr B.2))) (1,k.2)) λB=>some (.inl (M.aW,B)))) (some (.inr k.2))) (0,([]:List Int))) λk=>some k) (aa (aA (λk:(Int×(List Int))=>ab (aj k.1 v0.jump.at_) (aa (uK (v0,k.1)) λF=>ab (aj F 0) (ae (WP 8 (List.append k.2 [k.1])) <|ae (ai (k.1+1)) <|some (.inl ((k.1+1),(List.append k.2 [k.1])))) (aa (an v0.bg F) λM=>aa (aA (λB:(Int×(List Int))=>ab (leI B.1 M.times) (aa (aA (λj:(Int×(List Int))=>ab (aj j.1 M.aW) (aa (aa (pn (v0,(j.1,B.1))) λG=>ab G (ae (WP 8 (List.append j.2 [j.1])) <|some (List.append j.2 [j.1])) (some j.2)) λG=>ae (ai (j.1+1)) <|some (.inl ((j.1+1),G))) (some (.inr j.2))) (M.from_,B.2)) λj=>ae (ai (B.1+1)) <|some (.inl ((B.1+1),j))) (some (.inr B.2))) (1,k.2)) λB=>some (.inl (M.aW,B)))) (some (.inr k.2))) (0,([]:List Int))) λk=>aa (aA (λF:(Int×(List Int))=>ab (aj F.1 v0.jump.de) (aa (uK (v0,F.1)) λM=>ab (aj M 0) (ae (WP 8 (List.append F.2 [F.1])) <|ae (ai (F.1+1)) <|some (.inl ((F.1+1),(List.append F.2 [F.1])))) (aa (an v0.bg M) λB=>aa (aA (λj:(Int×(List Int))=>ab (leI j.1 B.times) (aa (aA (λG:(Int×(List Int))=>ab (aj G.1 B.aW) (aa (aa (pn (v0,(G.1,j.1))) λN=>ab N (ae (WP 8 (List.append G.2 [G.1])) <|some (List.append G.2 [G.1])) (some G.2)) λN=>ae (ai (G.1+1)) <|some (.inl ((G.1+1),N))) (some (.inr G.2))) (B.from_,j.2)) λG=>ae (ai (j.1+1)) <|some (.inl ((j.1+1),G))) (some (.inr j.2))) (B.times,F.2)) λj=>some (.inl (B.aW,j)))) (some (.inr F.2))) (v0.jump.to,([]:List Int))) λF=>ae (WP 8 (List.append k F)) <|some (List.append k F))
noncomputable def xx:Form->Option Bool:=λ(v0)=>aa (ab (aj v0.bars 1) (some true) (ab (aj 4000 v0.bars) (some true) (aa (Bw (v0.bg,v0.bars)) λB=>ab (!B) (some true) (aa (Bt v0) λj=>ab (!j) (some true) (aa (Bv v0) λk=>ab (!k) (some true) (some (aj 100 (v0.bd.length:Int)))))))) λB=>ab B (some false) (aR (aA (λj:Int=>ab (aj j (v0.bd.length:Int)) (aa (aa (an v0.bd j) λk=>aa (xy (v0,k)) λM=>ab (!M) (some true) (ae ((leI 0 j)&&(leI j (v0.bd.length:Int))) <|aa (an v0.bd j) λF=>aa (xz ((List.take (Int.toNat j) v0.bd),F)) λG=>some (leI 0 G))) λk=>ab k (some (.inr (.inr false))) (ae (ai (j+1)) <|some (.inl (j+1)))) (some (.inr (.inl ())))) 0) λj=>aa (xA v0) λk=>some (leI (k.length:Int) 20000))
noncomputable def po:(Int×(Int×Int))->Option Bool:=λ(v0,j,k)=>aa (ab (leI j v0) (some (leI v0 k)) (some false)) λB=>some B
noncomputable def xJ:(List Int)->Option Bool:=λ(v0)=>aR (aA (λj:Int=>ab (aj j (v0.length:Int)) (aa (aa (an v0 j) λk=>aa (po (k,(1,20))) λG=>ab (!G) (some true) (ab (aj 0 j) (aa (an v0 j) λB=>ae (ai (j-1)) <|aa (an v0 (j-1)) λF=>some (leI B F)) (some false))) λk=>ab k (some (.inr (.inr false))) (ae (ai (j+1)) <|some (.inl (j+1)))) (some (.inr (.inl ())))) 0) λj=>some true
noncomputable def xM:(c8×Room)->Option Bool:=λ(v0,j)=>aa (aa (uJ v0.score) λB=>ab (!B) (some true) (some (!(aC j.version v0.score.version)))) λB=>ab B (some false) (aa (aa (xx j.form) λk=>ab k (ab (aC j.form.bars (v0.score.bars.length:Int)) (aa (xJ j.bp) λF=>some F) (some false)) (some false)) λk=>some k)
noncomputable def xp:Rat->Option Bool:=λ(v0)=>aa (fR v0) λj=>some (leI 0 j)
noncomputable def so:View->Option Bool:=λ(v0)=>ab (aj 4000 (v0.aK.length:Int)) (some false) (aR (aA (λk:(Int×Int)=>ab (aj k.2 (v0.aK.length:Int)) (aR (aa (an v0.aK k.2) λj=>ae (ai (k.1+(j.notes.length:Int))) <|ab (aj 20000 (k.1+(j.notes.length:Int))) (some (.inr (.inr (.inr false)))) (aA (λB:Int=>ab (aj B (j.notes.length:Int)) (aa (aa (an j.notes B) λF=>aa (po (F.aS,(0,9))) λU=>ab (!U) (some true) (aa (an j.notes B) λM=>aa (po (M.br,(0,20))) λY=>ab (!Y) (some true) (aa (an j.notes B) λN=>aa (xp N.start) λZ=>ab (!Z) (some true) (aa (an j.notes B) λG=>aa (jF G.aN) λO=>some (!O))))) λF=>ab F (some (.inr (.inr (.inr (.inr false))))) (ae (ai (B+1)) <|some (.inl (B+1)))) (some (.inr (.inl (k.1+(j.notes.length:Int)))))) 0)) λj=>ae (ai (k.2+1)) <|some (.inl (j,(k.2+1)))) (some (.inr (.inl ())))) (0,0)) λk=>some true)
noncomputable def BI:((List Written)×(List Int))->Option Int:=λ(v0,B)=>aR (aA (λj:Int=>ab (aj j (B.length:Int)) (aR (aA (λk:Int=>ab (aj k (v0.length:Int)) (aa (an v0 k) λF=>aa (an B j) λG=>ab (aC F.br G) (aa (an B j) λM=>some (.inr (.inr (.inr (.inr M))))) (ae (ai (k+1)) <|some (.inl (k+1)))) (some (.inr (.inl ())))) 0) λk=>ae (ai (j+1)) <|some (.inl (j+1))) (some (.inr (.inl ())))) 0) λj=>some 0
noncomputable def BH:(View×(List Int))->Option (View×Int):=λ(v0,M)=>aa (aa (so v0) λN=>ab (!N) (some true) (aa (xJ M) λB=>some (!B))) λN=>ab N (some ((⟨0,([]:List aB)⟩:View),1)) (aa (aA (λB:(Int×(List aB))=>ab (aj B.1 (v0.aK.length:Int)) (aa (an v0.aK B.1) λk=>aa (BI (k.notes,M)) λO=>aa (aA (λj:(Int×(List Written))=>ab (aj j.1 (k.notes.length:Int)) (aa (aa (an k.notes j.1) λF=>ab (aC F.br O) (aa (an k.notes j.1) λG=>ae (WP 80 (List.append j.2 [G])) <|some (List.append j.2 [G])) (some j.2)) λF=>ae (ai (j.1+1)) <|some (.inl ((j.1+1),F))) (some (.inr j.2))) (0,([]:List Written))) λj=>ae (WP 56 (List.append B.2 [(⟨k.aw,k.key,k.length,j⟩:aB)])) <|ae (ai (B.1+1)) <|some (.inl ((B.1+1),(List.append B.2 [(⟨k.aw,k.key,k.length,j⟩:aB)])))) (some (.inr B.2))) (0,([]:List aB))) λB=>some ((⟨v0.part,B⟩:View),0))
noncomputable def GL:aB->Option aB:=λ(v0)=>some (⟨v0.aw,v0.key,v0.length,([]:List Written)⟩:aB)
noncomputable def xD:(Int×(Int×Int))->Option Bool:=λ(v0,j,k)=>aa (ab (leI j v0) (some (leI v0 k)) (some false)) λB=>some B
noncomputable def uM:Part->Option Bool:=λ(v0)=>aa (jF v0.low) λF=>aa (jF v0.high) λG=>ae (ai (7*v0.shift.bL)) <|ae (ai (12*v0.shift.steps)) <|ae (ai ((7*v0.shift.bL)-(12*v0.shift.steps))) <|aa (ab (!F) (some true) (ab (!G) (some true) (aa (xD (v0.shift.steps,((-21),21))) λj=>ab (!j) (some true) (aa (xD (v0.shift.bL,((-36),36))) λk=>ab (!k) (some true) (aa (xD (((7*v0.shift.bL)-(12*v0.shift.steps)),((-12),12))) λB=>some (!B)))))) λj=>ab j (some false) (aa (fQ v0.low) λk=>aa (fQ v0.high) λB=>some (leI k B))
noncomputable def uG:Int->Option Bool:=λ(v0)=>aa (ab (leI (-7) v0) (some (leI v0 7)) (some false)) λj=>some j
noncomputable def xn:Interval->Option Bool:=λ(v0)=>aa (pk (v0.steps,((-70),70))) λk=>aa (ab k (aa (pk (v0.bL,((-120),120))) λj=>some j) (some false)) λj=>some j
noncomputable def uF:Interval->Option (Interval×Int):=λ(v0)=>aa (xn v0) λj=>ab (!j) (some ((⟨0,0⟩:Interval),1)) (ae (ai (fk v0.steps)) <|ae (ai (fk v0.bL)) <|some ((⟨(fk v0.steps),(fk v0.bL)⟩:Interval),0))
noncomputable def Be:(Int×Interval)->Option (Int×(Interval×Int)):=λ(v0,B)=>aa (xo B) λF=>aa (ab (!(aC F.2 0)) (some true) (aa (uG v0) λG=>some (!G))) λG=>ab G (some (0,((⟨0,0⟩:Interval),1))) (ae (ai (v0+F.1)) <|aa (aA (λj:(Int×Int)=>ab (aj 7 j.1) (ae (ai (j.1-12)) <|ae (ai (j.2+1)) <|some (.inl ((j.1-12),(j.2+1)))) (some (.inr (j.1,j.2)))) ((v0+F.1),B.steps)) λj=>aa (aA (λk:(Int×Int)=>ab (aj k.1 (-7)) (ae (ai (k.1+12)) <|ae (ai (k.2-1)) <|some (.inl ((k.1+12),(k.2-1)))) (some (.inr (k.1,k.2)))) (j.1,j.2)) λk=>some (k.1,((⟨k.2,B.bL⟩:Interval),0)))
noncomputable def xE:(Part×Int)->Option (Int×Interval):=λ(v0,k)=>aa (uF v0.shift) λB=>aa (Be (k,B.1)) λj=>some (j.1,j.2.1)
noncomputable def xC:(Part×Int)->Option (Int×Int):=λ(v0,j)=>aa (uM v0) λF=>aa (ab (!F) (some true) (aa (uG j) λk=>some (!k))) λk=>ab k (some (0,1)) (aa (xE (v0,j)) λB=>some (B.1,0))
noncomputable def BB:(Part×aT)->Option aB:=λ(v0,j)=>aa (xC (v0,j.key)) λk=>some (⟨j.id,k.1,j.length,([]:List Written)⟩:aB)
noncomputable def xI:(aB×aB)->Option Bool:=λ(v0,j)=>aa (ab (aC v0.aw j.aw) (ab (aC v0.key j.key) (some (vS v0.length j.length)) (some false)) (some false)) λk=>some k
noncomputable def xH:(Int×(Int×Int))->Option Bool:=λ(v0,j,k)=>aa (ab (leI j v0) (some (leI v0 k)) (some false)) λB=>some B
noncomputable def uN:(Written×Rat)->Option Bool:=λ(v0,F)=>aa (xH (v0.id,(1,1000000))) λG=>aa (xH (v0.aS,(0,9))) λM=>aa (xH (v0.br,(0,20))) λN=>aa (fR v0.start) λj=>aa (fR v0.length) λk=>aa (jF v0.aN) λO=>aa (ab G (ab M (ab N (ab O (ab (leI 0 j) (ab (aj 0 k) (ae (ai (j+k)) <|aa (fR F) λB=>some (leI (j+k) B)) (some false)) (some false)) (some false)) (some false)) (some false)) (some false)) λB=>some B
noncomputable def uO:((List Written)×Int)->Option Bool:=λ(v0,k)=>aR (aA (λj:Int=>ab (aj j (v0.length:Int)) (aa (an v0 j) λB=>ab (aC B.id k) (some (.inr (.inr true))) (ae (ai (j+1)) <|some (.inl (j+1)))) (some (.inr (.inl ())))) 0) λj=>some false
noncomputable def qE:(Written×Written)->Option Bool:=λ(v0,k)=>aa (fR v0.start) λB=>aa (fQ v0.aN) λF=>aa (fR k.start) λG=>aa (fQ k.aN) λM=>aR (aA (λj:Int=>ab (aj j ([B,v0.aS,F,v0.id].length:Int)) (aa (an [B,v0.aS,F,v0.id] j) λO=>aa (an [G,k.aS,M,k.id] j) λU=>ab (!(aC O U)) (aa (an [B,v0.aS,F,v0.id] j) λY=>aa (an [G,k.aS,M,k.id] j) λN=>some (.inr (.inr (aj Y N)))) (ae (ai (j+1)) <|some (.inl (j+1)))) (some (.inr (.inl ())))) 0) λj=>some false
noncomputable def xF:(Score×View)->Option Bool:=λ(v0,G)=>aa (uJ v0) λaq=>aa (ab (!aq) (some true) (some (!(aC (G.aK.length:Int) (v0.bars.length:Int))))) λaf=>ab af (some false) (aa (qD (v0.parts,G.part)) λN=>ab (aj N 0) (some false) (aR (aA (λB:(Int×(List Written))=>ab (aj B.1 (v0.bars.length:Int)) (aR (aa (an G.aK B.1) λk=>aa (GL k) λag=>aa (an v0.parts N) λah=>aa (an v0.bars B.1) λak=>aa (BB (ah,ak)) λO=>aa (xI (ag,O)) λal=>ab (!al) (some (.inr (.inr (.inr false)))) (aA (λj:(Int×(List Written))=>ab (aj j.1 (k.notes.length:Int)) (aa (an k.notes j.1) λU=>aa (uN (U,k.length)) λao=>aa (an k.notes j.1) λY=>aa (uO (j.2,Y.id)) λZ=>aa (ab (!ao) (some true) (ab Z (some true) (some (leI 20000 (j.2.length:Int))))) λad=>ab ad (some (.inr (.inr (.inr (.inr false))))) (aR (ab (aj 0 j.1) (ae (ai (j.1-1)) <|aa (an k.notes (j.1-1)) λM=>aa (an k.notes j.1) λF=>aa (qE (M,F)) λar=>ab (!ar) (some (.inr (.inr (.inr (.inr (.inr false)))))) (some (.inl ()))) (some (.inl ()))) λM=>aa (an k.notes j.1) λF=>ae (WP 80 (List.append j.2 [F])) <|ae (ai (j.1+1)) <|some (.inl ((j.1+1),(List.append j.2 [F]))))) (some (.inr (.inl j.2)))) (0,B.2))) λk=>ae (ai (B.1+1)) <|some (.inl ((B.1+1),k))) (some (.inr (.inl ())))) (0,([]:List Written))) λB=>some true))
noncomputable def xB:(Part×Int)->Option Interval:=λ(v0,j)=>aa (xE (v0,j)) λk=>some k.2
noncomputable def GG:aV->Option Int:=λ(v0)=>ae (ai (7*v0.aO)) <|ae (ai ((7*v0.aO)+v0.step)) <|some ((7*v0.aO)+v0.step)
noncomputable def xm:(aV×Interval)->Option (aV×Int):=λ(v0,j)=>aa (jF v0) λN=>aa (xn j) λO=>aa (ab (!N) (some true) (some (!O))) λM=>ab M (some ((⟨0,0,0⟩:aV),1)) (aa (GG v0) λk=>ae (ai (k+j.steps)) <|ae (!(aC 7 0)) <|ae (!(aC 7 0)) <|ae (ai (Int.tdiv (k+j.steps) 7)) <|aa (ab (aj (Int.tmod (k+j.steps) 7) 0) (ae (ai ((Int.tmod (k+j.steps) 7)+7)) <|ae (ai ((Int.tdiv (k+j.steps) 7)-1)) <|some (((Int.tmod (k+j.steps) 7)+7),((Int.tdiv (k+j.steps) 7)-1))) (some ((Int.tmod (k+j.steps) 7),(Int.tdiv (k+j.steps) 7)))) λB=>aa (fQ v0) λF=>ae (ai (F+j.bL)) <|aa (fQ (⟨B.1,0,B.2⟩:aV)) λG=>ae (ai ((F+j.bL)-G)) <|aa (jF (⟨B.1,((F+j.bL)-G),B.2⟩:aV)) λU=>ab (!U) (some ((⟨0,0,0⟩:aV),3)) (some ((⟨B.1,((F+j.bL)-G),B.2⟩:aV),0)))
noncomputable def By:(Part×(Int×aV))->Option (aV×Int):=λ(v0,j,k)=>aa (uM v0) λN=>aa (jF k) λO=>aa (ab (!N) (some true) (aa (uG j) λB=>ab (!B) (some true) (some (!O)))) λB=>ab B (some ((⟨0,0,0⟩:aV),1)) (aa (xB (v0,j)) λG=>aa (uF G) λM=>aa (xm (k,M.1)) λF=>some (F.1,F.2))
noncomputable def BF:(Score×View)->Option ((List aq)×Int):=λ(v0,G)=>aa (xF (v0,G)) λY=>ab (!Y) (some (([]:List aq),1)) (aa (qD (v0.parts,G.part)) λO=>aa (an v0.parts O) λN=>aR (aA (λk:(Int×(List aq))=>ab (aj k.1 (G.aK.length:Int)) (aR (aa (an G.aK k.1) λF=>aA (λB:(Int×(List aq))=>ab (aj B.1 (F.notes.length:Int)) (aa (an F.notes B.1) λj=>aa (an v0.bars k.1) λU=>aa (By (N,(U.key,j.aN))) λM=>ab (!(aC M.2 0)) (some (.inr (.inr (.inr (.inr (([]:List aq),3)))))) (ae (WP 96 (List.append B.2 [(⟨j.id,N.id,F.aw,j.aS,j.br,j.start,j.length,M.1⟩:aq)])) <|ae (ai (B.1+1)) <|some (.inl ((B.1+1),(List.append B.2 [(⟨j.id,N.id,F.aw,j.aS,j.br,j.start,j.length,M.1⟩:aq)]))))) (some (.inr (.inl B.2)))) (0,k.2)) λF=>ae (ai (k.1+1)) <|some (.inl ((k.1+1),F))) (some (.inr (.inl k.2)))) (0,([]:List aq))) λk=>some (k,0))
noncomputable def Bs:Form->Option (List aE):=λ(v0)=>aa (xA v0) λB=>ae (leI 0 v0.bars) <|ae (WP 8 (List.replicate (Int.toNat v0.bars) (0:Int))) <|aa (aA (λj:(Int×((List Int)×(List aE)))=>ab (aj j.1 (B.length:Int)) (aa (an B j.1) λk=>ae ((leI 0 k)&&(aj k (j.2.1.length:Int))) <|aa (an j.2.1 k) λF=>ae (ai (F+1)) <|ae ((leI 0 k)&&(aj k (j.2.1.length:Int))) <|aa (an j.2.1 k) λO=>aa (an B j.1) λG=>aa (an B j.1) λM=>ae ((leI 0 M)&&(aj M ((List.set j.2.1 (Int.toNat k) (F+1)).length:Int))) <|aa (an (List.set j.2.1 (Int.toNat k) (F+1)) M) λN=>ae (WP 16 (List.append j.2.2 [(⟨G,N⟩:aE)])) <|ae (ai (j.1+1)) <|some (.inl ((j.1+1),((List.set j.2.1 (Int.toNat k) (F+1)),(List.append j.2.2 [(⟨G,N⟩:aE)]))))) (some (.inr j.2.2))) (0,((List.replicate (Int.toNat v0.bars) (0:Int)),([]:List aE)))) λj=>some j
noncomputable def Bq:(Cut×aE)->Option Bool:=λ(v0,j)=>aa (ab (leI v0.from_ j.aw) (ab (aj j.aw v0.aW) (ab (aC v0.pass 0) (some true) (some (aC v0.pass j.pass))) (some false)) (some false)) λk=>some k
noncomputable def Br:Form->Option ((List aE)×Int):=λ(v0)=>aa (xx v0) λN=>ab (!N) (some (([]:List aE),1)) (aa (Bs v0) λF=>aa (aA (λj:(Int×(List aE))=>ab (aj j.1 (F.length:Int)) (aa (aa (aA (λk:(Bool×Int)=>ab (aj k.2 (v0.bd.length:Int)) (aa (ab k.1 (some true) (aa (an v0.bd k.2) λB=>aa (an F j.1) λG=>aa (Bq (B,G)) λM=>some M)) λB=>ae (ai (k.2+1)) <|some (.inl (B,(k.2+1)))) (some (.inr k.1))) (false,0)) λk=>ab (!k) (aa (an F j.1) λB=>ae (WP 16 (List.append j.2 [B])) <|some (List.append j.2 [B])) (some j.2)) λk=>ae (ai (j.1+1)) <|some (.inl ((j.1+1),k))) (some (.inr j.2))) (0,([]:List aE))) λj=>some (j,0))
noncomputable def xq:Int->Option Rat:=λ(v0)=>aa (xt (v0,1680)) λj=>ae (!(aC j 0)) <|ae (ai (Int.tdiv v0 j)) <|ae (!(aC j 0)) <|ae (ai (Int.tdiv 1680 j)) <|some (⟨(Int.tdiv v0 j),(Int.tdiv 1680 j)⟩:Rat)
noncomputable def BQ:(ay×ay)->Option Bool:=λ(v0,k)=>aa (fR v0.start) λB=>aa (fQ v0.aN) λF=>aa (fR v0.length) λG=>aa (fR k.start) λM=>aa (fQ k.aN) λN=>aa (fR k.length) λO=>aR (aA (λj:Int=>ab (aj j ([B,v0.part,F,v0.aN.step,G].length:Int)) (aa (an [B,v0.part,F,v0.aN.step,G] j) λad=>aa (an [M,k.part,N,k.aN.step,O] j) λU=>ab (!(aC ad U)) (aa (an [B,v0.part,F,v0.aN.step,G] j) λY=>aa (an [M,k.part,N,k.aN.step,O] j) λZ=>some (.inr (.inr (aj Y Z)))) (ae (ai (j+1)) <|some (.inl (j+1)))) (some (.inr (.inl ())))) 0) λj=>some false
noncomputable def xO:((List ay)×ay)->Option (List ay):=λ(v0,k)=>aa (aA (λj:Int=>aa (ab (aj 0 j) (ae (ai (j-1)) <|aa (an v0 (j-1)) λB=>aa (BQ (k,B)) λF=>some F) (some false)) λB=>ab B (ae (ai (j-1)) <|some (.inl (j-1))) (some (.inr j))) (v0.length:Int)) λj=>ae ((leI 0 j)&&(leI j (v0.length:Int))) <|ae (WP 64 (List.take (Int.toNat j) v0)) <|ae (WP 64 (List.append (List.take (Int.toNat j) v0) [k])) <|ae ((leI 0 j)&&(leI j (v0.length:Int))) <|ae (WP 64 (List.append (List.append (List.take (Int.toNat j) v0) [k]) (List.drop (Int.toNat j) v0))) <|some (List.append (List.append (List.take (Int.toNat j) v0) [k]) (List.drop (Int.toNat j) v0))
noncomputable def uQ:((List ay)×(c8×(Room×View)))->Option ((List ay)×Int):=λ(v0,G,N,ad)=>aa (BH (ad,N.bp)) λaf=>aa (BF (G.score,af.1)) λF=>ab (!(aC F.2 0)) (some (([]:List ay),F.2)) (aa (Br N.form) λO=>aa (aA (λj:((List ay)×(Int×Int))=>ab (aj j.2.2 (O.1.length:Int)) (aa (an O.1 j.2.2) λag=>aa (an G.score.bars ag.aw) λU=>aa (aA (λB:((List ay)×Int)=>ab (aj B.2 (F.1.length:Int)) (aa (aa (an F.1 B.2) λk=>ab (aC k.aw U.id) (aa (fR k.start) λM=>ae (ai (j.2.1+M)) <|aa (xq (j.2.1+M)) λY=>aa (xO (B.1,(⟨k.part,Y,k.length,k.aN⟩:ay))) λZ=>some Z) (some B.1)) λk=>ae (ai (B.2+1)) <|some (.inl (k,(B.2+1)))) (some (.inr B.1))) (j.1,0)) λB=>aa (fR U.length) λk=>ae (ai (j.2.1+k)) <|ae (ai (j.2.2+1)) <|some (.inl (B,((j.2.1+k),(j.2.2+1))))) (some (.inr j.1))) (v0,(0,0))) λj=>some (j,0))
noncomputable def BL:(View×View)->Option Bool:=λ(v0,k)=>aa (ab (!(aC v0.part k.part)) (some true) (some (!(aC (v0.aK.length:Int) (k.aK.length:Int))))) λG=>ab G (some false) (aR (aA (λj:Int=>ab (aj j (v0.aK.length:Int)) (aa (an v0.aK j) λB=>aa (an k.aK j) λF=>aa (ab (!(aC B.aw F.aw)) (some true) (ab (!(aC B.key F.key)) (some true) (some (!(vS B.length F.length))))) λM=>ab M (some (.inr (.inr false))) (ae (ai (j+1)) <|some (.inl (j+1)))) (some (.inr (.inl ())))) 0) λj=>some true)
noncomputable def BK:((List Written)×(List Written))->Option ((List Written)×Bool):=λ(v0,M)=>aR (aA (λk:((List Written)×Int)=>ab (aj k.2 (M.length:Int)) (aR (aa (an M k.2) λB=>aR (aA (λF:(Bool×Int)=>ab (aj F.2 (k.1.length:Int)) (aR (aa (aa (an k.1 F.2) λj=>ab (aC j.id B.id) (aa (an k.1 F.2) λG=>some (!(rh G B))) (some false)) λj=>ab j (some (.inr (.inr (.inr (.inr (.inr (.inr (([]:List Written),false)))))))) (ab F.1 (some (.inl true)) (aa (an k.1 F.2) λG=>some (.inl (rh G B))))) λj=>ae (ai (F.2+1)) <|some (.inl (j,(F.2+1)))) (some (.inr (.inl F.1)))) (false,0)) λF=>ab F (some (.inl k.1)) (aa (aA (λj:Int=>aa (ab (aj 0 j) (ae (ai (j-1)) <|aa (an k.1 (j-1)) λG=>aa (qE (B,G)) λN=>some N) (some false)) λG=>ab G (ae (ai (j-1)) <|some (.inl (j-1))) (some (.inr j))) (k.1.length:Int)) λj=>ae ((leI 0 j)&&(leI j (k.1.length:Int))) <|ae (WP 80 (List.take (Int.toNat j) k.1)) <|ae (WP 80 (List.append (List.take (Int.toNat j) k.1) [B])) <|ae ((leI 0 j)&&(leI j (k.1.length:Int))) <|ae (WP 80 (List.append (List.append (List.take (Int.toNat j) k.1) [B]) (List.drop (Int.toNat j) k.1))) <|some (.inl (List.append (List.append (List.take (Int.toNat j) k.1) [B]) (List.drop (Int.toNat j) k.1))))) λB=>ae (ai (k.2+1)) <|some (.inl (B,(k.2+1)))) (some (.inr (.inl k.1)))) (v0,0)) λk=>some (k,true)
noncomputable def xL:(List View)->Option (View×Int):=λ(v0)=>aa (ab (aj (v0.length:Int) 1) (some true) (some (aj 100 (v0.length:Int)))) λO=>ab O (some ((⟨0,([]:List aB)⟩:View),1)) (aR (aA (λG:Int=>ab (aj G (v0.length:Int)) (aa (an v0 G) λF=>aa (so F) λM=>ab (!M) (some (.inr (.inr ((⟨0,([]:List aB)⟩:View),1)))) (ae (ai (G+1)) <|some (.inl (G+1)))) (some (.inr (.inl ())))) 0) λG=>aR (aA (λF:Int=>ab (aj F (v0.length:Int)) (aa (an v0 0) λM=>aa (an v0 F) λj=>aa (BL (M,j)) λN=>ab (!N) (some (.inr (.inr ((⟨0,([]:List aB)⟩:View),6)))) (ae (ai (F+1)) <|some (.inl (F+1)))) (some (.inr (.inl ())))) 0) λF=>aa (an v0 0) λM=>aR (aA (λj:(Int×(Int×(List aB)))=>aa (an v0 0) λN=>ab (aj j.2.1 (N.aK.length:Int)) (aa (an v0 0) λad=>aa (an ad.aK j.2.1) λB=>aR (aA (λk:((List Written)×Int)=>ab (aj k.2 (v0.length:Int)) (aa (an v0 k.2) λU=>aa (an U.aK j.2.1) λY=>aa (BK (k.1,Y.notes)) λZ=>ab (!Z.2) (some (.inr (.inr (.inr (.inr ((⟨0,([]:List aB)⟩:View),5)))))) (ae (ai (k.2+1)) <|some (.inl (Z.1,(k.2+1))))) (some (.inr (.inl k.1)))) (([]:List Written),0)) λk=>ae (ai (j.1+(k.length:Int))) <|ae (WP 56 (List.append j.2.2 [(⟨B.aw,B.key,B.length,k⟩:aB)])) <|ae (ai (j.2.1+1)) <|some (.inl ((j.1+(k.length:Int)),((j.2.1+1),(List.append j.2.2 [(⟨B.aw,B.key,B.length,k⟩:aB)]))))) (some (.inr (.inl (j.1,j.2.2))))) (0,(0,([]:List aB)))) λj=>ab (aj 20000 j.1) (some ((⟨0,([]:List aB)⟩:View),2)) (some ((⟨M.part,j.2⟩:View),0)))
noncomputable def BP:(c8×(Room×(List View)))->Option ((List ay)×Int):=λ(v0,O,F)=>ab (aj 2400 (F.length:Int)) (some (([]:List ay),2)) (aa (xM (v0,O)) λU=>ab (!U) (some (([]:List ay),1)) (aR (aA (λG:Int=>ab (aj G (F.length:Int)) (aa (an F G) λk=>aa (xF (v0.score,k)) λj=>ab (!j) (some (.inr (.inr (([]:List ay),1)))) (ae (ai (G+1)) <|some (.inl (G+1)))) (some (.inr (.inl ())))) 0) λG=>aR (aA (λk:((List ay)×Int)=>ab (aj k.2 (v0.score.parts.length:Int)) (aR (aa (aA (λj:(Int×(List View))=>ab (aj j.1 (F.length:Int)) (aa (aa (an F j.1) λB=>aa (an v0.score.parts k.2) λM=>ab (aC B.part M.id) (aa (an F j.1) λN=>ae (WP 32 (List.append j.2 [N])) <|some (List.append j.2 [N])) (some j.2)) λB=>ae (ai (j.1+1)) <|some (.inl ((j.1+1),B))) (some (.inr j.2))) (0,([]:List View))) λj=>ab (aC (j.length:Int) 0) (some (.inl k.1)) (aa (xL j) λB=>ab (!(aC B.2 0)) (some (.inr (.inr (.inr (([]:List ay),B.2))))) (aa (uQ (k.1,(v0,(O,B.1)))) λM=>ab (!(aC M.2 0)) (some (.inr (.inr (.inr (([]:List ay),M.2))))) (some (.inl M.1))))) λj=>ae (ai (k.2+1)) <|some (.inl (j,(k.2+1)))) (some (.inr (.inl k.1)))) (([]:List ay),0)) λk=>some (k,0)))
noncomputable def BJ:(View×Int)->Option Bool:=λ(v0,B)=>aR (aA (λj:Int=>ab (aj j (v0.aK.length:Int)) (aR (aA (λk:Int=>aa (an v0.aK j) λF=>ab (aj k (F.notes.length:Int)) (aa (an v0.aK j) λG=>aa (an G.notes k) λM=>ab (aC M.aS B) (some (.inr (.inr (.inr (.inr true))))) (ae (ai (k+1)) <|some (.inl (k+1)))) (some (.inr (.inl ())))) 0) λk=>ae (ai (j+1)) <|some (.inl (j+1))) (some (.inr (.inl ())))) 0) λj=>some false
noncomputable def BM:View->Option (List Int):=λ(v0)=>aa (aA (λj:(Int×(List Int))=>ab (leI j.1 9) (aa (aa (BJ (v0,j.1)) λk=>ab k (ae (WP 8 (List.append j.2 [j.1])) <|some (List.append j.2 [j.1])) (some j.2)) λk=>ae (ai (j.1+1)) <|some (.inl ((j.1+1),k))) (some (.inr j.2))) (1,([]:List Int))) λj=>some j
noncomputable def BG:(View×Int)->Option ((List Int)×Int):=λ(v0,B)=>aa (aa (so v0) λG=>ab (!G) (some true) (aa (po (B,(1,40))) λk=>some (!k))) λG=>ab G (some (([]:List Int),1)) (aa (BM v0) λk=>ab (aj B (k.length:Int)) (some (([]:List Int),6)) (aa (aA (λj:(Int×(List Int))=>ab (leI j.1 B) (aa (ab (aj 0 (k.length:Int)) (ae (ai (j.1-1)) <|ae (ai ((j.1-1)*(k.length:Int))) <|ae (!(aC B 0)) <|ae (ai (Int.tdiv ((j.1-1)*(k.length:Int)) B)) <|aa (an k (Int.tdiv ((j.1-1)*(k.length:Int)) B)) λF=>some F) (some 0)) λF=>ae (WP 8 (List.append j.2 [F])) <|ae (ai (j.1+1)) <|some (.inl ((j.1+1),(List.append j.2 [F])))) (some (.inr j.2))) (1,([]:List Int))) λj=>some (j,0)))
noncomputable def xK:(View×Int)->Option (View×Int):=λ(v0,M)=>aa (aa (so v0) λN=>ab (!N) (some true) (aa (po (M,(0,9))) λB=>some (!B))) λN=>ab N (some ((⟨0,([]:List aB)⟩:View),1)) (aa (aA (λB:(Int×(List aB))=>ab (aj B.1 (v0.aK.length:Int)) (aa (an v0.aK B.1) λk=>aa (aA (λj:(Int×(List Written))=>ab (aj j.1 (k.notes.length:Int)) (aa (aa (aa (an k.notes j.1) λF=>ab (aC F.aS 0) (some true) (aa (an k.notes j.1) λG=>some (aC G.aS M))) λF=>ab F (aa (an k.notes j.1) λG=>ae (WP 80 (List.append j.2 [G])) <|some (List.append j.2 [G])) (some j.2)) λF=>ae (ai (j.1+1)) <|some (.inl ((j.1+1),F))) (some (.inr j.2))) (0,([]:List Written))) λj=>ae (WP 56 (List.append B.2 [(⟨k.aw,k.key,k.length,j⟩:aB)])) <|ae (ai (B.1+1)) <|some (.inl ((B.1+1),(List.append B.2 [(⟨k.aw,k.key,k.length,j⟩:aB)])))) (some (.inr B.2))) (0,([]:List aB))) λB=>some ((⟨v0.part,B⟩:View),0))
noncomputable def GK:((List Written)×(List Written))->Option Bool:=λ(v0,k)=>ab (!(aC (v0.length:Int) (k.length:Int))) (some false) (aR (aA (λj:Int=>ab (aj j (v0.length:Int)) (aa (an v0 j) λB=>aa (an k j) λF=>ab (!(rh B F)) (some (.inr (.inr false))) (ae (ai (j+1)) <|some (.inl (j+1)))) (some (.inr (.inl ())))) 0) λj=>some true)
noncomputable def BE:((List aB)×(List aB))->Option Bool:=λ(v0,k)=>ab (!(aC (v0.length:Int) (k.length:Int))) (some false) (aR (aA (λj:Int=>ab (aj j (v0.length:Int)) (aa (an v0 j) λB=>aa (an k j) λF=>aa (xI (B,F)) λO=>aa (an v0 j) λG=>aa (an k j) λM=>aa (GK (G.notes,M.notes)) λU=>aa (ab (!O) (some true) (some (!U))) λN=>ab N (some (.inr (.inr false))) (ae (ai (j+1)) <|some (.inl (j+1)))) (some (.inr (.inl ())))) 0) λj=>some true)
noncomputable def BD:(View×View)->Option Bool:=λ(v0,j)=>aa (BE (v0.aK,j.aK)) λk=>aa (ab (aC v0.part j.part) (some k) (some false)) λB=>some B
noncomputable def xN:((List View)×(List View))->Option Bool:=λ(v0,k)=>ab (!(aC (v0.length:Int) (k.length:Int))) (some false) (aR (aA (λj:Int=>ab (aj j (v0.length:Int)) (aa (an v0 j) λB=>aa (an k j) λF=>aa (BD (B,F)) λG=>ab (!G) (some (.inr (.inr false))) (ae (ai (j+1)) <|some (.inl (j+1)))) (some (.inr (.inl ())))) 0) λj=>some true)
noncomputable def GD:(aq×(aq×(List (Int×Int))))->Option Int:=λ(v0,j,k)=>aa (qB v0.start) λB=>aa (qB j.start) λF=>aa (mK v0.aN) λG=>aa (mK j.aN) λM=>ae (ai ((ar k v0.aw 0)-(ar k j.aw 0))) <|ae (ai (v0.part-j.part)) <|ae (ai (B.1-F.1)) <|ae (ai (v0.aS-j.aS)) <|ae (ai (G.1-M.1)) <|ae (ai (v0.id-j.id)) <|aa (se [((ar k v0.aw 0)-(ar k j.aw 0)),(v0.part-j.part),(B.1-F.1),(v0.aS-j.aS),(G.1-M.1),(v0.id-j.id)]) λN=>some N
noncomputable def xT:aV->Option Int:=λ(v0)=>aa (mK v0) λj=>some j.1
noncomputable def Hc:(ay×(ay×Unit))->Option Int:=λ(v0,j,N)=>aa (sq (v0.start,j.start)) λF=>aa (sq (v0.length,j.length)) λG=>ae (ai (v0.part-j.part)) <|aa (xT v0.aN) λk=>aa (xT j.aN) λB=>ae (ai (k-B)) <|ae (ai (v0.aN.step-j.aN.step)) <|aa (se [F.1,(v0.part-j.part),(k-B),(v0.aN.step-j.aN.step),G.1]) λM=>some M
noncomputable def Gv:(Written×Written)->Option Int:=λ(v0,j)=>aa (sq (v0.start,j.start)) λF=>aa (mK v0.aN) λk=>aa (mK j.aN) λB=>ae (ai (v0.aS-j.aS)) <|ae (ai (k.1-B.1)) <|aa (qA (v0.id,j.id)) λG=>aa (se [F.1,(v0.aS-j.aS),(k.1-B.1),G]) λM=>some M
end Go.Proofs.YthhlipkkjippfaaGreatDoor
