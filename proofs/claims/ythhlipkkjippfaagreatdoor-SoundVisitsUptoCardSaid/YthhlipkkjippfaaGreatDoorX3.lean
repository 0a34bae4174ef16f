import Derived.Test.YthhlipkkjippfaaGreatDoorX2
set_option linter.all false
namespace Go.ag
open Go Go.RowKit
def vP(j:TypeId->Option (List Lf)):List Field->Nat->Option (List Lf)
 | [],_=>some []
 |f::r,off=>if f.name = "_" \/ f.offset≠off then none else match j f.type with
  |some ls=>(match vP j r (off+ls.length)with|some rs=>some (ls++rs)|none=>none)
  |none=>none
def mZ(P:Program):Nat->TypeId->Option (List Lf)
 |0,_=>none
 |d+1,t=>match P.info? t with
  |none=>none
  |some i=>match P.underlying t with
   |some .bool=>some [.bool]
   |some (.int k)=>some [.int k]
   |some .string=>some [.str]
   |some (.struct fs)=>if P.stoodInHeld t then none else match vP (mZ P d) fs.toList 0 with
    |some ls=>if i.size=ls.length then some ls else none
    |none=>none
   |_=>none
def oG:Lf->Value->Bool
 |.bool,.bool _=>true
 |.int k,.int j _=>k == j
 |.str,.string _=>true
 |_,_=>false
def fm:List Lf->List Value->Bool
 | [],[]=>true
 |x::xs,d::ds=>oG x d&&fm xs ds
 |_,_=>false
def vJ:Value->Value->Bool
 |.bool a,.bool b=>a == b
 |.int _ a,.int _ b=>a == b
 |.string a,.string b=>a == b
 |_,_=>false
def gB:List Value->List Value->Bool
 | [],[]=>true
 |x::xs,y::ys=>vJ x y&&gB xs ys
 |_,_=>false
def Ej:∀{ls:List Lf}{vs:List Value},fm ls vs=true->vs.length=ls.length
 | [],[],_=>rfl
 |_::_,_::_,h=>by simp only[fm,db]at h;simp[Ej h.2]
 | [],_::_,h=>by simp[fm]at h
 |_::_,[],h=>by simp[fm]at h
def Ei:∀{a b:List Lf}{vs:List Value},fm (a++b) vs=true->fm a (vs.take a.length)=true/\fm b (vs.drop a.length)=true
 | [],b,vs,h=>by simp[fm];exact h
 |x::a,b,v::vs,h=>by
  simp only[List.cons_append,fm,db]at h
  obtain⟨j,k⟩:=Ei h.2
  simp[fm,h.1,j,k]
 |_::_,_,[],h=>by simp[fm]at h
theorem Jp:∀{a c:List Value}{b d:List Value},a.length=c.length->gB (a++b) (c++d)=(gB a c&&gB b d)
 | [],[],b,d,_=>by simp[gB]
 |x::a,y::c,b,d,h=>by simp only[List.cons_append,gB,Jp (a:=a) (c:=c) (by simpa using h),Bool.and_assoc]
 | [],_::_,_,_,h=>by simp at h
 |_::_,[],_,_,h=>by simp at h
section
variable {P:Program}
def kR(P:Program)(t:TypeId)(vs:List Value):Value:=match P.underlying t with
 |some (.struct _)=>.agg vs.toArray
 |_=>vs.headD undef
def Y3{d:Nat}{t:TypeId}{ls:List Lf}(h:mZ P d t=some ls):∃i,P.info? t=some i/\((∃fs,P.underlying t=some (.struct fs))->i.size=ls.length)/\((∀fs,P.underlying t≠some (.struct fs))->ls.length=1)/\(∀n e,P.underlying t≠some (.array n e))/\P.underlying t≠none:=by
 cases d with
 |zero=>simp[mZ]at h
 |succ d=>
  simp only[mZ]at h
  split at h
  ·cases h
  rename_i i hi
  refine⟨i,hi,?_⟩
  split at h
  ·rename_i j;injection h with h;subst h;simp[j]
  ·rename_i j;injection h with h;subst h;simp[j]
  ·rename_i j;injection h with h;subst h;simp[j]
  ·rename_i fs j
   split at h
   ·cases h
   split at h
   ·split at h
    ·rename_i k;injection h with h;subst h;simp[j,k]
    cases h
   cases h
  cases h
def Ni{d:Nat}{t:TypeId}{ls:List Lf}(h:mZ P d t=some ls)(xs:Array Value)(off:Nat)(Z:off+ls.length<=xs.size)(w:World) :
  (part t xs off).run P w=.ok (kR P t ((xs.toList.drop off).take ls.length)) w:=by
 obtain⟨i,hi,G,N,O,U⟩:=Y3 h
 cases j:P.underlying t with
 |none=>exact absurd j U
 |some k=>
  have B:(isAgg t).run P w=.ok (match k with |.struct _ |.array _ _=>true|_=>false) w:=by unfold isAgg;simp only[fv,hD j,Result.andThen_ok];cases k<;>rfl
  have Y:(sizeOf t).run P w=.ok i.size w:=by simp[sizeOf,typeInfo,hi]
  cases k with
  |struct fs=>
   have:=G ⟨fs,j⟩
   simp only[part,fv,B,Result.andThen_ok,hK,Y,Sem.run_pure,kR,j]
   congr 2
   apply kB.1
   rw[Array.toList_extract]
   simp[List.extract_eq_take_drop,this]
  |array n e=>exact absurd j (O n e)
  |_=>
   have M:=N (by simp[j])
   have F:off<xs.size:=by omega
   simp only[part,fv,B,Result.andThen_ok,hQ,h8,e7 F,Sem.run_pure,kR,j]
   congr 1
   rw[M,hT (by simpa using F)]
   simp
def Nf:∀(d D:Nat) (t:TypeId) (ls:List Lf),mZ P d t=some ls->d<=D->∀(xs ys:List Value),fm ls xs=true->fm ls ys=true->∀w,(Op.equalIn D t (kR P t xs) (kR P t ys)).run P w=.ok (gB xs ys) w:=by
 intro d
 induction d with
 |zero=>intro D t ls h;simp[mZ]at h
 |succ d ax=>
  intro D t ls h aB xs ys N O w
  obtain⟨D,rfl⟩:∃ag,D=ag+1:=⟨D-1,by omega⟩
  have aD:=h
  simp only[mZ]at h
  split at h
  ·cases h
  rename_i i hi
  have one:∀{x:Lf} {vs:List Value},fm [x] vs=true->∃v,vs=[v]/\oG x v=true:=by
   intro x vs h
   match vs,h with
   | [v],h=>simp[fm]at h;exact⟨v,rfl,h⟩
   | [],h=>simp[fm]at h
   |_::_::_,h=>simp[fm]at h
  split at h
  ·rename_i B
   injection h with h;subst h
   obtain⟨u,rfl,F⟩:=one N
   obtain⟨v,rfl,G⟩:=one O
   cases u<;>simp[oG]at F
   cases v<;>simp[oG]at G
   simp only[kR,B,List.headD,gB,vJ,qn]
   exact run_equalIn_bool w D t _ _ B
  ·rename_i k B
   injection h with h;subst h
   obtain⟨u,rfl,F⟩:=one N
   obtain⟨v,rfl,G⟩:=one O
   cases u<;>simp[oG]at F
   cases v<;>simp[oG]at G
   subst F;subst G
   simp only[kR,B,List.headD,gB,vJ,qn]
   exact aby w D t _ _ _ _ B
  ·rename_i B
   injection h with h;subst h
   obtain⟨u,rfl,F⟩:=one N
   obtain⟨v,rfl,G⟩:=one O
   cases u<;>simp[oG]at F
   cases v<;>simp[oG]at G
   simp only[kR,B,List.headD,gB,vJ,qn]
   rw[run_equalIn_string w D t _ _ B,abx]
  ·rename_i fs B
   split at h
   ·cases h
   rename_i aw
   split at h
   ·rename_i az an
    split at h
    ·injection h with h;subst h
     have aq:P.underlying t=some (.struct (P.fieldsOf t)):=by simp[Program.fieldsOf,B]
     have ao:P.fieldsOf t=fs:=by simp[Program.fieldsOf,B]
     simp only[kR,B]
     rw[run_equalIn_struct w D t _ _ aq (by simpa using aw),ao]
     have key:∀(M:List Field) (off:Nat) (rs:List Lf),vP (mZ P d) M off=some rs->∀(xs ys:List Value),off+rs.length=xs.length->xs.length=ys.length->fm rs (xs.drop off)=true->fm rs (ys.drop off)=true ->
       (Op.eqFields D xs.toArray ys.toArray M).run P w=.ok (gB (xs.drop off) (ys.drop off)) w:=by
      intro M
      induction M with
      |nil=>
       intro off rs j xs ys U ab ad ae
       simp[vP]at j;subst j
       have aj:xs.drop off=[]:=k6 (by simp at U;omega)
       have ak:ys.drop off=[]:=k6 (by simp at U;omega)
       rw[aj,ak];simp[Op.eqFields,gB]
      |cons f M ay=>
       intro off rs j xs ys U ab ad ae
       simp only[vP]at j
       split at j
       ·cases j
       rename_i af
       have ar:f.name ≠ "_" :=λe=>af (.inl e)
       have au:f.offset=off:=Decidable.not_not.1 λe=>af (.inr e)
       split at j
       ·rename_i ls Y
        split at j
        ·rename_i aA av
         injection j with j;subst j
         rw[e3]at U
         obtain⟨ah,Z⟩:=Ei ad
         obtain⟨ai,aa⟩:=Ei ae
         rw[ti]at Z aa
         simp only[Op.eqFields,if_pos ar,fv,au]
         rw[Ni Y xs.toArray off (by simp;omega) w]
         simp only[Result.andThen_ok]
         rw[Ni Y ys.toArray off (by simp;omega) w]
         simp only[Result.andThen_ok]
         rw[ax D f.type ls Y (by omega) _ _ ah ai w]
         simp only[Result.andThen_ok,Sem.run_ite]
         have al:gB (xs.drop off) (ys.drop off)=(gB ((xs.drop off).take ls.length) ((ys.drop off).take ls.length)&&gB (xs.drop (off+ls.length)) (ys.drop (off+ls.length))):=by
          conv=>lhs;rw[<-r2 ls.length (xs.drop off),<-r2 ls.length (ys.drop off)]
          rw[Jp (by simp;omega),ti,ti]
         rw[al]
         cases aC:gB ((xs.drop off).take ls.length) ((ys.drop off).take ls.length)with
         |false=>simp
         |true=>
          simp only[p6,hQ,h8,n2]
          exact ay (off+ls.length) aA av xs ys (by omega) ab Z aa
        cases j
       cases j
     have aE:=Ej N
     have aF:=Ej O
     have:=key fs.toList 0 az an xs ys (by omega) (by omega) (by simpa using N) (by simpa using O)
     simpa using this
    cases h
   cases h
  cases h
def C8(P:Program)(t:TypeId)(ls:List Lf):Bool:=decide (mZ P 30 t=some ls) && !P.eqGuardType P.depth t&&(match P.underlying t with|some .bool=>decide (ls=[.bool])|some (.struct _)=>decide (ls≠[.bool])|_=>false)
def Ek{I:ay}:∀{ls:List Lf}{vs:List Value}{ds:List D},vs.length=ds.length->(∀(i:Nat) v d,vs[i]?=some v->ds[i]?=some d->Rd I v d)->fH ls ds=true->fm ls vs=true
 | [],[],[],_,_,_=>rfl
 |x::ls,v::vs,d::ds,j,k,h=>by
  simp only[fH,db]at h
  simp only[fm,db]
  refine⟨?_,Ek (by simpa using j) (λi u e G F=>k (i+1) u e (by simpa using G) (by simpa using F)) h.2⟩
  have B:=k 0 v d rfl rfl
  cases B<;>cases x<;>simp[rz]at h<;>simp[oG,h]
 | [],_::_,[],j,_,_=>by simp at j
 | [],[],_::_,j,_,_=>by simp at j
 | [],_::_,_::_,_,_,h=>by simp[fH]at h
 |_::_,[],_::_,j,_,_=>by simp at j
 |_::_,_::_,[],j,_,_=>by simp at j
 |_::_,[],[],_,_,h=>by simp[fH]at h
def Jq{I:ay}:∀{ls:List Lf}{vs k:List Value}{ds j:List D},vs.length=ds.length->k.length=j.length->(∀(i:Nat) v d,vs[i]?=some v->ds[i]?=some d->Rd I v d)->(∀(i:Nat) v d,k[i]?=some v->j[i]?=some d->Rd I v d) ->
  fH ls ds=true->fH ls j=true->gB vs k=di ds j
 | [],[],[],[],[],_,_,_,_,_,_=>rfl
 |x::ls,v::vs,u::k,d::ds,e::j,h1,O,G,M,k1,k2=>by
  simp only[fH,db]at k1 k2
  simp only[gB,di]
  rw[Jq (ls:=ls) (by simpa using h1) (by simpa using O) (λi a b B F=>G (i+1) a b (by simpa using B) (by simpa using F)) (λi a b B F=>M (i+1) a b (by simpa using B) (by simpa using F)) k1.2 k2.2]
  congr 1
  have N:=G 0 v d rfl rfl
  have b0:=M 0 u e rfl rfl
  cases N<;>cases x<;>simp[rz]at k1<;>cases b0<;>simp[rz]at k2<;>rfl
 | [],v::vs,_,[],_,h,_,_,_,_,_=>by simp at h
 | [],[],_,d::ds,_,h,_,_,_,_,_=>by simp at h
 | [],v::vs,_,d::ds,_,_,_,_,_,h,_=>by simp[fH]at h
 | [],[],u::k,[],[],_,h,_,_,_,_=>by simp at h
 | [],[],[],[],e::j,_,h,_,_,_,_=>by simp at h
 | [],[],u::k,[],e::j,_,_,_,_,_,h=>by simp[fH]at h
 |x::ls,[],_,d::ds,_,h,_,_,_,_,_=>by simp at h
 |x::ls,v::vs,_,[],_,h,_,_,_,_,_=>by simp at h
 |x::ls,[],_,[],_,_,_,_,_,h,_=>by simp[fH]at h
 |x::ls,v::vs,[],d::ds,e::j,_,h,_,_,_,_=>by simp at h
 |x::ls,v::vs,u::k,d::ds,[],_,h,_,_,_,_=>by simp at h
 |x::ls,v::vs,[],d::ds,[],_,_,_,_,_,h=>by simp[fH]at h
def qF.EX{ae:List (Nat×List Lf)}(h:ae.all (λp=>C8 P p.1 p.2)=true):qF P (λt=>(ae.find? λp=>p.1 == t).map (·.2)):=by
 intro t ls ht au x y I u v a b w ab ad ao af
 have ag:C8 P t ls=true:=by
  cases O:ae.find? (λp=>p.1 == t)with
  |none=>simp[O]at ht
  |some p=>
   simp[O]at ht
   have M:=j5 O
   have aa:=dT.1 h p (gW O)
   simp at M;subst M;subst ht;exact aa
 simp only[C8,db,ea,gL]at ag
 obtain⟨⟨M,aa⟩,B⟩:=ag
 rcases ao with ⟨p,q,rfl,rfl,rfl⟩| ⟨xs,ys,rfl,rfl,aq,ah,ai⟩
 ·cases ab;cases ad
  have N:P.underlying t=some .bool:=by
   split at B
   ·assumption
   ·simp at B
   cases B
  have F:=Nf 30 10000 t _ M (by omega) [.bool p] [.bool q] rfl rfl w
  have G:∀p,kR P t [.bool p]=.bool p:=λp=>by unfold kR;rw[N];rfl
  rw[G,G]at F
  simp only[fv,eqGuard_at_bool,Sem.run_pure,Result.andThen_ok]
  rcases af with rfl|rfl<;>simp[binOp,Op.equal,Op.maxDepth,F,gB,vJ,gz]
 have ar:∃fs,P.underlying t=some (.struct fs):=by
  split at B
  ·exact absurd (hA B) aq
  ·rename_i fs N;exact⟨fs,N⟩
  cases B
 obtain⟨fs,N⟩:=ar
 generalize U:D.agg xs=ax at ab
 generalize Y:D.agg ys=ay at ad
 cases ab<;>first| (cases U;done)|skip
 rename_i cs ds aj aA ak
 injection U with U;subst U
 cases ad<;>first| (cases Y;done)|skip
 rename_i Z az al aB an
 injection Y with Y;subst Y
 have av:fm ls cs.toList=true:=Ek (by simpa using aj) (λi v d k j=>ak i v d (by simpa using k) j) ah
 have aw:fm ls Z.toList=true:=Ek (by simpa using al) (λi v d k j=>an i v d (by simpa using k) j) ai
 have F:=Nf 30 10000 t _ M (by omega) cs.toList Z.toList av aw w
 have G:∀cs:Array Value,kR P t cs.toList=.agg cs:=λcs=>by unfold kR;rw[N]
 rw[G,G,Jq (by simpa using aj) (by simpa using al) (λi v d k j=>ak i v d (by simpa using k) j) (λi v d k j=>an i v d (by simpa using k) j) ah ai]at F
 simp only[fv,run_eqGuard_agg w au t x y cs Z aa,Result.andThen_ok]
 rcases af with rfl|rfl
 ·rw[run_eql_struct w];simp[F,gz]
 rw[run_neq_struct w];simp[F,gz]
end
end Go.ag
namespace Go.ag
open Go Go.RowKit
variable [bq]
theorem Js{V:Env}{ρ ρ':Operand->T}{l:List AO}{nid:Nat}{o:Oper}(h:∀x∈o.op.operands,ρ x=ρ' x):aX V ρ l nid o=aX V ρ' l nid o:=by
 obtain⟨ai,ae,ty,aj,af,g⟩:=o
 cases ae with
 |build t parts=>
  have:parts.toList.map (λp=>(p.1,ρ p.2))=parts.toList.map (λp=>(p.1,ρ' p.2)):=hE λp B=>by rw[h p.2 (by simp only[Op.operands];simp;exact⟨p.1,by simpa using B⟩)]
  simp only[aX,this]
 |buildSlice t len parts=>
  have:parts.toList.map (λp=>gJ (ρ p.2))=parts.toList.map (λp=>gJ (ρ' p.2)):=hE λp B=>by rw[h p.2 (by simp only[Op.operands];simp;exact⟨p.1,by simpa using B⟩)]
  have O:parts.toList.mapM (λp=>gJ (ρ p.2))=parts.toList.mapM (λp=>gJ (ρ' p.2)):=by
   have e:∀(f:Nat×Operand->Option D)(ps:List (Nat×Operand)),ps.mapM f=(ps.map f).mapM id:=λf ps=>by
    induction ps with
    |nil=>rfl
    |cons p ps ad=>simp only[k8,fa,ad,id]
   rw[e,e,this]
  have U:parts.toList.map (λp=>ρ p.2)=parts.toList.map (λp=>ρ' p.2):=hE λp B=>by rw[h p.2 (by simp only[Op.operands];simp;exact⟨p.1,by simpa using B⟩)]
  simp only[aX,O,U]
 |slice t x lo hi mx=>
  have j:=h x (by simp[Op.operands])
  have M:lo.map ρ=lo.map ρ':=by cases lo with|none=>rfl|some a=>simp;exact h a (by simp[Op.operands])
  have G:hi.map ρ=hi.map ρ':=by cases hi with|none=>rfl|some a=>simp;exact h a (by simp[Op.operands])
  cases mx with
  |none=>simp only[aX,j,M,G]
  |some m=>
   have ab:=h m (by simp[Op.operands])
   simp only[aX,j,M,G,ab]
 |call c=>
  have F:c.args.toList.map ρ=c.args.toList.map ρ':=hE λx j=>h x (by simp[Op.operands,Call.operands];right;simpa using j)
  have k:∀x∈c.args.toList,ρ x=ρ' x:=λx j=>h x (by simp[Op.operands,Call.operands];right;simpa using j)
  obtain⟨N,ah,ag⟩:=c
  cases N with
  |value f=>
   have aa:=h f (by simp[Op.operands,Call.operands])
   simp only[aX,aa,F]
  |invoke r n=>simp only[aX]
  |builtin b=>cases b<;>simp only[aX]<;>first|rfl| (simp only at F k;(try rw[F]);done)| (simp only at F k;split<;>first|rfl| (rename_i Y _;simp only[Y,fb,mv,u0,or_false]at k;first|rw[k _ rfl]|rw[k _ (.inl rfl),k _ (.inr rfl)]))
 |makeMap t r=>cases r<;>simp only[aX]
 |makeFunc fn first caps=>
  have Z:caps.toList.map ρ=caps.toList.map ρ':=hE λx j=>h x (by simp[Op.operands];right;simpa using j)
  cases fn<;>simp only[aX]
  rw[Z]
 |_=>simp only[aX]<;>first|rfl| (simp only[Op.operands]at h;simp[h])
def ml(o:Oper):Bool:=match o.op with
 |.move _ |.assign _ |.pick .. |.field .. |.binOp .. |.unOp .. |.extract .. |.slice .. =>true
 |_=>false
theorem TQ{V:Env}{ρ:Operand->T}{l l':List AO}{nid nid':Nat}{o:Oper}(h:ml o=true)(k:(aX V ρ l nid o).bA=.none)(j:(aX V ρ l nid o).ob):aX V ρ l' nid' o=aX V ρ l nid o:=by
 obtain⟨O,M,ty,U,N,g⟩:=o
 cases M<;>simp[ml]at h
 case slice t x lo hi mx=>
  cases mx with
  |some m=>
   exfalso
   simp only[aX]at k j
   split at j
   ·rename_i B G
    simp only[B,G]at k
    rcases BM (E:=V.E) (l:=l) (lo:=lo.map ρ) (hi:=hi.map ρ) (mx:=ρ m)with h|h
    ·rw[h]at k;cases k
    rw[h]at j;exact j.elim
   exact j.elim
  |none=>
   simp only[aX]at k j⊢
   split at j
   ·rfl
   ·rename_i B G
    exfalso
    simp only[B,G]at k
    split at j
    ·rename_i F
     rw[if_pos F]at k
     rcases GN (E:=V.E) (l:=l) (lo:=lo.map ρ) (hi:=hi.map ρ)with h|h
     ·rw[h]at k;cases k
     rw[h]at j;exact j.elim
    rename_i F
    rw[if_neg F]at k
    split at j
    ·split at j
     ·simp_all
     exact j.elim
    exact j.elim
   ·rfl
   exact j.elim
 all_goals simp only[aX]
theorem TR{V:Env}{ρ:Operand->T}{l:List AO}{nid:Nat}{o:Oper}(h:ml o=true)(b:AO):(aX V ρ l nid o).bA ≠ .new b:=by
 obtain⟨F,k,ty,G,B,g⟩:=o
 cases k<;>simp[ml]at h<;>simp only[aX,R.ok]
 ·simp
 ·simp
 ·unfold nI;simp only
  repeat' split
  all_goals simp[R.bad]
 ·unfold kN;repeat' split
  all_goals simp[R.bad]
 ·unfold kN;repeat' split
  all_goals simp[R.bad]
 ·rename_i mx
  cases mx
  ·simp only
   repeat' split
   all_goals first| (simp[R.bad];done)| (intro j;rcases GN (E:=V.E) (l:=l)with h|h<;>rw[h]at j<;>cases j;done)| (unfold jH;(repeat' split)<;>simp[R.bad,R.ok];done)| (unfold sv;split<;>simp[R.bad,R.ok];done)
  simp only
  split
  ·intro j;rcases BM (E:=V.E) (l:=l)with h|h<;>rw[h]at j<;>cases j
  simp[R.bad]
 ·unfold mh;repeat' split
  all_goals simp[R.bad,R.ok]
 repeat' split
 all_goals simp[R.bad]
def fy(l l':List AO):Prop:=∀id,isVar l id=true->l'[id]?=l[id]?
theorem fy.refl(l:List AO):fy l l:=λ_ _=>rfl
theorem fy.trans{l l' B:List AO}(h:fy l l')(k:fy l' B):fy l B:=λid j=>(k id (by have:=h id j;unfold isVar at j⊢;rw[this];exact j)).trans (h id j)
def fy.append(l r:List AO):fy l (l++r):=λ_ j=>e1 (zf j)
theorem fy.set{l:List AO}{id:Nat}(o:AO)(h:isVar l id=false):fy l (l.set id o):=λk j=>by
 rw[e4]
 by_cases e:id=k
 ·subst e;rw[h]at j;cases j
 simp[e]
def On{l l':List AO}{t:T}{d:D}(h:cV l t=some (d,l')):fy l l':=by
 cases t<;>simp only[cV]at h
 case d x=>simp at h;rw[<-h.2];exact .refl _
 case bC s=>simp at h;rw[<-h.2];exact .refl _
 case bJ id x=>simp at h;rw[<-h.2];exact .refl _
 case row id=>
  split at h
  ·simp at h;rw[<-h.2];exact .refl _
  ·rename_i j;simp at h;rw[<-h.2];exact .set _ (by unfold isVar;rw[j];rfl)
  cases h
 case map id=>
  split at h
  ·simp at h;rw[<-h.2];exact .refl _
  ·rename_i j;simp at h;rw[<-h.2];exact .set _ (by unfold isVar;rw[j];rfl)
  cases h
 all_goals cases h
def HN:∀(ts:List T){l l':List AO}{ds:List D},dq l ts=some (ds,l')->fy l l'
 | [],l,l',ds,h=>by simp[dq]at h;rw[<-h.2];exact .refl _
 |t::ts,l,l',ds,h=>by
  simp only[dq]at h
  cases j:cV l t with
  |none=>simp[j]at h
  |some p=>
   obtain⟨x,l1⟩:=p
   simp only[j]at h
   cases k:dq l1 ts with
   |none=>simp[k]at h
   |some q=>
    obtain⟨xs,B⟩:=q
    simp only[k,c4,e0]at h
    rw[<-h.2]
    exact(On j).trans (HN ts k)
def BR{l l':List AO}{t:T}{d:D}(h:dx l t=some (d,l')):fy l l':=by
 by_cases j:∃ts,t=.agg ts
 ·obtain⟨ts,rfl⟩:=j
  obtain⟨ds,rfl,k⟩:=xQ h
  exact HN ts k
 rw[xR λts h=>j ⟨ts,h⟩]at h
 exact On h
def HP:∀(ts:List T){l l':List AO}{ds:List D},fh l ts=some (ds,l')->fy l l'
 | [],l,l',ds,h=>by simp[fh]at h;rw[<-h.2];exact .refl _
 |t::ts,l,l',ds,h=>by
  simp only[fh]at h
  cases j:dx l t with
  |none=>simp[j]at h
  |some p=>
   obtain⟨x,l1⟩:=p
   simp only[j]at h
   cases k:fh l1 ts with
   |none=>simp[k]at h
   |some q=>
    obtain⟨xs,B⟩:=q
    simp only[k,c4,e0]at h
    rw[<-h.2]
    exact(BR j).trans (HP ts k)
def Pe{E:cm}{t:TypeId}{l:List AO}{nid:Nat}{s x:T}:(∀l',(iq E t l nid s x).bA=.aP l'->fy l l')/\∀a,(iq E t l nid s x).bA ≠ .new a:=by
 unfold iq
 split;rotate_left
 ·exact⟨by simp[R.bad],by simp[R.bad]⟩
 split;rotate_left
 ·exact⟨by simp[R.bad],by simp[R.bad]⟩
 split;rotate_left
 ·exact⟨by simp[R.bad],by simp[R.bad]⟩
 rename_i B
 have k:=BR B
 split;rotate_left
 ·exact⟨by simp[R.bad],by simp[R.bad]⟩
 split
 ·refine⟨λl' h=>?_,by simp⟩
  simp at h;rw[<-h];exact k.trans (.append _ _)
 ·split;rotate_left
  ·exact⟨by simp[R.bad],by simp[R.bad]⟩
  rename_i j
  split;rotate_left
  ·exact⟨by simp[R.bad],by simp[R.bad]⟩
  refine⟨λl' h=>?_,by simp⟩
  simp at h;rw[<-h]
  exact(k.trans (.set _ (by unfold isVar;rw[j];rfl))).trans (.append _ _)
 ·split;rotate_left
  ·exact⟨by simp[R.bad],by simp[R.bad]⟩
  rename_i j
  split;rotate_left
  ·exact⟨by simp[R.bad],by simp[R.bad]⟩
  refine⟨λl' h=>?_,by simp⟩
  simp at h;rw[<-h]
  exact(k.trans (.set _ (by unfold isVar;rw[j];rfl))).trans (.append _ _)
 exact⟨by simp[R.bad],by simp[R.bad]⟩
def mn(o:Oper):Bool:=ml o||match o.op with
 |.buildSlice _ n _=>n != 0
 |.call c=>(match c.callee with |.builtin .append=>true|_=>false)
 |.load .. =>true
 |_=>false
def VU{i:TI}{size:Nat}{els:List D}{k off:Nat}:(iD i size els k off).bA=.none:=by
 unfold iD;repeat' split
 all_goals simp[R.ok,R.bad]
def VT{E:cm}{t:TypeId}{l:List AO}{a:T}:(fo E t l a).bA=.none:=by
 unfold fo;repeat' split
 all_goals first|exact VU|simp[R.ok,R.bad]
theorem VE{V:Env}{ρ:Operand->T}{l:List AO}{nid:Nat}{o:Oper}(h:mn o=true):(∀l',(aX V ρ l nid o).bA=.aP l'->fy l l')/\∀a,(aX V ρ l nid o).bA ≠ .new a:=by
 obtain⟨U,G,ty,Y,M,g⟩:=o
 have j:∀{r:R},r.bA=.none->(∀l',r.bA=.aP l'->fy l l')/\∀a,r.bA ≠ .new a:=λe=>⟨by rw[e];simp,by rw[e];simp⟩
 cases G<;>simp[mn,ml]at h<;>simp only[aX]
 case call c=>
  obtain⟨pA,N,O⟩:=c
  cases pA<;>simp at h
  rename_i b
  cases b<;>simp at h
  simp only
  split
  ·split
   ·exact Pe
   exact j rfl
  exact j rfl
 case slice t x lo hi mx=>
  cases mx with
  |some m=>
   simp only
   split
   ·rcases BM (E:=V.E) (l:=l) (lo:=lo.map ρ) (hi:=hi.map ρ) (mx:=ρ m)with h|h
    ·refine⟨λl' k=>?_,by rw[h];simp⟩
     rw[h]at k;injection k with k;subst k;exact .refl _
    rw[h];exact j rfl
   exact j rfl
  |none=>
   simp only
   split
   ·split
    ·refine j ?_
     unfold jH;repeat' split
     all_goals simp[R.ok,R.bad]
    exact j rfl
   ·split
    ·rcases GN (E:=V.E) (l:=l) (lo:=lo.map ρ) (hi:=hi.map ρ)with h|h
     ·refine⟨λl' k=>?_,by rw[h];simp⟩
      rw[h]at k;injection k with k;subst k;exact .refl _
     rw[h];exact j rfl
    split
    ·rename_i F
     split
     ·refine⟨λl' h=>?_,by simp⟩
      simp at h;rw[<-h];exact BR F
     exact j rfl
    exact j rfl
   ·refine j ?_
    unfold sv;(repeat' split)<;>simp[R.ok,R.bad]
   exact j rfl
 case buildSlice t n parts=>
  simp only[if_neg h]
  split
  ·split
   ·split
    ·split<;>exact j rfl
    split
    ·rename_i B
     split
     ·refine⟨λl' h=>?_,by simp⟩
      simp at h;rw[<-h];exact HP _ B
     exact j rfl
    exact j rfl
   exact j rfl
  exact j rfl
 case pick c a b=>
  refine j ?_
  unfold nI;simp only
  repeat' split
  all_goals simp[R.bad]
 all_goals refine j ?_
 all_goals first
  |exact VT
  | (unfold nI;repeat' split)<;>simp[R.ok,R.bad];done
  | (unfold kN;repeat' split)<;>simp[R.ok,R.bad];done
  | (unfold mh;repeat' split)<;>simp[R.ok,R.bad];done
  | (repeat' split)<;>simp_all [R.ok,R.bad,kN];done
  |skip
end Go.ag
namespace Go.ag
open Go Go.RowKit
variable [bq][bX]
def xT(ops:List Oper):Nat->Oper->Nat->Bool
 |0,o,j=>(waits o).contains j
 |n+1,o,j=>(waits o).contains j||(waits o).any λk=>match ops[k]? with|some q=>xT ops n q j|none=>false
def sB(ops:List Oper)(n1:Nat)(F:List Nat):Bool:=(List.range ops.length).all λi=>decide (i<n1)||match ops[i]? with|some o=>(List.range i).all (λj=>F.contains j||xT ops 8 o j)|none=>true
def nV(ops:List Oper)(k:Array Bool):Prop:=∀(i:Nat) o,ops[i]?=some o->k.getD i false=true->∀j∈waits o,k.getD j false=true
def Hf{ops:List Oper}{G:Array Bool}(M:nV ops G):∀(n:Nat)(o:Oper)(j:Nat),(∀k∈waits o,G.getD k false=true)->xT ops n o j=true->G.getD j false=true
 |0,o,j,hw,h=>hw j (iu.1 h)
 |n+1,o,j,hw,h=>by
  unfold xT at h
  rw[hR]at h
  rcases h with h|h
  ·exact hw j (iu.1 h)
  obtain⟨k,N,B⟩:=h5.1 h
  cases F:ops[k]? with
  |none=>rw[F]at B;cases B
  |some q=>
   rw[F]at B
   exact Hf M n q j (M k q F (hw k N)) B
theorem nV.step{ops:List Oper}{G M:Array Bool}(Y:nV ops G){i:Nat}{o:Oper}(Z:ops[i]?=some o)(aa:∀j∈waits o,G.getD j false=true)(U:∀k,M.getD k false=if k=i then true else G.getD k false):nV ops M:=by
 intro k q F B j N
 rw[U]at B⊢
 split
 ·rfl
 by_cases O:k=i
 ·subst O;rw[Z]at F;cases F;exact aa j N
 rw[if_neg O]at B;exact Y k q F B j N
def rk(ops:List Oper)(n1:Nat)(F:List Nat):Bool:=F.all λf=>decide (f<n1)&&match ops[f]? with
 |some o=>o.guard.isNone&&(List.range ops.length).all λi=>decide (i<n1)||match ops[i]? with
  |some q=>((waits q).contains f||match q.dst with|some d=>!(fU ops o).contains d&&o.dst != some d|none=>true)&&(match o.dst with|some d=>!(fU ops q).contains d||(waits q).contains f|none=>true)
  |none=>true
 |none=>false
def Dt(ops:List Oper)(n1:Nat)(F:List Nat):Bool:=(F.all λf=>match ops[f]? with|some o=>ml o|none=>true)&&rk ops n1 F
def sM(V:Env)(B:Bool)(l0:List AO)(o:Oper)(x:Rec):Prop:=x.new=none/\(x.pc=[]->x.ob->∀l',(B=true\/fy l0 l')->aX V (λy=>(strip x.pc (bN x.tm y)).1) l' 0 o=⟨x.t,.none,x.ob⟩)
section
variable {P:Program}{V:Env}{w0:World}{I0:ay}{n:Nat}{md:Way}{ops:List Oper}{Q:Exit->Act->World->Prop}{K:St->Prop}
def N9{n1:Nat}{F:List Nat}(h:sB ops n1 F=true){i:Nat}{o:Oper}(k:ops[i]?=some o)(hi:n1<=i):∀j,j<i->j∉F->xT ops 8 o j=true:=by
 intro j G B
 have:=dT.1 h i (hN.2 (c5.1 k).1)
 simp only[k,hR,ea,dT,hN,iu]at this
 rcases this with h|h
 ·omega
 exact(h j G).resolve_left B
def mi{n1:Nat}{F:List Nat}(h:rk ops n1 F=true){f:Nat}(U:f∈F):f<n1/\∀o,ops[f]?=some o->o.guard=none /\
  ∀(i:Nat) q,n1<=i->ops[i]?=some q->(f∈waits q\/∀d,q.dst=some d->d∉fU ops o/\o.dst≠some d)/\(∀d,o.dst=some d->d∈fU ops q->f∈waits q):=by
 have:=dT.1 h f U
 simp only[db,ea]at this
 obtain⟨M,B⟩:=this
 refine⟨M,λo Z=>?_⟩
 simp only[Z,db,Option.isNone_iff_eq_none]at B
 obtain⟨N,O⟩:=B
 refine⟨N,λi q hi G=>?_⟩
 have:=dT.1 O i (hN.2 (c5.1 G).1)
 simp only[G]at this
 rw[hR,ea,db]at this
 have this:=this.resolve_left (by omega)
 obtain⟨j,h7⟩:=this
 refine⟨?_,λd k aa=>?_⟩
 ·rw[hR]at j
  refine j.imp (λh=>iu.1 h) λj d k=>?_
  simp only[k,db,gL,bne_iff_ne,ne_eq]at j
  exact⟨λY=>(by have:=iu.2 Y;rw[j.1]at this;cases this),j.2⟩
 simp only[k,hR,gL,iu]at h7
 rcases h7 with h7|h7
 ·have:=iu.2 aa;rw[h7]at this;cases this
 exact h7
def cY(ops:List Oper)(F:List Nat)(j:Array Bool):List Nat:=(F.filter λf=>!j.getD f false).filterMap λf=>(ops[f]?).bind (·.dst)
def pZ{F:List Nat}{N:Array Bool}{k:Nat}:k∈cY ops F N↔∃f o,f∈F/\N.getD f false=false/\ops[f]?=some o/\o.dst=some k:=by
 unfold cY
 simp only[q3,hI,gL]
 constructor
 ·rintro⟨f,⟨B,G⟩,j⟩
  cases M:ops[f]? with
  |none=>simp[M]at j
  |some o=>simp[M]at j;exact⟨f,o,B,G,M,j⟩
 rintro⟨f,o,B,G,j,O⟩
 exact⟨f,⟨B,G⟩,by simp[j,O]⟩
structure Hu(w0:World)(I0:ay)(n:Nat)(B:Bool)(l0:List AO)(ops:List Oper)(F:List Nat)(rs:List Rec)(s:St)(listed:Array Bool)(a:Act)(w:World):Prop where
 size:a.tmps.size=n
 rel:∃I m,aH w0 I0 w I m s.l/\ei w0.heap.size I a.defers/\∀k,k∉cY ops F listed->ar I m s.l (a.tmps.getD k undef) (get s.t k)
 fl:∀(f:Nat) o x,f∈F->listed.getD f false=false->ops[f]?=some o->rs[f]?=some x->(∀t∈fU ops o,get s.t t=get x.tm t)/\∀d,o.dst=some d->get s.t d=x.out
 vars:B=true\/fy l0 s.l
def DL(s:Tm)(k:Nat):∀(ds:List Nat),get (ds.map (λd=>(d,T.undef))++s) k=if k∈ds then .undef else get s k
 | []=>by simp
 |d::ds=>by
  simp only[fa,List.cons_append,get,fb]
  rw[DL s k ds]
  by_cases h:d=k
  ·subst h;simp
  rw[if_neg h];have:k≠d:=λe=>h e.symm
  simp[this]
def Db{s s':Tm}{x:Operand}(h:∀t,x=.tmp t->get s t=get s' t):bN s x=bN s' x:=by
 cases x with
 |tmp t=>exact h t rfl
 |_=>rfl
def DR{s s':Tm}{o:Oper}(h:∀t∈fU ops o,get s t=get s' t):dA ops s o.guard=dA ops s' o.guard:=by
 cases B:o.guard with
 |none=>rfl
 |some F=>
  obtain⟨j,b⟩:=F
  simp only[dA]
  cases k:(ops[j]?).bind (·.dst)with
  |none=>rfl
  |some d=>
   simp only
   rw[h d (tr _ (by rw[B];simp only;rw[k];simp))]
def W8{V:Env}{pc:PC}{s s':St}{o:Oper}(B:s.l=s'.l)(h:∀t∈fU ops o,get s.t t=get s'.t t):fT V pc s o=fT V pc s' o:=by
 have j:∀x∈o.op.operands,bN s.t x=bN s'.t x:=λx j=>Db λt ht=>h t (q0 _ (q3.2 ⟨x,by simpa using j,by rw[ht]⟩))
 cases pc with
 |nil=>simp only[fT,B];exact Js j
 |cons y pc=>
  simp only[fT,B]
  have F:=Js (V:=V) (ρ:=λx=>(strip (y::pc) (bN s.t x)).1) (ρ':=λx=>(strip (y::pc) (bN s'.t x)).1) (l:=s'.l) (nid:=s'.l.length) (o:=o) (λx k=>by simp only[j x k])
  have G:o.op.operands.toList.map (λx=>(strip (y::pc) (bN s.t x)).2)=o.op.operands.toList.map (λx=>(strip (y::pc) (bN s'.t x)).2):=hE λx k=>by rw[j x (by simpa using k)]
  rw[F,G]
def Hz{s s':St}{j:Option Nat}{pc:PC}{t:T}{k:qE}(h:after s j pc ⟨t,k,True⟩=some s'):∃u l',s'=⟨bR s.t j u,l'⟩/\∀st:St,st.l=s.l->after st j pc ⟨t,k,True⟩=some ⟨bR st.t j u,l'⟩:=by
 unfold after at h
 simp only at h
 split at h
 ·injection h with h;exact⟨_,_,h.symm,λst e=>by unfold after;simp only[e]⟩
 ·injection h with h;exact⟨_,_,h.symm,λst e=>by unfold after;simp only[e]⟩
 ·injection h with h;exact⟨_,_,h.symm,λst e=>by unfold after;simp only⟩
 ·rename_i B
  injection h with h
  cases pc with
  |nil=>exact absurd rfl B
  |cons y r=>exact⟨_,_,h.symm,λst e=>by unfold after;simp only[e]⟩
 cases h
def TT{md:Way}{o:Oper}{r:List Oper}{s st:St}{K:St->Prop}(h:dP V n ops md (o::r) s K)(k:st.l=s.l)(U:∀t∈fU ops o,get st.t t=get s.t t) :
  ∃u l',dP V n ops md [o] st (λq=>q=⟨bR st.t o.dst u,l'⟩)/\dP V n ops md r ⟨bR s.t o.dst u,l'⟩ K:=by
 simp only[dP]at h
 split at h
 ·exact h.elim
 rename_i pc Z
 have B:dA ops st.t o.guard=some pc:=(DR U).trans Z
 have Y:∀O,fT V O st o=fT V O s o:=λO=>W8 k U
 cases md with
 |none=>
  simp only at h
  obtain⟨F,j,h⟩:=h
  split at h
  ·rename_i s' G
   obtain⟨u,l',rfl,M⟩:=Hz G
   refine⟨u,l',?_,h⟩
   simp only[dP,B,Y]
   refine⟨F,j,?_⟩
   rw[M st k];first|done|rfl
  exact h.elim
 |some ad=>
  simp only at h
  split at h
  ·rename_i N
   obtain⟨aa,j,h⟩:=h
   refine⟨gone,s.l,?_,h⟩
   simp only[dP,B,if_pos N]
   exact⟨aa,j,by rw[k]⟩
  rename_i N
  obtain⟨ab,F,j,h⟩:=h
  split at h
  ·rename_i s' G
   obtain⟨u,l',rfl,M⟩:=Hz G
   refine⟨u,l',?_,h⟩
   simp only[dP,B,if_neg N,Y]
   refine⟨ab,F,j,?_⟩
   rw[M st k];first|done|rfl
  exact h.elim
def HA{V:Env}{ρ:Operand->T}{s:St}{o:Oper}{pc:PC}{t:T}{k:qE}{t':Tm}{l':List AO}(h:mn o=true)(G:(aX V ρ s.l s.l.length o).bA=k)(j:after s o.dst pc ⟨t,k,True⟩=some ⟨t',l'⟩):fy s.l l':=by
 obtain⟨B,F⟩:=VE (V:=V) (ρ:=ρ) (l:=s.l) (nid:=s.l.length) h
 rw[G]at B F
 unfold after at j
 simp only at j
 split at j
 ·injection j with j;injection j with _ j;rw[<-j];exact .refl _
 ·exact absurd rfl (F _)
 ·injection j with j;injection j with _ j;rw[<-j];exact B _ rfl
 ·injection j with j;injection j with _ j;rw[<-j];exact .refl _
 cases j
theorem LW{V:Env}{pc:PC}{s:St}{o:Oper}:∃ρ,(fT V pc s o).bA=(aX V ρ s.l s.l.length o).bA:=by
 cases pc with
 |nil=>exact⟨_,rfl⟩
 |cons y r=>exact⟨_,rfl⟩
def TU{md:Way}{o:Oper}{st:St}{t':Tm}{l':List AO}(B:mn o=true)(h:dP V n ops md [o] st (λq=>q=⟨t',l'⟩)):fy st.l l':=by
 simp only[dP]at h
 split at h
 ·exact h.elim
 rename_i pc F
 cases md with
 |none=>
  simp only at h
  obtain⟨_,_,h⟩:=h
  split at h
  ·rename_i s' j
   subst h
   obtain⟨ρ,k⟩:=LW (V:=V) (pc:=pc) (s:=st) (o:=o)
   exact HA B k.symm j
  exact h.elim
 |some G=>
  simp only at h
  split at h
  ·obtain⟨_,_,h⟩:=h
   injection h with _ h;rw[<-h];exact .refl _
  obtain⟨_,_,_,h⟩:=h
  split at h
  ·rename_i s' j
   subst h
   obtain⟨ρ,k⟩:=LW (V:=V) (pc:=[]) (s:=st) (o:=o)
   exact HA B k.symm j
  exact h.elim
def nY(P:Program)(n:Nat)(ops:List Oper)(o:Oper)(s:St)(K:T->List AO->Prop):Prop:=
 ∀(st:St),st.l=s.l->(∀t∈fU ops o,get st.t t=get s.t t)->∀(w0:World)(I0:ay)(a:Act)(w:World)(Q:Exit->Act->World->Prop)(j:Act->World->Prop),Rel w0 I0 n st a w ->
  (∀u l' k w',K u l'->(mn o=true->fy s.l l')->Rel w0 I0 n ⟨bR st.t o.dst u,l'⟩ k w'->j k w') ->
  if Region.wanted o (yielded ops.toArray a.tmps)=true then o.wpIn dc 0 P a w j Q else(∀f,o.about P w a.eval=some f->dc.fn f)/\j (a.put o.dst undef) w
def dC(P:Program)(n:Nat)(ops:List Oper):List Oper->St->(St->Prop)->Prop
 | [],s,K=>K s
 |o::r,s,K=>nY P n ops o s λu l'=>dC P n ops r ⟨bR s.t o.dst u,l'⟩ K
theorem nY.mono{o:Oper}{s:St}{K j:T->List AO->Prop}(h:nY P n ops o s K)(N:∀u l',K u l'->j u l'):nY P n ops o s j:=λst O M w0 I0 a w Q B U G=>h st O M w0 I0 a w Q B U λu l' F w' k=>G u l' F w' (N u l' k)
def step_seq(N:cA P V){o:Oper}{r:List Oper}{s:St}(h:dP V n ops md (o::r) s K):nY P n ops o s λu l'=>dP V n ops md r ⟨bR s.t o.dst u,l'⟩ K:=by
 intro st j O w0 I0 a w Q aa Z M
 obtain⟨u,l',B,G⟩:=TT (st:=st) h j O
 refine Jt N Z B λq F w' k Y=>?_
 simp only[dP]at k
 subst k
 exact M u l' F w' G (λU=>j▸TU (st:=st) U B) Y
theorem dC.seq(j:cA P V){post:List Oper}:∀{r:List Oper}{s:St},dP V n ops md r s (λs'=>dC P n ops post s' K)->dC P n ops (r++post) s K
 | [],_,h=>h
 |_::_,_,h=>(step_seq j h).mono λ_ _ k=>dC.seq j k
theorem dC.of(j:cA P V){r:List Oper}{s:St}(h:dP V n ops md r s K):dC P n ops r s K:=by
 have:=dC.seq (P:=P) (post:=[]) j (K:=K) (s:=s) (r:=r) h
 simpa using this
theorem dC.call(aw:cA P V){o:Oper}{r:List Oper}{s:St}{g:FuncId}{ts:List T}{pc:PC}(af:dA ops s.t o.guard=some pc)(ai:holds pc)(aa:dJ n o.dst=true)(j:ez V.E (bN s.t) o=some (g,ts))(h:iP P g ts s.l λu l'=>dC P n ops r ⟨bR s.t o.dst u,l'⟩ K):dC P n ops (o::r) s K:=by
 intro st F M w0 I0 a w Q av aj Y
 have G:∀x∈o.op.operands,bN st.t x=bN s.t x:=λx G=>Db λt ht=>M t (q0 _ (q3.2 ⟨x,by simpa using G,by rw[ht]⟩))
 obtain⟨N,I,m,O,ab,ht⟩:=aj
 have al:=(ph (ops:=ops) (a:=a) ht ((DR M).trans af)).2 ai
 rw[if_pos al]
 refine cp.wpIn (vC j) ?_
 obtain⟨U,ak,ag,Z⟩:=qS (P:=P) (w:=w) (ρ:=a.eval) h.1 (λx _=>mg O.sat.dz ht x) ((SQ G).trans j)
 rw[ak]
 simp only[cp]
 refine(h.2 w0 I0 w I m U (λk=>a.tmps.getD k undef) st.t (by rw[<-F];exact O) ag (by rw[<-F];exact Z) (by rw[<-F];exact ht)).mono ?_
 rintro e w' ⟨v,ad,t,l',J,m',an,ao,aq,au,ar⟩
 refine⟨v,ad,Y t l' _ w' an (λB=>?_) ⟨by cases o.dst<;>simp[Act.put,N],J,m',ao,ab.xr au,lU N aa ar aq⟩⟩
 exfalso
 unfold ez at j
 unfold mn ml at B
 split at j
 ·rename_i c ah
  rw[ah]at B
  simp only[q9]at B
  split at j
  ·rename_i f ae;rw[ae]at B;simp at B
  cases j
 cases j
theorem dC.wp(G:cA P V)(k:∀s a w,K s->Rel w0 I0 n s a w->Q .normal a w):∀(r:List Oper)(s:St)(a:Act)(w:World),Rel w0 I0 n s a w->dC P n ops r s K->wpListIn dc 0 P ops.toArray Q r a w
 | [],s,a,w,j,h=>k s a w h j
 |o::r,s,a,w,j,h=>by
  unfold wpListIn
  exact h s rfl (λ_ _=>rfl) w0 I0 a w Q _ j λu l' B w' F _ M=>dC.wp G k r _ B w' M F
def Oa(bw:cA P V)(bu:∀s a w,K s->Rel w0 I0 n s a w->Q .normal a w){n1:Nat}{F:List Nat}(bS:nu ops=true)(b6:sB ops n1 F=true)(b1:qq ops n1=true)(an:rk ops n1 F=true)(cm:n1<=ops.length){s0:St}{rs:List Rec}{B:Bool}(bO:∀(f:Nat) o x,f∈F->ops[f]?=some o->rs[f]?=some x->sM V B s0.l o x)(hkp:B=true\/∀(i:Nat) o,n1<=i->ops[i]?=some o->mn o=true)(bg:jM V n ops s0.l (ops.take n1) 0 s0.t 0 rs) :
  ∀(ak j:Nat)(s:St)(a:Act)(w:World)(G:Array Bool),G.size=ops.length->lh ops.length G=ak->(∀i,i<ops.length->i∉F->G.getD i false=decide (i<j))->n1<=j->j<=ops.length->nV ops G->Hu w0 I0 n B s0.l ops F rs s G a w->dC P n ops (ops.drop j) s K ->
   wpAnyIn dc 0 P .any ops.toArray Q ak G a w:=by
 have cu:rs.length=n1:=by rw[bg.len];simp;omega
 intro ak
 induction ak with
 |zero=>
  intro j s a w G af bj ao aw a7 az aN h
  have aL:∀i,i<ops.length->G.getD i false=true:=by
   intro i hi
   have:=v8.1 bj
   have:=(iv.1 this) i (hN.2 hi)
   simpa using this
  have ck:j=ops.length:=by
   rcases lB j ops.length with h'|h'
   ·have aD:j∉F:=λaK=>by have:=(mi an aK).1;omega
    have:=ao j h' aD
    rw[aL j h']at this;simp at this
   omega
  rw[k6 (by omega)]at h
  obtain⟨aq,⟨I,m,bs,ad,bt⟩,cf,_⟩:=aN
  refine⟨?_,bu s a w h ⟨aq,I,m,bs,ad,λk=>bt k λM=>?_⟩⟩
  ·refine s5.2 λi hi=>?_
   have aa:=xy hi
   have:=((qu af aa (c3 aa)).1 hi).1
   rw[aL i aa]at this;cases this
  obtain⟨f,o,Y,O,U,_⟩:=pZ.1 M
  rw[aL f (c5.1 U).1]at O;cases O
 |succ ak bm=>
  intro j s a w G af bj ao aw a7 az aN h
  have bQ:∃i,i<ops.length/\G.getD i false=false/\∀k,k<i->G.getD k false=true:=by
   have bE:∃i,i<ops.length/\G.getD i false=false:=by
    refine hf λaC=>?_
    have:lh ops.length G=0:=by
     unfold lh
     rw[iv.2 λi hi=>by
      have hi:=hN.1 hi
      cases au:G.getD i false with
      |true=>simp
      |false=>exact absurd ⟨i,hi,au⟩ aC]
     rfl
    omega
   obtain⟨i,hi⟩:=bE
   induction i using Nat.strongRecOn with
   |ind i b9=>
    by_cases aC:∃k,k<i/\G.getD k false=false
    ·obtain⟨k,M,au⟩:=aC
     exact b9 k M ⟨by omega,au⟩
    refine⟨i,hi.1,hi.2,λk M=>?_⟩
    cases au:G.getD k false with
    |true=>rfl
    |false=>exact absurd ⟨k,M,au⟩ aC
  obtain⟨aY,cj,bA,bB⟩:=bQ
  have bc:ops[aY]?=some ops[aY]:=c3 (by omega)
  have bf:aY∈Region.ready .any ops.toArray G:=(qu af (by omega) bc).2 ⟨bA,λk M=>bB k (wk bS bc k M)⟩
  refine⟨λbr=>(by rw[br]at bf;cases bf),λi hi=>?_⟩
  have aa:=xy hi
  have N:ops[i]?=some ops[i]:=c3 aa
  obtain⟨aq,ad⟩:=(qu af aa N).1 hi
  have bl:lh ops.length (G.setIfInBounds i true)=ak:=by have:=G9 af aa aq;omega
  have Z:∀k,(G.setIfInBounds i true).getD k false=if k=i then true else G.getD k false:=λk=>yY af aa
  generalize ops[i]=o at N ad
  unfold wpOpIn
  have bz:ops.toArray[i]?=some o:=by simpa using N
  simp only[bz]
  obtain⟨aU,⟨I,m,ay,aZ,ht⟩,aM,hvars⟩:=aN
  by_cases ae:i∈F
  ·
   obtain⟨a6,bG⟩:=mi an ae
   obtain⟨bK,al⟩:=bG o N
   have aH:rs[i]?=some rs[i]:=c3 (by omega)
   generalize rs[i]=x at aH
   obtain⟨b4,cv,cq⟩:=bg.at_ i o x (by rw[gl,if_pos a6];exact N) aH
   obtain⟨⟨cw,bI,b2⟩,bL,ct,bV,a1,cn,ch⟩:=b4
   have aS:x.pc=[]:=bL bK
   obtain⟨cr,bP⟩:=bO i o x ae N aH
   obtain⟨bH,bF⟩:=aM i o x ae aq N aH
   have bh:∀t,t∈fU ops o->ar I m s.l (a.tmps.getD t undef) (get x.tm t):=by
    intro t aj
    rw[<-bH t aj]
    refine ht t λai=>?_
    obtain⟨f,q,Y,O,U,ab⟩:=pZ.1 ai
    have:=(sf b1 a6 (mi an Y).1 N U ab).2 aj
    rw[ad f this.2]at O;cases O
   have bD:∀y∈o.op.operands,ar I m s.l (a.eval y) (bN x.tm y):=by
    intro y ag
    cases y with
    |tmp t=>exact bh t (q0 _ (q3.2 ⟨.tmp t,by simpa using ag,rfl⟩))
    |const v=>exact CV v
    |global g=>exact DM ay.sat.dz g
    |func f=>exact .d _ _ (.fn f)
   have aW:=Hg (ops:=ops) (a:=a) (λj b d bJ aA=>bh d (tr _ (by rw[bJ];simp only;rw[aA];simp))) bI
   have aW:=aW.trans b2
   have ai:holds x.pc:=by rw[aS];trivial
   rw[if_pos (aW.2 ai)]
   obtain⟨aQ,bW⟩:=bV ai
   have bY:∀y∈o.op.operands,ar I m s.l (a.eval y) (strip x.pc (bN x.tm y)).1:=λy ag=>GL (bD y ag) ai (zL bW _ (gj.2 ⟨y,by simpa using ag,rfl⟩))
   have aT:=bP aS aQ s.l hvars
   have bU:=qW (show(aX V (λy=>(strip x.pc (bN x.tm y)).1) s.l 0 o).ob by rw[aT];exact aQ)
   have aG:=ox (nid:=0) bw ay (eH.refl s.l) bY (by rw[aT];exact aQ)
   rw[aT]at aG
   unfold cg at aG
   simp only at aG
   refine cp.wpIn bU (aG.mono λv w' ⟨J,bb,b8,aV⟩=>?_)
   refine bm j s _ w' _ (by simp[af]) bl (λk M aE=>by rw[Z k,if_neg (show ¬k=i from λe=>aE (e▸ae))];exact ao k M aE) aw a7 (az.step N ad Z) ?_ h
   refine⟨by cases o.dst<;>simp[Act.put,aU],⟨J,m,b8,aZ.put bb.dg,λk M=>?_⟩,λf q y av ah aF ag=>?_,?_⟩
   ·by_cases ax:o.dst=some k
    ·have bC:k<n:=by rw[ax]at a1;simpa [dJ]using a1
     have:(a.put o.dst v).tmps.getD k undef=v:=by simp[ax,Act.put,gg,aU,bC]
     rw[this,bF k ax]
     unfold Rec.out;rw[if_pos aS];exact aV
    have:(a.put o.dst v).tmps.getD k undef=a.tmps.getD k undef:=by
     cases aR:o.dst with
     |none=>rfl
     |some bo=>
      have:bo≠k:=λe=>ax (by rw[aR,e])
      simp[Act.put,gg,this]
    rw[this]
    refine(ht k λbZ=>M ?_).mono bb
    obtain⟨f,q,Y,O,U,ab⟩:=pZ.1 bZ
    refine pZ.2 ⟨f,q,Y,?_,U,ab⟩
    rw[Z f,if_neg];· exact O
    rintro rfl;rw[N]at U;injection U with U;subst U;exact ax ab
   ·have aP:f≠i:=by rintro rfl;rw[Z f,if_pos rfl]at ah;cases ah
    exact aM f q y av (by rw[Z f,if_neg aP]at ah;exact ah) aF ag
   exact hvars
  have bM:i=j:=by
   have aI:=aq
   rw[ao i aa ae]at aI
   have aI:¬i<j:=by simpa using aI
   rcases lB j i with bT|hge
   ·have aD:j∉F:=λaK=>by have:=(mi an aK).1;omega
    have:=Hf az 8 o j ad (N9 b6 N (by omega) j bT aD)
    rw[ao j (by omega) aD]at this;simp at this
   omega
  subst bM
  have a8:i<ops.length:=aa
  rw[hT a8]at h
  have bX:ops[i]=o:=by have:=c3 a8;rw[N]at this;injection this with this;exact this.symm
  rw[bX]at h
  let st:St:=⟨(cY ops F G).map (λd=>(d,T.undef))++s.t,s.l⟩
  have aB:∀k,k∉cY ops F G->get st.t k=get s.t k:=λk M=>by simp only[st];rw[DL,if_neg M]
  have b5:Rel w0 I0 n st a w:=by
   refine⟨aU,I,m,ay,aZ,λk=>?_⟩
   by_cases M:k∈cY ops F G
   ·simp only[st];rw[DL,if_pos M];exact .undef _
   rw[aB k M];exact ht k M
  have bx:∀t∈fU ops o,get st.t t=get s.t t:=λt aj=>aB t λai=>by
   obtain⟨f,q,Y,O,U,ab⟩:=pZ.1 ai
   have:=((mi an Y).2 q U).2 i o aw N
   have:=this.2 t ab aj
   rw[ad f this]at O;cases O
  have h:nY P n ops o s _:=h
  refine h st rfl bx w0 I0 a w Q _ b5 λu l' bn w' h aV b3=>?_
  have b7:B=true\/fy s0.l l':=by
   rcases hvars with aJ|hvars
   ·exact .inl aJ
   rcases hkp with aJ|hkp
   ·exact .inl aJ
   exact .inr (hvars.trans (aV (hkp i o aw N)))
  obtain⟨ca,J,m',cc,cb,cd⟩:=b3
  have b0:∀k,k∈cY ops F (G.setIfInBounds i true)↔k∈cY ops F G:=λk=>by
   rw[pZ,pZ]
   constructor
   ·rintro⟨f,q,Y,O,U,ab⟩
    exact⟨f,q,Y,by rw[Z f,if_neg (show ¬f=i from λe=>ae (e▸Y))]at O;exact O,U,ab⟩
   rintro⟨f,q,Y,O,U,ab⟩
   exact⟨f,q,Y,by rw[Z f,if_neg (show ¬f=i from λe=>ae (e▸Y))];exact O,U,ab⟩
  refine bm (i+1) ⟨bR s.t o.dst u,l'⟩ bn w' _ (by simp[af]) bl (λk M aE=>by rw[Z k,ao k M aE];by_cases e:k=i<;>simp[e]<;>(try omega)) (by omega) (by omega) (az.step N ad Z) ⟨ca,⟨J,m',cc,cb,λk M=>?_⟩,λf q y av ah aF ag=>?_,b7⟩ h
  ·have:=cd k
   have ba:k∉cY ops F G:=λe=>M ((b0 k).2 e)
   have e:get (bR st.t o.dst u) k=get (bR s.t o.dst u) k:=by
    cases o.dst with
    |none=>exact aB k ba
    |some d=>
     simp only[bR,get]
     split
     ·rfl
     exact aB k ba
   show ar J m' l' _ (get (bR s.t o.dst u) k)
   rw[<-e];exact this
  have aO:G.getD f false=false:=by rw[Z f,if_neg (show ¬f=i from λe=>ae (e▸av))]at ah;exact ah
  obtain⟨bp,bq⟩:=aM f q y av aO aF ag
  have al:=((mi an av).2 q aF).2 i o aw N
  have al:=And.intro (al.1.resolve_left (λay=>by rw[ad f ay]at aO;cases aO)) al.2
  have bd:∀t,o.dst≠some t->get (bR s.t o.dst u) t=get s.t t:=λt aP=>by
   cases aR:o.dst with
   |none=>rfl
   |some d=>simp only[bR,get];rw[if_neg (λe=>aP (by rw[aR,e]))]
  refine⟨λt aj=>?_,λd aA=>?_⟩
  ·exact(bd t (λe=>(al.1 t e).1 aj)).trans (bp t aj)
  exact(bd d (λe=>(al.1 d e).2 aA)).trans (bq d aA)
def Oh{n1:Nat}{F:List Nat}(ah:qq ops n1=true)(ae:rk ops n1 F=true)(aS:n1<=ops.length){s0:St}{rs:List Rec}{B:Bool}(aE:∀(f:Nat) o x,f∈F->ops[f]?=some o->rs[f]?=some x->sM V B s0.l o x)(aT:rs.length=n1)(aK:jM V n ops s0.l (ops.take n1) 0 s0.t 0 rs){Y:Array Bool}{a:Act}{w:World}(aF:Inv w0 I0 n n1 ops s0 rs Y a w)(an:∀i,i<n1->i∉F->Y.getD i false=true) :
  Hu w0 I0 n B s0.l ops F rs ⟨fc s0.t (ops.take n1) rs,s0.l++(cy 0 rs).map (·.2)⟩ Y a w:=by
 obtain⟨az,I,m,aj,aA,ak,al⟩:=aF
 have aI:∀p∈cy 0 rs,p.1∉F:=by
  intro p aa Z
  obtain⟨i,x,aN,ax,ay⟩:=ER rs 0 p aa
  have hi:p.1=i:=by omega
  rw[hi]at Z
  have af:=(mi ae Z).1
  have M:ops[i]?=some ops[i]:=c3 (by omega)
  have:=(aE i _ x Z M ax).1
  rw[ay]at this;cases this
 have aB:eg s0.l (cy 0 rs) (λi=>Y.getD i false)=s0.l++(cy 0 rs).map (·.2):=by
  unfold eg
  congr 1
  apply hE
  intro p aa
  have:=(zC rs 0).1 p aa
  rw[if_pos (an p.1 (by omega) (aI p aa))]
 rw[aB]at aj ak al
 have ab:∀(i:Nat) o x k,i<n1->ops[i]?=some o->rs[i]?=some x->o.dst=some k->get (fc s0.t (ops.take n1) rs) k=x.out:=λi o x k hi M U G=>
  y1 (ops.take n1) rs s0.t k i o x (by rw[gl,if_pos hi];exact M) U G (λj q O ag=>by
   have au:j<n1:=by have:=(c5.1 O).1;simp at this;omega
   rw[gl,if_pos au]at O
   exact(sf ah au hi O M G).1 ag)
 have av:∀k,(¬ ∃i o,i<n1/\ops[i]?=some o/\o.dst=some k)->get (fc s0.t (ops.take n1) rs) k=get s0.t k:=λk N=>
  vW (ops.take n1) rs s0.t k (λo M G=>N (by
   obtain⟨i,hi,rfl⟩:=gT.1 M
   have aC:i<n1:=by simp at hi;omega
   exact⟨i,_,aC,by rw[c3 (by omega)],by simpa using G⟩))
 refine⟨az,⟨I,m,aj,aA,λk aJ=>?_⟩,λf o x ao aR M U=>⟨λt aM=>?_,λd G=>?_⟩,.inr (.append _ _)⟩
 ·by_cases N:∃i o,i<n1/\ops[i]?=some o/\o.dst=some k
  ·obtain⟨i,o,hi,M,G⟩:=N
   have U:rs[i]?=some rs[i]:=c3 (by omega)
   have aH:Y.getD i false=true:=by
    cases ad:Y.getD i false with
    |true=>rfl
    |false=>
     have aD:i∈F:=hf λZ=>by rw[an i hi Z]at ad;cases ad
     exact absurd (pZ.2 ⟨i,o,aD,ad,M,G⟩) aJ
   show ar I m _ _ (get (fc s0.t (ops.take n1) rs) k)
   rw[ab i o _ k hi M U G]
   exact ak i o _ k hi M U aH G
  show ar I m _ _ (get (fc s0.t (ops.take n1) rs) k)
  rw[av k N]
  exact al k (λi o hi M _ G=>N ⟨i,o,hi,M,G⟩)
 ·
  obtain⟨af,aO⟩:=mi ae ao
  obtain⟨_,aL,_⟩:=aK.at_ f o x (by rw[gl,if_pos af];exact M) U
  rw[aL,show(ops.take n1).take f=ops.take f by rw[vy];congr 1;omega]
  show get (fc s0.t (ops.take n1) rs) t=_
  by_cases N:∃i o,i<n1/\ops[i]?=some o/\o.dst=some t
  ·obtain⟨i,q,hi,O,G⟩:=N
   have aw:rs[i]?=some rs[i]:=c3 (by omega)
   rw[ab i q _ t hi O aw G]
   obtain⟨aq,aQ⟩:=(sf ah af hi M O G).2 aM
   rw[y1 (ops.take f) (rs.take f) s0.t t i q _ (by rw[gl,if_pos aq];exact O) (by rw[gl,if_pos aq];exact aw) G (λk aU ai N=>by
    have aG:k<f:=by have:=(c5.1 ai).1;simp at this;omega
    rw[gl,if_pos aG]at ai
    exact(sf ah (by omega) hi ai O G).1 N)]
  rw[av t N,vW (ops.take f) (rs.take f) s0.t t (λq O G=>N (by
   obtain⟨j,ag,rfl⟩:=gT.1 O
   have aP:j<f:=by simp at ag;omega
   exact⟨j,_,by omega,by rw[c3 (by omega)],by simpa using G⟩))]
 exact ab f o x d (mi ae ao).1 M U G
theorem XD(aQ:cA P V)(a7:∀s a w,K s->Rel w0 I0 n s a w->Q .normal a w){n1:Nat}{F:List Nat}(aR:nu ops=true)(aV:sB ops n1 F=true)(aD:rk ops n1 F=true)(aj:qq ops n1=true)(ao:n1<=ops.length){s0:St}{rs:List Rec}{B:Bool}(aF:∀(f:Nat) o x,f∈F->ops[f]?=some o->rs[f]?=some x->sM V B s0.l o x)(bf:B=true\/∀(i:Nat) o,n1<=i->ops[i]?=some o->mn o=true)(aq:jM V n ops s0.l (ops.take n1) 0 s0.t 0 rs)(bd:dC P n ops (ops.drop n1) ⟨fc s0.t (ops.take n1) rs,s0.l++(cy 0 rs).map (·.2)⟩ K) :
  ∀(af:Nat)(a:Act)(w:World)(G:Array Bool),G.size=ops.length->lh ops.length G=af->(∀i,n1<=i->i<ops.length->G.getD i false=false)->nV ops G->Inv w0 I0 n n1 ops s0 rs G a w ->
   wpAnyIn dc 0 P .any ops.toArray Q af G a w:=by
 have bo:rs.length=n1:=by rw[aq.len];simp;omega
 have bW:∀i,i<n1->(ops.take n1)[i]?=ops[i]?:=λi hi=>by rw[gl,if_pos hi]
 intro af
 induction af with
 |zero=>
  intro a w G ae aM aL aw aG
  have ah:∀i,i<ops.length->G.getD i false=true:=by
   intro i hi
   have:=v8.1 aM
   have:=(iv.1 this) i (hN.2 hi)
   simpa using this
  have b4:n1=ops.length:=by
   rcases lB n1 ops.length with h|h
   ·have:=aL n1 (eb _) h;rw[ah n1 h]at this;cases this
   omega
  exact Oa aQ a7 aR aV aj aD ao aF bf aq 0 n1 _ a w G ae aM (λi hi _=>by rw[ah i hi];simp;omega) (eb _) ao aw (Oh aj aD ao aF bo aq aG (λi hi _=>ah i (by omega))) bd
 |succ af b1=>
  intro a w G ae aM aL aw aG
  by_cases ah:∀i,i<n1->i∉F->G.getD i false=true
  ·have an:∀i,i<ops.length->i∉F->G.getD i false=decide (i<n1):=by
    intro i hi aP
    by_cases h:i<n1
    ·rw[ah i h aP];simp[h]
    rw[aL i (by omega) hi];simp[h]
   exact Oa aQ a7 aR aV aj aD ao aF bf aq (af+1) n1 _ a w G ae aM an (eb _) ao aw (Oh aj aD ao aF bo aq aG ah) bd
  obtain⟨bq,I,m,aW,bz,ba,bb⟩:=aG
  have bD:∃i,i<n1/\i∉F/\G.getD i false=false:=by
   refine hf λh=>ah λi hi aP=>?_
   cases av:G.getD i false with
   |true=>rfl
   |false=>exact absurd ⟨i,hi,aP,av⟩ h
  obtain⟨aZ,bH,bt,a8⟩:=bD
  have bC:∃i,i<n1/\G.getD i false=false:=⟨aZ,bH,a8⟩
  have bL:∃i,i<n1/\G.getD i false=false/\∀j,j<i->G.getD j false=true:=by
   obtain⟨i,hi⟩:=bC
   induction i using Nat.strongRecOn with
   |ind i b2=>
    by_cases h:∃j,j<i/\G.getD j false=false
    ·obtain⟨j,O,av⟩:=h
     exact b2 j O ⟨by omega,av⟩
    refine⟨i,hi.1,hi.2,λj O=>?_⟩
    cases av:G.getD j false with
    |true=>rfl
    |false=>exact absurd ⟨j,O,av⟩ h
  obtain⟨aY,b8,bu,bw⟩:=bL
  have bl:ops[aY]?=some ops[aY]:=c3 (by omega)
  have bn:aY∈Region.ready .any ops.toArray G:=(qu ae (by omega) bl).2 ⟨bu,λj O=>bw j (wk aR bl j O)⟩
  refine⟨λbs=>(by rw[bs]at bn;cases bn),λi hi=>?_⟩
  have ax:=xy hi
  have aa:ops[i]?=some ops[i]:=c3 ax
  obtain⟨a6,aC⟩:=(qu ae ax aa).1 hi
  have aE:i<n1:=by
   rcases lB i n1 with h|h
   ·exact h
   have:=Hf aw 8 _ aZ aC (N9 aV aa h aZ (by omega) bt);rw[a8]at this;cases this
  generalize ops[i]=o at aa aC
  have aA:rs[i]?=some rs[i]:=c3 (by omega)
  generalize rs[i]=x at aA
  obtain⟨bU,bY,bj⟩:=aq.at_ i o x (by rw[bW i aE];exact aa) aA
  obtain⟨⟨cb,bE,bT⟩,b6,az,bQ,bc,bh,b7⟩:=bU
  unfold wpOpIn
  have:ops.toArray[i]?=some o:=by simpa using aa
  simp only[this]
  have bp:∀t,t∈fU ops o->ar I m (eg s0.l (cy 0 rs) λi=>G.getD i false) (a.tmps.getD t undef) (get x.tm t):=by
   intro t ht
   rw[bY]
   rw[show(ops.take n1).take i=ops.take i by rw[vy];congr 1;omega]
   by_cases ai:∃j q,j<n1/\ops[j]?=some q/\q.dst=some t
   ·obtain⟨j,q,O,M,N⟩:=ai
    obtain⟨al,bI⟩:=(sf aj aE O aa M N).2 ht
    have br:rs[j]?=some rs[j]:=c3 (by omega)
    rw[y1 (ops.take i) (rs.take i) s0.t t j q _ (by rw[gl,if_pos al];exact M) (by rw[gl,if_pos al];exact br) N (λk ca aU ai=>by
     have bJ:k<i:=by have:=(c5.1 aU).1;simp at this;omega
     rw[gl,if_pos bJ]at aU
     exact(sf aj (by omega) O aU M N).1 ai)]
    exact ba j q _ t O M br (aC j bI) N
   rw[vW (ops.take i) (rs.take i) s0.t t (λq M N=>ai (by
    obtain⟨j,O,rfl⟩:=gT.1 M
    have b9:j<i:=by simp at O;omega
    exact⟨j,_,by omega,by rw[c3 (by omega)],by simpa using N⟩))]
   exact bb t (λj q O M _ N=>ai ⟨j,q,O,M,N⟩)
  have bB:∀y∈o.op.operands,ar I m (eg s0.l (cy 0 rs) λi=>G.getD i false) (a.eval y) (bN x.tm y):=by
   intro y U
   cases y with
   |tmp t=>exact bp t (q0 _ (q3.2 ⟨.tmp t,by simpa using U,rfl⟩))
   |const v=>exact CV v
   |global g=>exact DM aW.sat.dz g
   |func f=>exact .d _ _ (.fn f)
  have aN:=Hg (ops:=ops) (a:=a) (λj b d bF N=>bp d (tr _ (by rw[bF];simp only;rw[N];simp))) bE
  have aN:=aN.trans bT
  have bZ:lh ops.length (G.setIfInBounds i true)=af:=by have:=G9 ae ax a6;omega
  have bX:∀k,n1<=k->k<ops.length->(G.setIfInBounds i true).getD k false=false:=λk ai bK=>by rw[yY ae ax,if_neg (by omega)];exact aL k ai bK
  have ak:∀j,(G.setIfInBounds i true).getD j false=if j=i then true else G.getD j false:=λj=>yY ae ax
  have next:∀(J:ay)(m':Nat->Value)(v:Value)(w':World),Le I m (eg s0.l (cy 0 rs) λi=>G.getD i false) J m' (eg s0.l (cy 0 rs) λk=>(G.setIfInBounds i true).getD k false) ->
    aH w0 I0 w' J m' (eg s0.l (cy 0 rs) λk=>(G.setIfInBounds i true).getD k false)->ar J m' (eg s0.l (cy 0 rs) λk=>(G.setIfInBounds i true).getD k false) v x.out ->
    wpAnyIn dc 0 P .any ops.toArray Q af (G.setIfInBounds i true) (a.put o.dst v) w':=by
   intro J m' v w' ad ab ag
   refine b1 _ _ _ (by simp[ae]) bZ bX (aw.step aa aC ak) ⟨by cases o.dst<;>simp[Act.put,bq],J,m',ab,bz.put ad.dg,λj q y d O M U an N=>?_,λd N=>?_⟩
   ·by_cases al:j=i
    ·subst al
     rw[aa]at M;injection M with M;subst M
     rw[aA]at U;injection U with U;subst U
     have bA:d<n:=by rw[N]at bc;simpa [dJ]using bc
     have:(a.put o.dst v).tmps.getD d undef=v:=by simp[N,Act.put,gg,bq,bA]
     rw[this];exact ag
    have bM:G.getD j false=true:=by rw[ak j,if_neg al]at an;exact an
    have aS:o.dst≠some d:=(sf aj aE O aa M N).1 (hS al)
    have:(a.put o.dst v).tmps.getD d undef=a.tmps.getD d undef:=by
     cases aT:o.dst with
     |none=>rfl
     |some aO=>
      have:aO≠d:=λe=>aS (by rw[aT,e])
      simp[Act.put,gg,this]
    rw[this];exact(ba j q y d O M U bM N).mono ad
   have aS:o.dst≠some d:=N i o aE aa (by rw[ak i,if_pos rfl])
   have:(a.put o.dst v).tmps.getD d undef=a.tmps.getD d undef:=by
    cases aT:o.dst with
    |none=>rfl
    |some aO=>
     have:aO≠d:=λe=>aS (by rw[aT,e])
     simp[Act.put,gg,this]
   rw[this]
   exact(bb d (λj q O M an=>N j q O M (by rw[ak j];split<;>first|rfl|exact an))).mono ad
  have aK:x.new=none->(eg s0.l (cy 0 rs) λi=>G.getD i false)=eg s0.l (cy 0 rs) λk=>(G.setIfInBounds i true).getD k false:=by
   intro Y
   refine WT λp Z=>?_
   rw[ak p.1,if_neg]
   intro b5
   obtain⟨b0,cc,b3,aB,a1⟩:=ER rs 0 p Z
   have:b0=i:=by omega
   subst this
   rw[aA]at aB;injection aB with aB;subst aB
   rw[Y]at a1;cases a1
  by_cases Z:holds x.pc
  ·rw[if_pos (aN.2 Z)]
   obtain⟨bm,bR⟩:=bQ Z
   have az:=az Z
   have bg:=qW (show(aX V (λy=>(strip x.pc (bN x.tm y)).1) s0.l x.nid o).ob by rw[az];exact bm)
   have bS:∀y∈o.op.operands,ar I m (eg s0.l (cy 0 rs) λi=>G.getD i false) (a.eval y) (strip x.pc (bN x.tm y)).1:=λy U=>GL (bB y U) Z (zL bR _ (gj.2 ⟨y,by simpa using U,rfl⟩))
   have au:=ox (nid:=x.nid) aQ aW (WS (l0:=s0.l)) bS (by rw[az];exact bm)
   rw[az]at au
   unfold cg at au
   cases Y:x.new with
   |none=>
    simp only[Y]at au
    refine cp.wpIn bg (au.mono λv w' ⟨J,ad,ab,ag⟩=>?_)
    rw[aK Y]at ad ab ag
    refine next J m v w' (by rw[aK Y];exact ad) ab ?_
    unfold Rec.out
    split
    ·exact ag
    exact .cond _ _ _ (λ_=>ag) (λbO=>absurd Z bO)
   |some b=>
    simp only[Y]at au
    have aI:x.pc=[]:=bh (by rw[Y];rfl)
    have aJ:=(zC rs 0).2.1 i x b aA Y
    simp only[hV]at aJ
    have bx:(eg s0.l (cy 0 rs) λi=>G.getD i false)[x.nid]?=some .dead:=by
     rw[bj,Nat.add_zero]
     have:=LM (l0:=s0.l) (L:=λi=>G.getD i false) aJ
     simp only[a6]at this
     simpa using this
    have bV:(eg s0.l (cy 0 rs) λi=>G.getD i false).set x.nid b=eg s0.l (cy 0 rs) λk=>(G.setIfInBounds i true).getD k false:=by
     rw[bj,Nat.add_zero]
     exact WU aJ (λq y M U=>(zC rs 0).2.2 q _ y _ M aJ U) ak
    refine cp.wpIn bg ((au bx).mono λv w' ⟨m',ad,ab,ag⟩=>?_)
    rw[bV]at ad ab ag
    refine next I m' v w' ad ab ?_
    unfold Rec.out
    rw[if_pos aI];exact ag
  rw[if_neg (λbG=>Z (aN.1 bG))]
  have aI:x.pc≠[]:=by intro e;rw[e]at Z;exact Z trivial
  have Y:x.new=none:=by
   cases bP:x.new with
   |none=>rfl
   |some b=>exact absurd (bh (by rw[bP];rfl)) aI
  have ab:=aW
  rw[aK Y]at ab
  refine⟨λf _=>l8 f,next I m undef w (by rw[aK Y];exact .refl ..) ab ?_⟩
  unfold Rec.out
  rw[if_neg aI]
  exact .cond _ _ _ (λh=>absurd h Z) (λ_=>rfl)
def Tz(U:cA P V)(O:∀s a w,K s->Rel w0 I0 n s a w->Q .normal a w){s:St}{a:Act}{w:World}{n1:Nat}{F:List Nat}(af:nu ops=true)(al:sB ops n1 F=true)(ab:rk ops n1 F=true)(ah:qq ops n1=true)(ag:n1<=ops.length)(ai:Rel w0 I0 n s a w){rs:List Rec}{B:Bool}(ad:∀(f:Nat) o x,f∈F->ops[f]?=some o->rs[f]?=some x->sM V B s.l o x)(ae:B=true\/∀(i:Nat) o,n1<=i->ops[i]?=some o->mn o=true)(aj:jM V n ops s.l (ops.take n1) 0 s.t ([]:List (Nat×AO)).length rs)(aa:dC P n ops (ops.drop n1) ⟨fc s.t (ops.take n1) rs,s.l++(([]:List (Nat×AO))++cy 0 rs).map (·.2)⟩ K):wpAnyIn dc 0 P .any ops.toArray Q ops.length (Array.replicate ops.length false) a {w with drawn:=w.drawn+1}:=by
 obtain⟨ak,I,m,G,Z,ht⟩:=ai
 have k:∀i,(Array.replicate ops.length false).getD i false=false:=λi=>by
  rw[gg]
  cases N:(Array.replicate ops.length false)[i]? with
  |none=>rfl
  |some b=>have:=e6.1 N;simp at this;simp[<-this.2]
 have an:aH w0 I0 {w with drawn:=w.drawn+1} I m s.l:=(G.call (w':={w with drawn:=w.drawn+1}) ⟨rfl,rfl,rfl,eb _,λ_ _=>rfl,λ_=>ss _⟩ (fD.refl _ _) ⟨G.sat.cell,G.sat.mp,G.sat.df,G.sat.dz⟩).1
 obtain⟨ao,M⟩:aH w0 I0 {w with drawn:=w.drawn+1} I m (eg s.l (cy 0 rs) λi=>(Array.replicate ops.length false).getD i false)/\Le I m s.l I m (eg s.l (cy 0 rs) λi=>(Array.replicate ops.length false).getD i false):=by
  have:(eg s.l (cy 0 rs) λi=>(Array.replicate ops.length false).getD i false)=s.l++List.replicate (cy 0 rs).length .dead:=by
   unfold eg
   congr 1
   rw[List.eq_replicate_iff]
   refine⟨by simp,λb Y=>?_⟩
   obtain⟨p,_,rfl⟩:=gj.1 Y
   rw[if_neg (by simp only[k];simp)]
  rw[this]
  generalize (cy 0 rs).length=c
  induction c with
  |zero=>simp;exact⟨an,.refl ..⟩
  |succ c aq=>
   obtain⟨ar,au⟩:=aq
   obtain⟨av,aw⟩:=ar.push
   rw[List.replicate_succ',<-hU]
   exact⟨av,au.trans aw⟩
 have:=XD (Q:=Q) (K:=K) U O af al ab ah ag (s0:=s) (rs:=rs) ad ae (by simpa using aj) (by simpa using aa) ops.length a {w with drawn:=w.drawn+1} (Array.replicate ops.length false) (by simp)
  (by unfold lh;rw[o0.2 (λi _=>by rw[k];rfl)];simp) (λi _ _=>k i)
  (λi o _ j=>by rw[k]at j;cases j)
  ⟨ak,I,m,ao,Z.mono M.dg,λi o x d hi ax N j=>(by rw[k]at j;cases j),λd _=>(ht d).mono M⟩
 simpa using this
def Tx(k:cA P V)(Y:P.follows .mixedOrders=true)(j:∀s a w,K s->Rel w0 I0 n s a w->Q .normal a w){id:Nat}{s:St}{a:Act}{w:World}{n1:Nat}{F:List Nat}(U:nu ops=true)(ae:sB ops n1 F=true)(M:rk ops n1 F=true)(aa:qq ops n1=true)(Z:n1<=ops.length)(ab:Rel w0 I0 n s a w){rs:List Rec}{B:Bool}(N:∀(f:Nat) o x,f∈F->ops[f]?=some o->rs[f]?=some x->sM V B s.l o x)(O:B=true\/∀(i:Nat) o,n1<=i->ops[i]?=some o->mn o=true)(ad:jM V n ops s.l (ops.take n1) 0 s.t ([]:List (Nat×AO)).length rs)(G:dC P n ops (ops.drop n1) ⟨fc s.t (ops.take n1) rs,s.l++(([]:List (Nat×AO))++cy 0 rs).map (·.2)⟩ K):(Code.region id ops.toArray true).wpIn dc 0 P Q a w:=by
 refine wpIn_region_any Y ?_
 simpa using Tz k j U ae M aa Z ab N O ad G
def Vg{l0:List AO}{F:List Nat}{n1:Nat}{tm:Tm}{rs:List Rec}(U:∀f∈F,f<n1)(h:(F.all λf=>match ops[f]? with|some o=>ml o|none=>true)=true)(O:∀(f:Nat) o,f∈F->ops[f]?=some o->o.guard=none)(ab:jM V n ops l0 (ops.take n1) 0 tm 0 rs) :
  ∀(f:Nat) o x,f∈F->ops[f]?=some o->rs[f]?=some x->sM V true l0 o x:=by
 intro f o x k B ad
 have N:ml o=true:=by have:=dT.1 h f k;rw[B]at this;exact this
 obtain⟨M,_⟩:=ab.at_ f o x (by rw[gl,if_pos (U f k)];exact B) ad
 have Z:x.pc=[]:=M.US (O f o k B)
 have j:=M.res (by rw[Z];trivial)
 have G:x.new=none:=by
  cases aa:x.new with
  |none=>rfl
  |some b=>
   have:=TR (V:=V) (ρ:=λy=>(strip x.pc (bN x.tm y)).1) (l:=l0) (nid:=x.nid) N b
   rw[j,aa]at this;exact absurd rfl this
 refine⟨G,λ_ Y l' _=>?_⟩
 rw[G]at j
 exact(TQ (V:=V) (ρ:=λy=>(strip x.pc (bN x.tm y)).1) (l:=l0) (l':=l') (nid:=x.nid) (nid':=0) N (by rw[j]) (by rw[j];exact Y)).trans j
def Je(N:cA P V)(Y:P.follows .mixedOrders=true)(M:∀s a w,K s->Rel w0 I0 n s a w->Q .normal a w){id:Nat}{s:St}{a:Act}{w:World}{n1:Nat}{F:List Nat}(U:nu ops=true)(ae:sB ops n1 F=true)(j:Dt ops n1 F=true)(ab:qq ops n1=true)(Z:n1<=ops.length)(ad:Rel w0 I0 n s a w){rs:List Rec}(G:jM V n ops s.l (ops.take n1) 0 s.t ([]:List (Nat×AO)).length rs)(O:dC P n ops (ops.drop n1) ⟨fc s.t (ops.take n1) rs,s.l++(([]:List (Nat×AO))++cy 0 rs).map (·.2)⟩ K):(Code.region id ops.toArray true).wpIn dc 0 P Q a w:=by
 unfold Dt at j
 rw[db]at j
 exact Tx N Y M U ae j.2 ab Z ad (B:=true) (Vg (λf k=>(mi j.2 k).1) j.1 (λf o k aa=>((mi j.2 k).2 o aa).1) (by simpa using G)) (.inl rfl) G O
end
end Go.ag
namespace Go.ag
open Go Go.RowKit
variable [bq][bX]
abbrev Spec:=List D->Option (D×Prop)
def qQ:List (FuncId×Spec)->xY
 | [],_,_=>none
 | (g,S)::r,f,ds=>if g=f then S ds else qQ r f ds
structure qH(P:Program)(f:FuncId)(S:Spec):Prop where
 enters:Enters P f
 ly:∀ds r ob,S ds=some (r,ob)->ob->fE P f ds r
def sQ(P:Program):List (FuncId×Spec)->Prop
 | []=>True
 | (f,S)::r=>qH P f S/\sQ P r
theorem sQ.ok{P:Program}:∀{j:List (FuncId×Spec)},sQ P j->Hp P (qQ j)
 | [],_,f,ds,r,ob,h,_=>by simp[qQ]at h
 | (g,S)::j,M,f,ds,r,ob,h,B=>by
  obtain⟨k,F⟩:=M
  simp only[qQ]at h
  split at h
  ·rename_i G;subst G;exact⟨k.enters,k.ly ds r ob h B⟩
  exact sQ.ok F f ds r ob h B
def KN(j:List (Nat×List Lf)):TypeId->Option (List Lf):=λt=>(j.find? λp=>p.1 == t).map (·.2)
section
variable {P:Program}{V:Env}{w0:World}{I0:ay}{n:Nat}{md:Way}{Q:Exit->St->Prop}{s:St}{y:Code}{ops:List Oper}{K:St->Prop}
def pG(ops:List Oper)(n1:Nat)(F:List Nat):Bool:=nu ops&&sB ops n1 F&&Dt ops n1 F&&qq ops n1&&decide (n1<=ops.length)
theorem TO(j:cA P V)(O:P.follows .mixedOrders=true){Q:Exit->Act->World->Prop}{K:St->Prop}(B:∀s a w,K s->Rel w0 I0 n s a w->Q .normal a w){id:Nat}{s:St}{a:Act}{w:World}(n1:Nat)(F:List Nat)(k:pG ops n1 F=true)(Z:Rel w0 I0 n s a w)(h:gd V n ops md s.l (ops.take n1) 0 s.t [] λtm ad=>dP V n ops md (ops.drop n1) ⟨tm,s.l++ad.map (·.2)⟩ K):(Code.region id ops.toArray true).wpIn dc 0 P Q a w:=by
 simp only[pG,db,ea]at k
 obtain⟨⟨⟨⟨N,ab⟩,M⟩,Y⟩,U⟩:=k
 obtain⟨rs,aa,G⟩:=pJ _ _ _ _ h
 exact Je j O B N ab M Y U Z aa (dC.of j G)
theorem TP(B:cA P V)(O:P.follows .mixedOrders=true){Q:Exit->Act->World->Prop}{K:St->Prop}(k:∀s a w,K s->Rel w0 I0 n s a w->Q .normal a w){id:Nat}{s:St}{a:Act}{w:World}(n1:Nat)(F:List Nat)(j:pG ops n1 F=true)(Z:Rel w0 I0 n s a w)(h:gd V n ops md s.l (ops.take n1) 0 s.t [] λtm ad=>dC P n ops (ops.drop n1) ⟨tm,s.l++ad.map (·.2)⟩ K):(Code.region id ops.toArray true).wpIn dc 0 P Q a w:=by
 simp only[pG,db,ea]at j
 obtain⟨⟨⟨⟨N,ab⟩,M⟩,Y⟩,U⟩:=j
 obtain⟨rs,aa,G⟩:=pJ _ _ _ _ h
 exact Je B O k N ab M Y U Z aa G
def T.pW(k:Nat):T->Bool
 |.d _=>true
 |.ptr id _=>decide (id<k)
 |.bf id=>decide (id<k)
 |_=>false
def T.dF(k:Nat):T->Bool
 |.ptr id _=>decide (id<k)
 |.row id=>decide (id<k)
 |.bw id _ _=>decide (id<k)
 |.map id=>decide (id<k)
 |.bf id=>decide (id<k)
 |.sub id _ _=>decide (id<k)
 |.cE id _=>decide (id<k)
 |.bJ id _=>decide (id<k)
 |.aN ts=>ts.all λt=>match t with |.d _=>true|_=>false
 |.cond _ t=>match t with |.d _=>true|_=>false
 |.aD _ ts=>ts.all (T.pW k)
 |.agg ts=>ts.all λt=>match t with |.d _=>true|_=>false
 |_=>true
def AO.dF(k:Nat):AO->Bool
 |.var _ cs=>cs.all (T.dF k)
 |.frame b _ _=>decide (b<=k)
 |.loop b _ _ _ _ _ _ _=>decide (b<=k)
 |_=>true
theorem ar.cut{I:ay}{m:Nat->Value}{l:List AO}{k:Nat}(ah:k<=l.length){v:Value}{t:T}(h:ar I m l v t)(B:t.dF k=true):ar I m (l.take k) v t:=by
 have Y:∀id,id<k->(l.take k)[id]?=l[id]?:=λid U=>by rw[gl,if_pos U]
 have N:∀id,id<k->isVar (l.take k) id=isVar l id:=λid U=>by unfold isVar;rw[Y id U]
 have aa:∀id,id<k->isRow (l.take k) id=isRow l id:=λid U=>by unfold isRow;rw[Y id U]
 have data:∀{v:Value}{t:T},ar I m l v t->(match t with |.d _=>true|_=>false)=true->ar I m (l.take k) v t:=by
  intro v t h B
  cases h<;>simp at B
  exact .d _ _ (by assumption)
 cases h with
 |undef=>exact .undef _
 |d v x ab=>exact .d _ _ ab
 |bC s=>exact .bC _
 |ptr id b off F j=>simp[T.dF]at B;exact .ptr id b off ((N id B).trans F) j
 |bB b o size els q off val F j M Z=>exact .bB b o size els q off val F j M Z
 |bf id b F j=>simp[T.dF]at B;exact .bf id b ((N id B).trans F) j
 |cE id b n c F j M Z=>simp[T.dF]at B;exact .cE id b n c ((N id B).trans F) j M Z
 |row A n c id F j=>simp[T.dF]at B;exact .row A n c id (by rw[e8];omega) (λG=>j ((aa id B).symm.trans G))
 |bJ A n c id x F j M=>simp[T.dF]at B;exact .bJ A n c id x (by rw[e8];omega) (λG=>j ((aa id B).symm.trans G)) M
 |bw a id q off F j=>simp[T.dF]at B;exact .bw a id q off (by rw[e8];omega) (λe size els G=>j e size els (by rw[Y id B]at G;exact G))
 |sub A n c id lo hi F j=>simp[T.dF]at B;exact .sub A n c id lo hi (by rw[e8];omega) (λe size els G=>j e size els (by rw[Y id B]at G;exact G))
 |map r id F j=>simp[T.dF]at B;exact .map r id (by rw[e8];omega) (λG=>j ((aa id B).symm.trans G))
 |aN vs ts F j=>
  refine .aN vs ts F λi v t N ht=>data (j i v t N ht) ?_
  simp only[T.dF,dT]at B
  exact B t (dk ht)
 |cond v pc t F j=>exact .cond v pc t (λaf=>data (F af) B) j
 |aD g vs ts F j=>
  refine .aD g vs ts F λi v t ag ht=>?_
  simp only[T.dF,dT]at B
  have O:=B t (dk ht)
  have M:=j i v t ag ht
  cases M with
  |d v x ab=>exact .d _ _ ab
  |ptr id b off ad ae=>simp[T.pW]at O;exact .ptr id b off ((N id O).trans ad) ae
  |bf id b ad ae=>simp[T.pW]at O;exact .bf id b ((N id O).trans ad) ae
  |_=>simp[T.pW]at O
 |agg vs ts F j M=>
  refine .agg vs ts F j λi v t N ht=>data (M i v t N ht) ?_
  simp only[T.dF,dT]at B
  exact B t (dk ht)
theorem aH.cut{w0 w:World}{I0 I:ay}{m:Nat->Value}{l:List AO}{k:Nat}(h:aH w0 I0 w I m l)(ao:k<=l.length)(U:(l.take k).all (AO.dF k)=true):aH w0 I0 w I m (l.take k):=by
 have aj:∀id,id<k->(l.take k)[id]?=l[id]?:=λid ak=>by rw[gl,if_pos ak]
 have Y:∀{id:Nat}{o:AO},(l.take k)[id]?=some o->id<k/\l[id]?=some o:=by
  intro id o B
  have:id<k:=by have:=(c5.1 B).1;rw[e8]at this;omega
  exact⟨this,by rw[<-aj id this];exact B⟩
 refine⟨h.below,h.sat,h.ext,λid o B=>?_,λi j b al hi an=>?_⟩
 ·obtain⟨aw,ai⟩:=Y B
  have:=h.obj id o ai
  cases o with
  |var ty cs=>
   obtain⟨b,vs,M,N,aa,ae,O,ab⟩:=this
   refine⟨b,vs,M,N,aa,ae,λi x t ad ht=>⟨(O i x t ad ht).1.cut ao ?_,(O i x t ad ht).2⟩,ab⟩
   have:=dT.1 U _ (dk B)
   simp only[AO.dF,dT]at this
   exact this t (dk ht)
  |dead=>trivial
  |row e size els=>exact this
  |br e size els=>exact this
  |map Z vs=>exact this
  |dR Z vs=>exact this
  |bz e size Z vs ax=>
   refine dW.gm (λq G=>⟨q,?_,rfl⟩) this
   unfold cI at G⊢
   rw[gl]at G
   split at G
   ·exact G
   simp at G
  |iter Z vs done=>exact this
  |frame b vals t=>
   have F:=dT.1 U _ (dk B)
   simp only[AO.dF,ea]at F
   refine⟨this.1,by rw[e8];have:=this.2.1;omega,λj=>?_⟩
   rw[vy,o1 F]
   exact this.2.2 j
  |loop b n ps bc av t st cY=>
   have F:=dT.1 U _ (dk B)
   simp only[AO.dF,ea]at F
   obtain⟨af,r,au,M,N,aa,ae,O,ab⟩:=this
   refine⟨af,r,au,M,N,aa,by rw[e8];omega,λj=>?_,ab⟩
   rw[vy,o1 F]
   exact O j
 obtain⟨aq,M,ag⟩:=bM.1 hi
 obtain⟨ar,N,ah⟩:=bM.1 an
 exact h.sep i j b al (bM.2 ⟨aq,(Y M).2,ag⟩) (bM.2 ⟨ar,(Y N).2,ah⟩)
def oy(s:Tm):Tm->Prop
 | []=>True
 | (i,t)::r=>get s i=t/\oy s r
def Dz{s:Tm}:∀{r:Tm},oy s r->∀k,get r k=.undef\/get r k=get s k
 | [],_,k=>.inl rfl
 | (i,t)::r,h,k=>by
  simp only[get]
  by_cases hi:i=k
  ·subst hi;rw[if_pos rfl];exact .inr h.1.symm
  rw[if_neg hi];exact Dz h.2 k
def Kg{k:Nat}:∀{r:Tm},r.all (λp=>T.dF k p.2)=true->∀j,T.dF k (get r j)=true
 | [],_,j=>rfl
 | (i,t)::r,h,j=>by
  simp only[List.all_cons,db]at h
  simp only[get]
  split
  ·exact h.1
  exact Kg h.2 j
theorem Sub.cut(k:Nat){t':Tm}(B:k<=s.l.length)(O:(s.l.take k).all (AO.dF k)=true)(ht:t'.all (λp=>T.dF k p.2)=true)(U:oy s.t t'):Sub s ⟨t',s.l.take k⟩:=by
 intro w0 I0 n a w Y
 obtain⟨F,I,m,M,G,N⟩:=Y
 refine⟨F,I,m,M.cut B O,G,λj=>?_⟩
 rcases Dz U j with h|h
 ·rw[h];exact .undef _
 rw[h]
 exact(N j).cut B (by rw[<-h];exact Kg ht j)
def Sub.S3(k:Nat){t':Tm}{l':List AO}(G:l'=s.l.take k)(F:k<=s.l.length)(j:(s.l.take k).all (AO.dF k)=true)(ht:t'.all (λp=>T.dF k p.2)=true)(B:oy s.t t'):Sub s ⟨t',l'⟩:=by subst G;exact Sub.cut k F j ht B
end
end Go.ag
namespace Go.ag
open Go Go.RowKit
variable [bq][bX]
def idx(id:Nat):List Nat->Nat->Option Nat
 | [],_=>none
 |x::xs,k=>if x=id then some k else idx id xs (k+1)
def mj{id:Nat}:∀{xs:List Nat}{k j:Nat},idx id xs k=some j->k<=j/\xs[j-k]?=some id
 | [],k,j,h=>by simp[idx]at h
 |x::xs,k,j,h=>by
  simp only[idx]at h
  split at h
  ·rename_i F;cases h;simp[F]
  obtain⟨G,B⟩:=mj h
  refine⟨by omega,?_⟩
  rw[show j-k=(j-(k+1))+1 by omega];simpa using B
def T.data:T->Bool
 |.d _=>true
 |_=>false
def T.flat:T->Bool
 |.d _=>true
 |.ptr _ _=>true
 |.bf _=>true
 |_=>false
def T.so(ids:List Nat):T->T
 |.ptr id off=>match idx id ids 0 with|some k=>.ptr k off|none=>.undef
 |.bf id=>match idx id ids 0 with|some k=>.bf k|none=>.undef
 |t=>t
def T.cZ(ids:List Nat):T->T
 |.ptr id off=>match idx id ids 0 with|some k=>.ptr k off|none=>.undef
 |.row id=>match idx id ids 0 with|some k=>.row k|none=>.undef
 |.bw id k off=>match idx id ids 0 with|some j=>.bw j k off|none=>.undef
 |.map id=>match idx id ids 0 with|some k=>.map k|none=>.undef
 |.bf id=>match idx id ids 0 with|some k=>.bf k|none=>.undef
 |.sub id lo hi=>match idx id ids 0 with|some k=>.sub k lo hi|none=>.undef
 |.cE id n=>match idx id ids 0 with|some k=>.cE k n|none=>.undef
 |.bJ id x=>match idx id ids 0 with|some k=>.bJ k x|none=>.d x
 |.aD g ts=>if ts.all T.flat then .aD g (ts.map (T.so ids))else .undef
 |.aN _=>.undef
 |.cond _ _=>.undef
 |.agg _=>.undef
 |t=>t
def T.bV(ids:List Nat):T->T
 |.aN ts=>if ts.all T.data then .aN ts else .undef
 |.cond pc t=>if t.data then .cond pc t else .undef
 |.agg ts=>.agg (ts.map (T.cZ ids))
 |t=>t.cZ ids
def AO.bV(ids:List Nat):AO->AO
 |.var ty cs=>.var ty (cs.map (T.bV ids))
 |o=>o
def c6(ids:List Nat)(l:List AO):List AO:=ids.map λid=>((l[id]?).getD .dead).bV ids
theorem uL{ids:List Nat}{l:List AO}{k id:Nat}(h:ids[k]?=some id):(c6 ids l)[k]?=some (((l[id]?).getD .dead).bV ids):=by simp[c6,h]
def AO.lV(ids:List Nat)(o:AO):(o.bV ids).isVar=o.isVar:=by cases o<;>rfl
def AO.nN(ids:List Nat)(o:AO):(o.bV ids).isRow=o.isRow:=by cases o<;>rfl
theorem ES{ids:List Nat}(h:ids.Nodup):∀{i j a:Nat},ids[i]?=some a->ids[j]?=some a->i=j:=by
 induction ids with
 |nil=>intro i j a hi;simp at hi
 |cons x xs B=>
  intro i j a hi k
  rw[h9]at h
  rcases i with _|i<;>rcases j with _|j
  ·rfl
  ·simp at hi k;subst hi;exact absurd (dk k) h.1
  ·simp at hi k;subst k;exact absurd (dk hi) h.1
  simp at hi k;rw[B h.2 hi k]
section
variable {P:Program}{V:Env}{w0:World}{I0:ay}{n:Nat}{Q:Exit->St->Prop}{s:St}
def I4{I:ay}{m m':Nat->Value}{l l':List AO}{v:Value}{t:T}(h:ar I m l v t)(j:t.data=true):ar I m' l' v t:=by
 cases h<;>simp[T.data]at j
 exact .d _ _ (by assumption)
def lV{ids:List Nat}{l:List AO}{k id:Nat}(h:ids[k]?=some id):isVar (c6 ids l) k=isVar l id:=by
 unfold isVar;rw[uL h];simp only[Option.map_some,Option.getD_some,AO.lV]
 cases l[id]?<;>rfl
def nN{ids:List Nat}{l:List AO}{k id:Nat}(h:ids[k]?=some id):isRow (c6 ids l) k=isRow l id:=by
 unfold isRow;rw[uL h];simp only[Option.map_some,Option.getD_some,AO.nN]
 cases l[id]?<;>rfl
def MT{ids:List Nat}{l:List AO}{m m':Nat->Value}{q:Nat}(F:∀(k id:Nat),ids[k]?=some id->m' k=m id)(h:cI (c6 ids l) q=true):∃B,cI l B=true/\own (m B)=own (m' q):=by
 unfold cI at h
 cases hi:ids[q]? with
 |none=>simp[c6,hi]at h
 |some id=>
  rw[uL hi]at h
  refine⟨id,?_,by rw[F q id hi]⟩
  unfold cI
  cases j:l[id]? with
  |none=>rw[j]at h;simp[AO.bV,AO.cI]at h
  |some o=>rw[j]at h;cases o<;>simp_all [AO.bV,AO.cI]
def By{ids:List Nat}{l:List AO}{k id e size:Nat}{els:List D}(h:ids[k]?=some id)(j:(c6 ids l)[k]?=some (.row e size els)\/(c6 ids l)[k]?=some (.br e size els)):l[id]?=some (.row e size els)\/l[id]?=some (.br e size els):=by
 rw[uL h]at j
 cases B:l[id]? with
 |none=>rw[B]at j;simp[AO.bV]at j
 |some o=>rw[B]at j;cases o<;>simp_all [AO.bV]
def ar.cZ{I:ay}{m m':Nat->Value}{l:List AO}{ids:List Nat}(G:∀k id,ids[k]?=some id->m' k=m id){v:Value}{t:T}(h:ar I m l v t):ar I m' (c6 ids l) v (t.cZ ids):=by
 have Y:∀{k id:Nat},ids[k]?=some id->k<(c6 ids l).length:=λh=>by rw[show(c6 ids l).length=ids.length by simp[c6]];exact(c5.1 h).1
 cases h with
 |undef=>exact .undef _
 |d v x ab=>exact .d _ _ ab
 |bC s=>exact .bC _
 |ptr id b off F B=>
  simp only[T.cZ]
  split
  ·rename_i k j
   have j:=(mj j).2;simp only[Nat.sub_zero]at j
   exact .ptr k b off ((lV j).trans F) ((G k id j).trans B)
  exact .undef _
 |bf id b F B=>
  simp only[T.cZ]
  split
  ·rename_i k j
   have j:=(mj j).2;simp only[Nat.sub_zero]at j
   exact .bf k b ((lV j).trans F) ((G k id j).trans B)
  exact .undef _
 |cE id b n c F B N aa=>
  simp only[T.cZ]
  split
  ·rename_i k j
   have j:=(mj j).2;simp only[Nat.sub_zero]at j
   exact .cE k b n c ((lV j).trans F) ((G k id j).trans B) N aa
  exact .undef _
 |bB b o size els q off val F B N aa=>exact .bB b o size els q off val F B N aa
 |row A n c id F B=>
  simp only[T.cZ]
  split
  ·rename_i k j
   have j:=(mj j).2;simp only[Nat.sub_zero]at j
   exact .row A n c k (Y j) λM=>(G k id j).trans (B ((nN j).symm.trans M))
  exact .undef _
 |bJ A n c id x F B N=>
  simp only[T.cZ]
  split
  ·rename_i k j
   have j:=(mj j).2;simp only[Nat.sub_zero]at j
   exact .bJ A n c k x (Y j) (λM=>(G k id j).trans (B ((nN j).symm.trans M))) N
  exact .d _ _ N
 |bw a id q off F B=>
  simp only[T.cZ]
  split
  ·rename_i k j
   have j:=(mj j).2;simp only[Nat.sub_zero]at j
   refine .bw a k q off (Y j) λe size els M=>?_
   obtain⟨b,n,c,O,U⟩:=B e size els (By j M)
   exact⟨b,n,c,(G k id j).trans O,U⟩
  exact .undef _
 |sub A n c id lo hi F B=>
  simp only[T.cZ]
  split
  ·rename_i k j
   have j:=(mj j).2;simp only[Nat.sub_zero]at j
   refine .sub A n c k lo hi (Y j) λe size els M=>?_
   obtain⟨ad,n0,ae,O,U⟩:=B e size els (By j M)
   exact⟨ad,n0,ae,(G k id j).trans O,U⟩
  exact .undef _
 |map r id F B=>
  simp only[T.cZ]
  split
  ·rename_i k j
   have j:=(mj j).2;simp only[Nat.sub_zero]at j
   exact .map r k (Y j) λM=>(G k id j).trans (B ((nN j).symm.trans M))
  exact .undef _
 |aN vs ts F B=>exact .undef _
 |cond v pc t F B=>exact .undef _
 |agg vs ts F B N=>exact .undef _
 |aD g vs ts F B=>
  simp only[T.cZ]
  split
  ·rename_i ag
   refine .aD g vs _ (by simpa using F) λi v t ai ht=>?_
   rw[et]at ht
   cases Z:ts[i]? with
   |none=>rw[Z]at ht;cases ht
   |some t0=>
    rw[Z]at ht;simp at ht;subst ht
    have af:=B i v t0 ai Z
    have ah:=dT.1 ag t0 (dk Z)
    cases af with
    |d v x ab=>exact .d _ _ ab
    |ptr id b off O U=>
     simp only[T.so]
     split
     ·rename_i k j
      have j:=(mj j).2;simp only[Nat.sub_zero]at j
      exact .ptr k b off ((lV j).trans O) ((G k id j).trans U)
     exact .undef _
    |bf id b O U=>
     simp only[T.so]
     split
     ·rename_i k j
      have j:=(mj j).2;simp only[Nat.sub_zero]at j
      exact .bf k b ((lV j).trans O) ((G k id j).trans U)
     exact .undef _
    |_=>simp[T.flat]at ah
  exact .undef _
def ar.bV{I:ay}{m m':Nat->Value}{l:List AO}{ids:List Nat}(F:∀k id,ids[k]?=some id->m' k=m id){v:Value}{t:T}(h:ar I m l v t):ar I m' (c6 ids l) v (t.bV ids):=by
 cases h with
 |aN vs ts G M=>
  simp only[T.bV]
  split
  ·rename_i O
   exact .aN vs ts G λi v t Y ht=>I4 (M i v t Y ht) (dT.1 O t (dk ht))
  exact .undef _
 |cond v pc t G M=>
  simp only[T.bV]
  split
  ·rename_i O
   exact .cond v pc t (λab=>I4 (G ab) O) M
  exact .undef _
 |agg vs ts G M aa=>
  refine .agg vs _ (by simpa using G) M λi v t Y ht=>?_
  rw[et]at ht
  cases U:ts[i]? with
  |none=>rw[U]at ht;cases ht
  |some t0=>
   rw[U]at ht;simp at ht;subst ht
   exact(aa i v t0 Y U).cZ F
 |undef=>exact .undef _
 |d v x ad=>exact .d _ _ ad
 |bC s=>exact .bC _
 |ptr id b off j B=>exact ar.cZ F (.ptr id b off j B)
 |bB b o size els q off val j B N Z=>exact ar.cZ F (.bB b o size els q off val j B N Z)
 |row A n c id j B=>exact ar.cZ F (.row A n c id j B)
 |bJ A n c id x j B N=>exact ar.cZ F (.bJ A n c id x j B N)
 |bw a id q off j B=>exact ar.cZ F (.bw a id q off j B)
 |map r id j B=>exact ar.cZ F (.map r id j B)
 |bf id b j B=>exact ar.cZ F (.bf id b j B)
 |cE id b n c j B N Z=>exact ar.cZ F (.cE id b n c j B N Z)
 |sub A n c id lo hi j B=>exact ar.cZ F (.sub A n c id lo hi j B)
 |aD g vs ts j B=>exact ar.cZ F (.aD g vs ts j B)
def ng(ids:List Nat)(l:List AO):Bool:=ids.all λid=>match l[id]? with
 |some (.frame b _ _)|some (.loop b _ _ _ _ _ _ _)=>(List.range b).all λj=>ids[j]? == some j
 |_=>true
def aH.bV{w0 w:World}{I0 I:ay}{m:Nat->Value}{l:List AO}{ids:List Nat}(h:aH w0 I0 w I m l)(aE:ids.Nodup)(aC:ng ids l=true):aH w0 I0 w I (λk=>m ((ids[k]?).getD 0)) (c6 ids l):=by
 have ad:∀(k id:Nat),ids[k]?=some id->(λk:Nat=>m ((ids[k]?).getD 0)) k=m id:=λk id F=>by simp[F]
 have af:∀{k:Nat}{o:AO},(c6 ids l)[k]?=some o->∃id,ids[k]?=some id:=λ{k o} F=>by
  cases hi:ids[k]? with
  |none=>simp[c6,hi]at F
  |some id=>exact⟨id,rfl⟩
 have aq:∀{k id:Nat},ids[k]?=some id->alive (c6 ids l) k=alive l id:=λF=>by unfold alive;rw[lV F,nN F]
 refine⟨h.below,h.sat,h.ext,λk o av=>?_,λi j b aD hi U=>?_⟩
 ·obtain⟨id,F⟩:=af av
  have M:=uL (l:=l) F
  rw[av]at M
  cases ab:l[id]? with
  |none=>rw[ab]at M;simp[AO.bV]at M;subst M;trivial
  |some o'=>
   rw[ab]at M;simp only[Option.getD_some,c4]at M
   have B:=h.obj id o' ab
   show dW _ _ _ _ _ (m ((ids[k]?).getD 0)) o
   rw[F,M];simp only[Option.getD_some]
   have pre:∀b:Nat,(match o' with |.frame b _ _ |.loop b _ _ _ _ _ _ _=>some b|_=>none)=some b->b<=l.length->b<=ids.length/\Le I m (l.take b) I (λk=>m ((ids[k]?).getD 0)) ((c6 ids l).take b):=λb ar aL=>by
    have O:∀j,j<b->ids[j]?=some j:=λj U=>by
     have:=dT.1 aC id (dk F)
     rw[ab]at this
     have:=(by cases o'<;>simp at ar<;>subst ar<;>exact dT.1 this j (hN.2 U):(ids[j]? == some j)=true)
     simpa using this
    have aB:b<=ids.length:=by
     rcases s6 b with h0|h0
     ·omega
     have:=(c5.1 (O (b-1) (by omega))).1;omega
    refine⟨aB,.refl I,by simp[c6];omega,λq N ax=>?_,λq N aw=>?_,λq e size els N au=>?_⟩
    ·rw[e8]at N
     rw[zg (by omega)]at ax⊢
     exact⟨(lV (O q (by omega))).trans ax,ad q q (O q (by omega))⟩
    ·rw[e8]at N
     rw[ze (by omega)]at aw⊢
     exact⟨(nN (O q (by omega))).symm.trans aw,ad q q (O q (by omega))⟩
    rw[e8]at N
    rw[gl,if_pos (by omega)]at au⊢
    exact⟨els,By (O q (by omega)) au⟩
   cases o' with
   |dead=>trivial
   |var ty cs=>
    obtain⟨b,vs,Y,Z,aj,ak,ae,al⟩:=B
    refine⟨b,vs,Y,Z,aj,by simp[ak],λi x t az ht=>?_,al⟩
    rw[et]at ht
    cases G:cs[i]? with
    |none=>rw[G]at ht;simp at ht
    |some t0=>
     rw[G]at ht;simp at ht;subst ht
     exact⟨(ae i x t0 az G).1.bV ad,(ae i x t0 az G).2⟩
   |row e size els=>exact B
   |br e size els=>exact B
   |map ag vs=>exact B
   |dR ag vs=>exact B
   |bz e size ag vs aO=>exact dW.gm (λq N=>MT (m':=λk=>m ((ids[k]?).getD 0)) ad N) B
   |iter ag vs done=>exact B
   |frame b vals t=>
    obtain⟨ah,ai⟩:=pre b rfl B.2.1
    exact⟨B.1,by simpa [c6]using ah,λj=>(B.2.2 j).mono ai⟩
   |loop b n ps bc aI t st cY=>
    obtain⟨aA,r,aG,Y,Z,aj,ak,ae,al⟩:=B
    obtain⟨ah,ai⟩:=pre b rfl ak
    exact⟨aA,r,aG,Y,Z,aj,by simpa [c6]using ah,λj=>(ae j).mono ai,al⟩
 obtain⟨aM,Y,_⟩:=bM.1 hi
 obtain⟨aN,Z,_⟩:=bM.1 U
 obtain⟨a,aa⟩:=af Y
 obtain⟨c,G⟩:=af Z
 rw[aq aa]at hi;rw[aq G]at U
 have aF:a≠c:=λe=>by
  subst e
  have an:=c5.1 aa
  have ao:=c5.1 G
  obtain⟨an,aJ⟩:=an;obtain⟨ao,aK⟩:=ao
  exact aD (ES aE aa G)
 simp only[aa,G,Option.getD_some]
 exact h.sep a c b aF hi U
def kx(ids:List Nat)(s:Tm):Tm->Prop
 | []=>True
 | (i,t)::r=>(get s i).bV ids=t/\kx ids s r
def yU{ids:List Nat}{s:Tm}:∀{r:Tm},kx ids s r->∀k,get r k=.undef\/get r k=(get s k).bV ids
 | [],_,k=>.inl rfl
 | (i,t)::r,h,k=>by
  simp only[get]
  by_cases hi:i=k
  ·subst hi;rw[if_pos rfl];exact .inr h.1.symm
  rw[if_neg hi];exact yU h.2 k
def Sub.bV(ids:List Nat){t':Tm}{l':List AO}(Z:ids.Nodup)(O:ng ids s.l=true)(Y:c6 ids s.l=l')(N:kx ids s.t t'):Sub s ⟨t',l'⟩:=by
 subst Y
 intro w0 I0 n a w aa
 obtain⟨B,I,m,G,F,M⟩:=aa
 refine⟨B,I,_,G.bV Z O,F,λj=>?_⟩
 rcases yU N j with h|h
 ·rw[h];exact .undef _
 rw[h];exact(M j).bV λk id U=>by simp[U]
def aH.M4{w0 w:World}{I0 I:ay}{m:Nat->Value}{l:List AO}(N:aH w0 I0 w I m l)(e size:Nat):∃m',aH w0 I0 w I m' (l++[.row e size []])/\Le I m l I m' (l++[.row e size []])/\m' l.length=.slice none 0 0:=by
 let m':Nat->Value:=λk=>if k=l.length then .slice none 0 0 else m k
 have M:∀k,k<l.length->m' k=m k:=λk ak=>by simp only[m'];rw[if_neg (by omega)]
 have aj:∀id,id<l.length->isVar (l++[.row e size []]) id=isVar l id:=λid hid=>by unfold isVar;rw[e1 hid]
 have ai:∀id,id<l.length->isRow (l++[.row e size []]) id=isRow l id:=λid hid=>by unfold isRow;rw[e1 hid]
 have G:Le I m l I m' (l++[.row e size []]):=by
  refine⟨.refl I,by simp,λid hid Z=>⟨(aj id hid).trans Z,M id hid⟩,λid hid Z=>⟨(ai id hid).symm.trans Z,M id hid⟩,λid ao s' els hid au=>⟨els,?_⟩⟩
  rwa [e1 hid]at au
 have U:m' l.length=.slice none 0 0:=by simp[m']
 refine⟨m',⟨N.below,N.sat,N.ext,λid o B=>?_,λi k b ar hi ak=>?_⟩,G,U⟩
 ·rcases lB id l.length with hid|hid
  ·rw[e1 hid]at B
   have:=N.obj id o B
   rw[M id hid]
   cases o with
   |dead=>trivial
   |var ty cs=>
    obtain⟨b,vs,ab,ad,ae,af,Y,ag⟩:=this
    exact⟨b,vs,ab,ad,ae,af,λi x t al ht=>⟨(Y i x t al ht).1.mono G,(Y i x t al ht).2⟩,ag⟩
   |row e size els=>exact this
   |br e size els=>exact this
   |map aa vs=>exact this
   |dR aa vs=>exact this
   |bz ao az aa vs ax=>exact dW.gm (λq F=>(tO F).elim (λh=>⟨q,h.2,by rw[M q h.1]⟩) λh=>by cases h.2) this
   |iter aa vs done=>exact this
   |frame b vals t=>exact⟨this.1,hJ this.2.1 G.len,λj=>(this.2.2 j).mono (G.take b)⟩
   |loop b n ps bc aw t st cY=>
    obtain⟨an,r,av,ab,ad,ae,af,Y,ag⟩:=this
    exact⟨an,r,av,ab,ad,ae,hJ af G.len,λj=>(Y j).mono (G.take b),ag⟩
  rw[hz hid]at B
  have aq:id-l.length=0:=by
   cases F:id-l.length with
   |zero=>rfl
   |succ q=>rw[F]at B;simp at B
  rw[aq]at B;simp at B;subst B
  have:id=l.length:=by omega
  subst this
  rw[U]
  exact⟨[],⟨by simp,.inl ⟨rfl,rfl⟩⟩,by simp,by simp,by simp[own]⟩
 intro O
 have ah:∀q,alive (l++[.row e size []]) q=true->(q<l.length/\alive l q=true)\/q=l.length:=λq F=>by
  rcases lB q l.length with h|h
  ·refine .inl ⟨h,?_⟩;unfold alive at F⊢;rwa [aj q h,ai q h]at F
  obtain⟨o,B,_⟩:=bM.1 F
  have:=(c5.1 B).1
  simp at this;right;omega
 rcases ah i hi with ⟨i1,i2⟩|rfl
 ·rcases ah k ak with ⟨k1,k2⟩|rfl
  ·rw[M i i1]at O;rw[M k k1];exact N.sep i k b ar i2 k2 O
  rw[U];simp[own]
 rw[U]at O;simp[own]at O
def Sub.sS(j e size:Nat){z:Nat}(ax:get s.t j=.bC z):Sub s ⟨(j,.row s.l.length)::s.t,s.l++[.row e size []]⟩:=by
 intro w0 I0 n a w az
 obtain⟨au,I,m,N,av,aj⟩:=az
 let m':Nat->Value:=λk=>if k=s.l.length then .slice none 0 0 else m k
 have M:∀k,k<s.l.length->m' k=m k:=λk O=>by simp only[m'];rw[if_neg (by omega)]
 have al:∀id,id<s.l.length->isVar (s.l++[.row e size []]) id=isVar s.l id:=λid hid=>by unfold isVar;rw[e1 hid]
 have ak:∀id,id<s.l.length->isRow (s.l++[.row e size []]) id=isRow s.l id:=λid hid=>by unfold isRow;rw[e1 hid]
 have G:Le I m s.l I m' (s.l++[.row e size []]):=by
  refine⟨.refl I,by simp,λid hid aa=>⟨(al id hid).trans aa,M id hid⟩,λid hid aa=>⟨(ak id hid).symm.trans aa,M id hid⟩,λid aq s' els hid ay=>⟨els,?_⟩⟩
  rwa [e1 hid]at ay
 have Y:m' s.l.length=.slice none 0 0:=by simp[m']
 refine⟨au,I,m',⟨N.below,N.sat,N.ext,λid o B=>?_,λi k b aw hi O=>?_⟩,av,λk=>?_⟩
 ·rcases lB id s.l.length with hid|hid
  ·rw[e1 hid]at B
   have:=N.obj id o B
   rw[M id hid]
   cases o with
   |dead=>trivial
   |var ty cs=>
    obtain⟨b,vs,ad,ae,af,ag,Z,ah⟩:=this
    exact⟨b,vs,ad,ae,af,ag,λi x t an ht=>⟨(Z i x t an ht).1.mono G,(Z i x t an ht).2⟩,ah⟩
   |row e size els=>exact this
   |br e size els=>exact this
   |map ab vs=>exact this
   |dR ab vs=>exact this
   |bz aq aD ab vs aC=>exact dW.gm (λq F=>(tO F).elim (λh=>⟨q,h.2,by rw[M q h.1]⟩) λh=>by cases h.2) this
   |iter ab vs done=>exact this
   |frame b vals t=>exact⟨this.1,hJ this.2.1 G.len,λj=>(this.2.2 j).mono (G.take b)⟩
   |loop b n ps bc aB t st cY=>
    obtain⟨ao,r,aA,ad,ae,af,ag,Z,ah⟩:=this
    exact⟨ao,r,aA,ad,ae,af,hJ ag G.len,λj=>(Z j).mono (G.take b),ah⟩
  rw[hz hid]at B
  have ar:id-s.l.length=0:=by
   cases F:id-s.l.length with
   |zero=>rfl
   |succ q=>rw[F]at B;simp at B
  rw[ar]at B;simp at B;subst B
  have:id=s.l.length:=by omega
  subst this
  rw[Y]
  exact⟨[],⟨by simp,.inl ⟨rfl,rfl⟩⟩,by simp,by simp,by simp[own]⟩
 ·intro U
  have ai:∀q,alive (s.l++[.row e size []]) q=true->(q<s.l.length/\alive s.l q=true)\/q=s.l.length:=λq F=>by
   rcases lB q s.l.length with h|h
   ·refine .inl ⟨h,?_⟩;unfold alive at F⊢;rwa [al q h,ak q h]at F
   obtain⟨o,B,_⟩:=bM.1 F
   have:=(c5.1 B).1
   simp at this;right;omega
  rcases ai i hi with ⟨i1,i2⟩|rfl
  ·rcases ai k O with ⟨k1,k2⟩|rfl
   ·rw[M i i1]at U;rw[M k k1];exact N.sep i k b aw i2 k2 U
   rw[Y];simp[own]
  rw[Y]at U;simp[own]at U
 simp only[get]
 by_cases O:j=k
 ·subst O
  rw[if_pos rfl]
  have:=aj j
  rw[ax]at this
  generalize a.tmps.getD j undef=v at this
  cases this
  exact .row none 0 0 _ (by simp) λ_=>Y
 rw[if_neg O];exact(aj k).mono G
theorem Sub.Hy(id k e size:Nat){ty:TypeId}{cs:List T}{z:Nat}(N:s.l[id]?=some (.var ty cs))(ag:cs[k]?=some (.bC z)):Sub s ⟨s.t,(s.l++[AO.row e size []]).set id (.var ty (cs.set k (.row s.l.length)))⟩:=by
 intro w0 I0 n a w ak
 obtain⟨aa,I,m,ad,ab,ae⟩:=ak
 obtain⟨m',Y,ai,aj⟩:=ad.M4 e size
 have af:=(c5.1 N).1
 have F:(s.l++[AO.row e size []])[id]?=some (.var ty cs):=by rw[e1 af];exact N
 have B:Le I m' (s.l++[AO.row e size []]) I m' ((s.l++[AO.row e size []]).set id (.var ty (cs.set k (.row s.l.length)))):=Le.setKind F rfl rfl (λe size els h=>by rcases h with h|h<;>cases h)
 obtain⟨b,vs,O,al,an,ao,M,U⟩:=Y.obj id _ F
 refine⟨aa,I,m',Y.lg F (by simp) (b:=b) (by rw[O];rfl) U rfl rfl B rfl rfl rfl (eb _) (eb _) (λ_ _=>rfl) ⟨b,vs,O,al,an,by simpa using ao,λi x t G ht=>?_,U⟩,ab,λj=>((ae j).mono ai).mono B⟩
 rw[e4]at ht
 split at ht
 ·rename_i ah
  subst ah
  split at ht
  ·injection ht with ht;subst ht
   have:=M k x _ G ag
   refine⟨?_,this.2⟩
   have Z:=this.1
   cases Z
   exact .row none 0 0 _ (by simp) λ_=>aj
  cases ht
 exact⟨(M i x t G ht).1.mono B,(M i x t G ht).2⟩
end
end Go.ag
namespace Go.ag
open Go Go.RowKit
class bP(α:Type) where
 enc:α->D
 dec:D->α
 size:Nat
 vG:∀a,dec (enc a)=a
 len:∀a,(enc a).cells.length=size
 zO:∀a,∀x∈(enc a).cells,x.one=true
open bP
instance:bP Int:=⟨λn=>.int .i64 n,λd=>match d with |.int _ n=>n|_=>0,1,λ_=>rfl,λ_=>rfl,by simp[D.cells,D.one]⟩
instance:bP Bool:=⟨λn=>.bool n,λd=>match d with |.bool n=>n|_=>false,1,λ_=>rfl,λ_=>rfl,by simp[D.cells,D.one]⟩
instance:bP ByteArray:=⟨λn=>.str n,λd=>match d with |.str n=>n|_=>⟨#[]⟩,1,λ_=>rfl,λ_=>rfl,by simp[D.cells,D.one]⟩
def EC{α:Type}[bP α](xs:List α):(xs.map (enc:α->D)).map dec=xs:=by
 induction xs with
 |nil=>rfl
 |cons x xs j=>simp only[fa,j,vG]
def We{α:Type}[bP α](xs:List α):xs.map ((dec:D->α) ∘ (enc:α->D))=xs:=by rw[<-j4,EC]
instance {α:Type} [bP α]:bP (List α):=⟨λxs=>.slice (size α) (xs.map enc),λd=>match d with |.slice _ els=>els.map dec|_=>[],1,EC,λ_=>rfl,by simp[D.cells,D.one]⟩
structure Fn where
 f:FuncId
instance:bP Fn:=⟨λn=>.fn n.f,λd=>match d with |.fn f=>⟨f⟩|_=>⟨0⟩,1,λ_=>rfl,λ_=>rfl,by simp[D.cells,D.one]⟩
theorem qU(n:Int):enc n=.int .i64 n:=rfl
theorem Jk(b:Bool):enc b=.bool b:=rfl
theorem TH(b:ByteArray):enc b=.str b:=rfl
theorem TG(b:Fn):enc b=.fn b.f:=rfl
theorem th{α:Type}[bP α](xs:List α):enc xs=.slice (size α) (xs.map enc):=rfl
theorem I8(k:IntKind)(n:Int):dec (.int k n)=n:=rfl
theorem I6(b:Bool):dec (.bool b)=b:=rfl
theorem Th(b:ByteArray):dec (.str b)=b:=rfl
theorem Tf(f:FuncId):dec (.fn f)=Fn.mk f:=rfl
theorem Tg{α:Type}[bP α](s:Nat)(els:List D):(dec (.slice s els):List α)=els.map dec:=rfl
theorem NC:size Int=1:=rfl
theorem Zh:size ByteArray=1:=rfl
def NU(r:D):Spec:=λds=>match ds with| []=>some (r,True)|_=>none
def NV{α:Type}[bP α](pre:α->Prop)(f:α->D):Spec:=λds=>match ds with| [a]=>some (f (dec a),enc (dec a:α)=a/\pre (dec a))|_=>none
def NW{α β:Type}[bP α][bP β](pre:α->β->Prop)(f:α->β->D):Spec:=λds=>match ds with| [a,b]=>some (f (dec a) (dec b),enc (dec a:α)=a/\enc (dec b:β)=b/\pre (dec a) (dec b))|_=>none
def NX{α β j:Type}[bP α][bP β][bP j](pre:α->β->j->Prop)(f:α->β->j->D):Spec:=λds=>match ds with| [a,b,c]=>some (f (dec a) (dec b) (dec c),enc (dec a:α)=a/\enc (dec b:β)=b/\enc (dec c:j)=c/\pre (dec a) (dec b) (dec c))|_=>none
theorem Mz:List.range 1=[0]:=rfl
theorem MA:List.range 2=[0,1]:=rfl
theorem MB:List.range 3=[0,1,2]:=rfl
theorem MC:List.range 4=[0,1,2,3]:=rfl
variable [bq][bX]
section
variable {P:Program}{g:FuncId}
end
section
variable {P:Program}{w0:World}{I0:ay}{n:Nat}{Q:Exit->St->Prop}{s:St}{x y z:Code}
def cD(j:List Nat)(t:Tm):Tm:=j.map λk=>(k,get t k)
def M1(t:Tm)(k:Nat):∀(B:List Nat),get (cD B t) k=.undef\/get (cD B t) k=get t k
 | []=>.inl rfl
 |j::B=>by
  simp only[cD,fa,get]
  by_cases h:j=k
  ·rw[if_pos h,h];exact .inr rfl
  rw[if_neg h];exact M1 t k B
def Sub.cD(k:List Nat):Sub s ⟨cD k s.t,s.l⟩:=by
 intro w0 I0 n a w N
 obtain⟨B,I,m,G,F,M⟩:=N
 refine⟨B,I,m,G,F,λj=>?_⟩
 rcases M1 s.t j k with h|h
 ·rw[h];exact .undef _
 rw[h];exact M j
def aL.IW{s s':St}(h:s=s'):aL P w0 I0 n x s Q=aL P w0 I0 n x s' Q:=by rw[h]
end
end Go.ag
namespace Go.ag
open Go Go.RowKit bP
variable [bq][bX]
def aa{α β:Type}(o:Option α)(f:α->Option β):Option β:=match o with|some x=>f x|none=>none
def bS{β:Type}(p:Prop)[Decidable p](o:Option β):Option β:=if p then o else none
def ab{β:Type}(c:Bool)(a b:Option β):Option β:=match c with|true=>a|false=>b
def iC(n:Int):Prop:= -9223372036854775808<=n/\n<=9223372036854775807
instance (n:Int):Decidable (iC n):=inferInstanceAs (Decidable (_/\_))
def au{α:Type}(l:List α)(i:Int):Option α:=if 0<=i then l[i.toNat]? else none
def IB{α β:Type}{o:Option α}{f:α->Option β}{r:β}(h:aa o f=some r):∃x,o=some x/\f x=some r:=by
 unfold aa at h;split at h
 ·rename_i x;exact⟨x,rfl,h⟩
 cases h
def y3{β:Type}{p:Prop}[Decidable p]{o:Option β}{r:β}(h:bS p o=some r):p/\o=some r:=by
 unfold bS at h;split at h
 ·rename_i j;exact⟨j,h⟩
 cases h
def Ve{β:Type}{c:Bool}{a b:Option β}{r:β}(j:c=true)(h:ab c a b=some r):a=some r:=by subst j;exact h
def Va{β:Type}{c:Bool}{a b:Option β}{r:β}(j:c=false)(h:ab c a b=some r):b=some r:=by subst j;exact h
def vZ{β:Type}(c:Bool)(a b:Option β):ab c a b=if c=true then a else b:=by cases c<;>rfl
theorem bh{α β:Type}{o:Option α}{f:α->Option β}{x:α}(h:o=some x):aa o f=f x:=by subst h;rfl
def tE{β:Type}{p:Prop}[Decidable p]{o:Option β}(h:p):bS p o=o:=if_pos h
theorem af{α β:Type}(x:α)(f:α->Option β):aa (some x) f=f x:=rfl
theorem Jh(d:D)(l:List D):eK (d::l) 0=d:=rfl
def kG{σ ρ:Type}(step:σ->Option (σ⊕ρ)):Nat->σ->Option ρ
 |0,_=>none
 |n+1,z=>match step z with
  |some (.inl z')=>kG step n z'
  |some (.inr r)=>some r
  |none=>none
def DZ{σ ρ:Type}{step:σ->Option (σ⊕ρ)}{r:ρ}:∀{n m:Nat}{z:σ},n<=m->kG step n z=some r->kG step m z=some r
 |0,_,_,_,h=>by cases h
 |n+1,0,_,hm,_=>by omega
 |n+1,m+1,z,hm,h=>by
  simp only[kG]at h⊢
  split at h<;>try (first|exact h|cases h)
  exact DZ (by omega) h
open Classical in
noncomputable def aB{σ ρ:Type}(step:σ->Option (σ⊕ρ))(z:σ):Option ρ:=if h:∃n r,kG step n z=some r then some (Classical.choose (l2 h))else none
theorem Et{σ ρ:Type}{step:σ->Option (σ⊕ρ)}{z:σ}{n:Nat}{r:ρ}(h:kG step n z=some r):aB step z=some r:=by
 have j:∃n r,kG step n z=some r:=⟨n,r,h⟩
 unfold aB
 rw[dif_pos j]
 have B:=l2 (l2 j)
 have k:=DZ (Nat.le_max_left n (Classical.choose j)) h
 have F:=DZ (Nat.le_max_right n (Classical.choose j)) B
 rw[F]at k;exact k
def zn{σ ρ:Type}{step:σ->Option (σ⊕ρ)}{z:σ}{r:ρ}(h:aB step z=some r):∃n,kG step n z=some r:=by
 unfold aB at h
 split at h
 ·rename_i k
  have j:=l2 (l2 k)
  cases h
  exact⟨_,j⟩
 cases h
def KV{σ ρ:Type}(step:σ->Option (σ⊕ρ))(z:σ):aB step z=match step z with|some (.inl z')=>aB step z'|some (.inr r)=>some r|none=>none:=by
 cases B:step z with
 |none=>
  cases k:aB step z with
  |none=>rfl
  |some r=>
   obtain⟨n,j⟩:=zn k
   cases n with
   |zero=>cases j
   |succ n=>simp only[kG,B]at j;cases j
 |some x=>
  cases x with
  |inr r=>exact Et (n:=1) (by simp only[kG,B])
  |inl z'=>
   simp only
   cases k:aB step z' with
   |some r=>
    obtain⟨n,j⟩:=zn k
    exact Et (n:=n+1) (by simp only[kG,B];exact j)
   |none=>
    cases F:aB step z with
    |none=>rfl
    |some r=>
     obtain⟨n,j⟩:=zn F
     cases n with
     |zero=>cases j
     |succ n=>
      simp only[kG,B]at j
      rw[Et j]at k;cases k
def Es{σ ρ:Type}{step:σ->Option (σ⊕ρ)}{z z':σ}(h:step z=some (.inl z')):aB step z=aB step z':=by rw[KV,h]
def tZ{σ ρ:Type}{step:σ->Option (σ⊕ρ)}{z:σ}{r:ρ}(h:step z=some (.inr r)):aB step z=some r:=by rw[KV,h]
section
variable {P:Program}{V:Env}{w0:World}{I0:ay}{n:Nat}{Q:Exit->St->Prop}{s s':St}{x y:Code}
theorem ep{K:St->Prop}(h:s=s')(k:K s'):K s:=h▸k
def aL.Gw(j:St->Prop)(h:∀J:St->Prop,(∀s',j s'->J s')->aL P w0 I0 n x s (qw J Q))(k:∀s',j s'->aL P w0 I0 n y s' Q):aL P w0 I0 n (x.seq y) s Q:=aL.seq (aL.mono (h j λ_ h=>h) λe s' B=>by cases e<;>first|exact k s' B|exact B)
def aL.BE(h:∀K:St->Prop,(∀s',aL P w0 I0 n y s' Q->K s')->aL P w0 I0 n x s (qw K Q)):aL P w0 I0 n (x.seq y) s Q:=aL.seq (h _ λ_ h=>h)
def aL.Bw(G:cA P V)(md:Way)(j:List Nat){id:Nat}{ops:List Oper}(h:∀K:St->Prop,(∀s',Q .normal s'->K s')->dP V n ops md ops s (λs'=>K ⟨ag.cD j s'.t,s'.l⟩)):aL P w0 I0 n (Code.region id ops.toArray false) s Q:=λa w M=>by
 refine F4 (Dd (Q:=λe k w'=>∃s',Q e s'/\Rel w0 I0 n s' k w') (K:=λs'=>Q .normal ⟨ag.cD j s'.t,s'.l⟩) G (λs a w B F=>?_) ops s a w M (h _ λ_ h=>h))
 exact⟨_,B,Sub.cD j _ _ _ _ _ F⟩
def aL.Yy(M:cA P V)(O:P.follows .mixedOrders=true)(md:Way)(n1:Nat)(F:List Nat)(j:List Nat){id:Nat}{ops:List Oper}(N:pG ops n1 F=true)(h:∀K:St->Prop,(∀s',Q .normal s'->K s')->gd V n ops md s.l (ops.take n1) 0 s.t [] λtm Y=>dP V n ops md (ops.drop n1) ⟨tm,s.l++Y.map (·.2)⟩ (λs'=>K ⟨ag.cD j s'.t,s'.l⟩)):aL P w0 I0 n (Code.region id ops.toArray true) s Q:=λ_ _ U=>TO (Q:=λe k w'=>∃s',Q e s'/\Rel w0 I0 n s' k w') (K:=λs'=>Q .normal ⟨ag.cD j s'.t,s'.l⟩) M O (λ_ _ _ B G=>⟨_,B,Sub.cD j _ _ _ _ _ G⟩) n1 F N U (h _ λ_ h=>h)
def aL.rS(k:cA P V)(md:Way)(j:List Nat){id:Nat}{ops:List Oper}(h:∀K:St->Prop,(∀s',aL P w0 I0 n y s' Q->K s')->dP V n ops md ops s (λs'=>K ⟨ag.cD j s'.t,s'.l⟩)):aL P w0 I0 n ((Code.region id ops.toArray false).seq y) s Q:=aL.BE λ_ F=>aL.Bw k md j λ_ G=>h _ λs' B=>G s' (F s' B)
def aL.Yj(k:cA P V)(O:P.follows .mixedOrders=true)(md:Way)(n1:Nat)(F:List Nat)(j:List Nat){id:Nat}{ops:List Oper}(G:pG ops n1 F=true)(h:∀K:St->Prop,(∀s',aL P w0 I0 n y s' Q->K s')->gd V n ops md s.l (ops.take n1) 0 s.t [] λtm U=>dP V n ops md (ops.drop n1) ⟨tm,s.l++U.map (·.2)⟩ (λs'=>K ⟨ag.cD j s'.t,s'.l⟩)):aL P w0 I0 n ((Code.region id ops.toArray true).seq y) s Q:=aL.BE λ_ M=>aL.Yy k O md n1 F j G λ_ N=>h _ λs' B=>N s' (M s' B)
theorem qX{ops:List Oper}{md:Way}{l0:List AO}{K O:Tm->List (Nat×AO)->Prop}(B:∀tm F,K tm F->O tm F):∀(r:List Oper)(k:Nat)(tm:Tm)(F:List (Nat×AO)),gd V n ops md l0 r k tm F K->gd V n ops md l0 r k tm F O
 | [],_,_,_,h=>B _ _ h
 |o::r,k,tm,F,h=>by
  simp only[gd]at h⊢
  split at h
  ·exact h
  cases md with
  |none=>
   simp only at h⊢
   obtain⟨G,M,j⟩:=h
   refine⟨G,M,?_⟩
   split at j
   ·exact qX B r _ _ _ j
   ·exact qX B r _ _ _ j
   ·exact qX B r _ _ _ j
   exact j
  |some Y=>
   simp only at h⊢
   split at h
   ·rename_i N
    rw[if_pos N]
    exact⟨h.1,h.2.1,h.2.2.1,qX B r _ _ _ h.2.2.2⟩
   rename_i N
   rw[if_neg N]
   obtain⟨U,G,M,j⟩:=h
   refine⟨U,G,M,?_⟩
   split at j
   ·exact qX B r _ _ _ j
   ·exact qX B r _ _ _ j
   exact j
def pF(ops:List Oper)(j:List Nat):List Oper->List Nat->Bool
 | [],W=>j.all λx=>W.contains x
 |o::r,W=>((fU ops o).all λx=>W.contains x)&&pF ops j r (match o.dst with|some d=>d::W|none=>W)
theorem Gr{ops:List Oper}{F:List Nat}{K:St->Prop}:∀{r:List Oper}{W:List Nat}{s1 s2:St},pF ops F r W=true->s1.l=s2.l->(∀x∈W,get s1.t x=get s2.t x) ->
  dC P n ops r s1 (λs'=>K ⟨ag.cD F s'.t,s'.l⟩)->dC P n ops r s2 (λs'=>K ⟨ag.cD F s'.t,s'.l⟩)
 | [],W,s1,s2,B,G,hw,h=>by
  simp only[pF,dT,iu]at B
  simp only[dC]at h⊢
  have:ag.cD F s1.t=ag.cD F s2.t:=hE λx j=>by rw[hw x (B x j)]
  rw[<-this,<-G];exact h
 |o::r,W,s1,s2,B,G,hw,h=>by
  simp only[pF,db,dT,iu]at B
  have h:nY P n ops o s1 _:=h
  show nY P n ops o s2 _
  have Y:nY P n ops o s2 λu l'=>dC P n ops r ⟨bR s1.t o.dst u,l'⟩ λs'=>K ⟨ag.cD F s'.t,s'.l⟩:=λst ab ad w0 I0 a w Q N aa Z=>h st (ab.trans G.symm) (λx j=>(ad x j).trans (hw x (B.1 x j)).symm) w0 I0 a w Q N aa λu l' O w' k ae=>Z u l' O w' k λe=>by rw[<-G];exact ae e
  refine Y.mono λu l' U=>Gr (s1:=⟨bR s1.t o.dst u,l'⟩) (s2:=⟨bR s2.t o.dst u,l'⟩) B.2 rfl (λx j=>?_) U
  cases M:o.dst with
  |none=>rw[M]at j;simp only[bR];exact hw x j
  |some d=>
   rw[M]at j
   simp only[bR,get]
   by_cases e:d=x
   ·rw[if_pos e,if_pos e]
   rw[if_neg e,if_neg e]
   rcases fb.1 j with h3|h3
   ·exact absurd h3.symm e
   exact hw x h3
def MZ(B:List Nat)(t:Tm){k:Nat}(h:k∈B):get (ag.cD B t) k=get t k:=by
 induction B with
 |nil=>cases h
 |cons j B F=>
  simp only[ag.cD,fa,get]
  by_cases e:j=k
  ·rw[if_pos e,e]
  rw[if_neg e]
  rcases fb.1 h with h1|h1
  ·exact absurd h1.symm e
  exact F h1
def dy(P:Program)(n:Nat)(ops:List Oper)(k:Nat)(j:List Nat)(s:St)(K:St->Prop):Prop:=dC P n ops (ops.drop k) s λs'=>K ⟨ag.cD j s'.t,s'.l⟩
theorem dy.cut{k:Nat}{ops:List Oper}{j:List Nat}{K:St->Prop}(L:List Nat)(B:pF ops j (ops.drop k) L=true)(h:dy P n ops k j ⟨ag.cD L s.t,s.l⟩ K):dy P n ops k j s K:=Gr (s1:=⟨ag.cD L s.t,s.l⟩) B rfl (λx F=>MZ L s.t F) h
theorem dy.seq(G:cA P V)(md:Way){k:Nat}(j:Nat)(L:List Nat){ops:List Oper}{B:List Nat}{K:St->Prop}(N:k<=j)(M:pF ops B (ops.drop j) L=true)(h:∀F:St->Prop,(∀s',dy P n ops j B s' K->F s')->dP V n ops md ((ops.take j).drop k) s (λs'=>F ⟨ag.cD L s'.t,s'.l⟩)):dy P n ops k B s K:=by
 unfold dy
 have e:ops.drop k=(ops.take j).drop k++ops.drop j:=by
  conv=>lhs;rw[<-r2 j ops]
  rw[zx]
  congr 1
  by_cases O:j<=ops.length
  ·rw[e8,o1 O,Nat.sub_eq_zero_of_le N];rfl
  rw[k6 (show ops.length<=j by omega)];simp
 rw[e]
 exact dC.seq G (h (λs'=>dy P n ops j B s' K) (λ_ h=>h) |> yO (λs' U=>dy.cut (s:=s') L M U) _ _)
theorem dy.fin(B:cA P V)(md:Way){k:Nat}{ops:List Oper}{j:List Nat}{K:St->Prop}(h:dP V n ops md (ops.drop k) s (λs'=>K ⟨ag.cD j s'.t,s'.l⟩)):dy P n ops k j s K:=dC.of B h
theorem dy.call(G:cA P V){k:Nat}{ops:List Oper}{F:List Nat}{K:St->Prop}{o:Oper}(g:FuncId)(ts:List T){pc:PC}(B:ops[k]?=some o)(O:dA ops s.t o.guard=some pc)(Y:holds pc)(N:dJ n o.dst=true)(M:ez V.E (bN s.t) o=some (g,ts))(h:∀j:T->List AO->Prop,(∀u l',dy P n ops (k+1) F ⟨bR s.t o.dst u,l'⟩ K->j u l')->iP P g ts s.l j):dy P n ops k F s K:=by
 unfold dy
 have U:=(c5.1 B).1
 rw[hT U,(c5.1 B).2]
 exact dC.call G O Y N M (h _ λ_ _ h=>h)
def aL.Yw(G:cA P V)(j:List Nat){id:Nat}{ops:List Oper}(h:∀K:St->Prop,(∀s',Q .normal s'->K s')->dy P n ops 0 j s K):aL P w0 I0 n (Code.region id ops.toArray false) s Q:=λa w M=>by
 refine F4 (dC.wp (Q:=λe k w'=>∃s',Q e s'/\Rel w0 I0 n s' k w') (K:=λs'=>Q .normal ⟨ag.cD j s'.t,s'.l⟩) G (λs a w B F=>?_) ops s a w M (h _ λ_ h=>h))
 exact⟨_,B,Sub.cD j _ _ _ _ _ F⟩
def aL.rC(k:cA P V)(j:List Nat){id:Nat}{ops:List Oper}(h:∀K:St->Prop,(∀s',aL P w0 I0 n y s' Q->K s')->dy P n ops 0 j s K):aL P w0 I0 n ((Code.region id ops.toArray false).seq y) s Q:=aL.BE λ_ F=>aL.Yw k j λ_ G=>h _ λs' B=>G s' (F s' B)
def aL.Yx(O:cA P V)(aa:P.follows .mixedOrders=true)(md:Way)(n1:Nat)(F:List Nat)(L j:List Nat){id:Nat}{ops:List Oper}(Y:pG ops n1 F=true)(U:pF ops j (ops.drop n1) L=true)(h:∀K:St->Prop,(∀s',Q .normal s'->K s')->∀B:St->Prop,(∀s',dy P n ops n1 j s' K->B s')->gd V n ops md s.l (ops.take n1) 0 s.t [] λtm k=>B ⟨ag.cD L tm,s.l++k.map (·.2)⟩):aL P w0 I0 n (Code.region id ops.toArray true) s Q:=λ_ _ ab=>
 TP (Q:=λe G w'=>∃s',Q e s'/\Rel w0 I0 n s' G w') (K:=λs'=>Q .normal ⟨ag.cD j s'.t,s'.l⟩) O aa (λ_ _ _ M N=>⟨_,M,Sub.cD j _ _ _ _ _ N⟩) n1 F Y ab
  (qX (λtm k Z=>Gr (s1:=⟨ag.cD L tm,s.l++k.map (·.2)⟩) (s2:=⟨tm,s.l++k.map (·.2)⟩) U rfl (λx ad=>MZ L tm ad) Z) _ _ _ _ (h _ (λ_ h=>h) (λs'=>dy P n ops n1 j s' λs'=>Q .normal s') λ_ h=>h))
def aL.My(B:cA P V)(Y:P.follows .mixedOrders=true)(md:Way)(n1:Nat)(F:List Nat)(L j:List Nat){id:Nat}{ops:List Oper}(N:pG ops n1 F=true)(M:pF ops j (ops.drop n1) L=true)(h:∀K:St->Prop,(∀s',aL P w0 I0 n y s' Q->K s')->∀k:St->Prop,(∀s',dy P n ops n1 j s' K->k s')->gd V n ops md s.l (ops.take n1) 0 s.t [] λtm Z=>k ⟨ag.cD L tm,s.l++Z.map (·.2)⟩):aL P w0 I0 n ((Code.region id ops.toArray true).seq y) s Q:=aL.BE λ_ O=>aL.Yx B Y md n1 F L j N M λ_ U=>h _ λs' G=>U s' (O s' G)
def fE.LS{f:FuncId}{fn:Func}{c:Code}{ds:List D}{r:D}(F:cA P V)(M:P.funcs[f]?=some fn)(G:fn.body=some c)(N:ds.length<=fn.ntmps)(h:∀(R:bX),R.r=none->∀w0 I0(Q:Exit->St->Prop),(∀e s,(e=.ret\/e=.normal)->xA V s fn.results.toList r->Q e s)->aL P w0 I0 fn.ntmps c ⟨lY 0 ds,[]⟩ Q):fE P f ds r:=fE.of F M G N λR B w0 I0=>h R B w0 I0 _ λ_ _ j k=>⟨j,k⟩
end
section
end
def oQ(o:Option D):D:=o.getD .dX
def NY(f:Option D):Spec:=λds=>match ds with| []=>some (oQ f,f.isSome=true)|_=>none
def sA{α:Type}[bP α](f:α->Option D):Spec:=λds=>match ds with| [a]=>some (oQ (f (dec a)),enc (dec a:α)=a/\(f (dec a)).isSome=true)|_=>none
def NZ{α β:Type}[bP α][bP β](f:α->β->Option D):Spec:=λds=>match ds with| [a,b]=>some (oQ (f (dec a) (dec b)),enc (dec a:α)=a/\enc (dec b:β)=b/\(f (dec a) (dec b)).isSome=true)|_=>none
def N0{α β j:Type}[bP α][bP β][bP j](f:α->β->j->Option D):Spec:=λds=>match ds with| [a,b,c]=>some (oQ (f (dec a) (dec b) (dec c)),enc (dec a:α)=a/\enc (dec b:β)=b/\enc (dec c:j)=c/\(f (dec a) (dec b) (dec c)).isSome=true)|_=>none
def N1{α β j k:Type}[bP α][bP β][bP j][bP k](f:α->β->j->k->Option D):Spec:=λds=>match ds with| [a,b,c,d]=>some (oQ (f (dec a) (dec b) (dec c) (dec d)),enc (dec a:α)=a/\enc (dec b:β)=b/\enc (dec c:j)=c/\enc (dec d:k)=d/\(f (dec a) (dec b) (dec c) (dec d)).isSome=true)|_=>none
section
variable {P:Program}{g:FuncId}
def W7{o:Option D}(h:o.isSome=true):o=some (oQ o):=by cases o<;>first|rfl|cases h
def qH.LR{α:Type}[bP α]{f:α->Option D}(B:Enters P g)(h:∀a r,f a=some r->fE P g [enc a] r):qH P g (sA f):=⟨B,λds r ob j k=>by
 unfold sA at j;split at j
 ·cases j
  have:=h _ _ (W7 k.2);rw[k.1]at this;exact this
 cases j⟩
end
end Go.ag
namespace Go.Sy
open Go Go.ag
inductive Ty where
 |int (k:IntKind)
 |bool
 |str
 |st (i:Nat)
 |list (t:Ty)
 |map (k v:Ty)
 |fn (f:Nat)
 |aD (f:Nat) (t:Ty)
 |box (t:Ty)
 |aN (a b:Ty)
 |unit
 deriving DecidableEq,Inhabited
class bY where
 cB:Nat->Type
def Ty.den[bY]:Ty->Type
 |.int _=>Int
 |.bool=>Bool
 |.str=>ByteArray
 |.st i=>bY.cB i
 |.list t=>List t.den
 |.map k v=>List (k.den×v.den)
 |.fn _=>Unit
 |.aD _ t=>t.den
 |.box t=>t.den
 |.aN a b=>a.den×b.den
 |.unit=>Unit
def ba:List Ty->Ty
 | []=>.unit
 | [t]=>t
 |t::u::ts=>.aN t (ba (u::ts))
abbrev V[bY]:=(t:Ty)×t.den
abbrev aS[bY]:=List (Nat×V)
def lk[bY]:aS->Nat->Option V
 | [],_=>none
 | (j,v)::r,i=>bif Nat.beq j i then some v else lk r i
def dr[bY](t:Ty)(v:V):Option t.den:=if h:v.1=t then some (h▸v.2)else none
class aG extends bY where
 cj:Nat->List Ty
 sz:Nat->Nat
 un:∀i,cB i->(ba (cj i)).den
 eN:∀i,(ba (cj i)).den->cB i
 cells:∀i,cB i->List D
 pg:∀i x,un i (eN i x)=x
 EM:∀i x,eN i (un i x)=x
 eG:Nat->Option (List Int)
variable [aG]
def Ty.size:Ty->Nat
 |.st i=>aG.sz i
 |_=>1
def Ty.ff:(t:Ty)->t.den->D×List D
 |.int k,n=>(.int k n,[.int k n])
 |.bool,b=>(.bool b,[.bool b])
 |.str,s=>(.str s,[.str s])
 |.st i,x=>(.agg (aG.cells i x),[.agg (aG.cells i x)])
 |.list t,xs=>(.slice t.size (List.map (λx=>(t.ff x).1) xs),[.slice t.size (List.map (λx=>(t.ff x).1) xs)])
 |.map k v,m=>(.map (List.map (λp=>(k.ff p.1).1) m) (List.map (λp=>(v.ff p.2).1) m),[.map (List.map (λp=>(k.ff p.1).1) m) (List.map (λp=>(v.ff p.2).1) m)])
 |.fn f,_=>(.fn f,[.fn f])
 |.aD f t,x=>(.aD f (t.ff x).2,[.aD f (t.ff x).2])
 |.box t,x=>(.box (t.ff x).1,[.box (t.ff x).1])
 |.aN a b,x=>(.aN ((a.ff x.1).1::(b.ff x.2).2),(a.ff x.1).1::(b.ff x.2).2)
 |.unit,_=>(.aN [],[])
def Ty.enc(t:Ty)(x:t.den):D:=(t.ff x).1
inductive U1 where
 |not
 |neg (k:IntKind)
 |len
 |KM
 |KL
 |iC
 |conv (k:IntKind)
 |fit (b:Nat)
 |fst
 |snd
 |unbox
 |G2
 deriving DecidableEq
inductive U2 where
 |add (k:IntKind)
 |sub (k:IntKind)
 |mul (k:IntKind)
 |quo (k:IntKind)
 |rem (k:IntKind)
 |lt
 |le
 |aF
 |C5
 |C6
 |C7 (i:Nat)
 |and
 |JM
 |cat
 |cons
 |app
 |take
 |drop
 |byte
 |max
 |min
 |oL
 |zq
 |rep
 |vn (k:IntKind)
 |shr (k:IntKind)
 deriving DecidableEq
inductive U3 where
 |set
 |oN
 |j7
 deriving DecidableEq
inductive X where
 |var (i:Nat)
 |hole (p:Nat)
 |int (k:IntKind) (n:Int)
 |bool (b:Bool)
 |str (s:List UInt8)
 |nil (t:Ty)
 |kM (k v:Ty)
 |unit
 |fn (f:Nat)
 |pair (a b:X)
 |aD (f:Nat) (x:X)
 |box (x:X)
 |proj (i j:Nat) (x:X)
 |mk (i:Nat) (x:X)
 |u1 (o:U1) (x:X)
 |u2 (o:U2) (x y:X)
 |u3 (o:U3) (x y z:X)
 deriving Inhabited
def mU(k:IntKind)(n:Int):Int:=match k with
 |.i64=>n
 |k=>k.wrap n
abbrev ah(a b:Int):Bool:=decide (a<b)
abbrev leI(a b:Int):Bool:=decide (a<=b)
abbrev aF(a b:Int):Bool:=decide (a=b)
abbrev ai(a:Int):Bool:=decide (ag.iC a)
abbrev j8(a:Int):Int:=0-a
def gx:U1->V->Option V
 |.not,⟨.bool,b⟩=>some ⟨.bool,!b⟩
 |.neg k,⟨.int _,n⟩=>some ⟨.int k,mU k (j8 n)⟩
 |.len,⟨.list _,xs⟩=>some ⟨.int .i64,(List.length xs:Int)⟩
 |.KM,⟨.str,s⟩=>some ⟨.int .i64,(ByteArray.size s:Int)⟩
 |.KL,⟨.map _ _,m⟩=>some ⟨.int .i64,(List.length m:Int)⟩
 |.iC,⟨.int _,n⟩=>some ⟨.bool,ai n⟩
 |.conv k,⟨.int _,n⟩=>some ⟨.int k,k.wrap n⟩
 |.fit b,⟨.list _,xs⟩=>some ⟨.bool,decide (List.length xs*b<=140737488355328/\List.length xs<=9223372036854775807)⟩
 |.fst,⟨.aN a _,x⟩=>some ⟨a,x.1⟩
 |.snd,⟨.aN _ b,x⟩=>some ⟨b,x.2⟩
 |.unbox,⟨.box t,x⟩=>some ⟨t,x⟩
 |.G2,⟨.aD _ t,x⟩=>some ⟨t,x⟩
 |_,_=>none
def Sh(s:ByteArray)(n:Int):Int:=yq s n.toNat
def dG{α:Type}(m:List (Int×α))(k:Int):Bool:=m.any λp=>p.1 == k
def aq{α:Type}(m:List (Int×α))(k:Int)(d:α):α:=((m.find? λp=>p.1 == k).map (·.2)).getD d
def aM{α:Type}:List (Int×α)->Int->α->List (Int×α)
 | [],k,v=>[(k,v)]
 |p::m,k,v=>if p.1=k then(k,v)::m else p::aM m k v
def fA{α:Type}:List (Int×α)->Int->List (Int×α)
 | [],_=>[]
 |p::m,k=>if p.1=k then m else p::fA m k
def lE(i:Nat)(a b:bY.cB i):Bool:=di (aG.cells i a) (aG.cells i b)
def p8{α:Type}(i:Nat)(m:List (bY.cB i×α))(k:bY.cB i):Bool:=m.any λp=>lE i k p.1
def my{α:Type}(i:Nat)(m:List (bY.cB i×α))(k:bY.cB i)(d:α):α:=((m.find? λp=>lE i k p.1).map (·.2)).getD d
def kL{α:Type}(i:Nat):List (bY.cB i×α)->bY.cB i->α->List (bY.cB i×α)
 | [],k,v=>[(k,v)]
 |p::m,k,v=>if lE i k p.1=true then(p.1,v)::m else p::kL i m k v
def cN:U2->V->V->Option V
 |.add k,⟨.int _,a⟩,⟨.int _,b⟩=>some ⟨.int k,mU k (Int.add a b)⟩
 |.sub k,⟨.int _,a⟩,⟨.int _,b⟩=>some ⟨.int k,mU k (Int.sub a b)⟩
 |.mul k,⟨.int _,a⟩,⟨.int _,b⟩=>some ⟨.int k,mU k (Int.mul a b)⟩
 |.quo k,⟨.int _,a⟩,⟨.int _,b⟩=>some ⟨.int k,Int.tdiv a b⟩
 |.rem k,⟨.int _,a⟩,⟨.int _,b⟩=>some ⟨.int k,Int.tmod a b⟩
 |.lt,⟨.int _,a⟩,⟨.int _,b⟩=>some ⟨.bool,ah a b⟩
 |.le,⟨.int _,a⟩,⟨.int _,b⟩=>some ⟨.bool,leI a b⟩
 |.aF,⟨.int _,a⟩,⟨.int _,b⟩=>some ⟨.bool,aF a b⟩
 |.C5,⟨.bool,a⟩,⟨.bool,b⟩=>some ⟨.bool,BEq.beq (α:=Bool) a b⟩
 |.C6,⟨.str,a⟩,⟨.str,b⟩=>some ⟨.bool,BEq.beq (α:=ByteArray) a b⟩
 |.C7 i,u,v=>match dr (.st i) u,dr (.st i) v with
  |some a,some b=>some ⟨.bool,di (aG.cells i a) (aG.cells i b)⟩
  |_,_=>none
 |.and,⟨.bool,a⟩,⟨.bool,b⟩=>some ⟨.bool,and a b⟩
 |.JM,⟨.str,a⟩,⟨.str,b⟩=>some ⟨.bool,decide ((ByteArray.size a:Int)+(ByteArray.size b:Int)<=9223372036854775807)⟩
 |.cons,u,⟨.list t,xs⟩=>match dr t u with
  |some x=>some ⟨.list t,List.cons x xs⟩
  |none=>none
 |.cat,⟨.str,a⟩,⟨.str,b⟩=>some ⟨.str,ByteArray.append a b⟩
 |.app,⟨.list t,xs⟩,v=>match dr (.list t) v with
  |some ys=>some ⟨.list t,List.append xs ys⟩
  |none=>none
 |.take,⟨.list t,xs⟩,⟨.int _,n⟩=>some ⟨.list t,List.take (Int.toNat n) xs⟩
 |.drop,⟨.list t,xs⟩,⟨.int _,n⟩=>some ⟨.list t,List.drop (Int.toNat n) xs⟩
 |.byte,⟨.str,s⟩,⟨.int _,n⟩=>some ⟨.int .u8,Sh s n⟩
 |.max,⟨.int k,a⟩,⟨.int _,b⟩=>some ⟨.int k,Max.max (α:=Int) a b⟩
 |.min,⟨.int k,a⟩,⟨.int _,b⟩=>some ⟨.int k,Min.min (α:=Int) a b⟩
 |.oL,⟨.map (.int _) _,m⟩,⟨.int _,n⟩=>some ⟨.bool,dG m n⟩
 |.zq,⟨.map (.int k) v,m⟩,⟨.int _,n⟩=>some ⟨.map (.int k) v,fA m n⟩
 |.oL,⟨.map (.st i) _,m⟩,u=>match dr (.st i) u with
  |some k=>some ⟨.bool,p8 i m k⟩
  |none=>none
 |.rep,⟨.int _,n⟩,⟨t,x⟩=>some ⟨.list t,List.replicate (Int.toNat n) x⟩
 |.vn k,⟨.int _,a⟩,⟨.int _,b⟩=>some ⟨.int k,vn k a b⟩
 |.shr k,⟨.int _,a⟩,⟨.int _,b⟩=>some ⟨.int k,uS k a b⟩
 |_,_,_=>none
def nS:U3->V->V->V->Option V
 |.set,⟨.list t,xs⟩,⟨.int _,n⟩,v=>match dr t v with
  |some y=>some ⟨.list t,List.set xs (Int.toNat n) y⟩
  |none=>none
 |.oN,⟨.map (.int k) t,m⟩,⟨.int _,n⟩,v=>match dr t v with
  |some y=>some ⟨.map (.int k) t,aM m n y⟩
  |none=>none
 |.j7,⟨.map (.int _) t,m⟩,⟨.int _,n⟩,v=>match dr t v with
  |some y=>some ⟨t,aq m n y⟩
  |none=>none
 |.oN,⟨.map (.st i) t,m⟩,u,v=>match dr (.st i) u,dr t v with
  |some k,some y=>some ⟨.map (.st i) t,kL i m k y⟩
  |_,_=>none
 |.j7,⟨.map (.st i) t,m⟩,u,v=>match dr (.st i) u,dr t v with
  |some k,some y=>some ⟨t,my i m k y⟩
  |_,_=>none
 |_,_,_,_=>none
def cW:(ts:List Ty)->(ba ts).den->Nat->Option V
 | [],_,_=>none
 | [t],x,0=>some ⟨t,x⟩
 | [_],_,_+1=>none
 |t::_::_,x,0=>some ⟨t,x.1⟩
 |_::u::ts,x,j+1=>cW (u::ts) x.2 j
def X.den(ρ:aS):X->Option V
 |.var i=>lk ρ i
 |.hole _=>none
 |.int k n=>some ⟨.int k,n⟩
 |.bool b=>some ⟨.bool,b⟩
 |.str s=>some ⟨.str,⟨⟨s⟩⟩⟩
 |.nil t=>some ⟨.list t,([]:List t.den)⟩
 |.kM k v=>some ⟨.map k v,([]:List (k.den×v.den))⟩
 |.unit=>some ⟨.unit,()⟩
 |.fn f=>some ⟨.fn f,()⟩
 |.pair a b=>match a.den ρ,b.den ρ with
  |some u,some v=>some ⟨.aN u.1 v.1,(u.2,v.2)⟩
  |_,_=>none
 |.aD f x=>match x.den ρ with
  |some v=>some ⟨.aD f v.1,v.2⟩
  |none=>none
 |.box x=>match x.den ρ with
  |some v=>some ⟨.box v.1,v.2⟩
  |none=>none
 |.proj i j x=>match x.den ρ with
  |some v=>match dr (.st i) v with
   |some a=>cW (aG.cj i) (aG.un i a) j
   |none=>none
  |none=>none
 |.mk i x=>match x.den ρ with
  |some v=>match dr (ba (aG.cj i)) v with
   |some a=>some ⟨.st i,aG.eN i a⟩
   |none=>none
  |none=>none
 |.u1 o x=>match x.den ρ with
  |some u=>gx o u
  |none=>none
 |.u2 o x y=>match x.den ρ,y.den ρ with
  |some u,some v=>cN o u v
  |_,_=>none
 |.u3 o x y z=>match x.den ρ,y.den ρ,z.den ρ with
  |some u,some v,some w=>nS o u v w
  |_,_,_=>none
end Go.Sy
namespace Go.Sy
open Go Go.ag
def X.beq:X->X->Bool
 |.var i,.var j=>Nat.beq i j
 |.hole i,.hole j=>Nat.beq i j
 |.int k n,.int F O=>decide (k=F)&&decide (n=O)
 |.bool b,.bool c=>b == c
 |.str s,.str t=>decide (s=t)
 |.nil t,.nil u=>decide (t=u)
 |.kM k v,.kM F U=>decide (k=F)&&decide (v=U)
 |.unit,.unit=>true
 |.fn f,.fn g=>Nat.beq f g
 |.pair a b,.pair c d=>X.beq a c&&X.beq b d
 |.aD f x,.aD g y=>Nat.beq f g&&X.beq x y
 |.box x,.box y=>X.beq x y
 |.proj i j x,.proj B N y=>Nat.beq i B&&Nat.beq j N&&X.beq x y
 |.mk i x,.mk B y=>Nat.beq i B&&X.beq x y
 |.u1 o x,.u1 o' y=>decide (o=o')&&X.beq x y
 |.u2 o x y,.u2 o' G M=>decide (o=o')&&X.beq x G&&X.beq y M
 |.u3 o x y z,.u3 o' G M z'=>decide (o=o')&&X.beq x G&&X.beq y M&&X.beq z z'
 |_,_=>false
inductive TX where
 |undef
 |gone
 |d (t:Ty) (x:X)
 |bC (s:Nat)
 |ev
 |ptr (id off:Nat)
 |bB (t:Ty) (e:X) (off:Nat)
 |row (id:Nat)
 |bw (id:Nat) (k:X) (off:Nat)
 |map (id:Nat)
 |bf (id:Nat)
 |bJ (id:Nat) (t:Ty) (x:X)
 |agg (cs:List TX)
 |aN (ts:List TX)
 |aD (f:Nat) (ts:List TX)
 |cE (id n:Nat)
 |sub (id:Nat) (lo hi:X)
 deriving Inhabited
inductive Ex where
 |normal
 |ret
 |exit (id:Nat)
 |fp (e:Ex)
 deriving DecidableEq
inductive Ls where
 |ready
 |busy
 |done (e:Ex)
 deriving DecidableEq
inductive AX where
 |dead
 |var (ty:TypeId) (cs:List TX)
 |row (fr:Bool) (e:TypeId) (t:Ty) (x:X)
 |map (fr:Bool) (k v:Ty) (x:X)
 |bz (e:TypeId) (kk:IntKind) (t:Ty) (x:X)
 |fz (e:TypeId) (kk:IntKind) (t:Ty) (x k:X)
 |dD (j base:Nat) (refs:List Nat)
 |lp (j base:Nat) (refs:List Nat) (st:Ls)
 |eO
 deriving Inhabited
structure Sk where
 n:Nat
 t:List (Nat×TX)
 l:List AX
 deriving Inhabited
def bd:List (Nat×TX)->Nat->TX
 | [],_=>.undef
 | (i,t)::r,k=>bif Nat.beq i k then t else bd r k
structure mS where
 f:FuncId
 args:List Ty
 res:List Ty
structure lq where
 f:FuncId
 t:Ty
 args:List Ty
 k:Nat
structure Cx where
 E:cm
 ty:TypeId->Option Ty
 eqs:TypeId->Option (List Lf)
 nt:Nat
 sigs:List mS
 ni:List (Nat×Func)
 dep:Nat
 kV:Bool
 DG:List Nat
 turns:List lq
 bvs:List Nat:=[]
 brs:List Nat:=[]
inductive Ins where
 |bS (x:X)
 |get (xs k:X)
 |call (c:Nat) (x:X)
inductive xZ where
 |none
 |new (a:AX)
 |aP (l:List AX)
structure dB where
 ins:List Ins
 t:TX
 bA:xZ
variable [aG]
def fL:List X->X
 | []=>.unit
 | [x]=>x
 |x::y::r=>.pair x (fL (y::r))
def tB:X->X
 |.pair a _=>a
 |x=>.u1 .fst x
def uU:X->X
 |.pair _ b=>b
 |x=>.u1 .snd x
def rO:Nat->Nat->X->X
 |0,_,x=>x
 |1,_,x=>x
 |_+2,0,x=>tB x
 |n+2,j+1,x=>rO (n+1) j (uU x)
def uI(i j:Nat)(x:X):X:=match x with
 |.mk k y=>bif Nat.beq i k then rO (aG.cj i).length j y else .proj i j x
 |x=>.proj i j x
def qJ(i:Nat)(x:X):Nat->List X->Bool
 |_,[]=>true
 |j,.proj k B y::r=>Nat.beq i k&&Nat.beq j B&&X.beq x y&&qJ i x (j+1) r
 |_,_=>false
def pI(i:Nat)(xs:List X):X:=match xs with
 |.proj j 0 x::r=>bif Nat.beq i j&&qJ i x 1 r&&Nat.beq (r.length+1) (aG.cj i).length then x else .mk i (fL xs)
 |_=>.mk i (fL xs)
def qP(g:Ty->X->Option (List (Ty×X)))(i:Nat)(x:X):List Ty->Nat->Option (List (Ty×X))
 | [],_=>some []
 |t::ts,j=>match g t (uI i j x),qP g i x ts (j+1)with
  |some a,some b=>some (a++b)
  |_,_=>none
def fO:Nat->Ty->X->Option (List (Ty×X))
 |0,_,_=>none
 |f+1,.st i,x=>qP (fO f) i x (aG.cj i) 0
 |_+1,t,x=>some [(t,x)]
def gb:Nat:=9
def rH(g:Ty->List (Ty×X)->Option (X×List (Ty×X))):List Ty->List (Ty×X)->Option (List X×List (Ty×X))
 | [],cs=>some ([],cs)
 |t::ts,cs=>match g t cs with
  |some (x,r)=>match rH g ts r with
   |some (xs,j)=>some (x::xs,j)
   |none=>none
  |none=>none
def lO:Nat->Ty->List (Ty×X)->Option (X×List (Ty×X))
 |0,_,_=>none
 |f+1,.st i,cs=>match rH (lO f) (aG.cj i) cs with
  |some (xs,r)=>some (pI i xs,r)
  |none=>none
 |_+1,t,(u,x)::r=>if t=u then some (x,r)else none
 |_+1,_,[]=>none
def wB(t:Ty)(cs:List (Ty×X)):Option X:=match lO gb t cs with
 |some (x,[])=>some x
 |_=>none
def tf:TX->Option (Ty×X)
 |.d t x=>some (t,x)
 |_=>none
def ct:Ty->Bool
 |.st _=>true
 |_=>false
def wG:TX->Bool
 |.d t _=>!ct t
 |.bC _=>true
 |.ev=>true
 |.ptr _ _=>true
 |.bB _ _ _=>true
 |.row _=>true
 |.bw _ _ _=>true
 |.map _=>true
 |.bf _=>true
 |.cE _ _=>true
 |.bJ _ _ _=>true
 |.aD _ _=>true
 |_=>false
def iR:TX->Option (List TX)
 |.d t x=>(fO gb t x).map (·.map λp=>.d p.1 p.2)
 |.agg cs=>some cs
 |.undef=>none
 |.gone=>none
 |.aN _=>none
 |t=>some [t]
def qN(t:TX):Option (List TX):=match iR t with
 |some cs=>bif cs.all wG then some cs else none
 |none=>none
def rJ(t:Ty)(cs:List TX):Option TX:=
 bif ct t then(match cs.mapM tf with
  |some ds=>(wB t ds).map (.d t ·)
  |none=>some (.agg cs))
 else(match cs with| [c]=>some c|_=>none)
def ki:Nat->Ty->Option X
 |0,_=>none
 |_+1,.int k=>some (.int k 0)
 |_+1,.bool=>some (.bool false)
 |_+1,.str=>some (.str [])
 |_+1,.list t=>some (.nil t)
 |_+1,.map k v=>some (.kM k v)
 |f+1,.st i=>((aG.cj i).mapM (ki f)).map λxs=>.mk i (fL xs)
 |_,_=>none
def xW(p:Ty×X):TX:=match p with
 | (.list t,x)=>(match x with |.nil u=>(if t=u then .bC t.size else .undef)|_=>.undef)
 | (t,x)=>.d t x
def zeroCells(t:Ty):Option (List TX):=match ki gb t with
 |some x=>(fO gb t x).map (·.map xW)
 |none=>none
def gI(l:List AX)(t:Ty):TX->Option (X×List AX)
 |.d u x=>if t=u then some (x,l)else none
 |.bC s=>match t with
  |.list u=>bif Nat.beq s u.size then some (.nil u,l)else none
  |_=>none
 |.ev=>match t with
  |.map k v=>some (.kM k v,l)
  |_=>none
 |.row id=>match l[id]? with
  |some (.row fr e u x)=>if t=.list u then some (x,bif fr then l else l.set id (.row true e u x))else none
  |_=>none
 |.bJ _ u x=>if t=.list u then some (x,l)else none
 |.map id=>match l[id]? with
  |some (.map fr k v x)=>if t=.map k v then some (x,bif fr then l else l.set id (.map true k v x))else none
  |_=>none
 |_=>none
def kh:Nat->List AX->List Ty->List TX->Option (List X×List TX×List AX)
 |0,_,_,_=>none
 |_+1,l,[],cs=>some ([],cs,l)
 |f+1,l,t::ts,cs=>match t with
  |.st i=>match kh f l (aG.cj i) cs with
   |some (xs,r,l1)=>match kh f l1 ts r with
    |some (ys,k,j)=>some (pI i xs::ys,k,j)
    |none=>none
   |none=>none
  |t=>match cs with
   | []=>none
   |c::cs=>match gI l t c with
    |some (x,l1)=>match kh f l1 ts cs with
     |some (ys,r,j)=>some (x::ys,r,j)
     |none=>none
    |none=>none
def l3(l:List AX)(t:Ty)(x:TX):Option (X×List AX):=match x with
 |.agg cs=>match t with
  |.st i=>match kh 60 l (aG.cj i) cs with
   |some (xs,[],l')=>some (pI i xs,l')
   |_=>none
  |_=>none
 |x=>gI l t x
def hY(l:List AX):List Ty->List TX->Option (List X×List AX)
 | [],[]=>some ([],l)
 |t::ts,x::xs=>match l3 l t x with
  |some (y,l1)=>match hY l1 ts xs with
   |some (ys,j)=>some (y::ys,j)
   |none=>none
  |none=>none
 |_,_=>none
def CW:Value->TX
 |.bool b=>.d .bool (.bool b)
 |.int k n=>.d (.int k) (.int k n)
 |.string s=>.d .str (.str s.data.toList)
 |.slice none 0 0=>.bC 0
 |.map none=>.ev
 |_=>.undef
def gF(t:List (Nat×TX)):Operand->TX
 |.tmp k=>bd t k
 |.const v=>CW v
 |.func f=>.d (.fn f) (.fn f)
 |.global _=>.undef
def ET:X->X
 |.bool b=>.bool (!b)
 |x=>.u1 .not x
def eY(t:TX):Option dB:=some ⟨[],t,.none⟩
def sG(E:cm)(t:TypeId):TX->TX
 |.bC _=>.bC (yI E t)
 |x=>x
def xG(l:List TX)(off:Nat)(xs:List TX):List TX:=l.take off++xs++l.drop (off+xs.length)
def qp(u:Ty)(e:X)(off:Nat)(t:Ty):Option TX:=
 bif Nat.beq off 0&&decide (t=u)then some (.d t e)else
 bif Nat.beq off 0&&Nat.beq t.size u.size&&(ct t != ct u)then none else
 match fO gb u e with
 |some cs=>bif Nat.ble (off+t.size) cs.length then(wB t ((cs.drop off).take t.size)).map (.d t ·)else none
 |none=>none
def dV:Ty->Bool
 |.aN _ _=>false
 |.unit=>false
 |_=>true
def hZ:TX->TX
 |.d (.box u) x=>bif dV u then(match x with
  |.box e=>.bB u e 0
  |x=>.bB u (.u1 .unbox x) 0)else .undef
 |t=>t
def Er(C:Cx)(ty:TypeId)(l:List AX)(n:Nat)(a:TX):Option dB:=
 match C.ty ty with
 |none=>match a,C.E ty with
  |.bB u e off,some i=>bif Nat.beq i.size u.size&&(i.desc.agg == ct u)&&dV u then(qp u e off u).map λv=>⟨[],v,.none⟩else none
  |.ptr id off,some i=>match l[id]? with
   |some (.var _ cs)=>bif Nat.beq i.size 1 && !i.desc.agg then(cs[off]?).map λv=>⟨[],v,.none⟩else none
   |_=>none
  |_,_=>none
 |some t=>match a with
  |.ptr id off=>match l[id]? with
   |some (.var _ cs)=>bif Nat.ble (off+t.size) cs.length then(rJ t ((cs.drop off).take t.size)).map λv=>⟨[],v,.none⟩else none
   |_=>none
  |.bB u e off=>(qp u e off t).map λv=>⟨[],v,.none⟩
  |.bw id k off=>match l[id]? with
   |some (.row _ _ u x)=>(qp u (.var n) off t).map λv=>⟨[.get x k],v,.none⟩
   |_=>none
  |_=>none
def GI(C:Cx)(ty:TypeId)(l:List AX)(n:Nat)(a v:TX):Option dB:=
 match C.ty ty,qN v with
 |some t,some vs=>bif Nat.beq vs.length t.size&&Nat.ble 1 vs.length then
  match a with
  |.ptr id off=>match l[id]? with
   |some (.var j cs)=>bif Nat.ble (off+vs.length) cs.length then some ⟨[],.undef,.aP (l.set id (.var j (xG cs off vs)))⟩else none
   |_=>none
  |.bw id k off=>match l[id]?,v with
   |some (.row false e u x),.d B F=>
    if off=0/\B=u then some ⟨[.get x k],.undef,.aP (l.set id (.row false e u (.u3 .set x k F)))⟩
    else match fO gb u (.var n),fO gb B F with
     |some cs,some ds=>bif Nat.ble (off+ds.length) cs.length && !(Nat.beq off 0&&Nat.beq ds.length cs.length)then(wB u (cs.take off++ds++cs.drop (off+ds.length))).map λy=>⟨[.get x k],.undef,.aP (l.set id (.row false e u (.u3 .set x k y)))⟩else none
     |_,_=>none
   |_,_=>none
  |_=>none
  else none
 |none,some [y]=>match a with
  |.ptr id off=>match l[id]? with
   |some (.var j cs)=>bif Nat.beq (bD C.E ty) 1&&Nat.ble (off+1) cs.length then some ⟨[],.undef,.aP (l.set id (.var j (xG cs off [y])))⟩else none
   |_=>none
  |_=>none
 |_,_=>none
def Df(C:Cx)(s:TypeId)(f:Nat)(a:TX):Option dB:=
 match C.E s with
 |some ⟨_,_,_,.struct fs⟩=>match fs[f]? with
  |some p=>bif Nat.ble 1 (bD C.E p.2)then
   match a with
   |.ptr id off=>eY (.ptr id (off+p.1))
   |.bB u e off=>eY (.bB u e (off+p.1))
   |.bw id k off=>eY (.bw id k (off+p.1))
   |_=>none
   else none
  |none=>none
 |_=>none
def Dg(C:Cx)(s:TypeId)(f:Nat)(a:TX):Option dB:=
 match C.E s,a with
 |some ⟨_,_,_,.struct fs⟩,.d u e=>match fs[f]? with
  |some p=>match C.ty p.2 with
   |some t=>bif ct u&&Nat.ble 1 t.size then(qp u e p.1 t).map λv=>⟨[],v,.none⟩else none
   |none=>none
  |none=>none
 |_,_=>none
def iX(n:Int):X:=.int .i64 n
def zl(l:List Int):X:=match l with
 | []=>.nil (.int .i64)
 |x::xs=>.u2 .cons (iX x) (zl xs)
def DV(C:Cx)(t:TypeId)(g:Nat)(n:Nat)(i:TX):Option dB:=
 match C.E t,aG.eG g,i with
 |some ⟨_,_,_,.array len e⟩,some l,.d (.int _) k=>bif Nat.beq len l.length&&Nat.beq (bD C.E e) 1&&Nat.ble 2 len&&(C.E e).isSome then some ⟨[.get (zl l) k],.bB (.int .i64) (.var n) 0,.none⟩else none
 |_,_,_=>none
def y5(k n:X):X:=.u2 .and (.u2 .le (iX 0) k) (.u2 .lt k n)
def gD(x:X):X:=.u1 .len x
def DW(C:Cx)(t:TypeId)(l:List AX)(n:Nat)(a i:TX):Option dB:=
 match C.E t,i with
 |some ⟨_,_,_,.slice e⟩,.d (.int _) k=>match a with
  |.d (.list u) xs=>bif Nat.beq (bD C.E e) u.size&&Nat.ble 1 u.size&&dV u then some ⟨[.get xs k],.bB u (.var n) 0,.none⟩else none
  |.row id=>match l[id]? with
   |some (.row _ _ u xs)=>bif Nat.beq (bD C.E e) u.size&&Nat.ble 1 u.size then some ⟨[.bS (y5 k (gD xs))],.bw id k 0,.none⟩else none
   |_=>none
  |_=>none
 |_,_=>none
def BH(xs:X)(lo hi:Option TX):Option (List Ins×X):=
 match lo,hi with
 |none,none=>some ([],xs)
 |some (.d (.int _) a),none=>some ([.bS (.u2 .and (.u2 .le (iX 0) a) (.u2 .le a (gD xs)))],.u2 .drop xs a)
 |none,some (.d (.int _) b)=>some ([.bS (.u2 .and (.u2 .le (iX 0) b) (.u2 .le b (gD xs)))],.u2 .take xs b)
 |some (.d (.int _) a),some (.d (.int _) b)=>some ([.bS (.u2 .and (.u2 .le (iX 0) a) (.u2 .and (.u2 .le a b) (.u2 .le b (gD xs))))],.u2 .drop (.u2 .take xs b) a)
 |_,_=>none
def vo(k:IntKind)(x:X):List Ins:=match k with
 |.i64=>[.bS (.u1 .iC x)]
 |_=>[]
def KO:Lf->Ty->Bool
 |.bool,.bool=>true
 |.int k,.int j=>decide (k=j)
 |.str,.str=>true
 |_,_=>false
def rA:List Lf->List (Ty×X)->Bool
 | [],[]=>true
 |a::r,p::s=>KO a p.1&&rA r s
 |_,_=>false
def C9(C:Cx)(ty:TypeId)(i:Nat)(a b:X):Bool:=match C.eqs ty,fO gb (.st i) a,fO gb (.st i) b with
 |some ls,some p,some q=>rA ls p&&rA ls q && !decide (ls=[.bool])
 |_,_,_=>false
def Ix(C:Cx)(ty:TypeId)(B:BinOp):TX->TX->Option (List Ins×TX)
 |.d (.int k) a,.d (.int F) b=>
  if k≠F then(match B with |.shr=>some ([.bS (.u2 .le (.int F 0) b)],.d (.int k) (.u2 (.shr k) a b))|_=>none)else
  match B with
  |.shr=>some ([.bS (.u2 .le (.int F 0) b)],.d (.int k) (.u2 (.shr k) a b))
  |.and=>some ([],.d (.int k) (.u2 (.vn k) a b))
  |.add=>some (vo k (.u2 (.add k) a b),.d (.int k) (.u2 (.add k) a b))
  |.sub=>some (vo k (.u2 (.sub k) a b),.d (.int k) (.u2 (.sub k) a b))
  |.mul=>some (vo k (.u2 (.mul k) a b),.d (.int k) (.u2 (.mul k) a b))
  |.quo=>(match k with |.i64=>some ([.bS (.u1 .not (.u2 .aF b (iX 0))),.bS (.u1 .iC (.u2 (.quo k) a b))],.d (.int k) (.u2 (.quo k) a b))|_=>none)
  |.rem=>some ([.bS (.u1 .not (.u2 .aF b (.int k 0)))],.d (.int k) (.u2 (.rem k) a b))
  |.eql=>some ([],.d .bool (.u2 .aF a b))
  |.neq=>some ([],.d .bool (.u1 .not (.u2 .aF a b)))
  |.lss=>some ([],.d .bool (.u2 .lt a b))
  |.leq=>some ([],.d .bool (.u2 .le a b))
  |.gtr=>some ([],.d .bool (.u2 .lt b a))
  |.geq=>some ([],.d .bool (.u2 .le b a))
  |_=>none
 |.d .bool a,.d .bool b=>bif decide (C.eqs ty=some [.bool])then(match B with
  |.eql=>some ([],.d .bool (.u2 .C5 a b))
  |.neq=>some ([],.d .bool (.u1 .not (.u2 .C5 a b)))
  |_=>none)else none
 |.d .str a,.d .str b=>match B with
  |.eql=>some ([],.d .bool (.u2 .C6 a b))
  |.neq=>some ([],.d .bool (.u1 .not (.u2 .C6 a b)))
  |.add=>some ([.bS (.u2 .JM a b)],.d .str (.u2 .cat a b))
  |_=>none
 |.d (.st i) a,.d (.st j) b=>bif Nat.beq i j&&C9 C ty i a b then(match B with
  |.eql=>some ([],.d .bool (.u2 (.C7 i) a b))
  |.neq=>some ([],.d .bool (.u1 .not (.u2 (.C7 i) a b)))
  |_=>none)else none
 |_,_=>none
def xn(j:Nat->Option (Nat×Nat))(cells:List TX):List (Nat×TX)->Option (List TX)
 | []=>some cells
 | (i,t)::rest=>match j i,qN t with
  |some (off,size),some vs=>bif Nat.beq vs.length size&&Nat.ble (off+size) cells.length then xn j (xG cells off vs) rest else none
  |_,_=>none
def wm(t:Ty):List X->X
 | []=>.nil t
 |x::xs=>.u2 .cons x (wm t xs)
def oI(C:Cx)(t:TypeId):Option (Ty×Ty):=match C.ty t with
 |some (.map k v)=>some (k,v)
 |_=>none
def wx(l:List AX)(k v:Ty):TX->Option X
 |.d (.map j B) x=>if k=j/\v=B then some x else none
 |.ev=>some (.kM k v)
 |.map id=>match l[id]? with
  |some (.map _ j B x)=>if k=j/\v=B then some x else none
  |some (.bz _ kk t x)=>if k=.int kk/\v=.list t then some x else none
  |_=>none
 |_=>none
def bytesOf(E:cm)(e:TypeId):Nat:=match E e with|some i=>i.bytes|none=>0
def DA(l:List AX)(id:Nat):Bool:=match l[id]? with
 |some (.row fr _ _ _)=>fr
 |_=>false
def Ck(C:Cx)(t:TypeId)(l:List AX)(nid:Nat)(s x:TX):Option dB:=
 match C.E t,C.ty t with
 |some ⟨_,_,_,.slice e⟩,some (.list u)=>
  match l3 l (.list u) x with
  |some (
      y,l1)=>match s with
   |.bC _=>some ⟨[.bS (.u1 (.fit (bytesOf C.E e)) y)],.row nid,.aP (l1++[.row false e u y])⟩
   |.row id=>match l1[id]? with
    |some (.row fr j k z)=>if j=e/\k=u then(bif Nat.beq nid l1.length&&(DA l id == fr)then
      some ⟨[.bS (.u1 (.fit (bytesOf C.E e)) (.u2 .app z y))],.row nid,.aP (l1.set id .dead++[.row fr e u (.u2 .app z y)])⟩else none)else none
    |_=>none
   |_=>none
  |none=>none
 |_,_=>none
def Eg(C:Cx)(t:TypeId)(l:List AX)(x:TX):Option dB:=
 match C.E t,x with
 |some ⟨_,_,_,.string⟩,.d .str s=>eY (.d (.int .i64) (.u1 .KM s))
 |some ⟨_,_,_,.slice _⟩,.d (.list _) xs=>eY (.d (.int .i64) (.u1 .len xs))
 |some ⟨_,_,_,.slice _⟩,.bC _=>eY (.d (.int .i64) (iX 0))
 |some ⟨_,_,_,.slice _⟩,.row id=>match l[id]? with
  |some (.row _ _ _ xs)=>eY (.d (.int .i64) (.u1 .len xs))
  |_=>none
 |some ⟨_,_,_,.map _ _⟩,x=>match oI C t with
  |some (k,v)=>(wx l k v x).map λm=>⟨[],.d (.int .i64) (.u1 .KL m),.none⟩
  |none=>none
 |_,_=>none
def isLit:TX->Option Bool
 |.d .bool (.bool b)=>some b
 |_=>none
def oi:Ty->X->Option (List TX)
 |.aN a b,x=>bif dV a then(match oi b (uU x)with|some r=>some (.d a (tB x)::r)|none=>none)else none
 |.unit,_=>some []
 |t,x=>some [.d t x]
def lx:TX->Option (FuncId×List TX)
 |.aD g ts=>some (g,ts)
 |.d (.fn g) _=>some (g,[])
 |.d (.aD g t) (.aD _ x)=>(oi t x).map λr=>(g,r)
 |.d (.aD g t) x=>(oi t (.u1 .G2 x)).map λr=>(g,r)
 |_=>none
def rh(l:List AX)(g:FuncId)(ts:List TX):List mS->Nat->Option (Nat×List X×List AX×mS)
 | [],_=>none
 |s::r,k=>bif Nat.beq s.f g then(match hY l s.args ts with
   |some (xs,l')=>some (k,xs,l',s)
   |none=>rh l g ts r (k+1))else rh l g ts r (k+1)
def pf(E:cm):List TypeId->List TX->List TX
 |t::ts,x::xs=>sG E t x::pf E ts xs
 |_,xs=>xs
def nP(v:X):List Ty->TX
 | []=>.aN []
 | [t]=>.d t v
 |ts=>.aN (mY ts.length v ts 0)
where mY (n:Nat) (v:X):List Ty->Nat->List TX
 | [],_=>[]
 |t::ts,j=>.d t (rO n j v)::mY n v ts (j+1)
def CE(C:Cx)(l:List AX)(n:Nat)(g:FuncId)(ts:List TX):Option dB:=
 match rh l g ts C.sigs 0 with
 |some (k,xs,l',s)=>some ⟨[.call k (fL xs)],nP (.var n) s.res,.aP l'⟩
 |none=>none
def pM(l:List AX)(g:FuncId)(t:Ty)(ts:List TX):List lq->Option (lq×List X×List AX)
 | []=>none
 |s::r=>if s.t=t then(bif Nat.beq s.f g then(match hY l s.args ts with
   |some (xs,l')=>some (s,xs,l')
   |none=>pM l g t ts r)else pM l g t ts r)else pM l g t ts r
def rf(l:List AX)(g:FuncId)(ts:List TX):List lq->Option (lq×List X×List AX)
 | []=>none
 |s::r=>bif Nat.beq s.f g then(match hY l s.args ts with
   |some (xs,l')=>some (s,xs,l')
   |none=>rf l g ts r)else rf l g ts r
def GY(C:Cx)(l:List AX)(n:Nat)(g:FuncId):List TX->Option dB
 |.row id::ts=>match l[id]? with
  |some (.row false e t x)=>match pM l g t ts C.turns with
   |some (s,xs,l')=>match l'[id]? with
    |some (.row false j t' B)=>if j=e/\t'=t then some ⟨[.call s.k (fL (B::xs))],.aN [],.aP (l'.set id (.row false e t (.var n)))⟩else none
    |_=>none
   |none=>none
  |_=>none
 |.bC _::ts=>match rf l g ts C.turns with
  |some (s,xs,l')=>some ⟨[.call s.k (fL (.nil s.t::xs))],.aN [],.aP (l'++[.row false 0 s.t (.var n)])⟩
  |none=>none
 |_=>none
def uF(v:Ty):TX->Option X
 |.d t x=>if t=v then some x else none
 |.bC s=>match v with
  |.list u=>bif Nat.beq s u.size then some (.nil u)else none
  |_=>none
 |_=>none
def tT(C:Cx)(t:TypeId)(i:Nat):Bool:=match C.E t with
 |some ⟨_,_,_,.map kt _⟩=>(match zj C.E kt with
  |some (n,kk)=>decide (aG.cj i=List.replicate n (.int kk))
  |none=>false)
 |_=>false
def Bo(C:Cx)(t:TypeId)(l:List AX)(m k x:TX):Option dB:=match oI C t,m,k with
 |some (.int kk,v),.map id,.d (.int G) key=>match uF v x,l[id]? with
  |some y,some (.map false B F mm)=>if kk=G/\B=.int kk/\v=F then some ⟨[],.undef,.aP (l.set id (.map false B F (.u3 .oN mm key y)))⟩else none
  |_,_=>none
 |some (.st i,v),.map id,.d (.st j) key=>match uF v x,l[id]? with
  |some y,some (.map false B F mm)=>if i=j/\B=.st i/\v=F then(bif tT C t i then some ⟨[],.undef,.aP (l.set id (.map false B F (.u3 .oN mm key y)))⟩else none)else none
  |_,_=>none
 |_,_,_=>none
def CZ(C:Cx)(t:TypeId)(l:List AX)(m k:TX):Option dB:=match oI C t,m,k with
 |some (.int kk,v),.map id,.d (.int F) key=>match l[id]? with
  |some (.map false j B mm)=>if kk=F/\j=.int kk/\v=B then some ⟨[],.aN [],.aP (l.set id (.map false j B (.u2 .zq mm key)))⟩else none
  |_=>none
 |_,_,_=>none
def Ey(C:Cx)(t:TypeId)(l:List AX)(nid:Nat)(a b:TX):Option dB:=match C.E t,C.ty t,a,b with
 |some ⟨_,_,_,.slice e⟩,some (.list u),.d (.int _) n,.d (.int _) c=>(match ki gb u with
  |some z=>bif X.beq n c then some ⟨[.bS (.u2 .le (iX 0) n),.bS (.u1 (.fit (bytesOf C.E e)) (.u2 .rep n z))],.row nid,.aP (l++[.row false e u (.u2 .rep n z)])⟩else none
  |none=>none)
 |_,_,_,_=>none
def dQ(C:Cx)(ρ:Operand->TX)(l:List AX)(n nid:Nat)(o:Oper):Option dB:=
 match o.op with
 |.move x |.assign x=>eY (sG C.E o.type (ρ x))
 |.pick c a b=>match isLit (ρ c)with
  |some true=>(match ρ a,ρ b with |.d .bool x,.d .bool _=>eY (.d .bool x) |.d .bool x,.gone=>eY (.d .bool x)|_,_=>none)
  |some false=>(match ρ b,ρ a with |.d .bool x,.d .bool _=>eY (.d .bool x) |.d .bool x,.gone=>eY (.d .bool x)|_,_=>none)
  |none=>none
 |.box e x=>(qN (ρ x)).map λcs=>⟨[],.ptr nid 0,.new (.var e cs)⟩
 |.alloc e=>match C.ty e with
  |some t=>(zeroCells t).map λcs=>⟨[],.ptr nid 0,.new (.var e cs)⟩
  |none=>match C.E e with
   |some ⟨_,_,[_],_⟩=>some ⟨[],.ptr nid 0,.new (.var e [.undef])⟩
   |_=>none
 |.load t a=>Er C t l n (hZ (ρ a))
 |.store t a x=>GI C t l n (sG C.E t (ρ a)) (sG C.E t (ρ x))
 |.nilCheck x=>match ρ x with
  |.ptr id off=>eY (.ptr id off)
  |_=>none
 |.fieldAddr s x f=>Df C s f (hZ (ρ x))
 |.field s x f=>Dg C s f (ρ x)
 |.binOp F ty x y _=>(Ix C ty F (ρ x) (ρ y)).map λr=>⟨r.1,r.2,.none⟩
 |.unOp F _ x=>match F,ρ x with
  |.not,.d .bool a=>eY (.d .bool (ET a))
  |.neg,.d (.int k) a=>some ⟨vo k (.u1 (.neg k) a),.d (.int k) (.u1 (.neg k) a),.none⟩
  |_,_=>none
 |.indexAddr t x i=>match x with
  |.global g=>DV C t g n (ρ i)
  |x=>DW C t l n (hZ (ρ x)) (ρ i)
 |.slice t x lo hi none=>match C.ty t,ρ x with
  |some (.list u),.d (.list N) xs=>if u=N then(BH xs (lo.map ρ) (hi.map ρ)).map λr=>⟨r.1,.d (.list u) r.2,.none⟩else none
  |some (.list u),.row id=>match gI l (.list u) (.row id)with
   |some (xs,l')=>(BH xs (lo.map ρ) (hi.map ρ)).map λr=>⟨r.1,.d (.list u) r.2,.aP l'⟩
   |none=>none
  |_,_=>none
 |.build t parts=>match C.E t,C.ty t with
  |some ⟨_,_,_,.struct fs⟩,some u=>match zeroCells u with
   |some z=>(xn (se C.E fs) z (parts.toList.map λp=>(p.1,ρ p.2))).bind λcs=>(rJ u cs).map λv=>⟨[],v,.none⟩
   |none=>none
  |_,_=>none
 |.buildSlice t len parts=>match C.E t,C.ty t with
  |some ⟨_,_,_,.slice e⟩,some (.list u)=>
   bif Nat.beq len 0 then(bif parts.toList.isEmpty then some ⟨[],.row nid,.aP (l++[.row false e u (.nil u)])⟩else none)
   else bif decide (parts.toList.map (·.1)=List.range len)&&Nat.ble (len*u.size) 16777216 then
    match hY l (List.replicate len u) (parts.toList.map λp=>ρ p.2)with
    |some (xs,l')=>some ⟨[],.d (.list u) (wm u xs),.aP l'⟩
    |none=>none
   else none
  |_,_=>none
 |.extract x i=>match ρ x with
  |.aN ts=>(ts[i]?).map λt=>⟨[],t,.none⟩
  |_=>none
 |.call c=>match c.callee with
  |.value f=>match lx (ρ f)with
   |some (g,ts)=>match CE C l n g (pf C.E c.argTypes.toList (c.args.toList.map ρ)++ts)with
    |some q=>some q
    |none=>GY C l n g (pf C.E c.argTypes.toList (c.args.toList.map ρ)++ts)
   |none=>none
  |.builtin .len=>match c.args.toList,c.argTypes.toList with| [x],[t]=>Eg C t l (ρ x)|_,_=>none
  |.builtin .append=>match c.args.toList,c.argTypes.toList with
   | [s,x],[t,t']=>if t=t' then Ck C t l nid (ρ s) (ρ x)else none
   |_,_=>none
  |.builtin .max=>match c.args.toList.map ρ with| [.d (.int k) a,.d (.int B) b]=>if k=B then eY (.d (.int k) (.u2 .max a b))else none|_=>none
  |.builtin .min=>match c.args.toList.map ρ with| [.d (.int k) a,.d (.int B) b]=>if k=B then eY (.d (.int k) (.u2 .min a b))else none|_=>none
  |.builtin .delete=>match c.args.toList,c.argTypes.toList with
   | [x,k],[t,_]=>CZ C t l (ρ x) (ρ k)
   |_,_=>none
  |_=>none
 |.makeSlice t a b=>Ey C t l nid (ρ a) (ρ b)
 |.makeMap t none=>match oI C t with
  |some (k,v)=>some ⟨[],.map nid,.aP (l++[.map false k v (.kM k v)])⟩
  |none=>none
 |.mapUpdate t m k x=>Bo C t l (ρ m) (ρ k) (ρ x)
 |.insert t m k x=>Bo C t l (ρ m) (ρ k) (ρ x)
 |.lookup t x k ok=>match oI C t,ρ k with
  |some (.int kk,v),.d (.int G) key=>if kk=G then(match wx l (.int kk) v (ρ x),ki gb v with
   |some m,some z=>eY (bif ok then .aN [.d v (.u3 .j7 m key z),.d .bool (.u2 .oL m key)]else .d v (.u3 .j7 m key z))
   |_,_=>none)else none
  |some (.st i,v),.d (.st j) key=>if i=j then(bif tT C t i then(match wx l (.st i) v (ρ x),ki gb v with
   |some m,some z=>eY (bif ok then .aN [.d v (.u3 .j7 m key z),.d .bool (.u2 .oL m key)]else .d v (.u3 .j7 m key z))
   |_,_=>none)else none)else none
  |_,_=>none
 |.convert M t x=>match C.E M,C.E t,ρ x with
  |some ⟨_,_,_,.dS _⟩,some ⟨_,_,_,.dS k⟩,.d (.int _) a=>eY (.d (.int k) (.u1 (.conv k) a))
  |_,_,_=>none
 |.makeFunc (.func g) first caps=>bif first.isEmpty then
   (match (caps.toList.map ρ).mapM tf with
   |some ds=>eY (.d (.aD g (ba (ds.map (·.1)))) (.aD g (fL (ds.map (·.2)))))
   |none=>eY (.aD g (caps.toList.map ρ)))else none
 |_=>none
def DY:AX->Bool
 |.bz .. =>true
 |.fz .. =>true
 |_=>false
def B3:AX->AX
 |.bz _ kk t x=>.map false (.int kk) (.list t) x
 |a=>a
def qA(id:Nat):List AX->Nat->List AX
 | [],_=>[]
 |a::r,i=>(bif Nat.beq i id then a else B3 a)::qA id r (i+1)
def wE(id:Nat):List AX->Nat->Bool
 | [],_=>true
 |a::r,i=>(Nat.beq i id || !DY (B3 a))&&wE id r (i+1)
def yX(C:Cx)(t:TypeId):Option TypeId:=match C.E t with
 |some ⟨_,_,_,.map _ v⟩=>(match C.E v with
  |some ⟨_,_,_,.slice e⟩=>some e
  |_=>none)
 |_=>none
def BS(e:TypeId)(kk:IntKind)(u:Ty):AX->Option X
 |.bz j F G x=>if j=e/\F=kk/\G=u then some x else none
 |.map false k v (.kM B M)=>if k=.int kk/\v=.list u/\B=.int kk/\M=.list u then some (.kM k v)else none
 |_=>none
def JK(ops:List Oper)(d:Nat):Bool:=ops.any λo=>match o.op with
 |.call c=>(match c.callee with
  |.builtin .append=>(match c.args.toList with
   |.tmp t::_=>Nat.beq t d
   |_=>false)
  |_=>false)
 |_=>false
def DO(C:Cx)(t:TypeId)(l:List AX)(nid:Nat)(m k:TX):Option dB:=match oI C t,m,k with
 |some (.int kk,.list u),.map id,.d (.int j) key=>(match yX C t,l[id]? with
  |some e,some a=>(match BS e kk u a with
   |some x=>if kk=j then(bif wE id l 0 then some ⟨[],.row nid,.aP ((qA id l 0).set id (.fz e kk u x key)++[.row true e u (.u3 .j7 x key (.nil u))])⟩else none)else none
   |none=>none)
  |_,_=>none)
 |_,_,_=>none
def zG:X->Bool
 |.u2 .app _ (.u2 .cons _ _)=>true
 |_=>false
def DP(C:Cx)(t:TypeId)(l:List AX)(m k x:TX):Option dB:=match m,k,x with
 |.map id,.d (.int G) key,.row j=>(match l[id]?,l[j]? with
  |some (.fz e kk u mm F),some (.row true B M y)=>if kk=G/\e=B/\u=M/\oI C t=some (.int kk,.list u)then(bif X.beq key F&&zG y then some ⟨[],.undef,.aP ((l.set j .dead).set id (.bz e kk u (.u3 .oN mm key y)))⟩else none)else none
  |_,_=>none)
 |_,_,_=>none
def IN(ops:List Oper)(d:Nat):Bool:=ops.any λo=>match o.op with
 |.call c=>(match c.callee,c.args.toList with
  |.builtin .clear,[.tmp t]=>Nat.beq t d
  |_,_=>false)
 |_=>false
def GO(C:Cx)(t:TypeId)(l:List AX)(x lo:TX):Option dB:=match C.E t,C.ty t,x,lo with
 |some ⟨_,_,_,.slice _⟩,some (.list u),.row id,.d (.int _) n=>(match l[id]? with
  |some (.row false _ j xs)=>if j=u then some ⟨[.bS (.u2 .and (.u2 .le (iX 0) n) (.u2 .le n (gD xs)))],.sub id n (gD xs),.aP l⟩else none
  |_=>none)
 |_,_,_,_=>none
def CQ(C:Cx)(t:TypeId)(l:List AX)(x:TX):Option dB:=match C.E t,C.ty t,x with
 |some ⟨_,_,_,.slice _⟩,some (.list u),.sub id lo hi=>(match l[id]?,ki gb u with
  |some (.row false e j xs),some z=>if j=u then(bif X.beq hi (gD xs)then some ⟨[],.aN [],.aP (l.set id (.row false e u (.u2 .app (.u2 .take xs lo) (.u2 .rep (.u2 (.sub .i64) hi lo) z))))⟩else none)else none
  |_,_=>none)
 |_,_,_=>none
def Km(C:Cx)(ops:List Oper)(ρ:Operand->TX)(l:List AX)(nid:Nat)(o:Oper):Option dB:=match o.op with
 |.lookup t x k false=>(match o.dst with
  |some d=>bif JK ops d then DO C t l nid (ρ x) (ρ k)else none
  |none=>none)
 |.mapUpdate t m k x=>DP C t l (ρ m) (ρ k) (ρ x)
 |.slice t x (some lo) none none=>(match o.dst with
  |some d=>bif IN ops d then GO C t l (ρ x) (ρ lo)else none
  |none=>none)
 |.call c=>(match c.callee,c.args.toList,c.argTypes.toList with
  |.builtin .clear,[x],[t]=>CQ C t l (ρ x)
  |_,_,_=>none)
 |_=>none
def qV(C:Cx)(ops:List Oper)(ρ:Operand->TX)(l:List AX)(n nid:Nat)(o:Oper):Option dB:=match Km C ops ρ l nid o with
 |some q=>some q
 |none=>dQ C ρ l n nid o
end Go.Sy
namespace Go.Sy
open Go Go.ag
inductive Tr where
 |leaf (e:Ex) (σ:Sk)
 |out (k:Nat) (x:X)
 |bS (x:X) (t:Tr)
 |get (v:Nat) (xs k:X) (t:Tr)
 |call (v c:Nat) (x:X) (t:Tr)
 |fP (c:X) (a b:Tr)
 |gE (x:X) (a b:Tr)
 |join (ty:Ty) (v:Nat) (a b:Tr)
 |loop (ty:Ty) (v:Nat) (init:X) (body:Tr)
 |bad (why:Nat)
 deriving Inhabited
def hasB(m k:Nat):Bool:=Nat.beq (Nat.land (Nat.shiftRight m k) 1) 1
def jN(m k:Nat):Nat:=Nat.lor m (Nat.shiftLeft 1 k)
def zP(m:Nat):Operand->Nat
 |.tmp t=>jN m t
 |_=>m
def Xa(m:Nat)(j:List Oper):Nat:=j.foldl (λm o=>o.op.operands.toList.foldl zP m) m
def Jc(m k:Nat):Nat:=bif hasB m k then Nat.xor m (Nat.shiftLeft 1 k)else m
structure Lv where
 out:Nat
 ex:List (Nat×Nat)
 rt:Nat
def V7(ops:List Oper)(m:Nat)(o:Oper):Nat:=match o.guard with
 |some (j,_)=>(match (ops[j]?).bind (·.dst)with|some d=>jN m d|none=>m)
 |none=>m
def Ev(ops:List Oper):List Oper->Nat->Nat
 | [],m=>m
 |o::r,m=>V7 ops (o.op.operands.toList.foldl zP (match o.dst with|some d=>Jc (Ev ops r m) d|none=>Ev ops r m)) o
def K0(j:List (Nat×Nat))(id:Nat):Nat:=match j with
 | []=>0
 |p::r=>bif Nat.beq p.1 id then p.2 else K0 r id
def gi:Code->Lv->Nat
 |.region _ ops _,l=>Ev ops.toList ops.toList l.out
 |.seq a b,l=>gi a {l with out:=gi b l}
 |.cond c a b,l=>zP (Nat.lor (gi a l) (gi b l)) c
 |.block id c,l=>gi c {l with ex:=(id,l.out)::l.ex}
 |.loop c,l=>gi c {l with out:=gi c {l with out:=0} }
 |.rangeFunc g ps a b,l=>zP (Nat.lor l.out (ps.toList.foldl Jc (gi a ⟨gi b ⟨0,l.ex,l.rt⟩,l.ex,l.rt⟩))) g
 |.scope c,l=>gi c l
 |.exit id,l=>K0 l.ex id
 |.ret,l=>l.rt
 |_,l=>l.out
def X.kK:X->Nat
 |.var i=>i+1
 |.hole _=>1000000000
 |.pair a b=>Nat.max a.kK b.kK
 |.aD _ x=>x.kK
 |.box x=>x.kK
 |.proj _ _ x=>x.kK
 |.mk _ x=>x.kK
 |.u1 _ x=>x.kK
 |.u2 _ x y=>Nat.max x.kK y.kK
 |.u3 _ x y z=>Nat.max x.kK (Nat.max y.kK z.kK)
 |_=>0
def X.fill(g:Nat->X):X->X
 |.hole p=>g p
 |.pair a b=>.pair (a.fill g) (b.fill g)
 |.aD f x=>.aD f (x.fill g)
 |.box x=>.box (x.fill g)
 |.proj i j x=>.proj i j (x.fill g)
 |.mk i x=>.mk i (x.fill g)
 |.u1 o x=>.u1 o (x.fill g)
 |.u2 o x y=>.u2 o (x.fill g) (y.fill g)
 |.u3 o x y z=>.u3 o (x.fill g) (y.fill g) (z.fill g)
 |x=>x
mutual
def TX.fill (g:Nat->X):TX->TX
 |.d t x=>.d t (x.fill g)
 |.bB t e off=>.bB t (e.fill g) off
 |.bw id k off=>.bw id (k.fill g) off
 |.bJ id t x=>.bJ id t (x.fill g)
 |.agg cs=>.agg (TX.jS g cs)
 |.aN cs=>.aN (TX.jS g cs)
 |.aD f cs=>.aD f (TX.jS g cs)
 |t=>t
def TX.jS (g:Nat->X):List TX->List TX
 | []=>[]
 |t::ts=>t.fill g::TX.jS g ts
end
def AX.fill(g:Nat->X):AX->AX
 |.var ty cs=>.var ty (TX.jS g cs)
 |.row j e t x=>.row j e t (x.fill g)
 |.map j k v x=>.map j k v (x.fill g)
 |.bz e kk t x=>.bz e kk t (x.fill g)
 |.fz e kk t x k=>.fz e kk t (x.fill g) (k.fill g)
 |a=>a
def Sk.fill(g:Nat->X)(n:Nat)(σ:Sk):Sk:=⟨n,σ.t.map λp=>(p.1,p.2.fill g),σ.l.map (AX.fill g)⟩
mutual
def TX.beq:TX->TX->Bool
 |.undef,.undef=>true
 |.gone,.gone=>true
 |.d t x,.d u y=>decide (t=u)&&X.beq x y
 |.bC s,.bC s'=>Nat.beq s s'
 |.ev,.ev=>true
 |.ptr i o,.ptr B o'=>Nat.beq i B&&Nat.beq o o'
 |.bB t e o,.bB t' F o'=>decide (t=t')&&X.beq e F&&Nat.beq o o'
 |.row i,.row j=>Nat.beq i j
 |.bw i k o,.bw B G o'=>Nat.beq i B&&X.beq k G&&Nat.beq o o'
 |.map i,.map j=>Nat.beq i j
 |.bf i,.bf j=>Nat.beq i j
 |.cE i n,.cE j m=>Nat.beq i j&&Nat.beq n m
 |.bJ i t x,.bJ B t' M=>Nat.beq i B&&decide (t=t')&&X.beq x M
 |.agg a,.agg b=>TX.pz a b
 |.aN a,.aN b=>TX.pz a b
 |.aD f a,.aD g b=>Nat.beq f g&&TX.pz a b
 |_,_=>false
def TX.pz:List TX->List TX->Bool
 | [],[]=>true
 |a::r,b::s=>TX.beq a b&&TX.pz r s
 |_,_=>false
end
def sC:List (Nat×TX)->List (Nat×TX)->Bool
 | [],[]=>true
 | (i,a)::r,(j,b)::s=>Nat.beq i j&&TX.beq a b&&sC r s
 |_,_=>false
def AX.beq:AX->AX->Bool
 |.dead,.dead=>true
 |.var t a,.var u b=>Nat.beq t u&&TX.pz a b
 |.row f e t x,.row N F t' B=>(f == N)&&Nat.beq e F&&decide (t=t')&&X.beq x B
 |.map f k v x,.map N G Y B=>(f == N)&&decide (k=G)&&decide (v=Y)&&X.beq x B
 |.bz e k t x,.bz F G t' B=>Nat.beq e F&&decide (k=G)&&decide (t=t')&&X.beq x B
 |.fz e k t x y,.fz F G t' B Z=>Nat.beq e F&&decide (k=G)&&decide (t=t')&&X.beq x B&&X.beq y Z
 |.dD j b r,.dD O M U=>Nat.beq j O&&Nat.beq b M&&decide (r=U)
 |.lp j b r s,.lp O M U s'=>Nat.beq j O&&Nat.beq b M&&decide (r=U)&&decide (s=s')
 |.eO,.eO=>true
 |_,_=>false
def lr:List AX->List AX->Bool
 | [],[]=>true
 |a::r,b::s=>AX.beq a b&&lr r s
 |_,_=>false
def oC(k:Nat)(t:TX):List (Nat×TX)->List (Nat×TX)
 | []=>[(k,t)]
 | (j,u)::r=>bif Nat.ble k j then(bif Nat.beq k j then(j,u)::r else(k,t)::(j,u)::r)else(j,u)::oC k t r
def we:TX->Bool
 |.undef=>true
 |.gone=>true
 |_=>false
def jG(j:Nat):List (Nat×TX)->Nat->List (Nat×TX)
 | [],_=>[]
 | (k,t)::r,seen=>bif hasB j k && !hasB seen k then(bif we t then jG j r (jN seen k)else oC k t (jG j r (jN seen k)))else jG j r seen
def Sk.cD(j:Nat)(σ:Sk):Sk:={σ with t:=jG j σ.t 0}
def tG(id:Nat):List Nat->Nat->Option Nat
 | [],_=>none
 |x::xs,k=>bif Nat.beq x id then some k else tG id xs (k+1)
def fJ(ids:List Nat)(f:Nat->TX)(id:Nat):TX:=match tG id ids 0 with|some k=>f k|none=>.undef
def Bu(ids:List Nat):TX->TX
 |.ptr id off=>fJ ids (.ptr · off) id
 |.bf id=>fJ ids .bf id
 |t=>t
def oY(ids:List Nat):TX->TX
 |.ptr id off=>fJ ids (.ptr · off) id
 |.row id=>fJ ids .row id
 |.bw id k off=>fJ ids (.bw · k off) id
 |.map id=>fJ ids .map id
 |.bf id=>fJ ids .bf id
 |.cE id n=>fJ ids (.cE · n) id
 |.bJ id t x=>match tG id ids 0 with|some k=>.bJ k t x|none=>.d (.list t) x
 |.agg _=>.undef
 |.sub _ _ _=>.undef
 |.aN _=>.undef
 |.aD _ _=>.undef
 |.gone=>.undef
 |t=>t
def rj:TX->Bool
 |.d _ _=>true
 |.ptr _ _=>true
 |.bf _=>true
 |_=>false
def y9:TX->Bool
 |.d _ _=>true
 |_=>false
def TX.re(ids:List Nat):TX->TX
 |.gone=>.undef
 |.sub _ _ _=>.undef
 |.ptr id off=>fJ ids (.ptr · off) id
 |.row id=>fJ ids .row id
 |.bw id k off=>fJ ids (.bw · k off) id
 |.map id=>fJ ids .map id
 |.bf id=>fJ ids .bf id
 |.cE id n=>fJ ids (.cE · n) id
 |.bJ id t x=>match tG id ids 0 with|some k=>.bJ k t x|none=>.d (.list t) x
 |.agg cs=>.agg (cs.map (oY ids))
 |.aD f cs=>bif cs.all rj then .aD f (cs.map (Bu ids))else .undef
 |.aN cs=>bif cs.all y9 then .aN cs else .undef
 |t=>t
def AX.re(ids:List Nat):AX->AX
 |.var ty cs=>.var ty (cs.map (TX.re ids))
 |o=>o
def Sk.re(ids:List Nat)(σ:Sk):Sk:=⟨σ.n,σ.t.map λp=>(p.1,p.2.re ids),ids.map λid=>((σ.l[id]?).getD .dead).re ids⟩
inductive Pl where
 |slot (j:Nat)
 |cell (id k:Nat)
 |obj (id:Nat)
inductive Co where
 |sS (e:TypeId) (t:Ty)
 |data (t:Ty)
 |yV
 |grow (e:TypeId) (kk:IntKind) (t:Ty)
 |B2
def mI(j:Nat)(t:TX):List (Nat×TX)->List (Nat×TX)
 | []=>[]
 | (i,u)::r=>bif Nat.beq i j then(i,t)::r else(i,u)::mI j t r
variable [aG]
def mW(σ:Sk):Pl->TX
 |.slot j=>bd σ.t j
 |.cell id k=>match σ.l[id]? with
  |some (.var _ cs)=>(cs[k]?).getD .undef
  |_=>.undef
 |.obj _=>.undef
def K4(σ:Sk):Pl->TX
 |.obj id=>.map id
 |p=>mW σ p
def uQ(σ:Sk)(t:TX):Pl->Sk
 |.slot j=>{σ with t:=mI j t σ.t}
 |.cell id k=>match σ.l[id]? with
  |some (.var ty cs)=>{σ with l:=σ.l.set id (.var ty (cs.set k t))}
  |_=>σ
 |.obj _=>σ
def pw(σ:Sk)(p:Pl):Co->Option Sk
 |.sS e t=>bif !dV t then none else match mW σ p with
  |.bC _=>some (uQ {σ with l:=σ.l++[.row false e t (.nil t)]} (.row σ.l.length) p)
  |_=>none
 |.data t=>bif !dV t then none else match l3 σ.l t (mW σ p)with
  |some (x,l')=>some (uQ {σ with l:=l' } (.d t x) p)
  |none=>none
 |.yV=>match mW σ p with
  |.row id=>match σ.l[id]? with
   |some (.row false e t x)=>some {σ with l:=σ.l.set id (.row true e t x)}
   |_=>none
  |_=>none
 |.grow e kk t=>match K4 σ p with
  |.map id=>match σ.l[id]? with
   |some a=>match BS e kk t a with
    |some x=>bif dV t&&Nat.ble 1 t.size then some {σ with l:=σ.l.set id (.bz e kk t x)}else none
    |none=>none
   |none=>none
  |_=>none
 |.B2=>match K4 σ p with
  |.map id=>match σ.l[id]? with
   |some (.bz _ kk t x)=>some {σ with l:=σ.l.set id (.map false (.int kk) (.list t) x)}
   |_=>none
  |_=>none
def EI(B F:List AX)(a b:TX):Option (Option Co×Option Co):=
 match a,b with
 |.bC _,.row id=>match F[id]? with|some (.row _ e t _)=>some (some (.sS e t),none)|_=>none
 |.row id,.bC _=>match B[id]? with|some (.row _ e t _)=>some (none,some (.sS e t))|_=>none
 |.bC _,.d (.list t) _=>some (some (.data (.list t)),none)
 |.d (.list t) _,.bC _=>some (none,some (.data (.list t)))
 |.ev,.d (.map k v) _=>some (some (.data (.map k v)),none)
 |.d (.map k v) _,.ev=>some (none,some (.data (.map k v)))
 |.row _,.d t _=>some (some (.data t),none)
 |.d t _,.row _=>some (none,some (.data t))
 |.agg _,.d t _=>some (some (.data t),none)
 |.d t _,.agg _=>some (none,some (.data t))
 |.map _,.d t _=>some (some (.data t),none)
 |.d t _,.map _=>some (none,some (.data t))
 |.row i,.row j=>match B[i]?,F[j]? with
  |some (.row G _ _ _),some (.row M _ _ _)=>bif G == M then none else(bif G then some (none,some .yV)else some (some .yV,none))
  |_,_=>none
 |.map i,.map j=>match B[i]?,F[j]? with
  |some (.bz e k t _),some (.map false _ _ x)=>match x with
   |.kM _ _=>some (none,some (.grow e k t))
   |_=>some (some .B2,none)
  |some (.map false _ _ x),some (.bz e k t _)=>match x with
   |.kM _ _=>some (some (.grow e k t),none)
   |_=>some (none,some .B2)
  |_,_=>none
 |_,_=>none
abbrev kj:=List (Nat×Nat)
abbrev mQ:=kj×kj
def yR:Nat:=1000000
def jO(p:Nat×Nat)(l:mQ):mQ:=bif l.1.any λq=>Nat.beq q.1 p.1 then l else
 match l.1[p.1]? with
 |some q=>bif Nat.beq q.1 (yR+p.1)then(l.1.set p.1 p,l.2++[p])else(l.1++[p],l.2++[p])
 |none=>(l.1++[p],l.2++[p])
def L7:TX->TX->mQ->mQ
 |.ptr i _,.ptr j _,l=>jO (i,j) l
 |.row i,.row j,l=>jO (i,j) l
 |.bJ i _ _,.bJ j _ _,l=>jO (i,j) l
 |.bw i _ _,.bw j _ _,l=>jO (i,j) l
 |.map i,.map j,l=>jO (i,j) l
 |.bf i,.bf j,l=>jO (i,j) l
 |.cE i _,.cE j _,l=>jO (i,j) l
 |.aD _ a,.aD _ b,l=>(a.zip b).foldl (λl p=>match p with
  | (.ptr i _,.ptr j _)=>jO (i,j) l
  | (.bf i,.bf j)=>jO (i,j) l
  |_=>l) l
 |.agg a,.agg b,l=>(a.zip b).foldl (λl p=>match p with
  | (.ptr i _,.ptr j _)=>jO (i,j) l
  | (.row i,.row j)=>jO (i,j) l
  | (.map i,.map j)=>jO (i,j) l
  | (.bJ i _ _,.bJ j _ _)=>jO (i,j) l
  | (.cE i _,.cE j _)=>jO (i,j) l
  |_=>l) l
 |_,_,l=>l
def No(A B:Sk):List (Nat×TX)->mQ->Sum (Pl×Pl×Option Co×Option Co) mQ
 | [],ps=>.inr ps
 | (j,a)::r,ps=>match EI A.l B.l a (bd B.t j)with
  |some (x,y)=>.inl (.slot j,.slot j,x,y)
  |none=>No A B r (L7 a (bd B.t j) ps)
def Nn(A B:Sk)(j F:Nat):List TX->List TX->Nat->mQ->Sum (Pl×Pl×Option Co×Option Co) mQ
 |a::r,b::s,k,ps=>match EI A.l B.l a b with
  |some (x,y)=>.inl (.cell j k,.cell F k,x,y)
  |none=>Nn A B j F r s (k+1) (L7 a b ps)
 |_,_,_,ps=>.inr ps
def Gv(A B:Sk):Nat->mQ->Sum (Pl×Pl×Option Co×Option Co) kj
 |0,ps=>.inr ps.1
 |f+1,(ps,w)=>match w with
  | []=>.inr ps
  | (
     i,j)::w=>match EI A.l B.l (.map i) (.map j)with
   |some (x,y)=>.inl (.obj i,.obj j,x,y)
   |none=>match A.l[i]?,B.l[j]? with
    |some (.var _ a),some (.var _ b)=>match Nn A B i j a b 0 (ps,w)with
     |.inl m=>.inl m
     |.inr q=>Gv A B f q
    |_,_=>Gv A B f (ps,w)
def DB:AX->Option (Nat×List Nat)
 |.dD _ b r=>some (b,r)
 |.lp _ b r _=>some (b,r)
 |_=>none
def Ow:List AX->Nat->Nat->Nat
 | [],_,m=>m
 |a::r,i,m=>Ow r (i+1) (match DB a with|some _=>i+1|none=>m)
def Ga:List AX->Nat->List Nat
 | [],_=>[]
 |a::r,i=>match DB a with
  |some (_,rs)=>i::rs++Ga r (i+1)
  |none=>Ga r (i+1)
def pins(A:Sk):mQ:=match Ow A.l 0 0 with
 |0=>([],[])
 |m=>let rs:=Ga A.l 0
  let l:=(List.range m).map λi=>bif rs.any (Nat.beq i)then(i,i)else(yR+i,yR+i)
  (l,l)
def YS(A B:Sk):Sum (Pl×Pl×Option Co×Option Co) kj:=match No A B A.t (pins A)with
 |.inl m=>.inl m
 |.inr ps=>Gv A B 200 ps
def yF(σ:Sk)(p:Pl):Option Co->Option Sk
 |none=>some σ
 |some c=>pw σ p c
def meet:Nat->Sk->Sk->Option (Sk×Sk×kj)
 |0,_,_=>none
 |f+1,A,B=>match YS A B with
  |.inr ps=>some (A,B,ps)
  |.inl (M,N,F,G)=>match yF A M F,yF B N G with
   |some j,some k=>meet f j k
   |_,_=>none
def j6(n0:Nat)(t:Ty)(x y:X)(h:List Ty):X×List Ty:=bif X.beq x y&&Nat.ble x.kK n0 then(x,h)else(.hole h.length,h++[t])
def rF(j k:Nat)(ps:kj):Option Nat:=ps.findIdx? λq=>Nat.beq q.1 j&&Nat.beq q.2 k
mutual
def zt (n0:Nat) (ps:kj):TX->TX->List Ty->TX×List Ty
 |.d t x,.d u y,h=>if t=u then(.d t (j6 n0 t x y h).1,(j6 n0 t x y h).2)else(.undef,h)
 |.bC s,.bC s',h=>bif Nat.beq s s' then(.bC s,h)else(.undef,h)
 |.ev,.ev,h=>(.ev,h)
 |.ptr i o,.ptr j o',h=>match rF i j ps with|some k=>(bif Nat.beq o o' then .ptr k o else .undef,h)|none=>(.undef,h)
 |.bB t e o,.bB t' B o',h=>if t=t' then(bif Nat.beq o o' then(.bB t (j6 n0 t e B h).1 o,(j6 n0 t e B h).2)else(.undef,h))else(.undef,h)
 |.row i,.row j,h=>match rF i j ps with|some k=>(.row k,h)|none=>(.undef,h)
 |.bw i k o,.bw j F o',h=>match rF i j ps with|some q=>(bif Nat.beq o o' then(.bw q (j6 n0 (.int .i64) k F h).1 o,(j6 n0 (.int .i64) k F h).2)else(.undef,h))|none=>(.undef,h)
 |.map i,.map j,h=>match rF i j ps with|some k=>(.map k,h)|none=>(.undef,h)
 |.bf i,.bf j,h=>match rF i j ps with|some k=>(.bf k,h)|none=>(.undef,h)
 |.cE i n,.cE j m,h=>match rF i j ps with|some k=>(bif Nat.beq n m then .cE k n else .undef,h)|none=>(.undef,h)
 |.bJ i t x,.bJ j u y,h=>match rF i j ps with|some k=>(if t=u then(.bJ k t (j6 n0 (.list t) x y h).1,(j6 n0 (.list t) x y h).2)else(.undef,h))|none=>(.undef,h)
 |.agg a,.agg b,h=>(.agg (nC n0 ps a b h).1,(nC n0 ps a b h).2)
 |.aN a,.aN b,h=>(.aN (nC n0 ps a b h).1,(nC n0 ps a b h).2)
 |.aD f a,.aD g b,h=>bif Nat.beq f g then(.aD f (nC n0 ps a b h).1,(nC n0 ps a b h).2)else(.undef,h)
 |_,_,h=>(.undef,h)
def nC (n0:Nat) (ps:kj):List TX->List TX->List Ty->List TX×List Ty
 |a::r,b::s,h=>((zt n0 ps a b h).1::(nC n0 ps r s (zt n0 ps a b h).2).1,(nC n0 ps r s (zt n0 ps a b h).2).2)
 |_,_,h=>([],h)
end
def Ld(n0:Nat)(ps:kj)(B:Sk):List (Nat×TX)->List Ty->List (Nat×TX)×List Ty
 | [],h=>([],h)
 | (j,a)::r,h=>let m:=zt n0 ps a (bd B.t j) h
  let q:=Ld n0 ps B r m.2
  (bif we m.1 then q.1 else(j,m.1)::q.1,q.2)
def Wk(n0:Nat)(ps:kj):AX->AX->List Ty->AX×List Ty
 |.var t a,.var _ b,h=>(.var t (nC n0 ps a b h).1,(nC n0 ps a b h).2)
 |.row f e t x,.row _ _ _ y,h=>(.row f e t (j6 n0 (.list t) x y h).1,(j6 n0 (.list t) x y h).2)
 |.map f k v x,.map _ _ _ y,h=>(.map f k v (j6 n0 (.map k v) x y h).1,(j6 n0 (.map k v) x y h).2)
 |.bz e k t x,.bz _ _ _ y,h=>(.bz e k t (j6 n0 (.map (.int k) (.list t)) x y h).1,(j6 n0 (.map (.int k) (.list t)) x y h).2)
 |.dD j b r,.dD _ _ _,h=>(.dD j b r,h)
 |.lp j b r s,.lp _ _ _ _,h=>(.lp j b r s,h)
 |_,_,h=>(.dead,h)
def Lc(n0:Nat)(ps:kj)(A B:Sk):kj->List Ty->List AX×List Ty
 | [],h=>([],h)
 | (i,j)::r,h=>let m:=Wk n0 ps ((A.l[i]?).getD .dead) ((B.l[j]?).getD .dead) h
  let q:=Lc n0 ps A B r m.2
  (m.1::q.1,q.2)
def zr(n0:Nat)(A B:Sk):Option (Sk×List Ty):=match meet 40 A B with
 |some (A,B,ps)=>
  let s:=Ld n0 ps B A.t []
  let q:=Lc n0 ps A B ps s.2
  some (⟨n0,s.1,q.1⟩,q.2)
 |none=>none
def qZ(x y:X)(j:List (Nat×X)):List (Nat×X):=match x with
 |.hole p=>j++[(p,y)]
 |_=>j
mutual
def JD:TX->TX->List (Nat×X)->List (Nat×X)
 |.d _ x,.d _ y,c=>qZ x y c
 |.bB _ x _,.bB _ y _,c=>qZ x y c
 |.bw _ x _,.bw _ y _,c=>qZ x y c
 |.bJ _ _ x,.bJ _ _ y,c=>qZ x y c
 |.agg a,.agg b,c=>vO a b c
 |.aN a,.aN b,c=>vO a b c
 |.aD _ a,.aD _ b,c=>vO a b c
 |_,_,c=>c
def vO:List TX->List TX->List (Nat×X)->List (Nat×X)
 |a::r,b::s,c=>vO r s (JD a b c)
 |_,_,c=>c
end
def Un:AX->AX->List (Nat×X)->List (Nat×X)
 |.var _ a,.var _ b,c=>vO a b c
 |.row _ _ _ x,.row _ _ _ y,c=>qZ x y c
 |.map _ _ _ x,.map _ _ _ y,c=>qZ x y c
 |.bz _ _ _ x,.bz _ _ _ y,c=>qZ x y c
 |_,_,c=>c
def JC(j σ:Sk):List (Nat×X):=
 let c:=(j.t.zip σ.t).foldl (λc p=>JD p.1.2 p.2.2 c) []
 (j.l.zip σ.l).foldl (λc p=>Un p.1 p.2 c) c
def rB:List (Nat×X)->Nat->X
 | [],_=>.unit
 | (j,x)::r,p=>bif Nat.beq j p then x else rB r p
def ED:List (Nat×TX)->Nat->Nat
 | [],m=>m
 | (j,_)::r,m=>ED r (jN m j)
def rN:List Nat->Bool
 | []=>true
 |x::xs=>!(xs.any λy=>Nat.beq x y)&&rN xs
def rl(ids:List Nat)(l:List AX):Bool:=ids.all λid=>match l[id]? with
 |some .eO=>false
 |some a=>match DB a with
  |some (b,rs)=>Nat.ble b ids.length&&rs.all λr=>Nat.blt r b&&(match ids[r]? with|some i=>Nat.beq i r|none=>false)
  |none=>true
 |none=>true
def X.cL(n h:Nat):X->Bool
 |.var i=>Nat.blt i n
 |.hole p=>Nat.blt p h
 |.pair a b=>a.cL n h&&b.cL n h
 |.aD _ x=>x.cL n h
 |.box x=>x.cL n h
 |.proj _ _ x=>x.cL n h
 |.mk _ x=>x.cL n h
 |.u1 _ x=>x.cL n h
 |.u2 _ x y=>x.cL n h&&y.cL n h
 |.u3 _ x y z=>x.cL n h&&y.cL n h&&z.cL n h
 |_=>true
mutual
def TX.cL (n h:Nat):TX->Bool
 |.d _ x=>x.cL n h
 |.bB _ e _=>e.cL n h
 |.bw _ k _=>k.cL n h
 |.bJ _ _ x=>x.cL n h
 |.sub _ _ _=>false
 |.agg cs=>TX.rQ n h cs
 |.aN cs=>TX.rQ n h cs
 |.aD _ cs=>TX.rQ n h cs
 |_=>true
def TX.rQ (n h:Nat):List TX->Bool
 | []=>true
 |t::ts=>t.cL n h&&TX.rQ n h ts
end
def AX.cL(n h:Nat):AX->Bool
 |.var _ cs=>TX.rQ n h cs
 |.row _ _ _ x=>x.cL n h
 |.map _ _ _ x=>x.cL n h
 |.bz _ _ _ x=>x.cL n h
 |.fz _ _ _ x y=>x.cL n h&&y.cL n h
 |_=>true
def Sk.cL(n h:Nat)(σ:Sk):Bool:=σ.t.all (λp=>p.2.cL n h)&&σ.l.all (AX.cL n h)
def instS(j:Sk)(k:Nat)(σ:Sk):Option (List X):=
 match meet 40 j (σ.cD (ED j.t 0))with
 |some (_,B,ps)=>
  let ids:=ps.map (·.2)
  let bH:=B.re ids
  let vs:=JC j bH
  let xs:=(List.range k).map (rB vs)
  let F:=j.fill (rB vs) σ.n
  bif sC F.t bH.t&&lr F.l bH.l&&rN ids&&rl ids B.l then some xs else none
 |none=>none
def leaves(e:Ex):Tr->List Sk
 |.leaf j σ=>if e=j then [σ]else []
 |.out _ _=>[]
 |.bS _ t=>leaves e t
 |.get _ _ _ t=>leaves e t
 |.call _ _ _ t=>leaves e t
 |.fP _ a b=>leaves e a++leaves e b
 |.gE _ a b=>leaves e a++leaves e b
 |.join _ _ a b=>leaves e a++leaves e b
 |.loop _ _ _ b=>leaves e b
 |.bad _=>[]
def resolve(e:Ex)(j:Sk)(B:Nat):Nat->Tr->Tr
 |k,.leaf F σ=>if e=F then(match instS j B σ with|some xs=>.out k (fL xs)|none=>.bad 1)else .leaf F σ
 |_,.out k x=>.out k x
 |k,.bS x t=>.bS x (resolve e j B k t)
 |k,.get v xs i t=>.get v xs i (resolve e j B k t)
 |k,.call v c x t=>.call v c x (resolve e j B k t)
 |k,.fP c a b=>.fP c (resolve e j B k a) (resolve e j B k b)
 |k,.gE c a b=>.gE c (resolve e j B k a) (resolve e j B k b)
 |k,.join ty v a b=>.join ty v (resolve e j B (k+1) a) (resolve e j B k b)
 |k,.loop ty v i b=>.loop ty v i (resolve e j B (k+1) b)
 |_,.bad w=>.bad w
def eJ(f:Ex->Sk->Tr):Tr->Tr
 |.leaf e σ=>f e σ
 |.out k x=>.out k x
 |.bS x t=>.bS x (eJ f t)
 |.get v xs i t=>.get v xs i (eJ f t)
 |.call v c x t=>.call v c x (eJ f t)
 |.fP c a b=>.fP c (eJ f a) (eJ f b)
 |.gE c a b=>.gE c (eJ f a) (eJ f b)
 |.join ty v a b=>.join ty v (eJ f a) (eJ f b)
 |.loop ty v i b=>.loop ty v i (eJ f b)
 |.bad w=>.bad w
def lJ:Tr->Bool
 |.leaf _ _=>false
 |.out _ _=>false
 |.bS _ t=>lJ t
 |.get _ _ _ t=>lJ t
 |.call _ _ _ t=>lJ t
 |.fP _ a b=>lJ a||lJ b
 |.gE _ a b=>lJ a||lJ b
 |.join _ _ _ b=>lJ b
 |.loop _ _ _ _=>true
 |.bad _=>false
def pP:Tr->Bool
 |.bS _ t=>pP t
 |.get _ _ _ t=>pP t
 |.call _ _ _ t=>pP t
 |.fP _ a b=>pP a||pP b
 |.gE _ _ _=>true
 |.join _ _ _ b=>pP b
 |_=>false
def tp(v n p:Nat):X:=rO n p (.var v)
def EG(n0:Nat):Sk->List Sk->Option (Sk×List Ty)
 |A,[]=>zr n0 A A
 |A,[B]=>zr n0 A B
 |A,B::r=>match zr n0 A B with
  |some (M,_)=>EG n0 M r
  |none=>none
def M5(ls:List Sk):Bool:=ls.any λσ=>σ.t.any λp=>(match p.2 with |.bC _=>true|_=>false)&&ls.any λj=>match bd j.t p.1 with |.row _=>true|_=>false
def uP(j n0:Nat)(T:Tr)(f:Sk->Tr):Tr:=
 match leaves .normal T with
 | []=>T
 | [_]=>bif lJ T then zi else eJ (λe σ=>match e with |.normal=>f σ|e=>.leaf e σ) T
 |_=>bif lJ T || !pP T||M5 (leaves .normal T)then zi else eJ (λe σ=>match e with |.normal=>f σ|e=>.leaf e σ) T
where zi:Tr:=match leaves .normal T with
 | []=>T
 |σ::r=>match EG n0 (σ.cD j) (r.map (Sk.cD j))with
  |some (M,ts)=>bif M.cL n0 ts.length then .join (ba ts) n0 (resolve .normal M ts.length 0 T) (f (M.fill (tp n0 ts.length) (n0+1)))else .bad 13
  |none=>.bad 2
def pQ(t:Tr):Nat->List Ins->Tr
 |_,[]=>t
 |n,.bS x::r=>.bS x (pQ t n r)
 |n,.get xs k::r=>.get n xs k (pQ t (n+1) r)
 |n,.call c x::r=>.call n c x (pQ t (n+1) r)
def kC(n:Nat):List Ins->Nat
 | []=>n
 |.bS _::r=>kC n r
 |_::r=>kC (n+1) r
def je(t:List (Nat×TX))(j:Option Nat)(x:TX):List (Nat×TX):=match j with|some d=>(d,x)::t|none=>t
def sT(σ:Sk)(j:Option Nat)(r:dB):Sk:=⟨kC σ.n r.ins,je σ.t j r.t,match r.bA with |.none=>σ.l |.new a=>σ.l++[a] |.aP l'=>l'⟩
inductive Gd where
 |yes
 |no
 |ask (x:X) (b:Bool)
 |bad
def nj(ops:List Oper)(σ:Sk):Option (Nat×Bool)->Gd
 |none=>.yes
 |some (j,b)=>match (ops[j]?).bind (·.dst)with
  |some d=>match bd σ.t d with
   |.d .bool (.bool c)=>bif c == b then .yes else .no
   |.d .bool x=>.ask x b
   |.gone=>.no
   |_=>.bad
  |none=>.bad
def oj(x:X)(b:Bool):List (Nat×TX)->List (Nat×TX)
 | []=>[]
 | (j,.d .bool y)::r=>(j,.d .bool (bif X.beq x y then .bool b else y))::oj x b r
 |p::r=>p::oj x b r
def Sk.decide(x:X)(b:Bool)(σ:Sk):Sk:={σ with t:=oj x b σ.t}
def U0(ops:List Oper)(m:Nat)(o:Oper):Nat:=match o.guard with
 |some (j,_)=>(match (ops[j]?).bind (·.dst)with|some d=>jN m d|none=>m)
 |none=>m
def KS(j:Nat)(ops r:List Oper):Nat:=r.foldl (U0 ops) (Xa j r)
abbrev x2:=Oper->Nat->Sk->Option ((TX->Sk->Tr)->Tr)
def mG(C:Cx)(H:x2)(j:Nat)(ops:List Oper):List Oper->Sk->Tr
 | [],σ=>.leaf .normal σ
 |o::r,σ=>
  let k:=λ(σ:Sk)=>bif !dJ C.nt o.dst then .bad 15 else match qV C ops (gF σ.t) σ.l σ.n σ.l.length o with
   |some q=>pQ (mG C H j ops r (sT σ o.dst q)) σ.n q.ins
   |none=>match H o (KS j ops r) σ with
    |some F=>F λx B=>mG C H j ops r ⟨B.n,je B.t o.dst x,B.l⟩
    |none=>.bad (30000+o.dst.getD 9999)
  let skip:=λ(σ:Sk)=>bif !dJ C.nt o.dst then .bad 16 else mG C H j ops r {σ with t:=je σ.t o.dst .gone}
  match nj ops σ o.guard with
  |.yes=>k σ
  |.no=>skip σ
  |.ask x b=>.fP x (bif b then k (σ.decide x true)else skip (σ.decide x true)) (bif b then skip (σ.decide x false)else k (σ.decide x false))
  |.bad=>.bad 4
def wo(F n0:Nat)(B:Sk->Tr):Nat->Sk->Sk->Tr
 |0,_,_=>.bad 5
 |f+1,σ,A=>
  match zr n0 A A with
  |some (k,j)=>
   let T:=B (k.fill (tp n0 j.length) (n0+1))
   match EG n0 A ((leaves .normal T).map (Sk.cD F))with
   |some (M,ts)=>match instS k j.length σ with
    |some xs=>match (leaves .normal T).all λG=>(instS k j.length G).isSome with
     |true=>bif k.cL n0 j.length then .loop (ba j) n0 (fL xs) (resolve .normal k j.length 0 T)else .bad 14
     |false=>wo F n0 B f σ M
    |none=>wo F n0 B f σ M
   |none=>.bad 6
  |none=>.bad 7
def qD:List Ty->Type
 | []=>Empty
 | [t]=>t.den
 |t::u::r=>t.den⊕qD (u::r)
def ky:(j:List Ty)->Nat->V->Option (qD j)
 | [],_,_=>none
 | [t],0,v=>dr t v
 | [_],_+1,_=>none
 |t::_::_,0,v=>match dr t v with
  |some x=>some (.inl x)
  |none=>none
 |_::u::r,k+1,v=>match ky (u::r) k v with
  |some y=>some (.inr y)
  |none=>none
def jn:Nat->Tr->Bool
 |_,.leaf _ _=>false
 |k,.out j _=>Nat.blt k j
 |k,.bS _ t=>jn k t
 |k,.get _ _ _ t=>jn k t
 |k,.call _ _ _ t=>jn k t
 |k,.fP _ a b=>jn k a||jn k b
 |k,.gE _ a b=>jn k a||jn k b
 |k,.join _ _ a b=>jn (k+1) a||jn k b
 |k,.loop _ _ _ b=>jn (k+1) b
 |_,.bad _=>false
structure Callee where
 f:FuncId
 args:List Ty
 res:List Ty
 fn:(ba args).den->Option (ba res).den
def ae{β:Type}(p:Bool)(o:Option β):Option β:=match p with|true=>o|false=>none
def Vu(t:Ty):(j:List Ty)->Option (qD (t::j))->(t.den->Option (qD j))->Option (qD j)
 | [],o,f=>aa o f
 |_::_,o,f=>aa o λx=>match x with
  |.inl z=>f z
  |.inr y=>some y
def aZ{α β:Type}(o:Option (α⊕β))(f:α->Option β):Option β:=aa o λx=>match x with
 |.inl z=>f z
 |.inr y=>some y
noncomputable def oP{β:Type}(e:Bool)(a b:Option β):Option β:=open Classical in match e with|true=>if a=b then b else none|false=>b
noncomputable def Tr.den(cs:List Callee):(sig:List Ty)->Tr->aS->Option (qD sig)
 |_,.leaf _ _,_=>none
 |sig,.out k x,ρ=>match x.den ρ with
  |some v=>ky sig k v
  |none=>none
 |sig,.bS x t,ρ=>match x.den ρ with
  |some ⟨.bool,b⟩=>ae b (Tr.den cs sig t ρ)
  |_=>none
 |sig,.get v xs k t,ρ=>match xs.den ρ,k.den ρ with
  |some ⟨.list j,l⟩,some ⟨.int _,i⟩=>aa (au (α:=j.den) l i) λe=>Tr.den cs sig t ((v,⟨j,e⟩)::ρ)
  |_,_=>none
 |sig,.call v c x t,ρ=>match cs[c]? with
  |some C=>match x.den ρ with
   |some u=>match dr (ba C.args) u with
    |some a=>aa (C.fn a) λr=>Tr.den cs sig t ((v,⟨ba C.res,r⟩)::ρ)
    |none=>none
   |none=>none
  |none=>none
 |sig,.fP c a b,ρ=>match c.den ρ with
  |some ⟨.bool,b0⟩=>ab b0 (Tr.den cs sig a ρ) (Tr.den cs sig b ρ)
  |_=>none
 |sig,.gE c a b,ρ=>match c.den ρ with
  |some ⟨.list _,xs⟩=>oP (List.isEmpty xs) (Tr.den cs sig a ρ) (Tr.den cs sig b ρ)
  |_=>none
 |sig,.join ty v a b,ρ=>bif jn 0 a then Vu ty sig (Tr.den cs (ty::sig) a ρ) λz=>Tr.den cs sig b ((v,⟨ty,z⟩)::ρ)
  else aa (Tr.den cs [ty] a ρ) λz=>Tr.den cs sig b ((v,⟨ty,z⟩)::ρ)
 |sig,.loop ty v init body,ρ=>match sig with
  | []=>none
  |s::r=>match init.den ρ with
   |some u=>match dr ty u with
    |some B=>aB (λz=>Tr.den cs (ty::s::r) body ((v,⟨ty,z⟩)::ρ)) B
    |none=>none
   |none=>none
 |_,.bad _,_=>none
def ov:(ts:List Ty)->(ba ts).den->Nat->aS
 | [],_,_=>[]
 | [t],x,k=>[(k,⟨t,x⟩)]
 |t::u::ts,x,k=>(k,⟨t,x.1⟩)::ov (u::ts) x.2 (k+1)
noncomputable def tz(cs:List Callee)(T:Tr)(j k:List Ty)(a:(ba j).den):Option (ba k).den:=Tr.den cs [ba k] T (ov j a 0)
end Go.Sy
namespace Go.Sy
open Go Go.ag
inductive F2{α β:Type}(R:α->β->Prop):List α->List β->Prop
 |nil:F2 R [] []
 |cons {a b as bs}:R a b->F2 R as bs->F2 R (a::as) (b::bs)
section
variable {α β:Type}{R S:α->β->Prop}
theorem F2.mono(h:∀a b,R a b->S a b){as:List α}{j:List β}(k:F2 R as j):F2 S as j:=by
 induction k with
 |nil=>exact .nil
 |cons B _ F=>exact .cons (h _ _ B) F
def F2.len{as:List α}{j:List β}(k:F2 R as j):as.length=j.length:=by
 induction k with
 |nil=>rfl
 |cons _ _ B=>simp[B]
def F2.app{as cs:List α}{j ds:List β}(h:F2 R as j)(k:F2 R cs ds):F2 R (as++cs) (j++ds):=by
 induction h with
 |nil=>exact k
 |cons B _ F=>exact .cons B F
def F2.take{as:List α}{j:List β}(h:F2 R as j):∀n,F2 R (as.take n) (j.take n):=by
 induction h with
 |nil=>intro n;simp;exact .nil
 |cons k _ B=>intro n;cases n with
  |zero=>exact .nil
  |succ n=>exact .cons k (B n)
def F2.drop{as:List α}{j:List β}(h:F2 R as j):∀n,F2 R (as.drop n) (j.drop n):=by
 induction h with
 |nil=>intro n;simp;exact .nil
 |cons k B F=>intro n;cases n with
  |zero=>exact .cons k B
  |succ n=>exact F n
theorem F2.get{as:List α}{B:List β}(h:F2 R as B):∀{i:Nat}{a b},as[i]?=some a->B[i]?=some b->R a b:=by
 induction h with
 |nil=>intro i a b j;simp at j
 |cons F _ G=>intro i a b j k;cases i with
  |zero=>simp at j k;subst j;subst k;exact F
  |succ i=>simp at j k;exact G j k
def F2.left{as:List α}{j:List β}(h:F2 R as j){i:Nat}{a}(k:as[i]?=some a):∃b,j[i]?=some b/\R a b:=by
 have hi:=(c5.1 k).1
 have B:j[i]?=some (j[i]'(by rw[<-h.len];exact hi)):=c3 _
 exact⟨_,B,h.get k B⟩
def F2.right{as:List α}{j:List β}(h:F2 R as j){i:Nat}{b}(B:j[i]?=some b):∃a,as[i]?=some a/\R a b:=by
 have hi:=(c5.1 B).1
 have k:as[i]?=some (as[i]'(by rw[h.len];exact hi)):=c3 _
 exact⟨_,k,h.get k B⟩
theorem F2.none{as:List α}{j:List β}(h:F2 R as j){i:Nat}(k:as[i]?=none):j[i]?=none:=by rw[List.getElem?_eq_none_iff]at k⊢;rw[<-h.len];exact k
theorem F2.set{as:List α}{j:List β}(h:F2 R as j){a b}(F:R a b):∀i,F2 R (as.set i a) (j.set i b):=by
 induction h with
 |nil=>intro i;simp;exact .nil
 |cons k B G=>intro i;cases i with
  |zero=>exact .cons F B
  |succ i=>exact .cons k (G i)
theorem F2.map{k:Type}{f:k->α}{as:List k}{j:List β}(h:F2 (λc b=>R (f c) b) as j):F2 R (as.map f) j:=by
 induction h with
 |nil=>exact .nil
 |cons B _ F=>exact .cons B F
theorem F2.of{as:List α}{j:List β}(k:as.length=j.length)(h:∀(i:Nat) a b,as[i]?=some a->j[i]?=some b->R a b):F2 R as j:=by
 induction as generalizing j with
 |nil=>cases j with
  |nil=>exact .nil
  |cons _ _=>simp at k
 |cons a as G=>cases j with
  |nil=>simp at k
  |cons b j=>exact .cons (h 0 a b rfl rfl) (G (by simpa using k) λi x y B F=>h (i+1) x y B F)
end
def X.beq_eq:∀{x y:X},X.beq x y=true->x=y:=by
 intro x
 induction x<;>intro y h<;>cases y<;>simp[X.beq]at h<;>simp_all<;>grind
def Ext[bY](ρ ρ':aS):Prop:=∀i v,lk ρ i=some v->lk ρ' i=some v
theorem Ext.refl[bY](ρ:aS):Ext ρ ρ:=λ_ _ h=>h
theorem Ext.trans[bY]{a b c:aS}(h:Ext a b)(k:Ext b c):Ext a c:=λi v x=>k i v (h i v x)
def ey[bY](n:Nat)(ρ:aS):Prop:=∀p∈ρ,p.1<n
def En[bY]{n:Nat}:∀{ρ:aS}{i:Nat}{v:V},ey n ρ->lk ρ i=some v->i<n
 | (j,w)::r,i,v,k,h=>by
  simp only[lk]at h
  cases B:Nat.beq j i with
  |true=>
   have:=er B
   subst this
   exact k (j,w) (by simp)
  |false=>
   rw[B]at h
   exact En (λp F=>k p (by simp[F])) h
def Ext.push[bY]{n:Nat}{ρ:aS}(j:ey n ρ)(v:V):Ext ρ ((n,v)::ρ):=λi u h=>by
 have:=En j h
 have k:Nat.beq n i=false:=by
  cases e:Nat.beq n i with
  |false=>rfl
  |true=>have:=er e;omega
 simp only[lk,k,cond_false]
 exact h
def ey.push[bY]{n m:Nat}{ρ:aS}(j:ey n ρ)(h:n<m)(v:V):ey m ((n,v)::ρ):=λp hp=>by
 rcases fb.1 hp with rfl|hp
 ·exact h
 have:=j p hp;omega
def jZ[bY](n:Nat)(v:V)(ρ:aS):lk ((n,v)::ρ) n=some v:=by
 have:Nat.beq n n=true:=ia n
 simp[lk,this]
def pB[bY]{t:Ty}{v:V}{a:t.den}(h:dr t v=some a):v=⟨t,a⟩:=by
 obtain⟨u,b⟩:=v
 unfold dr at h
 split at h
 ·rename_i j
  cases j
  simp at h
  rw[h]
 cases h
def fZ[bY](t:Ty)(a:t.den):dr t ⟨t,a⟩=some a:=by simp[dr]
variable [aG]
def X.eW{ρ ρ':aS}(h:Ext ρ ρ'):∀{x:X}{v:V},x.den ρ=some v->x.den ρ'=some v:=by
 intro x
 induction x with
 |var i=>intro v k;exact h i v k
 |pair a b Z aa=>
  intro v k;simp only[X.den]at k⊢
  cases O:a.den ρ<;>cases U:b.den ρ<;>simp[O,U]at k
  rw[Z O,aa U];simp[k]
 |aD f x G|box x G|proj i j x G|mk i x G|u1 o x G=>
  intro v k;simp only[X.den]at k⊢
  cases B:x.den ρ<;>simp[B]at k
  rw[G B];simpa using k
 |u2 o x y M N=>
  intro v k;simp only[X.den]at k⊢
  cases B:x.den ρ<;>cases F:y.den ρ<;>simp[B,F]at k
  rw[M B,N F];simpa using k
 |u3 o x y z M N ab=>
  intro v k;simp only[X.den]at k⊢
  cases B:x.den ρ<;>cases F:y.den ρ<;>cases Y:z.den ρ<;>simp[B,F,Y]at k
  rw[M B,N F,ab Y];simpa using k
 |_=>intro v k;exact k
def cellsOf:(ts:List Ty)->(ba ts).den->List D
 | [],_=>[]
 | [t],x=>(t.enc x).cells
 |t::u::ts,x=>(t.enc x.1).cells++cellsOf (u::ts) x.2
class cK:Prop where
 cells:∀i a,aG.cells i a=cellsOf (aG.cj i) (aG.un i a)
 len:∀i a,(aG.cells i a).length=aG.sz i
 zO:∀i a,∀x∈aG.cells i a,x.one=true
def lC{t:Ty}(h:ct t=false)(j:∀a b,t ≠ .aN a b)(k:t ≠ .unit)(v:t.den):(t.enc v).cells=[t.enc v]/\(t.enc v).one=true:=by cases t<;>simp_all [ct,Ty.enc,Ty.ff,D.cells,D.one]
def isVal(t:Ty):Prop:=(∀a b,t ≠ .aN a b)/\t ≠ .unit
def RC(ρ:aS)(p:Ty×X)(d:D):Prop:=isVal p.1/\∃v:p.1.den,p.2.den ρ=some ⟨p.1,v⟩/\d=p.1.enc v
theorem Oy{x y:X}{r:List X}:fL (x::y::r)=.pair x (fL (y::r)):=rfl
theorem qy{ρ:aS}:∀{ts:List Ty}{xs:List X}{a:(ba ts).den},xs.length=ts.length->(∀j t,ts[j]?=some t->∃x,xs[j]?=some x/\x.den ρ=cW ts a j)->(fL xs).den ρ=some ⟨ba ts,a⟩
 | [],[],a,_,_=>by cases a;rfl
 | [t],[x],a,_,h=>by
  obtain⟨y,G,B⟩:=h 0 t rfl
  simp at G;subst G
  exact B
 |t::u::ts,x::y::xs,a,k,h=>by
  obtain⟨Y,F,B⟩:=h 0 t rfl
  simp at F;subst F
  have U:=qy (ts:=u::ts) (xs:=y::xs) (a:=a.2) (by simpa using k) (λj v M=>by
   obtain⟨z,N,O⟩:=h (j+1) v (by simpa using M)
   exact⟨z,by simpa using N,by simpa [cW]using O⟩)
  rw[Oy]
  simp only[X.den,B,cW,U]
  rfl
 | [],_::_,_,k,_=>by simp at k
 |_::_,[],_,k,_=>by simp at k
 | [_],_::_::_,_,k,_=>by simp at k
 |_::_::_,[_],_,k,_=>by simp at k
theorem LH:∀{ts:List Ty}{j:Nat}{t:Ty}(a:(ba ts).den),ts[j]?=some t->∃v:t.den,cW ts a j=some ⟨t,v⟩
 | [],j,t,a,h=>by simp at h
 | [u],0,t,a,h=>by simp at h;subst h;exact⟨a,rfl⟩
 | [u],j+1,t,a,h=>by simp at h
 |u::w::ts,0,t,a,h=>by simp at h;subst h;exact⟨a.1,rfl⟩
 |u::w::ts,j+1,t,a,h=>by
  obtain⟨v,k⟩:=LH (ts:=w::ts) a.2 (by simpa using h)
  exact⟨v,k⟩
theorem Ka{ρ:aS}{t u:Ty}{p:t.den×u.den}{x:X}(h:x.den ρ=some ⟨.aN t u,p⟩):(tB x).den ρ=some ⟨t,p.1⟩:=by
 have key:∀y:X,y.den ρ=some ⟨.aN t u,p⟩->(X.u1 .fst y).den ρ=some ⟨t,p.1⟩:=λy F=>by simp only[X.den,F];rfl
 by_cases B:∃a b,x=.pair a b
 ·obtain⟨a,b,rfl⟩:=B
  simp only[X.den]at h
  cases j:X.den ρ a<;>cases k:X.den ρ b<;>simp[j,k]at h
  rename_i v w
  obtain⟨G,M⟩:=v;obtain⟨N,O⟩:=w
  cases h
  simp[tB,j,k]
 have:tB x=.u1 .fst x:=by
  unfold tB;split
  ·exact absurd ⟨_,_,rfl⟩ B
  rfl
 rw[this];exact key x h
theorem NI{ρ:aS}{t u:Ty}{p:t.den×u.den}{x:X}(h:x.den ρ=some ⟨.aN t u,p⟩):(uU x).den ρ=some ⟨u,p.2⟩:=by
 have key:∀y:X,y.den ρ=some ⟨.aN t u,p⟩->(X.u1 .snd y).den ρ=some ⟨u,p.2⟩:=λy F=>by simp only[X.den,F];rfl
 by_cases B:∃a b,x=.pair a b
 ·obtain⟨a,b,rfl⟩:=B
  simp only[X.den]at h
  cases j:X.den ρ a<;>cases k:X.den ρ b<;>simp[j,k]at h
  rename_i v w
  obtain⟨G,M⟩:=v;obtain⟨N,O⟩:=w
  cases h
  simp[uU,j,k]
 have:uU x=.u1 .snd x:=by
  unfold uU;split
  ·exact absurd ⟨_,_,rfl⟩ B
  rfl
 rw[this];exact key x h
theorem zK{ρ:aS}:∀{ts:List Ty}{x:X}{a:(ba ts).den}(j:Nat),x.den ρ=some ⟨ba ts,a⟩->j<ts.length->(rO ts.length j x).den ρ=cW ts a j
 | [t],x,a,0,h,_=>h
 | [t],_,_,j+1,_,k=>by simp at k
 |t::u::ts,x,a,0,h,_=>Ka (t:=t) (u:=ba (u::ts)) (p:=a) h
 |t::u::ts,x,a,j+1,h,k=>zK (ts:=u::ts) j (NI (t:=t) (u:=ba (u::ts)) (p:=a) h) (by simpa using k)
end Go.Sy
namespace Go.Sy
open Go Go.ag
variable [aG]
def Mi{ρ:aS}{i j:Nat}{x:X}{a:bY.cB i}(h:x.den ρ=some ⟨.st i,a⟩):(X.proj i j x).den ρ=cW (aG.cj i) (aG.un i a) j:=by simp only[X.den,h,fZ (.st i) a]
def Wp{ρ:aS}{i k:Nat}{y:X}{a:bY.cB i}(h:(X.mk k y).den ρ=some ⟨.st i,a⟩):k=i/\y.den ρ=some ⟨ba (aG.cj i),aG.un i a⟩:=by
 simp only[X.den]at h
 cases B:y.den ρ with
 |none=>simp[B]at h
 |some v=>
  simp only[B]at h
  cases j:dr (ba (aG.cj k)) v with
  |none=>simp[j]at h
  |some b=>
   simp only[j]at h
   have F:=pB j
   injection h with h
   cases h
   refine⟨rfl,?_⟩
   rw[F,aG.pg]
def Li{ρ:aS}{i:Nat}{y:X}{a:(ba (aG.cj i)).den}(h:y.den ρ=some ⟨ba (aG.cj i),a⟩):(X.mk i y).den ρ=some ⟨.st i,aG.eN i a⟩:=by simp only[X.den,h,fZ]
def XB{ρ:aS}{i j:Nat}{x:X}{a:bY.cB i}(h:x.den ρ=some ⟨.st i,a⟩)(F:j<(aG.cj i).length):(uI i j x).den ρ=cW (aG.cj i) (aG.un i a) j:=by
 by_cases k:∃B y,x=.mk B y
 ·obtain⟨B,y,rfl⟩:=k
  obtain⟨rfl,G⟩:=Wp h
  simp only[uI,ia,cond_true]
  exact zK j G F
 have:uI i j x=.proj i j x:=by
  unfold uI;split
  ·exact absurd ⟨_,_,rfl⟩ k
  rfl
 rw[this];exact Mi h
def HB{i:Nat}{x:X}:∀{xs:List X}{j k:Nat}{y:X},qJ i x j xs=true->xs[k]?=some y->y=.proj i (j+k) x
 | [],j,k,y,_,h=>by simp at h
 |z::r,j,k,y,h,hk=>by
  have aa:∃B F w,z=.proj B F w:=by
   cases z<;>simp[qJ]at h
   exact⟨_,_,_,rfl⟩
  obtain⟨B,F,w,rfl⟩:=aa
  simp only[qJ,db]at h
  obtain⟨⟨⟨O,U⟩,Y⟩,Z⟩:=h
  have G:=er O;have M:=er U;have N:=X.beq_eq Y
  subst G;subst M;subst N
  cases k with
  |zero=>simp at hk;exact hk.symm
  |succ k=>simp at hk;rw[HB Z hk];congr 1;omega
def kc(ρ:aS)(ts:List Ty)(xs:List X)(a:(ba ts).den):Prop:=xs.length=ts.length/\∀j t,ts[j]?=some t->∃x,xs[j]?=some x/\x.den ρ=cW ts a j
theorem OA:∀{ts:List Ty}{a b:(ba ts).den},(∀j,j<ts.length->cW ts a j=cW ts b j)->a=b
 | [],a,b,_=>by cases a;cases b;rfl
 | [t],a,b,h=>by
  have:=h 0 (by simp)
  simp only[cW]at this
  injection this with this
  cases this
  rfl
 |t::u::ts,a,b,h=>by
  have k:=h 0 (by simp)
  simp only[cW]at k
  have k:a.1=b.1:=by
   injection k with k
   injection k
  have:=OA (ts:=u::ts) (a:=a.2) (b:=b.2) (λj B=>by simpa [cW]using h (j+1) (by simpa using B))
  exact Prod.ext k this
def yN{ρ:aS}{i:Nat}{xs:List X}{a:(ba (aG.cj i)).den}(h:kc ρ (aG.cj i) xs a):(pI i xs).den ρ=some ⟨.st i,aG.eN i a⟩:=by
 have af:(X.mk i (fL xs)).den ρ=some ⟨.st i,aG.eN i a⟩:=Li (qy h.1 h.2)
 by_cases U:∃B x r,xs=.proj B 0 x::r/\(Nat.beq i B&&qJ i x 1 r&&Nat.beq (r.length+1) (aG.cj i).length)=true
 ·obtain⟨B,x,r,rfl,k⟩:=U
  have e:pI i (.proj B 0 x::r)=x:=by simp only[pI,k,cond_true]
  rw[e]
  simp only[db]at k
  obtain⟨⟨aa,ab⟩,ad⟩:=k
  have Z:=er aa;have ai:=er ad
  subst Z
  have O:0<(aG.cj i).length:=by omega
  have key:∀j t,(aG.cj i)[j]?=some t->(X.proj i j x).den ρ=cW (aG.cj i) a j:=λj t ht=>by
   obtain⟨y,G,M⟩:=h.2 j t ht
   cases j with
   |zero=>simp at G;subst G;exact M
   |succ j=>
    simp at G
    have:=HB ab G
    rw[this,abq]at M;exact M
  have F:=key 0 _ (c3 O)
  obtain⟨aj,ag⟩:=LH a (c3 O)
  rw[ag]at F
  have ah:∃b:bY.cB i,x.den ρ=some ⟨.st i,b⟩:=by
   simp only[X.den]at F
   cases Y:x.den ρ with
   |none=>simp[Y]at F
   |some w=>
    simp only[Y]at F
    cases k:dr (.st i) w with
    |none=>simp[k]at F
    |some b=>exact⟨b,by rw[pB k]⟩
  obtain⟨b,N⟩:=ah
  have:aG.un i b=a:=OA λj ae=>by
   have:=key j _ (c3 ae)
   rw[Mi N]at this
   exact this
  rw[N,<-this,aG.EM]
 have e:pI i xs=.mk i (fL xs):=by
  unfold pI
  split
  ·rename_i B x r
   cases k:(Nat.beq i B&&qJ i x 1 r&&Nat.beq (r.length+1) (aG.cj i).length)with
   |true=>exact absurd ⟨B,x,r,rfl,k⟩ U
   |false=>simp
  rfl
 rw[e];exact af
class dw:Prop where
 val:∀i t,t∈aG.cj i->isVal t
def qO[cK][dw]{ρ:aS}:∀(f:Nat){t:Ty}{x:X}{v:t.den}{cs:List (Ty×X)},isVal t->x.den ρ=some ⟨t,v⟩->fO f t x=some cs->F2 (RC ρ) cs (t.enc v).cells:=by
 intro f
 induction f with
 |zero=>intro t x v cs _ _ h;simp[fO]at h
 |succ f ab=>
  intro t x v cs U aa h
  by_cases ag:∃i,t=.st i
  ·obtain⟨i,rfl⟩:=ag
   simp only[fO]at h
   have key:∀(ts:List Ty)(j:Nat)(cs:List (Ty×X))(b:(ba ts).den),(∀k t,ts[k]?=some t->(aG.cj i)[j+k]?=some t)->(∀k,k<ts.length->cW ts b k=cW (aG.cj i) (aG.un i v) (j+k)) ->
     qP (fO f) i x ts j=some cs->F2 (RC ρ) cs (cellsOf ts b):=by
    intro ts
    induction ts with
    |nil=>intro j cs b _ _ h;simp[qP]at h;subst h;exact .nil
    |cons t ts ah=>
     intro j cs b Z Y h
     simp only[qP]at h
     cases B:fO f t (uI i j x)with
     |none=>simp[B]at h
     |some a=>
      cases F:qP (fO f) i x ts (j+1)with
      |none=>simp[B,F]at h
      |some r=>
       simp only[B,F]at h
       injection h with h;subst h
       have O:(aG.cj i)[j]?=some t:=by simpa using Z 0 t rfl
       have ae:=(c5.1 O).1
       have M:=XB (j:=j) aa ae
       have G:=Y 0 (by simp)
       cases ts with
       |nil=>
        simp only[cW,Nat.add_zero]at G
        rw[<-G]at M
        simp[qP]at F
        subst F
        rw[mb]
        exact ab (dw.val i t (dk O)) M B
       |cons u ts=>
        simp only[cW,Nat.add_zero]at G
        rw[<-G]at M
        refine F2.app (ab (dw.val i t (dk O)) M B) ?_
        refine ah (j+1) r b.2 (λk w N=>?_) (λk N=>?_) F
        ·have:=Z (k+1) w (by simpa using N)
         rwa [r4,abq 1 k]
        have:=Y (k+1) (by simpa using N)
        simp only[cW]at this
        rwa [r4,abq 1 k]
   have:=key (aG.cj i) 0 cs (aG.un i v) (λk t h=>by simpa using h) (λk _=>by simp) h
   have e:((Ty.st i).enc v).cells=cellsOf (aG.cj i) (aG.un i v):=cK.cells i v
   rw[e];exact this
  have af:ct t=false:=by cases t<;>simp_all [ct]
  have ad:fO (f+1) t x=some [(t,x)]:=by cases t<;>simp_all [fO]
  rw[ad]at h
  injection h with h;subst h
  rw[(lC af U.1 U.2 v).1]
  exact .cons ⟨U,v,aa,rfl⟩ .nil
def Wn[cK][dw]{ρ:aS}:∀(f:Nat){t:Ty}{cs r:List (Ty×X)}{x:X}{ds:List D},isVal t->lO f t cs=some (x,r)->F2 (RC ρ) cs ds ->
  ∃v k,x.den ρ=some ⟨t,v⟩/\ds=(t.enc v).cells++k/\F2 (RC ρ) r k:=by
 intro f
 induction f with
 |zero=>intro t cs r x ds _ h;simp[lO]at h
 |succ f au=>
  intro t cs r x ds ad h M
  by_cases aq:∃i,t=.st i
  ·obtain⟨i,rfl⟩:=aq
   simp only[lO]at h
   cases N:rH (lO f) (aG.cj i) cs with
   |none=>simp[N]at h
   |some p=>
    obtain⟨xs,aw⟩:=p
    simp only[N]at h
    injection h with h;injection h with B F;subst B;subst F
    have key:∀(ts:List Ty)(cs:List (Ty×X))(ds:List D)(xs:List X)(r:List (Ty×X)),(∀t∈ts,isVal t)->rH (lO f) ts cs=some (xs,r)->F2 (RC ρ) cs ds ->
      ∃(a:(ba ts).den)(k:List D),kc ρ ts xs a/\ds=cellsOf ts a++k/\F2 (RC ρ) r k:=by
     intro ts
     induction ts with
     |nil=>intro cs ds xs r _ h M;simp[rH]at h;obtain⟨rfl,rfl⟩:=h;exact⟨(),ds,⟨rfl,λj t h=>by simp at h⟩,rfl,M⟩
     |cons t ts av=>
      intro cs ds xs r U h M
      simp only[rH]at h
      cases B:lO f t cs with
      |none=>simp[B]at h
      |some p=>
       obtain⟨x,Z⟩:=p
       simp only[B]at h
       cases F:rH (lO f) ts Z with
       |none=>simp[F]at h
       |some p=>
        obtain⟨ys,af⟩:=p
        simp only[F]at h
        injection h with h;injection h with ah ai;subst ah;subst ai
        obtain⟨v,ag,ae,rfl,ak⟩:=au (U t (by simp)) B M
        obtain⟨a,aa,O,rfl,ab⟩:=av Z ag ys af (λt ht=>U t (by simp[ht])) F ak
        cases ts with
        |nil=>
         obtain⟨an,_⟩:=O
         have:ys=[]:=by simpa using an
         subst this
         refine⟨v,aa,⟨rfl,λj w G=>?_⟩,?_,ab⟩
         ·cases j with
          |zero=>simp at G;subst G;exact⟨x,rfl,ae⟩
          |succ j=>simp at G
         simp[cellsOf]
        |cons u ts=>
         refine⟨(v,a),aa,⟨by simp[O.1],λj w G=>?_⟩,by simp[cellsOf],ab⟩
         cases j with
         |zero=>simp at G;subst G;exact⟨x,rfl,by simpa [cW]using ae⟩
         |succ j=>
          obtain⟨y,ar,al⟩:=O.2 j w (by simpa using G)
          exact⟨y,by simpa using ar,by simpa [cW]using al⟩
    obtain⟨a,k,O,rfl,Y⟩:=key (aG.cj i) cs ds xs aw (λt ht=>dw.val i t ht) N M
    refine⟨aG.eN i a,k,yN O,?_,Y⟩
    have e:((Ty.st i).enc (aG.eN i a)).cells=cellsOf (aG.cj i) (aG.un i (aG.eN i a)):=cK.cells i (aG.eN i a)
    rw[e,aG.pg]
  have ao:ct t=false:=by cases t<;>simp_all [ct]
  cases M with
  |nil=>exfalso;cases t<;>simp_all [lO]
  |cons aj Y=>
   rename_i p d ps ds
   obtain⟨u,y⟩:=p
   have N:lO (f+1) t ((u,y)::ps)=if t=u then some (y,ps)else none:=by cases t<;>simp_all [lO]
   rw[N]at h
   split at h
   ·rename_i e;subst e
    injection h with h;injection h with B F;subst B;subst F
    obtain⟨_,v,U,rfl⟩:=aj
    exact⟨v,ds,U,by rw[(lC ao ad.1 ad.2 v).1];rfl,Y⟩
   cases h
def EJ[cK][dw]{ρ:aS}{t:Ty}{cs:List (Ty×X)}{x:X}{ds:List D}(G:isVal t)(h:wB t cs=some x)(F:F2 (RC ρ) cs ds):∃v,x.den ρ=some ⟨t,v⟩/\ds=(t.enc v).cells:=by
 unfold wB at h
 split at h
 ·rename_i y M
  injection h with h;subst h
  obtain⟨v,N,j,k,B⟩:=Wn _ G M F
  cases B
  exact⟨v,j,by simpa using k⟩
 cases h
end Go.Sy
namespace Go.ag
open Go bP
variable {α:Type}
def kE(p:Int×α):D:=.int .i64 p.1
def vE[bP α](p:Int×α):D:=enc p.2
def EH(n:Int)(x:List (Int×α)):Option Nat:=x.findIdx? λp=>decide (n=p.1)
def oN(x:List (Int×α))(n:Int)(v:α):List (Int×α):=match EH n x with
 |some j=>x.set j (n,v)
 |none=>x++[(n,v)]
def zq(x:List (Int×α))(n:Int):List (Int×α):=match EH n x with
 |some j=>x.eraseIdx j
 |none=>x
def oL(x:List (Int×α))(n:Int):Bool:=(EH n x).isSome
theorem MD:List.range 5=[0,1,2,3,4]:=rfl
theorem MF:List.range 6=[0,1,2,3,4,5]:=rfl
theorem MG:List.range 7=[0,1,2,3,4,5,6]:=rfl
theorem MH:List.range 8=[0,1,2,3,4,5,6,7]:=rfl
structure x5(k:IntKind) where
 n:Int
 deriving DecidableEq
instance {k:IntKind}:bP (x5 k):=⟨λr=>.int k r.n,λd=>match d with |.int _ n=>⟨n⟩|_=>⟨0⟩,1,λ_=>rfl,λ_=>rfl,by simp[D.cells,D.one]⟩
theorem Jm{k:IntKind}(r:x5 k):enc r=.int k r.n:=rfl
theorem ND{k:IntKind}:bP.size (x5 k)=1:=rfl
theorem I9{k j:IntKind}(n:Int):(dec (.int j n):x5 k)=⟨n⟩:=rfl
end Go.ag