import Derived.Test.YthhlipkkjippfaaGreatDoorX2
set_option linter.all false
namespace Go.ag
open Go Go.RowKit
def vg(j:TypeId->Option (List Lf)):List Field->Nat->Option (List Lf)
 | [],_=>some []
 |f::r,off=>if f.name = "_" \/ f.offset≠off then none else match j f.type with
  |some ls=>(match vg j r (off+ls.length)with|some rs=>some (ls++rs)|none=>none)
  |none=>none
def mA(P:Program):Nat->TypeId->Option (List Lf)
 |0,_=>none
 |d+1,t=>match P.info? t with
  |none=>none
  |some i=>match P.underlying t with
   |some .bool=>some [.bool]
   |some (.int k)=>some [.int k]
   |some .string=>some [.str]
   |some (.struct fs)=>if P.stoodInHeld t then none else match vg (mA P d) fs.toList 0 with
    |some ls=>if i.size=ls.length then some ls else none
    |none=>none
   |_=>none
def nW:Lf->Value->Bool
 |.bool,.bool _=>true
 |.int k,.int j _=>k == j
 |.str,.string _=>true
 |_,_=>false
def eU:List Lf->List Value->Bool
 | [],[]=>true
 |x::xs,d::ds=>nW x d&&eU xs ds
 |_,_=>false
def uX:Value->Value->Bool
 |.bool a,.bool b=>a == b
 |.int _ a,.int _ b=>a == b
 |.string a,.string b=>a == b
 |_,_=>false
def gb:List Value->List Value->Bool
 | [],[]=>true
 |x::xs,y::ys=>uX x y&&gb xs ys
 |_,_=>false
def DV:∀{ls:List Lf}{vs:List Value},eU ls vs=true->vs.length=ls.length
 | [],[],_=>rfl
 |_::_,_::_,h=>by simp only[eU,dd]at h;simp[DV h.2]
 | [],_::_,h=>by simp[eU]at h
 |_::_,[],h=>by simp[eU]at h
def DU:∀{a b:List Lf}{vs:List Value},eU (a++b) vs=true->eU a (vs.take a.length)=true/\eU b (vs.drop a.length)=true
 | [],b,vs,h=>by simp[eU];exact h
 |x::a,b,v::vs,h=>by
  simp only[List.cons_append,eU,dd]at h
  obtain⟨j,k⟩:=DU h.2
  simp[eU,h.1,j,k]
 |_::_,_,[],h=>by simp[eU]at h
theorem I2:∀{a c:List Value}{b d:List Value},a.length=c.length->gb (a++b) (c++d)=(gb a c&&gb b d)
 | [],[],b,d,_=>by simp[gb]
 |x::a,y::c,b,d,h=>by simp only[List.cons_append,gb,I2 (a:=a) (c:=c) (by simpa using h),Bool.and_assoc]
 | [],_::_,_,_,h=>by simp at h
 |_::_,[],_,_,h=>by simp at h
section
variable {P:Program}
def ki(P:Program)(t:TypeId)(vs:List Value):Value:=match P.underlying t with
 |some (.struct _)=>.agg vs.toArray
 |_=>vs.headD undef
def YL{d:Nat}{t:TypeId}{ls:List Lf}(h:mA P d t=some ls):∃i,P.info? t=some i/\((∃fs,P.underlying t=some (.struct fs))->i.size=ls.length)/\((∀fs,P.underlying t≠some (.struct fs))->ls.length=1)/\(∀n e,P.underlying t≠some (.array n e))/\P.underlying t≠none:=by
 cases d with
 |zero=>simp[mA]at h
 |succ d=>
  simp only[mA]at h
  split at h
  ·cases h
  rename_i i hi
  refine⟨i,hi,?_⟩
  split at h
  ·rename_i j;injection h with h;subst h;simp[j]
  ·rename_i j;injection h with h;subst h;simp[j]
  ·rename_i j;injection h with h;subst h;simp[j]
  ·rename_i fs j
   split at h
   ·cases h
   split at h
   ·split at h
    ·rename_i k;injection h with h;subst h;simp[j,k]
    cases h
   cases h
  cases h
def MQ{d:Nat}{t:TypeId}{ls:List Lf}(h:mA P d t=some ls)(xs:Array Value)(off:Nat)(Z:off+ls.length<=xs.size)(w:World) :
  (part t xs off).run P w = .ok (ki P t ((xs.toList.drop off).take ls.length)) w:=by
 obtain⟨i,hi,G,N,O,U⟩:=YL h
 cases j:P.underlying t with
 |none=>exact absurd j U
 |some k=>
  have B:(isAgg t).run P w = .ok (match k with |.struct _ |.array _ _=>true|_=>false) w:=by
   unfold isAgg;simp only[gj,hL j,Result.andThen_ok];cases k<;>rfl
  have Y:(sizeOf t).run P w = .ok i.size w:=by simp[sizeOf,typeInfo,hi]
  cases k with
  |struct fs=>
   have:=G ⟨fs,j⟩
   simp only[part,gj,B,Result.andThen_ok,hQ,Y,Sem.run_pure,ki,j]
   congr 2
   apply k8.1
   rw[Array.toList_extract]
   simp[List.extract_eq_take_drop,this]
  |array n e=>exact absurd j (O n e)
  |_=>
   have M:=N (by simp[j])
   have F:off<xs.size:=by omega
   simp only[part,gj,B,Result.andThen_ok,hX,ih,e8 F,Sem.run_pure,ki,j]
   congr 1
   rw[M,h9 (by simpa using F)]
   simp
def MN:∀(d D:Nat) (t:TypeId) (ls:List Lf),mA P d t=some ls->d<=D->∀(xs ys:List Value),eU ls xs=true->eU ls ys=true->∀w,(Op.equalIn D t (ki P t xs) (ki P t ys)).run P w = .ok (gb xs ys) w:=by
 intro d
 induction d with
 |zero=>intro D t ls h;simp[mA]at h
 |succ d ax=>
  intro D t ls h aB xs ys N O w
  obtain⟨D,rfl⟩:∃ag,D=ag+1:=⟨D-1,by omega⟩
  have aD:=h
  simp only[mA]at h
  split at h
  ·cases h
  rename_i i hi
  have one:∀{x:Lf} {vs:List Value},eU [x] vs=true->∃v,vs=[v]/\nW x v=true:=by
   intro x vs h
   match vs,h with
   | [v],h=>simp[eU]at h;exact⟨v,rfl,h⟩
   | [],h=>simp[eU]at h
   |_::_::_,h=>simp[eU]at h
  split at h
  ·rename_i B
   injection h with h;subst h
   obtain⟨u,rfl,F⟩:=one N
   obtain⟨v,rfl,G⟩:=one O
   cases u<;>simp[nW]at F
   cases v<;>simp[nW]at G
   simp only[ki,B,List.headD,gb,uX,q0]
   exact run_equalIn_bool w D t _ _ B
  ·rename_i k B
   injection h with h;subst h
   obtain⟨u,rfl,F⟩:=one N
   obtain⟨v,rfl,G⟩:=one O
   cases u<;>simp[nW]at F
   cases v<;>simp[nW]at G
   subst F;subst G
   simp only[ki,B,List.headD,gb,uX,q0]
   exact abp w D t _ _ _ _ B
  ·rename_i B
   injection h with h;subst h
   obtain⟨u,rfl,F⟩:=one N
   obtain⟨v,rfl,G⟩:=one O
   cases u<;>simp[nW]at F
   cases v<;>simp[nW]at G
   simp only[ki,B,List.headD,gb,uX,q0]
   rw[run_equalIn_string w D t _ _ B,abo]
  ·rename_i fs B
   split at h
   ·cases h
   rename_i aw
   split at h
   ·rename_i az an
    split at h
    ·injection h with h;subst h
     have aq:P.underlying t=some (.struct (P.fieldsOf t)):=by simp[Program.fieldsOf,B]
     have ao:P.fieldsOf t=fs:=by simp[Program.fieldsOf,B]
     simp only[ki,B]
     rw[run_equalIn_struct w D t _ _ aq (by simpa using aw),ao]
     have key:∀(M:List Field) (off:Nat) (rs:List Lf),vg (mA P d) M off=some rs->∀(xs ys:List Value),off+rs.length=xs.length->xs.length=ys.length->eU rs (xs.drop off)=true->eU rs (ys.drop off)=true ->
       (Op.eqFields D xs.toArray ys.toArray M).run P w = .ok (gb (xs.drop off) (ys.drop off)) w:=by
      intro M
      induction M with
      |nil=>
       intro off rs j xs ys U ab ad ae
       simp[vg]at j;subst j
       have aj:xs.drop off=[]:=lB (by simp at U;omega)
       have ak:ys.drop off=[]:=lB (by simp at U;omega)
       rw[aj,ak];simp[Op.eqFields,gb]
      |cons f M ay=>
       intro off rs j xs ys U ab ad ae
       simp only[vg]at j
       split at j
       ·cases j
       rename_i af
       have ar:f.name ≠ "_" :=λe=>af (.inl e)
       have au:f.offset=off:=Decidable.not_not.1 λe=>af (.inr e)
       split at j
       ·rename_i ls Y
        split at j
        ·rename_i aA av
         injection j with j;subst j
         rw[e4]at U
         obtain⟨ah,Z⟩:=DU ad
         obtain⟨ai,aa⟩:=DU ae
         rw[tx]at Z aa
         simp only[Op.eqFields,if_pos ar,gj,au]
         rw[MQ Y xs.toArray off (by simp;omega) w]
         simp only[Result.andThen_ok]
         rw[MQ Y ys.toArray off (by simp;omega) w]
         simp only[Result.andThen_ok]
         rw[ax D f.type ls Y (by omega) _ _ ah ai w]
         simp only[Result.andThen_ok,Sem.run_ite]
         have al:gb (xs.drop off) (ys.drop off)=(gb ((xs.drop off).take ls.length) ((ys.drop off).take ls.length)&&gb (xs.drop (off+ls.length)) (ys.drop (off+ls.length))):=by
          conv=>lhs;rw[<-sh ls.length (xs.drop off),<-sh ls.length (ys.drop off)]
          rw[I2 (by simp;omega),tx,tx]
         rw[al]
         cases aC:gb ((xs.drop off).take ls.length) ((ys.drop off).take ls.length)with
         |false=>simp
         |true=>
          simp only[qn,hX,ih,o0]
          exact ay (off+ls.length) aA av xs ys (by omega) ab Z aa
        cases j
       cases j
     have aE:=DV N
     have aF:=DV O
     have:=key fs.toList 0 az an xs ys (by omega) (by omega) (by simpa using N) (by simpa using O)
     simpa using this
    cases h
   cases h
  cases h
def CM(P:Program)(t:TypeId)(ls:List Lf):Bool:=decide (mA P 30 t=some ls) && !P.eqGuardType P.depth t&&(match P.underlying t with|some .bool=>decide (ls=[.bool])|some (.struct _)=>decide (ls≠[.bool])|_=>false)
def DW{I:av}:∀{ls:List Lf}{vs:List Value}{ds:List D},vs.length=ds.length->(∀(i:Nat) v d,vs[i]?=some v->ds[i]?=some d->Rd I v d)->fk ls ds=true->eU ls vs=true
 | [],[],[],_,_,_=>rfl
 |x::ls,v::vs,d::ds,j,k,h=>by
  simp only[fk,dd]at h
  simp only[eU,dd]
  refine⟨?_,DW (by simpa using j) (λi u e G F=>k (i+1) u e (by simpa using G) (by simpa using F)) h.2⟩
  have B:=k 0 v d rfl rfl
  cases B<;>cases x<;>simp[qR]at h<;>simp[nW,h]
 | [],_::_,[],j,_,_=>by simp at j
 | [],[],_::_,j,_,_=>by simp at j
 | [],_::_,_::_,_,_,h=>by simp[fk]at h
 |_::_,[],_::_,j,_,_=>by simp at j
 |_::_,_::_,[],j,_,_=>by simp at j
 |_::_,[],[],_,_,h=>by simp[fk]at h
def I4{I:av}:∀{ls:List Lf}{vs k:List Value}{ds j:List D},vs.length=ds.length->k.length=j.length->(∀(i:Nat) v d,vs[i]?=some v->ds[i]?=some d->Rd I v d)->(∀(i:Nat) v d,k[i]?=some v->j[i]?=some d->Rd I v d) ->
  fk ls ds=true->fk ls j=true->gb vs k=cV ds j
 | [],[],[],[],[],_,_,_,_,_,_=>rfl
 |x::ls,v::vs,u::k,d::ds,e::j,h1,O,G,M,k1,k2=>by
  simp only[fk,dd]at k1 k2
  simp only[gb,cV]
  rw[I4 (ls:=ls) (by simpa using h1) (by simpa using O) (λi a b B F=>G (i+1) a b (by simpa using B) (by simpa using F)) (λi a b B F=>M (i+1) a b (by simpa using B) (by simpa using F)) k1.2 k2.2]
  congr 1
  have N:=G 0 v d rfl rfl
  have b0:=M 0 u e rfl rfl
  cases N<;>cases x<;>simp[qR]at k1<;>cases b0<;>simp[qR]at k2<;>rfl
 | [],v::vs,_,[],_,h,_,_,_,_,_=>by simp at h
 | [],[],_,d::ds,_,h,_,_,_,_,_=>by simp at h
 | [],v::vs,_,d::ds,_,_,_,_,_,h,_=>by simp[fk]at h
 | [],[],u::k,[],[],_,h,_,_,_,_=>by simp at h
 | [],[],[],[],e::j,_,h,_,_,_,_=>by simp at h
 | [],[],u::k,[],e::j,_,_,_,_,_,h=>by simp[fk]at h
 |x::ls,[],_,d::ds,_,h,_,_,_,_,_=>by simp at h
 |x::ls,v::vs,_,[],_,h,_,_,_,_,_=>by simp at h
 |x::ls,[],_,[],_,_,_,_,_,h,_=>by simp[fk]at h
 |x::ls,v::vs,[],d::ds,e::j,_,h,_,_,_,_=>by simp at h
 |x::ls,v::vs,u::k,d::ds,[],_,h,_,_,_,_=>by simp at h
 |x::ls,v::vs,[],d::ds,[],_,_,_,_,_,h=>by simp[fk]at h
def qj.EB{ae:List (Nat×List Lf)}(h:ae.all (λp=>CM P p.1 p.2)=true):qj P (λt=>(ae.find? λp=>p.1 == t).map (·.2)):=by
 intro t ls ht au x y I u v a b w ab ad ao af
 have ag:CM P t ls=true:=by
  cases O:ae.find? (λp=>p.1 == t)with
  |none=>simp[O]at ht
  |some p=>
   simp[O]at ht
   have M:=k7 O
   have aa:=dT.1 h p (hE O)
   simp at M;subst M;subst ht;exact aa
 simp only[CM,dd,ek,hC]at ag
 obtain⟨⟨M,aa⟩,B⟩:=ag
 rcases ao with ⟨p,q,rfl,rfl,rfl⟩| ⟨xs,ys,rfl,rfl,aq,ah,ai⟩
 ·cases ab;cases ad
  have N:P.underlying t=some .bool:=by
   split at B
   ·assumption
   ·simp at B
   cases B
  have F:=MN 30 10000 t _ M (by omega) [.bool p] [.bool q] rfl rfl w
  have G:∀p,ki P t [.bool p] = .bool p:=λp=>by unfold ki;rw[N];rfl
  rw[G,G]at F
  simp only[gj,eqGuard_at_bool,Sem.run_pure,Result.andThen_ok]
  rcases af with rfl|rfl<;>simp[binOp,Op.equal,Op.maxDepth,F,gb,uX,ga]
 have ar:∃fs,P.underlying t=some (.struct fs):=by
  split at B
  ·exact absurd (hD B) aq
  ·rename_i fs N;exact⟨fs,N⟩
  cases B
 obtain⟨fs,N⟩:=ar
 generalize U:D.agg xs=ax at ab
 generalize Y:D.agg ys=ay at ad
 cases ab<;>first| (cases U;done)|skip
 rename_i cs ds aj aA ak
 injection U with U;subst U
 cases ad<;>first| (cases Y;done)|skip
 rename_i Z az al aB an
 injection Y with Y;subst Y
 have av:eU ls cs.toList=true:=DW (by simpa using aj) (λi v d k j=>ak i v d (by simpa using k) j) ah
 have aw:eU ls Z.toList=true:=DW (by simpa using al) (λi v d k j=>an i v d (by simpa using k) j) ai
 have F:=MN 30 10000 t _ M (by omega) cs.toList Z.toList av aw w
 have G:∀cs:Array Value,ki P t cs.toList = .agg cs:=λcs=>by unfold ki;rw[N]
 rw[G,G,I4 (by simpa using aj) (by simpa using al) (λi v d k j=>ak i v d (by simpa using k) j) (λi v d k j=>an i v d (by simpa using k) j) ah ai]at F
 simp only[gj,run_eqGuard_agg w au t x y cs Z aa,Result.andThen_ok]
 rcases af with rfl|rfl
 ·rw[run_eql_struct w];simp[F,ga]
 rw[run_neq_struct w];simp[F,ga]
end
end Go.ag
namespace Go.ag
open Go Go.RowKit
variable [bd]
theorem I7{V:Env}{ρ ρ':Operand->T}{l:List AO}{nid:Nat}{o:Oper}(h:∀x∈o.op.operands,ρ x=ρ' x):evalOp V ρ l nid o=evalOp V ρ' l nid o:=by
 obtain⟨ai,ae,ty,aj,af,g⟩:=o
 cases ae with
 |build t parts=>
  have:parts.toList.map (λp=>(p.1,ρ p.2))=parts.toList.map (λp=>(p.1,ρ' p.2)):=hP λp B=>by
   rw[h p.2 (by simp only[Op.operands];simp;exact⟨p.1,by simpa using B⟩)]
  simp only[evalOp,this]
 |buildSlice t len parts=>
  have:parts.toList.map (λp=>gp (ρ p.2))=parts.toList.map (λp=>gp (ρ' p.2)):=hP λp B=>by
   rw[h p.2 (by simp only[Op.operands];simp;exact⟨p.1,by simpa using B⟩)]
  have O:parts.toList.mapM (λp=>gp (ρ p.2))=parts.toList.mapM (λp=>gp (ρ' p.2)):=by
   have e:∀(f:Nat×Operand->Option D)(ps:List (Nat×Operand)),ps.mapM f=(ps.map f).mapM id:=λf ps=>by
    induction ps with
    |nil=>rfl
    |cons p ps ad=>simp only[mo,fv,ad,id]
   rw[e,e,this]
  have U:parts.toList.map (λp=>ρ p.2)=parts.toList.map (λp=>ρ' p.2):=hP λp B=>by
   rw[h p.2 (by simp only[Op.operands];simp;exact⟨p.1,by simpa using B⟩)]
  simp only[evalOp,O,U]
 |slice t x lo hi mx=>
  have j:=h x (by simp[Op.operands])
  have M:lo.map ρ=lo.map ρ':=by cases lo with|none=>rfl|some a=>simp;exact h a (by simp[Op.operands])
  have G:hi.map ρ=hi.map ρ':=by cases hi with|none=>rfl|some a=>simp;exact h a (by simp[Op.operands])
  cases mx with
  |none=>simp only[evalOp,j,M,G]
  |some m=>
   have ab:=h m (by simp[Op.operands])
   simp only[evalOp,j,M,G,ab]
 |call c=>
  have F:c.args.toList.map ρ=c.args.toList.map ρ':=hP λx j=>h x (by simp[Op.operands,Call.operands];right;simpa using j)
  have k:∀x∈c.args.toList,ρ x=ρ' x:=λx j=>h x (by simp[Op.operands,Call.operands];right;simpa using j)
  obtain⟨N,ah,ag⟩:=c
  cases N with
  |value f=>
   have aa:=h f (by simp[Op.operands,Call.operands])
   simp only[evalOp,aa,F]
  |invoke r n=>simp only[evalOp]
  |builtin b=>
   cases b<;>simp only[evalOp]<;>first|rfl| (simp only at F k;(try rw[F]);done)| (simp only at F k;split<;>first|rfl| (rename_i Y _;simp only[Y,fb,p5,r3,Qd]at k;first|rw[k _ rfl]|rw[k _ (.inl rfl),k _ (.inr rfl)]))
 |makeMap t r=>cases r<;>simp only[evalOp]
 |makeFunc fn first caps=>
  have Z:caps.toList.map ρ=caps.toList.map ρ':=hP λx j=>h x (by simp[Op.operands];right;simpa using j)
  cases fn<;>simp only[evalOp]
  rw[Z]
 |_=>simp only[evalOp]<;>first|rfl| (simp only[Op.operands]at h;simp[h])
def lP(o:Oper):Bool:=match o.op with
 |.move _ |.assign _ |.pick .. |.field .. |.binOp .. |.unOp .. |.extract .. |.slice .. =>true
 |_=>false
theorem Tk{V:Env}{ρ:Operand->T}{l l':List AO}{nid nid':Nat}{o:Oper}(h:lP o=true)(k:(evalOp V ρ l nid o).bq = .none)(j:(evalOp V ρ l nid o).ob):evalOp V ρ l' nid' o=evalOp V ρ l nid o:=by
 obtain⟨O,M,ty,U,N,g⟩:=o
 cases M<;>simp[lP]at h
 case slice t x lo hi mx=>
  cases mx with
  |some m=>
   exfalso
   simp only[evalOp]at k j
   split at j
   ·rename_i B G
    simp only[B,G]at k
    rcases Bh (E:=V.E) (l:=l) (lo:=lo.map ρ) (hi:=hi.map ρ) (mx:=ρ m)with h|h
    ·rw[h]at k;cases k
    rw[h]at j;exact j.elim
   exact j.elim
  |none=>
   simp only[evalOp]at k j⊢
   split at j
   ·rfl
   ·rename_i B G
    exfalso
    simp only[B,G]at k
    split at j
    ·rename_i F
     rw[if_pos F]at k
     rcases Gs (E:=V.E) (l:=l) (lo:=lo.map ρ) (hi:=hi.map ρ)with h|h
     ·rw[h]at k;cases k
     rw[h]at j;exact j.elim
    rename_i F
    rw[if_neg F]at k
    split at j
    ·split at j
     ·simp_all
     exact j.elim
    exact j.elim
   ·rfl
   exact j.elim
 all_goals simp only[evalOp]
theorem Tl{V:Env}{ρ:Operand->T}{l:List AO}{nid:Nat}{o:Oper}(h:lP o=true)(b:AO):(evalOp V ρ l nid o).bq ≠ .new b:=by
 obtain⟨F,k,ty,G,B,g⟩:=o
 cases k<;>simp[lP]at h<;>simp only[evalOp,R.ok]
 ·simp
 ·simp
 ·unfold nc;simp only
  repeat' split
  all_goals simp[R.bad]
 ·unfold kf;repeat' split
  all_goals simp[R.bad]
 ·unfold kf;repeat' split
  all_goals simp[R.bad]
 ·rename_i mx
  cases mx
  ·simp only
   repeat' split
   all_goals first| (simp[R.bad];done)| (intro j;rcases Gs (E:=V.E) (l:=l)with h|h<;>rw[h]at j<;>cases j;done)| (unfold jh;(repeat' split)<;>simp[R.bad,R.ok];done)| (unfold rR;split<;>simp[R.bad,R.ok];done)
  simp only
  split
  ·intro j;rcases Bh (E:=V.E) (l:=l)with h|h<;>rw[h]at j<;>cases j
  simp[R.bad]
 ·unfold lL;repeat' split
  all_goals simp[R.bad,R.ok]
 repeat' split
 all_goals simp[R.bad]
def eZ(l l':List AO):Prop:=∀id,isVar l id=true->l'[id]?=l[id]?
theorem eZ.refl(l:List AO):eZ l l:=λ_ _=>rfl
theorem eZ.trans{l l' B:List AO}(h:eZ l l')(k:eZ l' B):eZ l B:=λid j=>(k id (by have:=h id j;unfold isVar at j⊢;rw[this];exact j)).trans (h id j)
def eZ.append(l r:List AO):eZ l (l++r):=λ_ j=>e3 (yI j)
theorem eZ.set{l:List AO}{id:Nat}(o:AO)(h:isVar l id=false):eZ l (l.set id o):=λk j=>by
 rw[e5]
 by_cases e:id=k
 ·subst e;rw[h]at j;cases j
 simp[e]
def NZ{l l':List AO}{t:T}{d:D}(h:cH l t=some (d,l')):eZ l l':=by
 cases t<;>simp only[cH]at h
 case d x=>simp at h;rw[<-h.2];exact .refl _
 case bu s=>simp at h;rw[<-h.2];exact .refl _
 case bB id x=>simp at h;rw[<-h.2];exact .refl _
 case row id=>
  split at h
  ·simp at h;rw[<-h.2];exact .refl _
  ·rename_i j;simp at h;rw[<-h.2];exact .set _ (by unfold isVar;rw[j];rfl)
  cases h
 case map id=>
  split at h
  ·simp at h;rw[<-h.2];exact .refl _
  ·rename_i j;simp at h;rw[<-h.2];exact .set _ (by unfold isVar;rw[j];rfl)
  cases h
 all_goals cases h
def Hv:∀(ts:List T){l l':List AO}{ds:List D},cZ l ts=some (ds,l')->eZ l l'
 | [],l,l',ds,h=>by simp[cZ]at h;rw[<-h.2];exact .refl _
 |t::ts,l,l',ds,h=>by
  simp only[cZ]at h
  cases j:cH l t with
  |none=>simp[j]at h
  |some p=>
   obtain⟨x,l1⟩:=p
   simp only[j]at h
   cases k:cZ l1 ts with
   |none=>simp[k]at h
   |some q=>
    obtain⟨xs,B⟩:=q
    simp only[k,c5,e1]at h
    rw[<-h.2]
    exact(NZ j).trans (Hv ts k)
def Bo{l l':List AO}{t:T}{d:D}(h:dc l t=some (d,l')):eZ l l':=by
 by_cases j:∃ts,t = .agg ts
 ·obtain⟨ts,rfl⟩:=j
  obtain⟨ds,rfl,k⟩:=xj h
  exact Hv ts k
 rw[xk λts h=>j ⟨ts,h⟩]at h
 exact NZ h
def Hx:∀(ts:List T){l l':List AO}{ds:List D},eP l ts=some (ds,l')->eZ l l'
 | [],l,l',ds,h=>by simp[eP]at h;rw[<-h.2];exact .refl _
 |t::ts,l,l',ds,h=>by
  simp only[eP]at h
  cases j:dc l t with
  |none=>simp[j]at h
  |some p=>
   obtain⟨x,l1⟩:=p
   simp only[j]at h
   cases k:eP l1 ts with
   |none=>simp[k]at h
   |some q=>
    obtain⟨xs,B⟩:=q
    simp only[k,c5,e1]at h
    rw[<-h.2]
    exact(Bo j).trans (Hx ts k)
def OO{E:bW}{t:TypeId}{l:List AO}{nid:Nat}{s x:T}:(∀l',(gN E t l nid s x).bq = .aK l'->eZ l l')/\∀a,(gN E t l nid s x).bq ≠ .new a:=by
 unfold gN
 split;rotate_left
 ·exact⟨by simp[R.bad],by simp[R.bad]⟩
 split;rotate_left
 ·exact⟨by simp[R.bad],by simp[R.bad]⟩
 split;rotate_left
 ·exact⟨by simp[R.bad],by simp[R.bad]⟩
 rename_i B
 have k:=Bo B
 split;rotate_left
 ·exact⟨by simp[R.bad],by simp[R.bad]⟩
 split
 ·refine⟨λl' h=>?_,by simp⟩
  simp at h;rw[<-h];exact k.trans (.append _ _)
 ·split;rotate_left
  ·exact⟨by simp[R.bad],by simp[R.bad]⟩
  rename_i j
  split;rotate_left
  ·exact⟨by simp[R.bad],by simp[R.bad]⟩
  refine⟨λl' h=>?_,by simp⟩
  simp at h;rw[<-h]
  exact(k.trans (.set _ (by unfold isVar;rw[j];rfl))).trans (.append _ _)
 ·split;rotate_left
  ·exact⟨by simp[R.bad],by simp[R.bad]⟩
  rename_i j
  split;rotate_left
  ·exact⟨by simp[R.bad],by simp[R.bad]⟩
  refine⟨λl' h=>?_,by simp⟩
  simp at h;rw[<-h]
  exact(k.trans (.set _ (by unfold isVar;rw[j];rfl))).trans (.append _ _)
 exact⟨by simp[R.bad],by simp[R.bad]⟩
def lQ(o:Oper):Bool:=lP o||match o.op with
 |.buildSlice _ n _=>n != 0
 |.call c=>(match c.callee with |.builtin .append=>true|_=>false)
 |.load .. =>true
 |_=>false
def Vu{i:TI}{size:Nat}{els:List D}{k off:Nat}:(gV i size els k off).bq = .none:=by
 unfold gV;repeat' split
 all_goals simp[R.ok,R.bad]
def Vt{E:bW}{t:TypeId}{l:List AO}{a:T}:(eV E t l a).bq = .none:=by
 unfold eV;repeat' split
 all_goals first|exact Vu|simp[R.ok,R.bad]
theorem Va{V:Env}{ρ:Operand->T}{l:List AO}{nid:Nat}{o:Oper}(h:lQ o=true):(∀l',(evalOp V ρ l nid o).bq = .aK l'->eZ l l')/\∀a,(evalOp V ρ l nid o).bq ≠ .new a:=by
 obtain⟨U,G,ty,Y,M,g⟩:=o
 have j:∀{r:R},r.bq = .none->(∀l',r.bq = .aK l'->eZ l l')/\∀a,r.bq ≠ .new a:=λe=>⟨by rw[e];simp,by rw[e];simp⟩
 cases G<;>simp[lQ,lP]at h<;>simp only[evalOp]
 case call c=>
  obtain⟨oX,N,O⟩:=c
  cases oX<;>simp at h
  rename_i b
  cases b<;>simp at h
  simp only
  split
  ·split
   ·exact OO
   exact j rfl
  exact j rfl
 case slice t x lo hi mx=>
  cases mx with
  |some m=>
   simp only
   split
   ·rcases Bh (E:=V.E) (l:=l) (lo:=lo.map ρ) (hi:=hi.map ρ) (mx:=ρ m)with h|h
    ·refine⟨λl' k=>?_,by rw[h];simp⟩
     rw[h]at k;injection k with k;subst k;exact .refl _
    rw[h];exact j rfl
   exact j rfl
  |none=>
   simp only
   split
   ·split
    ·refine j ?_
     unfold jh;repeat' split
     all_goals simp[R.ok,R.bad]
    exact j rfl
   ·split
    ·rcases Gs (E:=V.E) (l:=l) (lo:=lo.map ρ) (hi:=hi.map ρ)with h|h
     ·refine⟨λl' k=>?_,by rw[h];simp⟩
      rw[h]at k;injection k with k;subst k;exact .refl _
     rw[h];exact j rfl
    split
    ·rename_i F
     split
     ·refine⟨λl' h=>?_,by simp⟩
      simp at h;rw[<-h];exact Bo F
     exact j rfl
    exact j rfl
   ·refine j ?_
    unfold rR;(repeat' split)<;>simp[R.ok,R.bad]
   exact j rfl
 case buildSlice t n parts=>
  simp only[if_neg h]
  split
  ·split
   ·split
    ·split<;>exact j rfl
    split
    ·rename_i B
     split
     ·refine⟨λl' h=>?_,by simp⟩
      simp at h;rw[<-h];exact Hx _ B
     exact j rfl
    exact j rfl
   exact j rfl
  exact j rfl
 case pick c a b=>
  refine j ?_
  unfold nc;simp only
  repeat' split
  all_goals simp[R.bad]
 all_goals refine j ?_
 all_goals first
  |exact Vt
  | (unfold nc;repeat' split)<;>simp[R.ok,R.bad];done
  | (unfold kf;repeat' split)<;>simp[R.ok,R.bad];done
  | (unfold lL;repeat' split)<;>simp[R.ok,R.bad];done
  | (repeat' split)<;>simp_all [R.ok,R.bad,kf];done
  |skip
end Go.ag
namespace Go.ag
open Go Go.RowKit
variable [bd][bP]
def xn(ops:List Oper):Nat->Oper->Nat->Bool
 |0,o,j=>(waits o).contains j
 |n+1,o,j=>(waits o).contains j||(waits o).any λk=>match ops[k]? with|some q=>xn ops n q j|none=>false
def rX(ops:List Oper)(n1:Nat)(F:List Nat):Bool:=(List.range ops.length).all λi=>decide (i<n1)||match ops[i]? with|some o=>(List.range i).all (λj=>F.contains j||xn ops 8 o j)|none=>true
def ny(ops:List Oper)(k:Array Bool):Prop:=∀(i:Nat) o,ops[i]?=some o->k.getD i false=true->∀j∈waits o,k.getD j false=true
def GY{ops:List Oper}{G:Array Bool}(M:ny ops G):∀(n:Nat)(o:Oper)(j:Nat),(∀k∈waits o,G.getD k false=true)->xn ops n o j=true->G.getD j false=true
 |0,o,j,hw,h=>hw j (j3.1 h)
 |n+1,o,j,hw,h=>by
  unfold xn at h
  rw[h6]at h
  rcases h with h|h
  ·exact hw j (j3.1 h)
  obtain⟨k,N,B⟩:=hU.1 h
  cases F:ops[k]? with
  |none=>rw[F]at B;cases B
  |some q=>
   rw[F]at B
   exact GY M n q j (M k q F (hw k N)) B
theorem ny.step{ops:List Oper}{G M:Array Bool}(Y:ny ops G){i:Nat}{o:Oper}(Z:ops[i]?=some o)(aa:∀j∈waits o,G.getD j false=true)(U:∀k,M.getD k false=if k=i then true else G.getD k false):ny ops M:=by
 intro k q F B j N
 rw[U]at B⊢
 split
 ·rfl
 by_cases O:k=i
 ·subst O;rw[Z]at F;cases F;exact aa j N
 rw[if_neg O]at B;exact Y k q F B j N
def qK(ops:List Oper)(n1:Nat)(F:List Nat):Bool:=F.all λf=>decide (f<n1)&&match ops[f]? with
 |some o=>o.guard.isNone&&(List.range ops.length).all λi=>decide (i<n1)||match ops[i]? with
  |some q=>((waits q).contains f||match q.dst with|some d=>!(fC ops o).contains d&&o.dst != some d|none=>true)&&(match o.dst with|some d=>!(fC ops q).contains d||(waits q).contains f|none=>true)
  |none=>true
 |none=>false
def C3(ops:List Oper)(n1:Nat)(F:List Nat):Bool:=(F.all λf=>match ops[f]? with|some o=>lP o|none=>true)&&qK ops n1 F
def sg(V:Env)(B:Bool)(l0:List AO)(o:Oper)(x:Rec):Prop:=x.new=none/\(x.pc=[]->x.ob->∀l',(B=true\/eZ l0 l')->evalOp V (λy=>(strip x.pc (bE x.tm y)).1) l' 0 o=⟨x.t,.none,x.ob⟩)
section
variable {P:Program}{V:Env}{w0:World}{I0:av}{n:Nat}{md:Way}{ops:List Oper}{Q:Exit->Act->World->Prop}{K:St->Prop}
def NN{n1:Nat}{F:List Nat}(h:rX ops n1 F=true){i:Nat}{o:Oper}(k:ops[i]?=some o)(hi:n1<=i):∀j,j<i->j∉F->xn ops 8 o j=true:=by
 intro j G B
 have:=dT.1 h i (hR.2 (da.1 k).1)
 simp only[k,h6,ek,dT,hR,j3]at this
 rcases this with h|h
 ·omega
 exact(h j G).resolve_left B
def lN{n1:Nat}{F:List Nat}(h:qK ops n1 F=true){f:Nat}(U:f∈F):f<n1/\∀o,ops[f]?=some o->o.guard=none /\
  ∀(i:Nat) q,n1<=i->ops[i]?=some q->(f∈waits q\/∀d,q.dst=some d->d∉fC ops o/\o.dst≠some d)/\(∀d,o.dst=some d->d∈fC ops q->f∈waits q):=by
 have:=dT.1 h f U
 simp only[dd,ek]at this
 obtain⟨M,B⟩:=this
 refine⟨M,λo Z=>?_⟩
 simp only[Z,dd,Option.isNone_iff_eq_none]at B
 obtain⟨N,O⟩:=B
 refine⟨N,λi q hi G=>?_⟩
 have:=dT.1 O i (hR.2 (da.1 G).1)
 simp only[G]at this
 rw[h6,ek,dd]at this
 have this:=this.resolve_left (by omega)
 obtain⟨j,h7⟩:=this
 refine⟨?_,λd k aa=>?_⟩
 ·rw[h6]at j
  refine j.imp (λh=>j3.1 h) λj d k=>?_
  simp only[k,dd,hC,bne_iff_ne,ne_eq]at j
  exact⟨λY=>(by have:=j3.2 Y;rw[j.1]at this;cases this),j.2⟩
 simp only[k,h6,hC,j3]at h7
 rcases h7 with h7|h7
 ·have:=j3.2 aa;rw[h7]at this;cases this
 exact h7
def cJ(ops:List Oper)(F:List Nat)(j:Array Bool):List Nat:=(F.filter λf=>!j.getD f false).filterMap λf=>(ops[f]?).bind (·.dst)
def pA{F:List Nat}{N:Array Bool}{k:Nat}:k∈cJ ops F N↔∃f o,f∈F/\N.getD f false=false/\ops[f]?=some o/\o.dst=some k:=by
 unfold cJ
 simp only[ra,hN,hC]
 constructor
 ·rintro⟨f,⟨B,G⟩,j⟩
  cases M:ops[f]? with
  |none=>simp[M]at j
  |some o=>simp[M]at j;exact⟨f,o,B,G,M,j⟩
 rintro⟨f,o,B,G,j,O⟩
 exact⟨f,⟨B,G⟩,by simp[j,O]⟩
structure Hd(w0:World)(I0:av)(n:Nat)(B:Bool)(l0:List AO)(ops:List Oper)(F:List Nat)(rs:List Rec)(s:St)(listed:Array Bool)(a:Act)(w:World):Prop where
 size:a.tmps.size=n
 rel:∃I m,aE w0 I0 w I m s.l/\dR w0.heap.size I a.defers/\∀k,k∉cJ ops F listed->ar I m s.l (a.tmps.getD k undef) (get s.t k)
 fl:∀(f:Nat) o x,f∈F->listed.getD f false=false->ops[f]?=some o->rs[f]?=some x->(∀t∈fC ops o,get s.t t=get x.tm t)/\∀d,o.dst=some d->get s.t d=x.out
 vars:B=true\/eZ l0 s.l
def Dl(s:Tm)(k:Nat):∀(ds:List Nat),get (ds.map (λd=>(d,T.undef))++s) k=if k∈ds then .undef else get s k
 | []=>by simp
 |d::ds=>by
  simp only[fv,List.cons_append,get,fb]
  rw[Dl s k ds]
  by_cases h:d=k
  ·subst h;simp
  rw[if_neg h];have:k≠d:=λe=>h e.symm
  simp[this]
def CP{s s':Tm}{x:Operand}(h:∀t,x = .tmp t->get s t=get s' t):bE s x=bE s' x:=by
 cases x with
 |tmp t=>exact h t rfl
 |_=>rfl
def Du{s s':Tm}{o:Oper}(h:∀t∈fC ops o,get s t=get s' t):dg ops s o.guard=dg ops s' o.guard:=by
 cases B:o.guard with
 |none=>rfl
 |some F=>
  obtain⟨j,b⟩:=F
  simp only[dg]
  cases k:(ops[j]?).bind (·.dst)with
  |none=>rfl
  |some d=>
   simp only
   rw[h d (u4 _ (by rw[B];simp only;rw[k];simp))]
def WH{V:Env}{pc:PC}{s s':St}{o:Oper}(B:s.l=s'.l)(h:∀t∈fC ops o,get s.t t=get s'.t t):fB V pc s o=fB V pc s' o:=by
 have j:∀x∈o.op.operands,bE s.t x=bE s'.t x:=λx j=>CP λt ht=>h t (q2 _ (ra.2 ⟨x,by simpa using j,by rw[ht]⟩))
 cases pc with
 |nil=>simp only[fB,B];exact I7 j
 |cons y pc=>
  simp only[fB,B]
  have F:=I7 (V:=V) (ρ:=λx=>(strip (y::pc) (bE s.t x)).1) (ρ':=λx=>(strip (y::pc) (bE s'.t x)).1) (l:=s'.l) (nid:=s'.l.length) (o:=o) (λx k=>by simp only[j x k])
  have G:o.op.operands.toList.map (λx=>(strip (y::pc) (bE s.t x)).2)=o.op.operands.toList.map (λx=>(strip (y::pc) (bE s'.t x)).2):=hP λx k=>by rw[j x (by simpa using k)]
  rw[F,G]
def Hh{s s':St}{j:Option Nat}{pc:PC}{t:T}{k:qi}(h:after s j pc ⟨t,k,True⟩=some s'):∃u l',s'=⟨bH s.t j u,l'⟩/\∀st:St,st.l=s.l->after st j pc ⟨t,k,True⟩=some ⟨bH st.t j u,l'⟩:=by
 unfold after at h
 simp only at h
 split at h
 ·injection h with h;exact⟨_,_,h.symm,λst e=>by unfold after;simp only[e]⟩
 ·injection h with h;exact⟨_,_,h.symm,λst e=>by unfold after;simp only[e]⟩
 ·injection h with h;exact⟨_,_,h.symm,λst e=>by unfold after;simp only⟩
 ·rename_i B
  injection h with h
  cases pc with
  |nil=>exact absurd rfl B
  |cons y r=>exact⟨_,_,h.symm,λst e=>by unfold after;simp only[e]⟩
 cases h
def Tn{md:Way}{o:Oper}{r:List Oper}{s st:St}{K:St->Prop}(h:dC V n ops md (o::r) s K)(k:st.l=s.l)(U:∀t∈fC ops o,get st.t t=get s.t t) :
  ∃u l',dC V n ops md [o] st (λq=>q=⟨bH st.t o.dst u,l'⟩)/\dC V n ops md r ⟨bH s.t o.dst u,l'⟩ K:=by
 simp only[dC]at h
 split at h
 ·exact h.elim
 rename_i pc Z
 have B:dg ops st.t o.guard=some pc:=(Du U).trans Z
 have Y:∀O,fB V O st o=fB V O s o:=λO=>WH k U
 cases md with
 |none=>
  simp only at h
  obtain⟨F,j,h⟩:=h
  split at h
  ·rename_i s' G
   obtain⟨u,l',rfl,M⟩:=Hh G
   refine⟨u,l',?_,h⟩
   simp only[dC,B,Y]
   refine⟨F,j,?_⟩
   rw[M st k];first|done|rfl
  exact h.elim
 |some ad=>
  simp only at h
  split at h
  ·rename_i N
   obtain⟨aa,j,h⟩:=h
   refine⟨gone,s.l,?_,h⟩
   simp only[dC,B,if_pos N]
   exact⟨aa,j,by rw[k]⟩
  rename_i N
  obtain⟨ab,F,j,h⟩:=h
  split at h
  ·rename_i s' G
   obtain⟨u,l',rfl,M⟩:=Hh G
   refine⟨u,l',?_,h⟩
   simp only[dC,B,if_neg N,Y]
   refine⟨ab,F,j,?_⟩
   rw[M st k];first|done|rfl
  exact h.elim
def Hi{V:Env}{ρ:Operand->T}{s:St}{o:Oper}{pc:PC}{t:T}{k:qi}{t':Tm}{l':List AO}(h:lQ o=true)(G:(evalOp V ρ s.l s.l.length o).bq=k)(j:after s o.dst pc ⟨t,k,True⟩=some ⟨t',l'⟩):eZ s.l l':=by
 obtain⟨B,F⟩:=Va (V:=V) (ρ:=ρ) (l:=s.l) (nid:=s.l.length) h
 rw[G]at B F
 unfold after at j
 simp only at j
 split at j
 ·injection j with j;injection j with _ j;rw[<-j];exact .refl _
 ·exact absurd rfl (F _)
 ·injection j with j;injection j with _ j;rw[<-j];exact B _ rfl
 ·injection j with j;injection j with _ j;rw[<-j];exact .refl _
 cases j
theorem Lq{V:Env}{pc:PC}{s:St}{o:Oper}:∃ρ,(fB V pc s o).bq=(evalOp V ρ s.l s.l.length o).bq:=by
 cases pc with
 |nil=>exact⟨_,rfl⟩
 |cons y r=>exact⟨_,rfl⟩
def To{md:Way}{o:Oper}{st:St}{t':Tm}{l':List AO}(B:lQ o=true)(h:dC V n ops md [o] st (λq=>q=⟨t',l'⟩)):eZ st.l l':=by
 simp only[dC]at h
 split at h
 ·exact h.elim
 rename_i pc F
 cases md with
 |none=>
  simp only at h
  obtain⟨_,_,h⟩:=h
  split at h
  ·rename_i s' j
   subst h
   obtain⟨ρ,k⟩:=Lq (V:=V) (pc:=pc) (s:=st) (o:=o)
   exact Hi B k.symm j
  exact h.elim
 |some G=>
  simp only at h
  split at h
  ·obtain⟨_,_,h⟩:=h
   injection h with _ h;rw[<-h];exact .refl _
  obtain⟨_,_,_,h⟩:=h
  split at h
  ·rename_i s' j
   subst h
   obtain⟨ρ,k⟩:=Lq (V:=V) (pc:=[]) (s:=st) (o:=o)
   exact Hi B k.symm j
  exact h.elim
def nA(P:Program)(n:Nat)(ops:List Oper)(o:Oper)(s:St)(K:T->List AO->Prop):Prop:=
 ∀(st:St),st.l=s.l->(∀t∈fC ops o,get st.t t=get s.t t)->∀(w0:World)(I0:av)(a:Act)(w:World)(Q:Exit->Act->World->Prop)(j:Act->World->Prop),Rel w0 I0 n st a w ->
  (∀u l' k w',K u l'->(lQ o=true->eZ s.l l')->Rel w0 I0 n ⟨bH st.t o.dst u,l'⟩ k w'->j k w') ->
  if Region.wanted o (yielded ops.toArray a.tmps)=true then o.wpIn cO 0 P a w j Q else(∀f,o.about P w a.eval=some f->cO.fn f)/\j (a.put o.dst undef) w
def dh(P:Program)(n:Nat)(ops:List Oper):List Oper->St->(St->Prop)->Prop
 | [],s,K=>K s
 |o::r,s,K=>nA P n ops o s λu l'=>dh P n ops r ⟨bH s.t o.dst u,l'⟩ K
theorem nA.mono{o:Oper}{s:St}{K j:T->List AO->Prop}(h:nA P n ops o s K)(N:∀u l',K u l'->j u l'):nA P n ops o s j:=
 λst O M w0 I0 a w Q B U G=>h st O M w0 I0 a w Q B U λu l' F w' k=>G u l' F w' (N u l' k)
def step_seq(N:cn P V){o:Oper}{r:List Oper}{s:St}(h:dC V n ops md (o::r) s K):nA P n ops o s λu l'=>dC V n ops md r ⟨bH s.t o.dst u,l'⟩ K:=by
 intro st j O w0 I0 a w Q aa Z M
 obtain⟨u,l',B,G⟩:=Tn (st:=st) h j O
 refine I8 N Z B λq F w' k Y=>?_
 simp only[dC]at k
 subst k
 exact M u l' F w' G (λU=>j▸To (st:=st) U B) Y
theorem dh.seq(j:cn P V){post:List Oper}:∀{r:List Oper}{s:St},dC V n ops md r s (λs'=>dh P n ops post s' K)->dh P n ops (r++post) s K
 | [],_,h=>h
 |_::_,_,h=>(step_seq j h).mono λ_ _ k=>dh.seq j k
theorem dh.of(j:cn P V){r:List Oper}{s:St}(h:dC V n ops md r s K):dh P n ops r s K:=by
 have:=dh.seq (P:=P) (post:=[]) j (K:=K) (s:=s) (r:=r) h
 simpa using this
theorem dh.call(aw:cn P V){o:Oper}{r:List Oper}{s:St}{g:FuncId}{ts:List T}{pc:PC}(af:dg ops s.t o.guard=some pc)(ai:holds pc)(aa:du n o.dst=true)(j:dZ V.E (bE s.t) o=some (g,ts))(h:im P g ts s.l λu l'=>dh P n ops r ⟨bH s.t o.dst u,l'⟩ K):dh P n ops (o::r) s K:=by
 intro st F M w0 I0 a w Q av aj Y
 have G:∀x∈o.op.operands,bE st.t x=bE s.t x:=λx G=>CP λt ht=>M t (q2 _ (ra.2 ⟨x,by simpa using G,by rw[ht]⟩))
 obtain⟨N,I,m,O,ab,ht⟩:=aj
 have al:=(oK (ops:=ops) (a:=a) ht ((Du M).trans af)).2 ai
 rw[if_pos al]
 refine bY.wpIn (uR j) ?_
 obtain⟨U,ak,ag,Z⟩:=qA (P:=P) (w:=w) (ρ:=a.eval) h.1 (λx _=>lK O.sat.c7 ht x) ((Sr G).trans j)
 rw[ak]
 simp only[bY]
 refine(h.2 w0 I0 w I m U (λk=>a.tmps.getD k undef) st.t (by rw[<-F];exact O) ag (by rw[<-F];exact Z) (by rw[<-F];exact ht)).mono ?_
 rintro e w' ⟨v,ad,t,l',J,m',an,ao,aq,au,ar⟩
 refine⟨v,ad,Y t l' _ w' an (λB=>?_) ⟨by cases o.dst<;>simp[Act.put,N],J,m',ao,ab.wP au,lh N aa ar aq⟩⟩
 exfalso
 unfold dZ at j
 unfold lQ lP at B
 split at j
 ·rename_i c ah
  rw[ah]at B
  simp only[q9]at B
  split at j
  ·rename_i f ae;rw[ae]at B;simp at B
  cases j
 cases j
theorem dh.wp(G:cn P V)(k:∀s a w,K s->Rel w0 I0 n s a w->Q .normal a w):∀(r:List Oper)(s:St)(a:Act)(w:World),Rel w0 I0 n s a w->dh P n ops r s K->wpListIn cO 0 P ops.toArray Q r a w
 | [],s,a,w,j,h=>k s a w h j
 |o::r,s,a,w,j,h=>by
  unfold wpListIn
  exact h s rfl (λ_ _=>rfl) w0 I0 a w Q _ j λu l' B w' F _ M=>dh.wp G k r _ B w' M F
def NO(bu:cn P V)(bt:∀s a w,K s->Rel w0 I0 n s a w->Q .normal a w){n1:Nat}{F:List Nat}(bR:mP ops=true)(b7:rX ops n1 F=true)(b2:pT ops n1=true)(an:qK ops n1 F=true)(cm:n1<=ops.length){s0:St}{rs:List Rec}{B:Bool}(bO:∀(f:Nat) o x,f∈F->ops[f]?=some o->rs[f]?=some x->sg V B s0.l o x)(hkp:B=true\/∀(i:Nat) o,n1<=i->ops[i]?=some o->lQ o=true)(bf:jm V n ops s0.l (ops.take n1) 0 s0.t 0 rs) :
  ∀(ak j:Nat)(s:St)(a:Act)(w:World)(G:Array Bool),G.size=ops.length->kx ops.length G=ak->(∀i,i<ops.length->i∉F->G.getD i false=decide (i<j))->n1<=j->j<=ops.length->ny ops G->Hd w0 I0 n B s0.l ops F rs s G a w->dh P n ops (ops.drop j) s K ->
   wpAnyIn cO 0 P .any ops.toArray Q ak G a w:=by
 have cu:rs.length=n1:=by rw[bf.len];simp;omega
 intro ak
 induction ak with
 |zero=>
  intro j s a w G af bh ao aw a6 az aN h
  have aL:∀i,i<ops.length->G.getD i false=true:=by
   intro i hi
   have:=x3.1 bh
   have:=(k3.1 this) i (hR.2 hi)
   simpa using this
  have ck:j=ops.length:=by
   rcases mv j ops.length with h'|h'
   ·have aD:j∉F:=λaK=>by have:=(lN an aK).1;omega
    have:=ao j h' aD
    rw[aL j h']at this;simp at this
   omega
  rw[lB (by omega)]at h
  obtain⟨aq,⟨I,m,br,ad,bs⟩,cg,_⟩:=aN
  refine⟨?_,bt s a w h ⟨aq,I,m,br,ad,λk=>bs k λM=>?_⟩⟩
  ·refine ti.2 λi hi=>?_
   have aa:=wX hi
   have:=((pV af aa (c4 aa)).1 hi).1
   rw[aL i aa]at this;cases this
  obtain⟨f,o,Y,O,U,_⟩:=pA.1 M
  rw[aL f (da.1 U).1]at O;cases O
 |succ ak bl=>
  intro j s a w G af bh ao aw a6 az aN h
  have bQ:∃i,i<ops.length/\G.getD i false=false/\∀k,k<i->G.getD k false=true:=by
   have bD:∃i,i<ops.length/\G.getD i false=false:=by
    refine hB λaC=>?_
    have:kx ops.length G=0:=by
     unfold kx
     rw[k3.2 λi hi=>by
      have hi:=hR.1 hi
      cases au:G.getD i false with
      |true=>simp
      |false=>exact absurd ⟨i,hi,au⟩ aC]
     rfl
    omega
   obtain⟨i,hi⟩:=bD
   induction i using Nat.strongRecOn with
   |ind i ca=>
    by_cases aC:∃k,k<i/\G.getD k false=false
    ·obtain⟨k,M,au⟩:=aC
     exact ca k M ⟨by omega,au⟩
    refine⟨i,hi.1,hi.2,λk M=>?_⟩
    cases au:G.getD k false with
    |true=>rfl
    |false=>exact absurd ⟨k,M,au⟩ aC
  obtain⟨aX,cj,bz,bA⟩:=bQ
  have bb:ops[aX]?=some ops[aX]:=c4 (by omega)
  have bd:aX∈Region.ready .any ops.toArray G:=(pV af (by omega) bb).2 ⟨bz,λk M=>bA k (vG bR bb k M)⟩
  refine⟨λbq=>(by rw[bq]at bd;cases bd),λi hi=>?_⟩
  have aa:=wX hi
  have N:ops[i]?=some ops[i]:=c4 aa
  obtain⟨aq,ad⟩:=(pV af aa N).1 hi
  have bj:kx ops.length (G.setIfInBounds i true)=ak:=by have:=GP af aa aq;omega
  have Z:∀k,(G.setIfInBounds i true).getD k false=if k=i then true else G.getD k false:=λk=>yv af aa
  generalize ops[i]=o at N ad
  unfold wpOpIn
  have bx:ops.toArray[i]?=some o:=by simpa using N
  simp only[bx]
  obtain⟨aU,⟨I,m,ay,aY,ht⟩,aM,hvars⟩:=aN
  by_cases ae:i∈F
  ·
   obtain⟨a1,bG⟩:=lN an ae
   obtain⟨bL,al⟩:=bG o N
   have aH:rs[i]?=some rs[i]:=c4 (by omega)
   generalize rs[i]=x at aH
   obtain⟨b5,cv,cq⟩:=bf.at_ i o x (by rw[hg,if_pos a1];exact N) aH
   obtain⟨⟨cw,bJ,b3⟩,bM,ct,bV,aZ,cp,ch⟩:=b5
   have aS:x.pc=[]:=bM bL
   obtain⟨cr,bP⟩:=bO i o x ae N aH
   obtain⟨bI,bF⟩:=aM i o x ae aq N aH
   have bg:∀t,t∈fC ops o->ar I m s.l (a.tmps.getD t undef) (get x.tm t):=by
    intro t aj
    rw[<-bI t aj]
    refine ht t λai=>?_
    obtain⟨f,q,Y,O,U,ab⟩:=pA.1 ai
    have:=(rJ b2 a1 (lN an Y).1 N U ab).2 aj
    rw[ad f this.2]at O;cases O
   have bC:∀y∈o.op.operands,ar I m s.l (a.eval y) (bE x.tm y):=by
    intro y ag
    cases y with
    |tmp t=>exact bg t (q2 _ (ra.2 ⟨.tmp t,by simpa using ag,rfl⟩))
    |const v=>exact Cy v
    |global g=>exact Dm ay.sat.c7 g
    |func f=>exact .d _ _ (.fn f)
   have aW:=GZ (ops:=ops) (a:=a) (λj b d bK aA=>bg d (u4 _ (by rw[bK];simp only;rw[aA];simp))) bJ
   have aW:=aW.trans b3
   have ai:holds x.pc:=by rw[aS];trivial
   rw[if_pos (aW.2 ai)]
   obtain⟨aQ,bW⟩:=bV ai
   have bZ:∀y∈o.op.operands,ar I m s.l (a.eval y) (strip x.pc (bE x.tm y)).1:=λy ag=>
    Gp (bC y ag) ai (zb bW _ (hz.2 ⟨y,by simpa using ag,rfl⟩))
   have aT:=bP aS aQ s.l hvars
   have bU:=qE (show(evalOp V (λy=>(strip x.pc (bE x.tm y)).1) s.l 0 o).ob by rw[aT];exact aQ)
   have aG:=nO (nid:=0) bu ay (ei.refl s.l) bZ (by rw[aT];exact aQ)
   rw[aT]at aG
   unfold bS at aG
   simp only at aG
   refine bY.wpIn bU (aG.mono λv w' ⟨J,ba,b9,aV⟩=>?_)
   refine bl j s _ w' _ (by simp[af]) bj (λk M aE=>by rw[Z k,if_neg (show ¬k=i from λe=>aE (e▸ae))];exact ao k M aE) aw a6 (az.step N ad Z) ?_ h
   refine⟨by cases o.dst<;>simp[Act.put,aU],⟨J,m,b9,aY.put ba.cR,λk M=>?_⟩,λf q y av ah aF ag=>?_,?_⟩
   ·by_cases ax:o.dst=some k
    ·have bB:k<n:=by rw[ax]at aZ;simpa [du]using aZ
     have:(a.put o.dst v).tmps.getD k undef=v:=by simp[ax,Act.put,hf,aU,bB]
     rw[this,bF k ax]
     unfold Rec.out;rw[if_pos aS];exact aV
    have:(a.put o.dst v).tmps.getD k undef=a.tmps.getD k undef:=by
     cases aR:o.dst with
     |none=>rfl
     |some bn=>
      have:bn≠k:=λe=>ax (by rw[aR,e])
      simp[Act.put,hf,this]
    rw[this]
    refine(ht k λb0=>M ?_).mono ba
    obtain⟨f,q,Y,O,U,ab⟩:=pA.1 b0
    refine pA.2 ⟨f,q,Y,?_,U,ab⟩
    rw[Z f,if_neg];· exact O
    rintro rfl;rw[N]at U;injection U with U;subst U;exact ax ab
   ·have aP:f≠i:=by rintro rfl;rw[Z f,if_pos rfl]at ah;cases ah
    exact aM f q y av (by rw[Z f,if_neg aP]at ah;exact ah) aF ag
   exact hvars
  have bN:i=j:=by
   have aI:=aq
   rw[ao i aa ae]at aI
   have aI:¬i<j:=by simpa using aI
   rcases mv j i with bT|hge
   ·have aD:j∉F:=λaK=>by have:=(lN an aK).1;omega
    have:=GY az 8 o j ad (NN b7 N (by omega) j bT aD)
    rw[ao j (by omega) aD]at this;simp at this
   omega
  subst bN
  have a7:i<ops.length:=aa
  rw[h9 a7]at h
  have bX:ops[i]=o:=by have:=c4 a7;rw[N]at this;injection this with this;exact this.symm
  rw[bX]at h
  let st:St:=⟨(cJ ops F G).map (λd=>(d,T.undef))++s.t,s.l⟩
  have aB:∀k,k∉cJ ops F G->get st.t k=get s.t k:=λk M=>by simp only[st];rw[Dl,if_neg M]
  have b6:Rel w0 I0 n st a w:=by
   refine⟨aU,I,m,ay,aY,λk=>?_⟩
   by_cases M:k∈cJ ops F G
   ·simp only[st];rw[Dl,if_pos M];exact .undef _
   rw[aB k M];exact ht k M
  have bw:∀t∈fC ops o,get st.t t=get s.t t:=λt aj=>aB t λai=>by
   obtain⟨f,q,Y,O,U,ab⟩:=pA.1 ai
   have:=((lN an Y).2 q U).2 i o aw N
   have:=this.2 t ab aj
   rw[ad f this]at O;cases O
  have h:nA P n ops o s _:=h
  refine h st rfl bw w0 I0 a w Q _ b6 λu l' bm w' h aV b4=>?_
  have b8:B=true\/eZ s0.l l':=by
   rcases hvars with aJ|hvars
   ·exact .inl aJ
   rcases hkp with aJ|hkp
   ·exact .inl aJ
   exact .inr (hvars.trans (aV (hkp i o aw N)))
  obtain⟨cb,J,m',cd,cc,cf⟩:=b4
  have b1:∀k,k∈cJ ops F (G.setIfInBounds i true)↔k∈cJ ops F G:=λk=>by
   rw[pA,pA]
   constructor
   ·rintro⟨f,q,Y,O,U,ab⟩
    exact⟨f,q,Y,by rw[Z f,if_neg (show ¬f=i from λe=>ae (e▸Y))]at O;exact O,U,ab⟩
   rintro⟨f,q,Y,O,U,ab⟩
   exact⟨f,q,Y,by rw[Z f,if_neg (show ¬f=i from λe=>ae (e▸Y))];exact O,U,ab⟩
  refine bl (i+1) ⟨bH s.t o.dst u,l'⟩ bm w' _ (by simp[af]) bj (λk M aE=>by rw[Z k,ao k M aE];by_cases e:k=i<;>simp[e]<;>(try omega)) (by omega) (by omega) (az.step N ad Z) ⟨cb,⟨J,m',cd,cc,λk M=>?_⟩,λf q y av ah aF ag=>?_,b8⟩ h
  ·have:=cf k
   have a8:k∉cJ ops F G:=λe=>M ((b1 k).2 e)
   have e:get (bH st.t o.dst u) k=get (bH s.t o.dst u) k:=by
    cases o.dst with
    |none=>exact aB k a8
    |some d=>
     simp only[bH,get]
     split
     ·rfl
     exact aB k a8
   show ar J m' l' _ (get (bH s.t o.dst u) k)
   rw[<-e];exact this
  have aO:G.getD f false=false:=by rw[Z f,if_neg (show ¬f=i from λe=>ae (e▸av))]at ah;exact ah
  obtain⟨bo,bp⟩:=aM f q y av aO aF ag
  have al:=((lN an av).2 q aF).2 i o aw N
  have al:=And.intro (al.1.resolve_left (λay=>by rw[ad f ay]at aO;cases aO)) al.2
  have bc:∀t,o.dst≠some t->get (bH s.t o.dst u) t=get s.t t:=λt aP=>by
   cases aR:o.dst with
   |none=>rfl
   |some d=>simp only[bH,get];rw[if_neg (λe=>aP (by rw[aR,e]))]
  refine⟨λt aj=>?_,λd aA=>?_⟩
  ·exact(bc t (λe=>(al.1 t e).1 aj)).trans (bo t aj)
  exact(bc d (λe=>(al.1 d e).2 aA)).trans (bp d aA)
def NU{n1:Nat}{F:List Nat}(ah:pT ops n1=true)(ae:qK ops n1 F=true)(aS:n1<=ops.length){s0:St}{rs:List Rec}{B:Bool}(aE:∀(f:Nat) o x,f∈F->ops[f]?=some o->rs[f]?=some x->sg V B s0.l o x)(aT:rs.length=n1)(aK:jm V n ops s0.l (ops.take n1) 0 s0.t 0 rs){Y:Array Bool}{a:Act}{w:World}(aF:Inv w0 I0 n n1 ops s0 rs Y a w)(an:∀i,i<n1->i∉F->Y.getD i false=true) :
  Hd w0 I0 n B s0.l ops F rs ⟨eJ s0.t (ops.take n1) rs,s0.l++(cj 0 rs).map (·.2)⟩ Y a w:=by
 obtain⟨az,I,m,aj,aA,ak,al⟩:=aF
 have aI:∀p∈cj 0 rs,p.1∉F:=by
  intro p aa Z
  obtain⟨i,x,aN,ax,ay⟩:=Eu rs 0 p aa
  have hi:p.1=i:=by omega
  rw[hi]at Z
  have af:=(lN ae Z).1
  have M:ops[i]?=some ops[i]:=c4 (by omega)
  have:=(aE i _ x Z M ax).1
  rw[ay]at this;cases this
 have aB:dQ s0.l (cj 0 rs) (λi=>Y.getD i false)=s0.l++(cj 0 rs).map (·.2):=by
  unfold dQ
  congr 1
  apply hP
  intro p aa
  have:=(y2 rs 0).1 p aa
  rw[if_pos (an p.1 (by omega) (aI p aa))]
 rw[aB]at aj ak al
 have ab:∀(i:Nat) o x k,i<n1->ops[i]?=some o->rs[i]?=some x->o.dst=some k->get (eJ s0.t (ops.take n1) rs) k=x.out:=λi o x k hi M U G=>
  yx (ops.take n1) rs s0.t k i o x (by rw[hg,if_pos hi];exact M) U G (λj q O ag=>by
   have au:j<n1:=by have:=(da.1 O).1;simp at this;omega
   rw[hg,if_pos au]at O
   exact(rJ ah au hi O M G).1 ag)
 have av:∀k,(¬ ∃i o,i<n1/\ops[i]?=some o/\o.dst=some k)->get (eJ s0.t (ops.take n1) rs) k=get s0.t k:=λk N=>
  vn (ops.take n1) rs s0.t k (λo M G=>N (by
   obtain⟨i,hi,rfl⟩:=hA.1 M
   have aC:i<n1:=by simp at hi;omega
   exact⟨i,_,aC,by rw[c4 (by omega)],by simpa using G⟩))
 refine⟨az,⟨I,m,aj,aA,λk aJ=>?_⟩,λf o x ao aR M U=>⟨λt aM=>?_,λd G=>?_⟩,.inr (.append _ _)⟩
 ·by_cases N:∃i o,i<n1/\ops[i]?=some o/\o.dst=some k
  ·obtain⟨i,o,hi,M,G⟩:=N
   have U:rs[i]?=some rs[i]:=c4 (by omega)
   have aH:Y.getD i false=true:=by
    cases ad:Y.getD i false with
    |true=>rfl
    |false=>
     have aD:i∈F:=hB λZ=>by rw[an i hi Z]at ad;cases ad
     exact absurd (pA.2 ⟨i,o,aD,ad,M,G⟩) aJ
   show ar I m _ _ (get (eJ s0.t (ops.take n1) rs) k)
   rw[ab i o _ k hi M U G]
   exact ak i o _ k hi M U aH G
  show ar I m _ _ (get (eJ s0.t (ops.take n1) rs) k)
  rw[av k N]
  exact al k (λi o hi M _ G=>N ⟨i,o,hi,M,G⟩)
 ·
  obtain⟨af,aO⟩:=lN ae ao
  obtain⟨_,aL,_⟩:=aK.at_ f o x (by rw[hg,if_pos af];exact M) U
  rw[aL,show(ops.take n1).take f=ops.take f by rw[x0];congr 1;omega]
  show get (eJ s0.t (ops.take n1) rs) t=_
  by_cases N:∃i o,i<n1/\ops[i]?=some o/\o.dst=some t
  ·obtain⟨i,q,hi,O,G⟩:=N
   have aw:rs[i]?=some rs[i]:=c4 (by omega)
   rw[ab i q _ t hi O aw G]
   obtain⟨aq,aQ⟩:=(rJ ah af hi M O G).2 aM
   rw[yx (ops.take f) (rs.take f) s0.t t i q _ (by rw[hg,if_pos aq];exact O) (by rw[hg,if_pos aq];exact aw) G (λk aU ai N=>by
    have aG:k<f:=by have:=(da.1 ai).1;simp at this;omega
    rw[hg,if_pos aG]at ai
    exact(rJ ah (by omega) hi ai O G).1 N)]
  rw[av t N,vn (ops.take f) (rs.take f) s0.t t (λq O G=>N (by
   obtain⟨j,ag,rfl⟩:=hA.1 O
   have aP:j<f:=by simp at ag;omega
   exact⟨j,_,by omega,by rw[c4 (by omega)],by simpa using G⟩))]
 exact ab f o x d (lN ae ao).1 M U G
theorem Xn(aQ:cn P V)(a6:∀s a w,K s->Rel w0 I0 n s a w->Q .normal a w){n1:Nat}{F:List Nat}(aR:mP ops=true)(aV:rX ops n1 F=true)(aD:qK ops n1 F=true)(aj:pT ops n1=true)(ao:n1<=ops.length){s0:St}{rs:List Rec}{B:Bool}(aG:∀(f:Nat) o x,f∈F->ops[f]?=some o->rs[f]?=some x->sg V B s0.l o x)(bd:B=true\/∀(i:Nat) o,n1<=i->ops[i]?=some o->lQ o=true)(aq:jm V n ops s0.l (ops.take n1) 0 s0.t 0 rs)(bc:dh P n ops (ops.drop n1) ⟨eJ s0.t (ops.take n1) rs,s0.l++(cj 0 rs).map (·.2)⟩ K) :
  ∀(af:Nat)(a:Act)(w:World)(G:Array Bool),G.size=ops.length->kx ops.length G=af->(∀i,n1<=i->i<ops.length->G.getD i false=false)->ny ops G->Inv w0 I0 n n1 ops s0 rs G a w ->
   wpAnyIn cO 0 P .any ops.toArray Q af G a w:=by
 have bn:rs.length=n1:=by rw[aq.len];simp;omega
 have bW:∀i,i<n1->(ops.take n1)[i]?=ops[i]?:=λi hi=>by rw[hg,if_pos hi]
 intro af
 induction af with
 |zero=>
  intro a w G ae aM aL ax aH
  have ah:∀i,i<ops.length->G.getD i false=true:=by
   intro i hi
   have:=x3.1 aM
   have:=(k3.1 this) i (hR.2 hi)
   simpa using this
  have b5:n1=ops.length:=by
   rcases mv n1 ops.length with h|h
   ·have:=aL n1 (eb _) h;rw[ah n1 h]at this;cases this
   omega
  exact NO aQ a6 aR aV aj aD ao aG bd aq 0 n1 _ a w G ae aM (λi hi _=>by rw[ah i hi];simp;omega) (eb _) ao ax (NU aj aD ao aG bn aq aH (λi hi _=>ah i (by omega))) bc
 |succ af b2=>
  intro a w G ae aM aL ax aH
  by_cases ah:∀i,i<n1->i∉F->G.getD i false=true
  ·have an:∀i,i<ops.length->i∉F->G.getD i false=decide (i<n1):=by
    intro i hi aP
    by_cases h:i<n1
    ·rw[ah i h aP];simp[h]
    rw[aL i (by omega) hi];simp[h]
   exact NO aQ a6 aR aV aj aD ao aG bd aq (af+1) n1 _ a w G ae aM an (eb _) ao ax (NU aj aD ao aG bn aq aH ah) bc
  obtain⟨bp,I,m,aW,bx,a8,ba⟩:=aH
  have bC:∃i,i<n1/\i∉F/\G.getD i false=false:=by
   refine hB λh=>ah λi hi aP=>?_
   cases aw:G.getD i false with
   |true=>rfl
   |false=>exact absurd ⟨i,hi,aP,aw⟩ h
  obtain⟨aY,bH,bs,a7⟩:=bC
  have bB:∃i,i<n1/\G.getD i false=false:=⟨aY,bH,a7⟩
  have bL:∃i,i<n1/\G.getD i false=false/\∀j,j<i->G.getD j false=true:=by
   obtain⟨i,hi⟩:=bB
   induction i using Nat.strongRecOn with
   |ind i b3=>
    by_cases h:∃j,j<i/\G.getD j false=false
    ·obtain⟨j,O,aw⟩:=h
     exact b3 j O ⟨by omega,aw⟩
    refine⟨i,hi.1,hi.2,λj O=>?_⟩
    cases aw:G.getD j false with
    |true=>rfl
    |false=>exact absurd ⟨j,O,aw⟩ h
  obtain⟨aX,b9,bt,bu⟩:=bL
  have bj:ops[aX]?=some ops[aX]:=c4 (by omega)
  have bm:aX∈Region.ready .any ops.toArray G:=(pV ae (by omega) bj).2 ⟨bt,λj O=>bu j (vG aR bj j O)⟩
  refine⟨λbr=>(by rw[br]at bm;cases bm),λi hi=>?_⟩
  have ay:=wX hi
  have aa:ops[i]?=some ops[i]:=c4 ay
  obtain⟨a1,aC⟩:=(pV ae ay aa).1 hi
  have aF:i<n1:=by
   rcases mv i n1 with h|h
   ·exact h
   have:=GY ax 8 _ aY aC (NN aV aa h aY (by omega) bs);rw[a7]at this;cases this
  generalize ops[i]=o at aa aC
  have aA:rs[i]?=some rs[i]:=c4 (by omega)
  generalize rs[i]=x at aA
  obtain⟨bU,bZ,bh⟩:=aq.at_ i o x (by rw[bW i aF];exact aa) aA
  obtain⟨⟨cc,bD,bT⟩,b7,az,bP,bb,bg,b8⟩:=bU
  unfold wpOpIn
  have:ops.toArray[i]?=some o:=by simpa using aa
  simp only[this]
  have bo:∀t,t∈fC ops o->ar I m (dQ s0.l (cj 0 rs) λi=>G.getD i false) (a.tmps.getD t undef) (get x.tm t):=by
   intro t ht
   rw[bZ]
   rw[show(ops.take n1).take i=ops.take i by rw[x0];congr 1;omega]
   by_cases ai:∃j q,j<n1/\ops[j]?=some q/\q.dst=some t
   ·obtain⟨j,q,O,M,N⟩:=ai
    obtain⟨al,bI⟩:=(rJ aj aF O aa M N).2 ht
    have bq:rs[j]?=some rs[j]:=c4 (by omega)
    rw[yx (ops.take i) (rs.take i) s0.t t j q _ (by rw[hg,if_pos al];exact M) (by rw[hg,if_pos al];exact bq) N (λk cb aU ai=>by
     have bJ:k<i:=by have:=(da.1 aU).1;simp at this;omega
     rw[hg,if_pos bJ]at aU
     exact(rJ aj (by omega) O aU M N).1 ai)]
    exact a8 j q _ t O M bq (aC j bI) N
   rw[vn (ops.take i) (rs.take i) s0.t t (λq M N=>ai (by
    obtain⟨j,O,rfl⟩:=hA.1 M
    have ca:j<i:=by simp at O;omega
    exact⟨j,_,by omega,by rw[c4 (by omega)],by simpa using N⟩))]
   exact ba t (λj q O M _ N=>ai ⟨j,q,O,M,N⟩)
  have bA:∀y∈o.op.operands,ar I m (dQ s0.l (cj 0 rs) λi=>G.getD i false) (a.eval y) (bE x.tm y):=by
   intro y U
   cases y with
   |tmp t=>exact bo t (q2 _ (ra.2 ⟨.tmp t,by simpa using U,rfl⟩))
   |const v=>exact Cy v
   |global g=>exact Dm aW.sat.c7 g
   |func f=>exact .d _ _ (.fn f)
  have aN:=GZ (ops:=ops) (a:=a) (λj b d bF N=>bo d (u4 _ (by rw[bF];simp only;rw[N];simp))) bD
  have aN:=aN.trans bT
  have b0:kx ops.length (G.setIfInBounds i true)=af:=by have:=GP ae ay a1;omega
  have bX:∀k,n1<=k->k<ops.length->(G.setIfInBounds i true).getD k false=false:=λk ai bK=>by
   rw[yv ae ay,if_neg (by omega)];exact aL k ai bK
  have ak:∀j,(G.setIfInBounds i true).getD j false=if j=i then true else G.getD j false:=λj=>yv ae ay
  have next:∀(J:av)(m':Nat->Value)(v:Value)(w':World),Le I m (dQ s0.l (cj 0 rs) λi=>G.getD i false) J m' (dQ s0.l (cj 0 rs) λk=>(G.setIfInBounds i true).getD k false) ->
    aE w0 I0 w' J m' (dQ s0.l (cj 0 rs) λk=>(G.setIfInBounds i true).getD k false)->ar J m' (dQ s0.l (cj 0 rs) λk=>(G.setIfInBounds i true).getD k false) v x.out ->
    wpAnyIn cO 0 P .any ops.toArray Q af (G.setIfInBounds i true) (a.put o.dst v) w':=by
   intro J m' v w' ad ab ag
   refine b2 _ _ _ (by simp[ae]) b0 bX (ax.step aa aC ak) ⟨by cases o.dst<;>simp[Act.put,bp],J,m',ab,bx.put ad.cR,λj q y d O M U an N=>?_,λd N=>?_⟩
   ·by_cases al:j=i
    ·subst al
     rw[aa]at M;injection M with M;subst M
     rw[aA]at U;injection U with U;subst U
     have bz:d<n:=by rw[N]at bb;simpa [du]using bb
     have:(a.put o.dst v).tmps.getD d undef=v:=by simp[N,Act.put,hf,bp,bz]
     rw[this];exact ag
    have bM:G.getD j false=true:=by rw[ak j,if_neg al]at an;exact an
    have aS:o.dst≠some d:=(rJ aj aF O aa M N).1 (hW al)
    have:(a.put o.dst v).tmps.getD d undef=a.tmps.getD d undef:=by
     cases aT:o.dst with
     |none=>rfl
     |some aO=>
      have:aO≠d:=λe=>aS (by rw[aT,e])
      simp[Act.put,hf,this]
    rw[this];exact(a8 j q y d O M U bM N).mono ad
   have aS:o.dst≠some d:=N i o aF aa (by rw[ak i,if_pos rfl])
   have:(a.put o.dst v).tmps.getD d undef=a.tmps.getD d undef:=by
    cases aT:o.dst with
    |none=>rfl
    |some aO=>
     have:aO≠d:=λe=>aS (by rw[aT,e])
     simp[Act.put,hf,this]
   rw[this]
   exact(ba d (λj q O M an=>N j q O M (by rw[ak j];split<;>first|rfl|exact an))).mono ad
  have aK:x.new=none->(dQ s0.l (cj 0 rs) λi=>G.getD i false)=dQ s0.l (cj 0 rs) λk=>(G.setIfInBounds i true).getD k false:=by
   intro Y
   refine Wr λp Z=>?_
   rw[ak p.1,if_neg]
   intro b6
   obtain⟨b1,cd,b4,aB,aZ⟩:=Eu rs 0 p Z
   have:b1=i:=by omega
   subst this
   rw[aA]at aB;injection aB with aB;subst aB
   rw[Y]at aZ;cases aZ
  by_cases Z:holds x.pc
  ·rw[if_pos (aN.2 Z)]
   obtain⟨bl,bQ⟩:=bP Z
   have az:=az Z
   have bf:=qE (show(evalOp V (λy=>(strip x.pc (bE x.tm y)).1) s0.l x.nid o).ob by rw[az];exact bl)
   have bR:∀y∈o.op.operands,ar I m (dQ s0.l (cj 0 rs) λi=>G.getD i false) (a.eval y) (strip x.pc (bE x.tm y)).1:=λy U=>
    Gp (bA y U) Z (zb bQ _ (hz.2 ⟨y,by simpa using U,rfl⟩))
   have au:=nO (nid:=x.nid) aQ aW (Wq (l0:=s0.l)) bR (by rw[az];exact bl)
   rw[az]at au
   unfold bS at au
   cases Y:x.new with
   |none=>
    simp only[Y]at au
    refine bY.wpIn bf (au.mono λv w' ⟨J,ad,ab,ag⟩=>?_)
    rw[aK Y]at ad ab ag
    refine next J m v w' (by rw[aK Y];exact ad) ab ?_
    unfold Rec.out
    split
    ·exact ag
    exact .cond _ _ _ (λ_=>ag) (λbN=>absurd Z bN)
   |some b=>
    simp only[Y]at au
    have aI:x.pc=[]:=bg (by rw[Y];rfl)
    have aJ:=(y2 rs 0).2.1 i x b aA Y
    simp only[ia]at aJ
    have bw:(dQ s0.l (cj 0 rs) λi=>G.getD i false)[x.nid]?=some .dead:=by
     rw[bh,Nat.add_zero]
     have:=Lj (l0:=s0.l) (L:=λi=>G.getD i false) aJ
     simp only[a1]at this
     simpa using this
    have bV:(dQ s0.l (cj 0 rs) λi=>G.getD i false).set x.nid b=dQ s0.l (cj 0 rs) λk=>(G.setIfInBounds i true).getD k false:=by
     rw[bh,Nat.add_zero]
     exact Ws aJ (λq y M U=>(y2 rs 0).2.2 q _ y _ M aJ U) ak
    refine bY.wpIn bf ((au bw).mono λv w' ⟨m',ad,ab,ag⟩=>?_)
    rw[bV]at ad ab ag
    refine next I m' v w' ad ab ?_
    unfold Rec.out
    rw[if_pos aI];exact ag
  rw[if_neg (λbG=>Z (aN.1 bG))]
  have aI:x.pc≠[]:=by intro e;rw[e]at Z;exact Z trivial
  have Y:x.new=none:=by
   cases bO:x.new with
   |none=>rfl
   |some b=>exact absurd (bg (by rw[bO];rfl)) aI
  have ab:=aW
  rw[aK Y]at ab
  refine⟨λf _=>lC f,next I m undef w (by rw[aK Y];exact .refl ..) ab ?_⟩
  unfold Rec.out
  rw[if_neg aI]
  exact .cond _ _ _ (λh=>absurd h Z) (λ_=>rfl)
def S5(U:cn P V)(O:∀s a w,K s->Rel w0 I0 n s a w->Q .normal a w){s:St}{a:Act}{w:World}{n1:Nat}{F:List Nat}(af:mP ops=true)(al:rX ops n1 F=true)(ab:qK ops n1 F=true)(ah:pT ops n1=true)(ag:n1<=ops.length)(ai:Rel w0 I0 n s a w){rs:List Rec}{B:Bool}(ad:∀(f:Nat) o x,f∈F->ops[f]?=some o->rs[f]?=some x->sg V B s.l o x)(ae:B=true\/∀(i:Nat) o,n1<=i->ops[i]?=some o->lQ o=true)(aj:jm V n ops s.l (ops.take n1) 0 s.t ([]:List (Nat×AO)).length rs)(aa:dh P n ops (ops.drop n1) ⟨eJ s.t (ops.take n1) rs,s.l++(([]:List (Nat×AO))++cj 0 rs).map (·.2)⟩ K):wpAnyIn cO 0 P .any ops.toArray Q ops.length (Array.replicate ops.length false) a {w with drawn:=w.drawn+1}:=by
 obtain⟨ak,I,m,G,Z,ht⟩:=ai
 have k:∀i,(Array.replicate ops.length false).getD i false=false:=λi=>by
  rw[hf]
  cases N:(Array.replicate ops.length false)[i]? with
  |none=>rfl
  |some b=>have:=e7.1 N;simp at this;simp[<-this.2]
 have an:aE w0 I0 {w with drawn:=w.drawn+1} I m s.l:=(G.call (w':={w with drawn:=w.drawn+1}) ⟨rfl,rfl,rfl,eb _,λ_ _=>rfl,λ_=>s6 _⟩ (fi.refl _ _) ⟨G.sat.cell,G.sat.mp,G.sat.df,G.sat.c7⟩).1
 obtain⟨ao,M⟩:aE w0 I0 {w with drawn:=w.drawn+1} I m (dQ s.l (cj 0 rs) λi=>(Array.replicate ops.length false).getD i false)/\Le I m s.l I m (dQ s.l (cj 0 rs) λi=>(Array.replicate ops.length false).getD i false):=by
  have:(dQ s.l (cj 0 rs) λi=>(Array.replicate ops.length false).getD i false)=s.l++List.replicate (cj 0 rs).length .dead:=by
   unfold dQ
   congr 1
   rw[List.eq_replicate_iff]
   refine⟨by simp,λb Y=>?_⟩
   obtain⟨p,_,rfl⟩:=hz.1 Y
   rw[if_neg (by simp only[k];simp)]
  rw[this]
  generalize (cj 0 rs).length=c
  induction c with
  |zero=>simp;exact⟨an,.refl ..⟩
  |succ c aq=>
   obtain⟨ar,au⟩:=aq
   obtain⟨av,aw⟩:=ar.push
   rw[List.replicate_succ',<-j2]
   exact⟨av,au.trans aw⟩
 have:=Xn (Q:=Q) (K:=K) U O af al ab ah ag (s0:=s) (rs:=rs) ad ae (by simpa using aj) (by simpa using aa) ops.length a {w with drawn:=w.drawn+1} (Array.replicate ops.length false) (by simp)
  (by unfold kx;rw[q8.2 (λi _=>by rw[k];rfl)];simp) (λi _ _=>k i)
  (λi o _ j=>by rw[k]at j;cases j)
  ⟨ak,I,m,ao,Z.mono M.cR,λi o x d hi ax N j=>(by rw[k]at j;cases j),λd _=>(ht d).mono M⟩
 simpa using this
def S4(k:cn P V)(Y:P.follows .mixedOrders=true)(j:∀s a w,K s->Rel w0 I0 n s a w->Q .normal a w){id:Nat}{s:St}{a:Act}{w:World}{n1:Nat}{F:List Nat}(U:mP ops=true)(ae:rX ops n1 F=true)(M:qK ops n1 F=true)(aa:pT ops n1=true)(Z:n1<=ops.length)(ab:Rel w0 I0 n s a w){rs:List Rec}{B:Bool}(N:∀(f:Nat) o x,f∈F->ops[f]?=some o->rs[f]?=some x->sg V B s.l o x)(O:B=true\/∀(i:Nat) o,n1<=i->ops[i]?=some o->lQ o=true)(ad:jm V n ops s.l (ops.take n1) 0 s.t ([]:List (Nat×AO)).length rs)(G:dh P n ops (ops.drop n1) ⟨eJ s.t (ops.take n1) rs,s.l++(([]:List (Nat×AO))++cj 0 rs).map (·.2)⟩ K):(Code.region id ops.toArray true).wpIn cO 0 P Q a w:=by
 refine wpIn_region_any Y ?_
 simpa using S5 k j U ae M aa Z ab N O ad G
def UJ{l0:List AO}{F:List Nat}{n1:Nat}{tm:Tm}{rs:List Rec}(U:∀f∈F,f<n1)(h:(F.all λf=>match ops[f]? with|some o=>lP o|none=>true)=true)(O:∀(f:Nat) o,f∈F->ops[f]?=some o->o.guard=none)(ab:jm V n ops l0 (ops.take n1) 0 tm 0 rs) :
  ∀(f:Nat) o x,f∈F->ops[f]?=some o->rs[f]?=some x->sg V true l0 o x:=by
 intro f o x k B ad
 have N:lP o=true:=by have:=dT.1 h f k;rw[B]at this;exact this
 obtain⟨M,_⟩:=ab.at_ f o x (by rw[hg,if_pos (U f k)];exact B) ad
 have Z:x.pc=[]:=M.Up (O f o k B)
 have j:=M.res (by rw[Z];trivial)
 have G:x.new=none:=by
  cases aa:x.new with
  |none=>rfl
  |some b=>
   have:=Tl (V:=V) (ρ:=λy=>(strip x.pc (bE x.tm y)).1) (l:=l0) (nid:=x.nid) N b
   rw[j,aa]at this;exact absurd rfl this
 refine⟨G,λ_ Y l' _=>?_⟩
 rw[G]at j
 exact(Tk (V:=V) (ρ:=λy=>(strip x.pc (bE x.tm y)).1) (l:=l0) (l':=l') (nid:=x.nid) (nid':=0) N (by rw[j]) (by rw[j];exact Y)).trans j
def IL(N:cn P V)(Y:P.follows .mixedOrders=true)(M:∀s a w,K s->Rel w0 I0 n s a w->Q .normal a w){id:Nat}{s:St}{a:Act}{w:World}{n1:Nat}{F:List Nat}(U:mP ops=true)(ae:rX ops n1 F=true)(j:C3 ops n1 F=true)(ab:pT ops n1=true)(Z:n1<=ops.length)(ad:Rel w0 I0 n s a w){rs:List Rec}(G:jm V n ops s.l (ops.take n1) 0 s.t ([]:List (Nat×AO)).length rs)(O:dh P n ops (ops.drop n1) ⟨eJ s.t (ops.take n1) rs,s.l++(([]:List (Nat×AO))++cj 0 rs).map (·.2)⟩ K):(Code.region id ops.toArray true).wpIn cO 0 P Q a w:=by
 unfold C3 at j
 rw[dd]at j
 exact S4 N Y M U ae j.2 ab Z ad (B:=true) (UJ (λf k=>(lN j.2 k).1) j.1 (λf o k aa=>((lN j.2 k).2 o aa).1) (by simpa using G)) (.inl rfl) G O
end
end Go.ag
namespace Go.ag
open Go Go.RowKit
variable [bd][bP]
abbrev Spec:=List D->Option (D×Prop)
def qy:List (FuncId×Spec)->xt
 | [],_,_=>none
 | (g,S)::r,f,ds=>if g=f then S ds else qy r f ds
structure qm(P:Program)(f:FuncId)(S:Spec):Prop where
 enters:Enters P f
 jv:∀ds r ob,S ds=some (r,ob)->ob->eO P f ds r
def sn(P:Program):List (FuncId×Spec)->Prop
 | []=>True
 | (f,S)::r=>qm P f S/\sn P r
theorem sn.ok{P:Program}:∀{j:List (FuncId×Spec)},sn P j->G9 P (qy j)
 | [],_,f,ds,r,ob,h,_=>by simp[qy]at h
 | (g,S)::j,M,f,ds,r,ob,h,B=>by
  obtain⟨k,F⟩:=M
  simp only[qy]at h
  split at h
  ·rename_i G;subst G;exact⟨k.enters,k.jv ds r ob h B⟩
  exact sn.ok F f ds r ob h B
def Ks(j:List (Nat×List Lf)):TypeId->Option (List Lf):=λt=>(j.find? λp=>p.1 == t).map (·.2)
section
variable {P:Program}{V:Env}{w0:World}{I0:av}{n:Nat}{md:Way}{Q:Exit->St->Prop}{s:St}{y:Code}{ops:List Oper}{K:St->Prop}
def o7(ops:List Oper)(n1:Nat)(F:List Nat):Bool:=mP ops&&rX ops n1 F&&C3 ops n1 F&&pT ops n1&&decide (n1<=ops.length)
theorem Ti(j:cn P V)(O:P.follows .mixedOrders=true){Q:Exit->Act->World->Prop}{K:St->Prop}(B:∀s a w,K s->Rel w0 I0 n s a w->Q .normal a w){id:Nat}{s:St}{a:Act}{w:World}(n1:Nat)(F:List Nat)(k:o7 ops n1 F=true)(Z:Rel w0 I0 n s a w)(h:fL V n ops md s.l (ops.take n1) 0 s.t [] λtm ad=>dC V n ops md (ops.drop n1) ⟨tm,s.l++ad.map (·.2)⟩ K):(Code.region id ops.toArray true).wpIn cO 0 P Q a w:=by
 simp only[o7,dd,ek]at k
 obtain⟨⟨⟨⟨N,ab⟩,M⟩,Y⟩,U⟩:=k
 obtain⟨rs,aa,G⟩:=pe _ _ _ _ h
 exact IL j O B N ab M Y U Z aa (dh.of j G)
theorem Tj(B:cn P V)(O:P.follows .mixedOrders=true){Q:Exit->Act->World->Prop}{K:St->Prop}(k:∀s a w,K s->Rel w0 I0 n s a w->Q .normal a w){id:Nat}{s:St}{a:Act}{w:World}(n1:Nat)(F:List Nat)(j:o7 ops n1 F=true)(Z:Rel w0 I0 n s a w)(h:fL V n ops md s.l (ops.take n1) 0 s.t [] λtm ad=>dh P n ops (ops.drop n1) ⟨tm,s.l++ad.map (·.2)⟩ K):(Code.region id ops.toArray true).wpIn cO 0 P Q a w:=by
 simp only[o7,dd,ek]at j
 obtain⟨⟨⟨⟨N,ab⟩,M⟩,Y⟩,U⟩:=j
 obtain⟨rs,aa,G⟩:=pe _ _ _ _ h
 exact IL B O k N ab M Y U Z aa G
def T.px(k:Nat):T->Bool
 |.d _=>true
 |.ptr id _=>decide (id<k)
 |.aW id=>decide (id<k)
 |_=>false
def T.dp(k:Nat):T->Bool
 |.ptr id _=>decide (id<k)
 |.row id=>decide (id<k)
 |.bj id _ _=>decide (id<k)
 |.map id=>decide (id<k)
 |.aW id=>decide (id<k)
 |.sub id _ _=>decide (id<k)
 |.cw id _=>decide (id<k)
 |.bB id _=>decide (id<k)
 |.aJ ts=>ts.all λt=>match t with |.d _=>true|_=>false
 |.cond _ t=>match t with |.d _=>true|_=>false
 |.aB _ ts=>ts.all (T.px k)
 |.agg ts=>ts.all λt=>match t with |.d _=>true|_=>false
 |_=>true
def AO.dp(k:Nat):AO->Bool
 |.var _ cs=>cs.all (T.dp k)
 |.frame b _ _=>decide (b<=k)
 |.loop b _ _ _ _ _ _ _=>decide (b<=k)
 |_=>true
theorem ar.cut{I:av}{m:Nat->Value}{l:List AO}{k:Nat}(ah:k<=l.length){v:Value}{t:T}(h:ar I m l v t)(B:t.dp k=true):ar I m (l.take k) v t:=by
 have Y:∀id,id<k->(l.take k)[id]?=l[id]?:=λid U=>by rw[hg,if_pos U]
 have N:∀id,id<k->isVar (l.take k) id=isVar l id:=λid U=>by unfold isVar;rw[Y id U]
 have aa:∀id,id<k->isRow (l.take k) id=isRow l id:=λid U=>by unfold isRow;rw[Y id U]
 have data:∀{v:Value}{t:T},ar I m l v t->(match t with |.d _=>true|_=>false)=true->ar I m (l.take k) v t:=by
  intro v t h B
  cases h<;>simp at B
  exact .d _ _ (by assumption)
 cases h with
 |undef=>exact .undef _
 |d v x ab=>exact .d _ _ ab
 |bu s=>exact .bu _
 |ptr id b off F j=>simp[T.dp]at B;exact .ptr id b off ((N id B).trans F) j
 |br b o size els q off val F j M Z=>exact .br b o size els q off val F j M Z
 |aW id b F j=>simp[T.dp]at B;exact .aW id b ((N id B).trans F) j
 |cw id b n c F j M Z=>simp[T.dp]at B;exact .cw id b n c ((N id B).trans F) j M Z
 |row A n c id F j=>simp[T.dp]at B;exact .row A n c id (by rw[fa];omega) (λG=>j ((aa id B).symm.trans G))
 |bB A n c id x F j M=>simp[T.dp]at B;exact .bB A n c id x (by rw[fa];omega) (λG=>j ((aa id B).symm.trans G)) M
 |bj a id q off F j=>simp[T.dp]at B;exact .bj a id q off (by rw[fa];omega) (λe size els G=>j e size els (by rw[Y id B]at G;exact G))
 |sub A n c id lo hi F j=>simp[T.dp]at B;exact .sub A n c id lo hi (by rw[fa];omega) (λe size els G=>j e size els (by rw[Y id B]at G;exact G))
 |map r id F j=>simp[T.dp]at B;exact .map r id (by rw[fa];omega) (λG=>j ((aa id B).symm.trans G))
 |aJ vs ts F j=>
  refine .aJ vs ts F λi v t N ht=>data (j i v t N ht) ?_
  simp only[T.dp,dT]at B
  exact B t (dn ht)
 |cond v pc t F j=>exact .cond v pc t (λaf=>data (F af) B) j
 |aB g vs ts F j=>
  refine .aB g vs ts F λi v t ag ht=>?_
  simp only[T.dp,dT]at B
  have O:=B t (dn ht)
  have M:=j i v t ag ht
  cases M with
  |d v x ab=>exact .d _ _ ab
  |ptr id b off ad ae=>simp[T.px]at O;exact .ptr id b off ((N id O).trans ad) ae
  |aW id b ad ae=>simp[T.px]at O;exact .aW id b ((N id O).trans ad) ae
  |_=>simp[T.px]at O
 |agg vs ts F j M=>
  refine .agg vs ts F j λi v t N ht=>data (M i v t N ht) ?_
  simp only[T.dp,dT]at B
  exact B t (dn ht)
theorem aE.cut{w0 w:World}{I0 I:av}{m:Nat->Value}{l:List AO}{k:Nat}(h:aE w0 I0 w I m l)(ao:k<=l.length)(U:(l.take k).all (AO.dp k)=true):aE w0 I0 w I m (l.take k):=by
 have aj:∀id,id<k->(l.take k)[id]?=l[id]?:=λid ak=>by rw[hg,if_pos ak]
 have Y:∀{id:Nat}{o:AO},(l.take k)[id]?=some o->id<k/\l[id]?=some o:=by
  intro id o B
  have:id<k:=by have:=(da.1 B).1;rw[fa]at this;omega
  exact⟨this,by rw[<-aj id this];exact B⟩
 refine⟨h.below,h.sat,h.ext,λid o B=>?_,λi j b al hi an=>?_⟩
 ·obtain⟨ax,ai⟩:=Y B
  have:=h.obj id o ai
  cases o with
  |var ty cs=>
   obtain⟨b,vs,M,N,aa,ae,O,ab⟩:=this
   refine⟨b,vs,M,N,aa,ae,λi x t ad ht=>⟨(O i x t ad ht).1.cut ao ?_,(O i x t ad ht).2⟩,ab⟩
   have:=dT.1 U _ (dn B)
   simp only[AO.dp,dT]at this
   exact this t (dn ht)
  |dead=>trivial
  |row e size els=>exact this
  |bg e size els=>exact this
  |map Z vs=>exact this
  |dE Z vs=>exact this
  |bn e size Z vs ay=>
   refine dH.gm (λq G=>⟨q,?_,rfl⟩) this
   unfold cy at G⊢
   rw[hg]at G
   split at G
   ·exact G
   simp at G
  |iter Z vs done=>exact this
  |frame b vals t=>
   have F:=dT.1 U _ (dn B)
   simp only[AO.dp,ek]at F
   refine⟨this.1,by rw[fa];have:=this.2.1;omega,λj=>?_⟩
   rw[x0,pa F]
   exact this.2.2 j
  |loop b n ps aU aw t st cJ=>
   have F:=dT.1 U _ (dn B)
   simp only[AO.dp,ek]at F
   obtain⟨af,r,au,M,N,aa,ae,O,ab⟩:=this
   refine⟨af,r,au,M,N,aa,by rw[fa];omega,λj=>?_,ab⟩
   rw[x0,pa F]
   exact O j
 obtain⟨aq,M,ag⟩:=bD.1 hi
 obtain⟨ar,N,ah⟩:=bD.1 an
 exact h.sep i j b al (bD.2 ⟨aq,(Y M).2,ag⟩) (bD.2 ⟨ar,(Y N).2,ah⟩)
def nP(s:Tm):Tm->Prop
 | []=>True
 | (i,t)::r=>get s i=t/\nP s r
def C9{s:Tm}:∀{r:Tm},nP s r->∀k,get r k = .undef\/get r k=get s k
 | [],_,k=>.inl rfl
 | (i,t)::r,h,k=>by
  simp only[get]
  by_cases hi:i=k
  ·subst hi;rw[if_pos rfl];exact .inr h.1.symm
  rw[if_neg hi];exact C9 h.2 k
def JP{k:Nat}:∀{r:Tm},r.all (λp=>T.dp k p.2)=true->∀j,T.dp k (get r j)=true
 | [],_,j=>rfl
 | (i,t)::r,h,j=>by
  simp only[List.all_cons,dd]at h
  simp only[get]
  split
  ·exact h.1
  exact JP h.2 j
theorem Sub.cut(k:Nat){t':Tm}(B:k<=s.l.length)(O:(s.l.take k).all (AO.dp k)=true)(ht:t'.all (λp=>T.dp k p.2)=true)(U:nP s.t t'):Sub s ⟨t',s.l.take k⟩:=by
 intro w0 I0 n a w Y
 obtain⟨F,I,m,M,G,N⟩:=Y
 refine⟨F,I,m,M.cut B O,G,λj=>?_⟩
 rcases C9 U j with h|h
 ·rw[h];exact .undef _
 rw[h]
 exact(N j).cut B (by rw[<-h];exact JP ht j)
def Sub.SE(k:Nat){t':Tm}{l':List AO}(G:l'=s.l.take k)(F:k<=s.l.length)(j:(s.l.take k).all (AO.dp k)=true)(ht:t'.all (λp=>T.dp k p.2)=true)(B:nP s.t t'):Sub s ⟨t',l'⟩:=by
 subst G;exact Sub.cut k F j ht B
end
end Go.ag
namespace Go.ag
open Go Go.RowKit
variable [bd][bP]
def idx(id:Nat):List Nat->Nat->Option Nat
 | [],_=>none
 |x::xs,k=>if x=id then some k else idx id xs (k+1)
def lO{id:Nat}:∀{xs:List Nat}{k j:Nat},idx id xs k=some j->k<=j/\xs[j-k]?=some id
 | [],k,j,h=>by simp[idx]at h
 |x::xs,k,j,h=>by
  simp only[idx]at h
  split at h
  ·rename_i F;cases h;simp[F]
  obtain⟨G,B⟩:=lO h
  refine⟨by omega,?_⟩
  rw[show j-k=(j-(k+1))+1 by omega];simpa using B
def T.data:T->Bool
 |.d _=>true
 |_=>false
def T.flat:T->Bool
 |.d _=>true
 |.ptr _ _=>true
 |.aW _=>true
 |_=>false
def T.rO(ids:List Nat):T->T
 |.ptr id off=>match idx id ids 0 with|some k=>.ptr k off|none=>.undef
 |.aW id=>match idx id ids 0 with|some k=>.aW k|none=>.undef
 |t=>t
def T.cK(ids:List Nat):T->T
 |.ptr id off=>match idx id ids 0 with|some k=>.ptr k off|none=>.undef
 |.row id=>match idx id ids 0 with|some k=>.row k|none=>.undef
 |.bj id k off=>match idx id ids 0 with|some j=>.bj j k off|none=>.undef
 |.map id=>match idx id ids 0 with|some k=>.map k|none=>.undef
 |.aW id=>match idx id ids 0 with|some k=>.aW k|none=>.undef
 |.sub id lo hi=>match idx id ids 0 with|some k=>.sub k lo hi|none=>.undef
 |.cw id n=>match idx id ids 0 with|some k=>.cw k n|none=>.undef
 |.bB id x=>match idx id ids 0 with|some k=>.bB k x|none=>.d x
 |.aB g ts=>if ts.all T.flat then .aB g (ts.map (T.rO ids))else .undef
 |.aJ _=>.undef
 |.cond _ _=>.undef
 |.agg _=>.undef
 |t=>t
def T.bM(ids:List Nat):T->T
 |.aJ ts=>if ts.all T.data then .aJ ts else .undef
 |.cond pc t=>if t.data then .cond pc t else .undef
 |.agg ts=>.agg (ts.map (T.cK ids))
 |t=>t.cK ids
def AO.bM(ids:List Nat):AO->AO
 |.var ty cs=>.var ty (cs.map (T.bM ids))
 |o=>o
def cL(ids:List Nat)(l:List AO):List AO:=ids.map λid=>((l[id]?).getD .dead).bM ids
theorem ui{ids:List Nat}{l:List AO}{k id:Nat}(h:ids[k]?=some id):(cL ids l)[k]?=some (((l[id]?).getD .dead).bM ids):=by simp[cL,h]
def AO.lj(ids:List Nat)(o:AO):(o.bM ids).isVar=o.isVar:=by cases o<;>rfl
def AO.ni(ids:List Nat)(o:AO):(o.bM ids).isRow=o.isRow:=by cases o<;>rfl
theorem Ev{ids:List Nat}(h:ids.Nodup):∀{i j a:Nat},ids[i]?=some a->ids[j]?=some a->i=j:=by
 induction ids with
 |nil=>intro i j a hi;simp at hi
 |cons x xs B=>
  intro i j a hi k
  rw[iu]at h
  rcases i with _|i<;>rcases j with _|j
  ·rfl
  ·simp at hi k;subst hi;exact absurd (dn k) h.1
  ·simp at hi k;subst k;exact absurd (dn hi) h.1
  simp at hi k;rw[B h.2 hi k]
section
variable {P:Program}{V:Env}{w0:World}{I0:av}{n:Nat}{Q:Exit->St->Prop}{s:St}
def Ix{I:av}{m m':Nat->Value}{l l':List AO}{v:Value}{t:T}(h:ar I m l v t)(j:t.data=true):ar I m' l' v t:=by
 cases h<;>simp[T.data]at j
 exact .d _ _ (by assumption)
def lj{ids:List Nat}{l:List AO}{k id:Nat}(h:ids[k]?=some id):isVar (cL ids l) k=isVar l id:=by
 unfold isVar;rw[ui h];simp only[Option.map_some,Option.getD_some,AO.lj]
 cases l[id]?<;>rfl
def ni{ids:List Nat}{l:List AO}{k id:Nat}(h:ids[k]?=some id):isRow (cL ids l) k=isRow l id:=by
 unfold isRow;rw[ui h];simp only[Option.map_some,Option.getD_some,AO.ni]
 cases l[id]?<;>rfl
def Mt{ids:List Nat}{l:List AO}{m m':Nat->Value}{q:Nat}(F:∀(k id:Nat),ids[k]?=some id->m' k=m id)(h:cy (cL ids l) q=true):∃B,cy l B=true/\own (m B)=own (m' q):=by
 unfold cy at h
 cases hi:ids[q]? with
 |none=>simp[cL,hi]at h
 |some id=>
  rw[ui hi]at h
  refine⟨id,?_,by rw[F q id hi]⟩
  unfold cy
  cases j:l[id]? with
  |none=>rw[j]at h;simp[AO.bM,AO.cy]at h
  |some o=>rw[j]at h;cases o<;>simp_all [AO.bM,AO.cy]
def A3{ids:List Nat}{l:List AO}{k id e size:Nat}{els:List D}(h:ids[k]?=some id)(j:(cL ids l)[k]?=some (.row e size els)\/(cL ids l)[k]?=some (.bg e size els)):l[id]?=some (.row e size els)\/l[id]?=some (.bg e size els):=by
 rw[ui h]at j
 cases B:l[id]? with
 |none=>rw[B]at j;simp[AO.bM]at j
 |some o=>rw[B]at j;cases o<;>simp_all [AO.bM]
def ar.cK{I:av}{m m':Nat->Value}{l:List AO}{ids:List Nat}(G:∀k id,ids[k]?=some id->m' k=m id){v:Value}{t:T}(h:ar I m l v t):ar I m' (cL ids l) v (t.cK ids):=by
 have Y:∀{k id:Nat},ids[k]?=some id->k<(cL ids l).length:=λh=>by rw[show(cL ids l).length=ids.length by simp[cL]];exact(da.1 h).1
 cases h with
 |undef=>exact .undef _
 |d v x ab=>exact .d _ _ ab
 |bu s=>exact .bu _
 |ptr id b off F B=>
  simp only[T.cK]
  split
  ·rename_i k j
   have j:=(lO j).2;simp only[Nat.sub_zero]at j
   exact .ptr k b off ((lj j).trans F) ((G k id j).trans B)
  exact .undef _
 |aW id b F B=>
  simp only[T.cK]
  split
  ·rename_i k j
   have j:=(lO j).2;simp only[Nat.sub_zero]at j
   exact .aW k b ((lj j).trans F) ((G k id j).trans B)
  exact .undef _
 |cw id b n c F B N aa=>
  simp only[T.cK]
  split
  ·rename_i k j
   have j:=(lO j).2;simp only[Nat.sub_zero]at j
   exact .cw k b n c ((lj j).trans F) ((G k id j).trans B) N aa
  exact .undef _
 |br b o size els q off val F B N aa=>exact .br b o size els q off val F B N aa
 |row A n c id F B=>
  simp only[T.cK]
  split
  ·rename_i k j
   have j:=(lO j).2;simp only[Nat.sub_zero]at j
   exact .row A n c k (Y j) λM=>(G k id j).trans (B ((ni j).symm.trans M))
  exact .undef _
 |bB A n c id x F B N=>
  simp only[T.cK]
  split
  ·rename_i k j
   have j:=(lO j).2;simp only[Nat.sub_zero]at j
   exact .bB A n c k x (Y j) (λM=>(G k id j).trans (B ((ni j).symm.trans M))) N
  exact .d _ _ N
 |bj a id q off F B=>
  simp only[T.cK]
  split
  ·rename_i k j
   have j:=(lO j).2;simp only[Nat.sub_zero]at j
   refine .bj a k q off (Y j) λe size els M=>?_
   obtain⟨b,n,c,O,U⟩:=B e size els (A3 j M)
   exact⟨b,n,c,(G k id j).trans O,U⟩
  exact .undef _
 |sub A n c id lo hi F B=>
  simp only[T.cK]
  split
  ·rename_i k j
   have j:=(lO j).2;simp only[Nat.sub_zero]at j
   refine .sub A n c k lo hi (Y j) λe size els M=>?_
   obtain⟨ad,n0,ae,O,U⟩:=B e size els (A3 j M)
   exact⟨ad,n0,ae,(G k id j).trans O,U⟩
  exact .undef _
 |map r id F B=>
  simp only[T.cK]
  split
  ·rename_i k j
   have j:=(lO j).2;simp only[Nat.sub_zero]at j
   exact .map r k (Y j) λM=>(G k id j).trans (B ((ni j).symm.trans M))
  exact .undef _
 |aJ vs ts F B=>exact .undef _
 |cond v pc t F B=>exact .undef _
 |agg vs ts F B N=>exact .undef _
 |aB g vs ts F B=>
  simp only[T.cK]
  split
  ·rename_i ag
   refine .aB g vs _ (by simpa using F) λi v t ai ht=>?_
   rw[e0]at ht
   cases Z:ts[i]? with
   |none=>rw[Z]at ht;cases ht
   |some t0=>
    rw[Z]at ht;simp at ht;subst ht
    have af:=B i v t0 ai Z
    have ah:=dT.1 ag t0 (dn Z)
    cases af with
    |d v x ab=>exact .d _ _ ab
    |ptr id b off O U=>
     simp only[T.rO]
     split
     ·rename_i k j
      have j:=(lO j).2;simp only[Nat.sub_zero]at j
      exact .ptr k b off ((lj j).trans O) ((G k id j).trans U)
     exact .undef _
    |aW id b O U=>
     simp only[T.rO]
     split
     ·rename_i k j
      have j:=(lO j).2;simp only[Nat.sub_zero]at j
      exact .aW k b ((lj j).trans O) ((G k id j).trans U)
     exact .undef _
    |_=>simp[T.flat]at ah
  exact .undef _
def ar.bM{I:av}{m m':Nat->Value}{l:List AO}{ids:List Nat}(F:∀k id,ids[k]?=some id->m' k=m id){v:Value}{t:T}(h:ar I m l v t):ar I m' (cL ids l) v (t.bM ids):=by
 cases h with
 |aJ vs ts G M=>
  simp only[T.bM]
  split
  ·rename_i O
   exact .aJ vs ts G λi v t Y ht=>Ix (M i v t Y ht) (dT.1 O t (dn ht))
  exact .undef _
 |cond v pc t G M=>
  simp only[T.bM]
  split
  ·rename_i O
   exact .cond v pc t (λab=>Ix (G ab) O) M
  exact .undef _
 |agg vs ts G M aa=>
  refine .agg vs _ (by simpa using G) M λi v t Y ht=>?_
  rw[e0]at ht
  cases U:ts[i]? with
  |none=>rw[U]at ht;cases ht
  |some t0=>
   rw[U]at ht;simp at ht;subst ht
   exact(aa i v t0 Y U).cK F
 |undef=>exact .undef _
 |d v x ad=>exact .d _ _ ad
 |bu s=>exact .bu _
 |ptr id b off j B=>exact ar.cK F (.ptr id b off j B)
 |br b o size els q off val j B N Z=>exact ar.cK F (.br b o size els q off val j B N Z)
 |row A n c id j B=>exact ar.cK F (.row A n c id j B)
 |bB A n c id x j B N=>exact ar.cK F (.bB A n c id x j B N)
 |bj a id q off j B=>exact ar.cK F (.bj a id q off j B)
 |map r id j B=>exact ar.cK F (.map r id j B)
 |aW id b j B=>exact ar.cK F (.aW id b j B)
 |cw id b n c j B N Z=>exact ar.cK F (.cw id b n c j B N Z)
 |sub A n c id lo hi j B=>exact ar.cK F (.sub A n c id lo hi j B)
 |aB g vs ts j B=>exact ar.cK F (.aB g vs ts j B)
def mF(ids:List Nat)(l:List AO):Bool:=ids.all λid=>match l[id]? with
 |some (.frame b _ _)|some (.loop b _ _ _ _ _ _ _)=>(List.range b).all λj=>ids[j]? == some j
 |_=>true
def aE.bM{w0 w:World}{I0 I:av}{m:Nat->Value}{l:List AO}{ids:List Nat}(h:aE w0 I0 w I m l)(aF:ids.Nodup)(aC:mF ids l=true):aE w0 I0 w I (λk=>m ((ids[k]?).getD 0)) (cL ids l):=by
 have ad:∀(k id:Nat),ids[k]?=some id->(λk:Nat=>m ((ids[k]?).getD 0)) k=m id:=λk id F=>by simp[F]
 have af:∀{k:Nat}{o:AO},(cL ids l)[k]?=some o->∃id,ids[k]?=some id:=λ{k o} F=>by
  cases hi:ids[k]? with
  |none=>simp[cL,hi]at F
  |some id=>exact⟨id,rfl⟩
 have aq:∀{k id:Nat},ids[k]?=some id->alive (cL ids l) k=alive l id:=λF=>by unfold alive;rw[lj F,ni F]
 refine⟨h.below,h.sat,h.ext,λk o aw=>?_,λi j b aD hi U=>?_⟩
 ·obtain⟨id,F⟩:=af aw
  have M:=ui (l:=l) F
  rw[aw]at M
  cases ab:l[id]? with
  |none=>rw[ab]at M;simp[AO.bM]at M;subst M;trivial
  |some o'=>
   rw[ab]at M;simp only[Option.getD_some,c5]at M
   have B:=h.obj id o' ab
   show dH _ _ _ _ _ (m ((ids[k]?).getD 0)) o
   rw[F,M];simp only[Option.getD_some]
   have pre:∀b:Nat,(match o' with |.frame b _ _ |.loop b _ _ _ _ _ _ _=>some b|_=>none)=some b->b<=l.length->b<=ids.length/\Le I m (l.take b) I (λk=>m ((ids[k]?).getD 0)) ((cL ids l).take b):=λb ar aL=>by
    have O:∀j,j<b->ids[j]?=some j:=λj U=>by
     have:=dT.1 aC id (dn F)
     rw[ab]at this
     have:=(by
      cases o'<;>simp at ar<;>subst ar<;>exact dT.1 this j (hR.2 U):(ids[j]? == some j)=true)
     simpa using this
    have aB:b<=ids.length:=by
     rcases tl b with h0|h0
     ·omega
     have:=(da.1 (O (b-1) (by omega))).1;omega
    refine⟨aB,.refl I,by simp[cL];omega,λq N ay=>?_,λq N ax=>?_,λq e size els N au=>?_⟩
    ·rw[fa]at N
     rw[yJ (by omega)]at ay⊢
     exact⟨(lj (O q (by omega))).trans ay,ad q q (O q (by omega))⟩
    ·rw[fa]at N
     rw[yH (by omega)]at ax⊢
     exact⟨(ni (O q (by omega))).symm.trans ax,ad q q (O q (by omega))⟩
    rw[fa]at N
    rw[hg,if_pos (by omega)]at au⊢
    exact⟨els,A3 (O q (by omega)) au⟩
   cases o' with
   |dead=>trivial
   |var ty cs=>
    obtain⟨b,vs,Y,Z,aj,ak,ae,al⟩:=B
    refine⟨b,vs,Y,Z,aj,by simp[ak],λi x t az ht=>?_,al⟩
    rw[e0]at ht
    cases G:cs[i]? with
    |none=>rw[G]at ht;simp at ht
    |some t0=>
     rw[G]at ht;simp at ht;subst ht
     exact⟨(ae i x t0 az G).1.bM ad,(ae i x t0 az G).2⟩
   |row e size els=>exact B
   |bg e size els=>exact B
   |map ag vs=>exact B
   |dE ag vs=>exact B
   |bn e size ag vs aO=>exact dH.gm (λq N=>Mt (m':=λk=>m ((ids[k]?).getD 0)) ad N) B
   |iter ag vs done=>exact B
   |frame b vals t=>
    obtain⟨ah,ai⟩:=pre b rfl B.2.1
    exact⟨B.1,by simpa [cL]using ah,λj=>(B.2.2 j).mono ai⟩
   |loop b n ps aU aI t st cJ=>
    obtain⟨aA,r,aH,Y,Z,aj,ak,ae,al⟩:=B
    obtain⟨ah,ai⟩:=pre b rfl ak
    exact⟨aA,r,aH,Y,Z,aj,by simpa [cL]using ah,λj=>(ae j).mono ai,al⟩
 obtain⟨aM,Y,_⟩:=bD.1 hi
 obtain⟨aN,Z,_⟩:=bD.1 U
 obtain⟨a,aa⟩:=af Y
 obtain⟨c,G⟩:=af Z
 rw[aq aa]at hi;rw[aq G]at U
 have aG:a≠c:=λe=>by
  subst e
  have an:=da.1 aa
  have ao:=da.1 G
  obtain⟨an,aJ⟩:=an;obtain⟨ao,aK⟩:=ao
  exact aD (Ev aF aa G)
 simp only[aa,G,Option.getD_some]
 exact h.sep a c b aG hi U
def jV(ids:List Nat)(s:Tm):Tm->Prop
 | []=>True
 | (i,t)::r=>(get s i).bM ids=t/\jV ids s r
def yq{ids:List Nat}{s:Tm}:∀{r:Tm},jV ids s r->∀k,get r k = .undef\/get r k=(get s k).bM ids
 | [],_,k=>.inl rfl
 | (i,t)::r,h,k=>by
  simp only[get]
  by_cases hi:i=k
  ·subst hi;rw[if_pos rfl];exact .inr h.1.symm
  rw[if_neg hi];exact yq h.2 k
def Sub.bM(ids:List Nat){t':Tm}{l':List AO}(Z:ids.Nodup)(O:mF ids s.l=true)(Y:cL ids s.l=l')(N:jV ids s.t t'):Sub s ⟨t',l'⟩:=by
 subst Y
 intro w0 I0 n a w aa
 obtain⟨B,I,m,G,F,M⟩:=aa
 refine⟨B,I,_,G.bM Z O,F,λj=>?_⟩
 rcases yq N j with h|h
 ·rw[h];exact .undef _
 rw[h];exact(M j).bM λk id U=>by simp[U]
def aE.MB{w0 w:World}{I0 I:av}{m:Nat->Value}{l:List AO}(N:aE w0 I0 w I m l)(e size:Nat):∃m',aE w0 I0 w I m' (l++[.row e size []])/\Le I m l I m' (l++[.row e size []])/\m' l.length = .slice none 0 0:=by
 let m':Nat->Value:=λk=>if k=l.length then .slice none 0 0 else m k
 have M:∀k,k<l.length->m' k=m k:=λk ak=>by simp only[m'];rw[if_neg (by omega)]
 have aj:∀id,id<l.length->isVar (l++[.row e size []]) id=isVar l id:=λid hid=>by unfold isVar;rw[e3 hid]
 have ai:∀id,id<l.length->isRow (l++[.row e size []]) id=isRow l id:=λid hid=>by unfold isRow;rw[e3 hid]
 have G:Le I m l I m' (l++[.row e size []]):=by
  refine⟨.refl I,by simp,λid hid Z=>⟨(aj id hid).trans Z,M id hid⟩,λid hid Z=>⟨(ai id hid).symm.trans Z,M id hid⟩,λid ao s' els hid au=>⟨els,?_⟩⟩
  rwa [e3 hid]at au
 have U:m' l.length = .slice none 0 0:=by simp[m']
 refine⟨m',⟨N.below,N.sat,N.ext,λid o B=>?_,λi k b ar hi ak=>?_⟩,G,U⟩
 ·rcases mv id l.length with hid|hid
  ·rw[e3 hid]at B
   have:=N.obj id o B
   rw[M id hid]
   cases o with
   |dead=>trivial
   |var ty cs=>
    obtain⟨b,vs,ab,ad,ae,af,Y,ag⟩:=this
    exact⟨b,vs,ab,ad,ae,af,λi x t al ht=>⟨(Y i x t al ht).1.mono G,(Y i x t al ht).2⟩,ag⟩
   |row e size els=>exact this
   |bg e size els=>exact this
   |map aa vs=>exact this
   |dE aa vs=>exact this
   |bn ao az aa vs ay=>exact dH.gm (λq F=>(s9 F).elim (λh=>⟨q,h.2,by rw[M q h.1]⟩) λh=>by cases h.2) this
   |iter aa vs done=>exact this
   |frame b vals t=>exact⟨this.1,hF this.2.1 G.len,λj=>(this.2.2 j).mono (G.take b)⟩
   |loop b n ps aU ax t st cJ=>
    obtain⟨an,r,aw,ab,ad,ae,af,Y,ag⟩:=this
    exact⟨an,r,aw,ab,ad,ae,hF af G.len,λj=>(Y j).mono (G.take b),ag⟩
  rw[hJ hid]at B
  have aq:id-l.length=0:=by
   cases F:id-l.length with
   |zero=>rfl
   |succ q=>rw[F]at B;simp at B
  rw[aq]at B;simp at B;subst B
  have:id=l.length:=by omega
  subst this
  rw[U]
  exact⟨[],⟨by simp,.inl ⟨rfl,rfl⟩⟩,by simp,by simp,by simp[own]⟩
 intro O
 have ah:∀q,alive (l++[.row e size []]) q=true->(q<l.length/\alive l q=true)\/q=l.length:=λq F=>by
  rcases mv q l.length with h|h
  ·refine .inl ⟨h,?_⟩;unfold alive at F⊢;rwa [aj q h,ai q h]at F
  obtain⟨o,B,_⟩:=bD.1 F
  have:=(da.1 B).1
  simp at this;right;omega
 rcases ah i hi with ⟨i1,i2⟩|rfl
 ·rcases ah k ak with ⟨k1,k2⟩|rfl
  ·rw[M i i1]at O;rw[M k k1];exact N.sep i k b ar i2 k2 O
  rw[U];simp[own]
 rw[U]at O;simp[own]at O
def Sub.sq(j e size:Nat){z:Nat}(ax:get s.t j = .bu z):Sub s ⟨(j,.row s.l.length)::s.t,s.l++[.row e size []]⟩:=by
 intro w0 I0 n a w az
 obtain⟨au,I,m,N,av,aj⟩:=az
 let m':Nat->Value:=λk=>if k=s.l.length then .slice none 0 0 else m k
 have M:∀k,k<s.l.length->m' k=m k:=λk O=>by simp only[m'];rw[if_neg (by omega)]
 have al:∀id,id<s.l.length->isVar (s.l++[.row e size []]) id=isVar s.l id:=λid hid=>by unfold isVar;rw[e3 hid]
 have ak:∀id,id<s.l.length->isRow (s.l++[.row e size []]) id=isRow s.l id:=λid hid=>by unfold isRow;rw[e3 hid]
 have G:Le I m s.l I m' (s.l++[.row e size []]):=by
  refine⟨.refl I,by simp,λid hid aa=>⟨(al id hid).trans aa,M id hid⟩,λid hid aa=>⟨(ak id hid).symm.trans aa,M id hid⟩,λid aq s' els hid ay=>⟨els,?_⟩⟩
  rwa [e3 hid]at ay
 have Y:m' s.l.length = .slice none 0 0:=by simp[m']
 refine⟨au,I,m',⟨N.below,N.sat,N.ext,λid o B=>?_,λi k b aw hi O=>?_⟩,av,λk=>?_⟩
 ·rcases mv id s.l.length with hid|hid
  ·rw[e3 hid]at B
   have:=N.obj id o B
   rw[M id hid]
   cases o with
   |dead=>trivial
   |var ty cs=>
    obtain⟨b,vs,ad,ae,af,ag,Z,ah⟩:=this
    exact⟨b,vs,ad,ae,af,ag,λi x t an ht=>⟨(Z i x t an ht).1.mono G,(Z i x t an ht).2⟩,ah⟩
   |row e size els=>exact this
   |bg e size els=>exact this
   |map ab vs=>exact this
   |dE ab vs=>exact this
   |bn aq aD ab vs aC=>exact dH.gm (λq F=>(s9 F).elim (λh=>⟨q,h.2,by rw[M q h.1]⟩) λh=>by cases h.2) this
   |iter ab vs done=>exact this
   |frame b vals t=>exact⟨this.1,hF this.2.1 G.len,λj=>(this.2.2 j).mono (G.take b)⟩
   |loop b n ps aU aB t st cJ=>
    obtain⟨ao,r,aA,ad,ae,af,ag,Z,ah⟩:=this
    exact⟨ao,r,aA,ad,ae,af,hF ag G.len,λj=>(Z j).mono (G.take b),ah⟩
  rw[hJ hid]at B
  have ar:id-s.l.length=0:=by
   cases F:id-s.l.length with
   |zero=>rfl
   |succ q=>rw[F]at B;simp at B
  rw[ar]at B;simp at B;subst B
  have:id=s.l.length:=by omega
  subst this
  rw[Y]
  exact⟨[],⟨by simp,.inl ⟨rfl,rfl⟩⟩,by simp,by simp,by simp[own]⟩
 ·intro U
  have ai:∀q,alive (s.l++[.row e size []]) q=true->(q<s.l.length/\alive s.l q=true)\/q=s.l.length:=λq F=>by
   rcases mv q s.l.length with h|h
   ·refine .inl ⟨h,?_⟩;unfold alive at F⊢;rwa [al q h,ak q h]at F
   obtain⟨o,B,_⟩:=bD.1 F
   have:=(da.1 B).1
   simp at this;right;omega
  rcases ai i hi with ⟨i1,i2⟩|rfl
  ·rcases ai k O with ⟨k1,k2⟩|rfl
   ·rw[M i i1]at U;rw[M k k1];exact N.sep i k b aw i2 k2 U
   rw[Y];simp[own]
  rw[Y]at U;simp[own]at U
 simp only[get]
 by_cases O:j=k
 ·subst O
  rw[if_pos rfl]
  have:=aj j
  rw[ax]at this
  generalize a.tmps.getD j undef=v at this
  cases this
  exact .row none 0 0 _ (by simp) λ_=>Y
 rw[if_neg O];exact(aj k).mono G
theorem Sub.Hg(id k e size:Nat){ty:TypeId}{cs:List T}{z:Nat}(N:s.l[id]?=some (.var ty cs))(ag:cs[k]?=some (.bu z)):Sub s ⟨s.t,(s.l++[AO.row e size []]).set id (.var ty (cs.set k (.row s.l.length)))⟩:=by
 intro w0 I0 n a w ak
 obtain⟨aa,I,m,ad,ab,ae⟩:=ak
 obtain⟨m',Y,ai,aj⟩:=ad.MB e size
 have af:=(da.1 N).1
 have F:(s.l++[AO.row e size []])[id]?=some (.var ty cs):=by rw[e3 af];exact N
 have B:Le I m' (s.l++[AO.row e size []]) I m' ((s.l++[AO.row e size []]).set id (.var ty (cs.set k (.row s.l.length)))):=Le.setKind F rfl rfl (λe size els h=>by rcases h with h|h<;>cases h)
 obtain⟨b,vs,O,al,an,ao,M,U⟩:=Y.obj id _ F
 refine⟨aa,I,m',Y.kv F (by simp) (b:=b) (by rw[O];rfl) U rfl rfl B rfl rfl rfl (eb _) (eb _) (λ_ _=>rfl) ⟨b,vs,O,al,an,by simpa using ao,λi x t G ht=>?_,U⟩,ab,λj=>((ae j).mono ai).mono B⟩
 rw[e5]at ht
 split at ht
 ·rename_i ah
  subst ah
  split at ht
  ·injection ht with ht;subst ht
   have:=M k x _ G ag
   refine⟨?_,this.2⟩
   have Z:=this.1
   cases Z
   exact .row none 0 0 _ (by simp) λ_=>aj
  cases ht
 exact⟨(M i x t G ht).1.mono B,(M i x t G ht).2⟩
end
end Go.ag
namespace Go.ag
open Go Go.RowKit
class bG(α:Type) where
 enc:α->D
 dec:D->α
 size:Nat
 uT:∀a,dec (enc a)=a
 len:∀a,(enc a).cells.length=size
 zg:∀a,∀x∈(enc a).cells,x.one=true
open bG
instance:bG Int:=⟨λn=>.int .i64 n,λd=>match d with |.int _ n=>n|_=>0,1,λ_=>rfl,λ_=>rfl,by simp[D.cells,D.one]⟩
instance:bG Bool:=⟨λn=>.bool n,λd=>match d with |.bool n=>n|_=>false,1,λ_=>rfl,λ_=>rfl,by simp[D.cells,D.one]⟩
instance:bG ByteArray:=⟨λn=>.str n,λd=>match d with |.str n=>n|_=>⟨#[]⟩,1,λ_=>rfl,λ_=>rfl,by simp[D.cells,D.one]⟩
def Ef{α:Type}[bG α](xs:List α):(xs.map (enc:α->D)).map dec=xs:=by
 induction xs with
 |nil=>rfl
 |cons x xs j=>simp only[fv,j,uT]
def VO{α:Type}[bG α](xs:List α):xs.map ((dec:D->α) ∘ (enc:α->D))=xs:=by rw[<-k6,Ef]
instance {α:Type} [bG α]:bG (List α):=⟨λxs=>.slice (size α) (xs.map enc),λd=>match d with |.slice _ els=>els.map dec|_=>[],1,Ef,λ_=>rfl,by simp[D.cells,D.one]⟩
structure Fn where
 f:FuncId
instance:bG Fn:=⟨λn=>.fn n.f,λd=>match d with |.fn f=>⟨f⟩|_=>⟨0⟩,1,λ_=>rfl,λ_=>rfl,by simp[D.cells,D.one]⟩
theorem qD(n:Int):enc n = .int .i64 n:=rfl
theorem IV(b:Bool):enc b = .bool b:=rfl
theorem Tc(b:ByteArray):enc b = .str b:=rfl
theorem Tb(b:Fn):enc b = .fn b.f:=rfl
theorem sH{α:Type}[bG α](xs:List α):enc xs = .slice (size α) (xs.map enc):=rfl
theorem IB(k:IntKind)(n:Int):dec (.int k n)=n:=rfl
theorem Iz(b:Bool):dec (.bool b)=b:=rfl
theorem SS(b:ByteArray):dec (.str b)=b:=rfl
theorem SQ(f:FuncId):dec (.fn f)=Fn.mk f:=rfl
theorem SR{α:Type}[bG α](s:Nat)(els:List D):(dec (.slice s els):List α)=els.map dec:=rfl
theorem Nc:size Int=1:=rfl
theorem YY:size ByteArray=1:=rfl
def Nx(r:D):Spec:=λds=>match ds with| []=>some (r,True)|_=>none
def Ny{α:Type}[bG α](pre:α->Prop)(f:α->D):Spec:=λds=>match ds with| [a]=>some (f (dec a),enc (dec a:α)=a/\pre (dec a))|_=>none
def Nz{α β:Type}[bG α][bG β](pre:α->β->Prop)(f:α->β->D):Spec:=λds=>match ds with| [a,b]=>some (f (dec a) (dec b),enc (dec a:α)=a/\enc (dec b:β)=b/\pre (dec a) (dec b))|_=>none
def NA{α β j:Type}[bG α][bG β][bG j](pre:α->β->j->Prop)(f:α->β->j->D):Spec:=λds=>match ds with| [a,b,c]=>some (f (dec a) (dec b) (dec c),enc (dec a:α)=a/\enc (dec b:β)=b/\enc (dec c:j)=c/\pre (dec a) (dec b) (dec c))|_=>none
theorem Mc:List.range 1=[0]:=rfl
theorem Md:List.range 2=[0,1]:=rfl
theorem Me:List.range 3=[0,1,2]:=rfl
theorem Mf:List.range 4=[0,1,2,3]:=rfl
variable [bd][bP]
section
variable {P:Program}{g:FuncId}
end
section
variable {P:Program}{w0:World}{I0:av}{n:Nat}{Q:Exit->St->Prop}{s:St}{x y z:Code}
def cu(j:List Nat)(t:Tm):Tm:=j.map λk=>(k,get t k)
def Mz(t:Tm)(k:Nat):∀(B:List Nat),get (cu B t) k = .undef\/get (cu B t) k=get t k
 | []=>.inl rfl
 |j::B=>by
  simp only[cu,fv,get]
  by_cases h:j=k
  ·rw[if_pos h,h];exact .inr rfl
  rw[if_neg h];exact Mz t k B
def Sub.cu(k:List Nat):Sub s ⟨cu k s.t,s.l⟩:=by
 intro w0 I0 n a w N
 obtain⟨B,I,m,G,F,M⟩:=N
 refine⟨B,I,m,G,F,λj=>?_⟩
 rcases Mz s.t j k with h|h
 ·rw[h];exact .undef _
 rw[h];exact M j
def aG.It{s s':St}(h:s=s'):aG P w0 I0 n x s Q=aG P w0 I0 n x s' Q:=by rw[h]
end
end Go.ag
namespace Go.ag
open Go Go.RowKit bG
variable [bd][bP]
def aa{α β:Type}(o:Option α)(f:α->Option β):Option β:=match o with|some x=>f x|none=>none
def bJ{β:Type}(p:Prop)[Decidable p](o:Option β):Option β:=if p then o else none
def ab{β:Type}(c:Bool)(a b:Option β):Option β:=match c with|true=>a|false=>b
def gT(n:Int):Prop:= -9223372036854775808<=n/\n<=9223372036854775807
instance (n:Int):Decidable (gT n):=inferInstanceAs (Decidable (_/\_))
def au{α:Type}(l:List α)(i:Int):Option α:=if 0<=i then l[i.toNat]? else none
def Ia{α β:Type}{o:Option α}{f:α->Option β}{r:β}(h:aa o f=some r):∃x,o=some x/\f x=some r:=by
 unfold aa at h;split at h
 ·rename_i x;exact⟨x,rfl,h⟩
 cases h
def yz{β:Type}{p:Prop}[Decidable p]{o:Option β}{r:β}(h:bJ p o=some r):p/\o=some r:=by
 unfold bJ at h;split at h
 ·rename_i j;exact⟨j,h⟩
 cases h
def UH{β:Type}{c:Bool}{a b:Option β}{r:β}(j:c=true)(h:ab c a b=some r):a=some r:=by subst j;exact h
def UD{β:Type}{c:Bool}{a b:Option β}{r:β}(j:c=false)(h:ab c a b=some r):b=some r:=by subst j;exact h
def vq{β:Type}(c:Bool)(a b:Option β):ab c a b=if c=true then a else b:=by cases c<;>rfl
theorem aY{α β:Type}{o:Option α}{f:α->Option β}{x:α}(h:o=some x):aa o f=f x:=by subst h;rfl
def sU{β:Type}{p:Prop}[Decidable p]{o:Option β}(h:p):bJ p o=o:=if_pos h
theorem af{α β:Type}(x:α)(f:α->Option β):aa (some x) f=f x:=rfl
theorem IP(d:D)(l:List D):ep (d::l) 0=d:=rfl
def j6{σ ρ:Type}(step:σ->Option (σ⊕ρ)):Nat->σ->Option ρ
 |0,_=>none
 |n+1,z=>match step z with
  |some (.inl z')=>j6 step n z'
  |some (.inr r)=>some r
  |none=>none
def DD{σ ρ:Type}{step:σ->Option (σ⊕ρ)}{r:ρ}:∀{n m:Nat}{z:σ},n<=m->j6 step n z=some r->j6 step m z=some r
 |0,_,_,_,h=>by cases h
 |n+1,0,_,hm,_=>by omega
 |n+1,m+1,z,hm,h=>by
  simp only[j6]at h⊢
  split at h<;>try (first|exact h|cases h)
  exact DD (by omega) h
open Classical in
noncomputable def ay{σ ρ:Type}(step:σ->Option (σ⊕ρ))(z:σ):Option ρ:=if h:∃n r,j6 step n z=some r then some (Classical.choose (n2 h))else none
theorem D6{σ ρ:Type}{step:σ->Option (σ⊕ρ)}{z:σ}{n:Nat}{r:ρ}(h:j6 step n z=some r):ay step z=some r:=by
 have j:∃n r,j6 step n z=some r:=⟨n,r,h⟩
 unfold ay
 rw[dif_pos j]
 have B:=n2 (n2 j)
 have k:=DD (Nat.le_max_left n (Classical.choose j)) h
 have F:=DD (Nat.le_max_right n (Classical.choose j)) B
 rw[F]at k;exact k
def yQ{σ ρ:Type}{step:σ->Option (σ⊕ρ)}{z:σ}{r:ρ}(h:ay step z=some r):∃n,j6 step n z=some r:=by
 unfold ay at h
 split at h
 ·rename_i k
  have j:=n2 (n2 k)
  cases h
  exact⟨_,j⟩
 cases h
def Ky{σ ρ:Type}(step:σ->Option (σ⊕ρ))(z:σ):ay step z=match step z with|some (.inl z')=>ay step z'|some (.inr r)=>some r|none=>none:=by
 cases B:step z with
 |none=>
  cases k:ay step z with
  |none=>rfl
  |some r=>
   obtain⟨n,j⟩:=yQ k
   cases n with
   |zero=>cases j
   |succ n=>simp only[j6,B]at j;cases j
 |some x=>
  cases x with
  |inr r=>exact D6 (n:=1) (by simp only[j6,B])
  |inl z'=>
   simp only
   cases k:ay step z' with
   |some r=>
    obtain⟨n,j⟩:=yQ k
    exact D6 (n:=n+1) (by simp only[j6,B];exact j)
   |none=>
    cases F:ay step z with
    |none=>rfl
    |some r=>
     obtain⟨n,j⟩:=yQ F
     cases n with
     |zero=>cases j
     |succ n=>
      simp only[j6,B]at j
      rw[D6 j]at k;cases k
def D5{σ ρ:Type}{step:σ->Option (σ⊕ρ)}{z z':σ}(h:step z=some (.inl z')):ay step z=ay step z':=by rw[Ky,h]
def tu{σ ρ:Type}{step:σ->Option (σ⊕ρ)}{z:σ}{r:ρ}(h:step z=some (.inr r)):ay step z=some r:=by rw[Ky,h]
section
variable {P:Program}{V:Env}{w0:World}{I0:av}{n:Nat}{Q:Exit->St->Prop}{s s':St}{x y:Code}
theorem dS{K:St->Prop}(h:s=s')(k:K s'):K s:=h▸k
def aG.F6(j:St->Prop)(h:∀J:St->Prop,(∀s',j s'->J s')->aG P w0 I0 n x s (p7 J Q))(k:∀s',j s'->aG P w0 I0 n y s' Q):aG P w0 I0 n (x.seq y) s Q:=
 aG.seq (aG.mono (h j λ_ h=>h) λe s' B=>by cases e<;>first|exact k s' B|exact B)
def aG.Ba(h:∀K:St->Prop,(∀s',aG P w0 I0 n y s' Q->K s')->aG P w0 I0 n x s (p7 K Q)):aG P w0 I0 n (x.seq y) s Q:=
 aG.seq (h _ λ_ h=>h)
def aG.A2(G:cn P V)(md:Way)(j:List Nat){id:Nat}{ops:List Oper}(h:∀K:St->Prop,(∀s',Q .normal s'->K s')->dC V n ops md ops s (λs'=>K ⟨ag.cu j s'.t,s'.l⟩)):aG P w0 I0 n (Code.region id ops.toArray false) s Q:=λa w M=>by
 refine J1 (CQ (Q:=λe k w'=>∃s',Q e s'/\Rel w0 I0 n s' k w') (K:=λs'=>Q .normal ⟨ag.cu j s'.t,s'.l⟩) G (λs a w B F=>?_) ops s a w M (h _ λ_ h=>h))
 exact⟨_,B,Sub.cu j _ _ _ _ _ F⟩
def aG.Yi(M:cn P V)(O:P.follows .mixedOrders=true)(md:Way)(n1:Nat)(F:List Nat)(j:List Nat){id:Nat}{ops:List Oper}(N:o7 ops n1 F=true)(h:∀K:St->Prop,(∀s',Q .normal s'->K s')->fL V n ops md s.l (ops.take n1) 0 s.t [] λtm Y=>dC V n ops md (ops.drop n1) ⟨tm,s.l++Y.map (·.2)⟩ (λs'=>K ⟨ag.cu j s'.t,s'.l⟩)):aG P w0 I0 n (Code.region id ops.toArray true) s Q:=λ_ _ U=>
 Ti (Q:=λe k w'=>∃s',Q e s'/\Rel w0 I0 n s' k w') (K:=λs'=>Q .normal ⟨ag.cu j s'.t,s'.l⟩) M O (λ_ _ _ B G=>⟨_,B,Sub.cu j _ _ _ _ _ G⟩) n1 F N U (h _ λ_ h=>h)
def aG.rS(k:cn P V)(md:Way)(j:List Nat){id:Nat}{ops:List Oper}(h:∀K:St->Prop,(∀s',aG P w0 I0 n y s' Q->K s')->dC V n ops md ops s (λs'=>K ⟨ag.cu j s'.t,s'.l⟩)):aG P w0 I0 n ((Code.region id ops.toArray false).seq y) s Q:=
 aG.Ba λ_ F=>aG.A2 k md j λ_ G=>h _ λs' B=>G s' (F s' B)
def aG.X4(k:cn P V)(O:P.follows .mixedOrders=true)(md:Way)(n1:Nat)(F:List Nat)(j:List Nat){id:Nat}{ops:List Oper}(G:o7 ops n1 F=true)(h:∀K:St->Prop,(∀s',aG P w0 I0 n y s' Q->K s')->fL V n ops md s.l (ops.take n1) 0 s.t [] λtm U=>dC V n ops md (ops.drop n1) ⟨tm,s.l++U.map (·.2)⟩ (λs'=>K ⟨ag.cu j s'.t,s'.l⟩)):aG P w0 I0 n ((Code.region id ops.toArray true).seq y) s Q:=
 aG.Ba λ_ M=>aG.Yi k O md n1 F j G λ_ N=>h _ λs' B=>N s' (M s' B)
theorem qF{ops:List Oper}{md:Way}{l0:List AO}{K O:Tm->List (Nat×AO)->Prop}(B:∀tm F,K tm F->O tm F):∀(r:List Oper)(k:Nat)(tm:Tm)(F:List (Nat×AO)),fL V n ops md l0 r k tm F K->fL V n ops md l0 r k tm F O
 | [],_,_,_,h=>B _ _ h
 |o::r,k,tm,F,h=>by
  simp only[fL]at h⊢
  split at h
  ·exact h
  cases md with
  |none=>
   simp only at h⊢
   obtain⟨G,M,j⟩:=h
   refine⟨G,M,?_⟩
   split at j
   ·exact qF B r _ _ _ j
   ·exact qF B r _ _ _ j
   ·exact qF B r _ _ _ j
   exact j
  |some Y=>
   simp only at h⊢
   split at h
   ·rename_i N
    rw[if_pos N]
    exact⟨h.1,h.2.1,h.2.2.1,qF B r _ _ _ h.2.2.2⟩
   rename_i N
   rw[if_neg N]
   obtain⟨U,G,M,j⟩:=h
   refine⟨U,G,M,?_⟩
   split at j
   ·exact qF B r _ _ _ j
   ·exact qF B r _ _ _ j
   exact j
def o6(ops:List Oper)(j:List Nat):List Oper->List Nat->Bool
 | [],W=>j.all λx=>W.contains x
 |o::r,W=>((fC ops o).all λx=>W.contains x)&&o6 ops j r (match o.dst with|some d=>d::W|none=>W)
theorem FX{ops:List Oper}{F:List Nat}{K:St->Prop}:∀{r:List Oper}{W:List Nat}{s1 s2:St},o6 ops F r W=true->s1.l=s2.l->(∀x∈W,get s1.t x=get s2.t x) ->
  dh P n ops r s1 (λs'=>K ⟨ag.cu F s'.t,s'.l⟩)->dh P n ops r s2 (λs'=>K ⟨ag.cu F s'.t,s'.l⟩)
 | [],W,s1,s2,B,G,hw,h=>by
  simp only[o6,dT,j3]at B
  simp only[dh]at h⊢
  have:ag.cu F s1.t=ag.cu F s2.t:=hP λx j=>by rw[hw x (B x j)]
  rw[<-this,<-G];exact h
 |o::r,W,s1,s2,B,G,hw,h=>by
  simp only[o6,dd,dT,j3]at B
  have h:nA P n ops o s1 _:=h
  show nA P n ops o s2 _
  have Y:nA P n ops o s2 λu l'=>dh P n ops r ⟨bH s1.t o.dst u,l'⟩ λs'=>K ⟨ag.cu F s'.t,s'.l⟩:=λst ab ad w0 I0 a w Q N aa Z=>
   h st (ab.trans G.symm) (λx j=>(ad x j).trans (hw x (B.1 x j)).symm) w0 I0 a w Q N aa λu l' O w' k ae=>Z u l' O w' k λe=>by rw[<-G];exact ae e
  refine Y.mono λu l' U=>FX (s1:=⟨bH s1.t o.dst u,l'⟩) (s2:=⟨bH s2.t o.dst u,l'⟩) B.2 rfl (λx j=>?_) U
  cases M:o.dst with
  |none=>rw[M]at j;simp only[bH];exact hw x j
  |some d=>
   rw[M]at j
   simp only[bH,get]
   by_cases e:d=x
   ·rw[if_pos e,if_pos e]
   rw[if_neg e,if_neg e]
   rcases fb.1 j with h3|h3
   ·exact absurd h3.symm e
   exact hw x h3
def My(B:List Nat)(t:Tm){k:Nat}(h:k∈B):get (ag.cu B t) k=get t k:=by
 induction B with
 |nil=>cases h
 |cons j B F=>
  simp only[ag.cu,fv,get]
  by_cases e:j=k
  ·rw[if_pos e,e]
  rw[if_neg e]
  rcases fb.1 h with h1|h1
  ·exact absurd h1.symm e
  exact F h1
def de(P:Program)(n:Nat)(ops:List Oper)(k:Nat)(j:List Nat)(s:St)(K:St->Prop):Prop:=dh P n ops (ops.drop k) s λs'=>K ⟨ag.cu j s'.t,s'.l⟩
theorem de.cut{k:Nat}{ops:List Oper}{j:List Nat}{K:St->Prop}(L:List Nat)(B:o6 ops j (ops.drop k) L=true)(h:de P n ops k j ⟨ag.cu L s.t,s.l⟩ K):de P n ops k j s K:=
 FX (s1:=⟨ag.cu L s.t,s.l⟩) B rfl (λx F=>My L s.t F) h
theorem de.seq(G:cn P V)(md:Way){k:Nat}(j:Nat)(L:List Nat){ops:List Oper}{B:List Nat}{K:St->Prop}(N:k<=j)(M:o6 ops B (ops.drop j) L=true)(h:∀F:St->Prop,(∀s',de P n ops j B s' K->F s')->dC V n ops md ((ops.take j).drop k) s (λs'=>F ⟨ag.cu L s'.t,s'.l⟩)):de P n ops k B s K:=by
 unfold de
 have e:ops.drop k=(ops.take j).drop k++ops.drop j:=by
  conv=>lhs;rw[<-sh j ops]
  rw[Ds]
  congr 1
  by_cases O:j<=ops.length
  ·rw[fa,pa O,Nat.sub_eq_zero_of_le N];rfl
  rw[lB (show ops.length<=j by omega)];simp
 rw[e]
 exact dh.seq G (h (λs'=>de P n ops j B s' K) (λ_ h=>h) |> yk (λs' U=>de.cut (s:=s') L M U) _ _)
theorem de.fin(B:cn P V)(md:Way){k:Nat}{ops:List Oper}{j:List Nat}{K:St->Prop}(h:dC V n ops md (ops.drop k) s (λs'=>K ⟨ag.cu j s'.t,s'.l⟩)):de P n ops k j s K:=dh.of B h
theorem de.call(G:cn P V){k:Nat}{ops:List Oper}{F:List Nat}{K:St->Prop}{o:Oper}(g:FuncId)(ts:List T){pc:PC}(B:ops[k]?=some o)(O:dg ops s.t o.guard=some pc)(Y:holds pc)(N:du n o.dst=true)(M:dZ V.E (bE s.t) o=some (g,ts))(h:∀j:T->List AO->Prop,(∀u l',de P n ops (k+1) F ⟨bH s.t o.dst u,l'⟩ K->j u l')->im P g ts s.l j):de P n ops k F s K:=by
 unfold de
 have U:=(da.1 B).1
 rw[h9 U,(da.1 B).2]
 exact dh.call G O Y N M (h _ λ_ _ h=>h)
def aG.Yg(G:cn P V)(j:List Nat){id:Nat}{ops:List Oper}(h:∀K:St->Prop,(∀s',Q .normal s'->K s')->de P n ops 0 j s K):aG P w0 I0 n (Code.region id ops.toArray false) s Q:=λa w M=>by
 refine J1 (dh.wp (Q:=λe k w'=>∃s',Q e s'/\Rel w0 I0 n s' k w') (K:=λs'=>Q .normal ⟨ag.cu j s'.t,s'.l⟩) G (λs a w B F=>?_) ops s a w M (h _ λ_ h=>h))
 exact⟨_,B,Sub.cu j _ _ _ _ _ F⟩
def aG.rC(k:cn P V)(j:List Nat){id:Nat}{ops:List Oper}(h:∀K:St->Prop,(∀s',aG P w0 I0 n y s' Q->K s')->de P n ops 0 j s K):aG P w0 I0 n ((Code.region id ops.toArray false).seq y) s Q:=
 aG.Ba λ_ F=>aG.Yg k j λ_ G=>h _ λs' B=>G s' (F s' B)
def aG.Yh(O:cn P V)(aa:P.follows .mixedOrders=true)(md:Way)(n1:Nat)(F:List Nat)(L j:List Nat){id:Nat}{ops:List Oper}(Y:o7 ops n1 F=true)(U:o6 ops j (ops.drop n1) L=true)(h:∀K:St->Prop,(∀s',Q .normal s'->K s')->∀B:St->Prop,(∀s',de P n ops n1 j s' K->B s')->fL V n ops md s.l (ops.take n1) 0 s.t [] λtm k=>B ⟨ag.cu L tm,s.l++k.map (·.2)⟩):aG P w0 I0 n (Code.region id ops.toArray true) s Q:=λ_ _ ab=>
 Tj (Q:=λe G w'=>∃s',Q e s'/\Rel w0 I0 n s' G w') (K:=λs'=>Q .normal ⟨ag.cu j s'.t,s'.l⟩) O aa (λ_ _ _ M N=>⟨_,M,Sub.cu j _ _ _ _ _ N⟩) n1 F Y ab
  (qF (λtm k Z=>FX (s1:=⟨ag.cu L tm,s.l++k.map (·.2)⟩) (s2:=⟨tm,s.l++k.map (·.2)⟩) U rfl (λx ad=>My L tm ad) Z) _ _ _ _ (h _ (λ_ h=>h) (λs'=>de P n ops n1 j s' λs'=>Q .normal s') λ_ h=>h))
def aG.Mb(B:cn P V)(Y:P.follows .mixedOrders=true)(md:Way)(n1:Nat)(F:List Nat)(L j:List Nat){id:Nat}{ops:List Oper}(N:o7 ops n1 F=true)(M:o6 ops j (ops.drop n1) L=true)(h:∀K:St->Prop,(∀s',aG P w0 I0 n y s' Q->K s')->∀k:St->Prop,(∀s',de P n ops n1 j s' K->k s')->fL V n ops md s.l (ops.take n1) 0 s.t [] λtm Z=>k ⟨ag.cu L tm,s.l++Z.map (·.2)⟩):aG P w0 I0 n ((Code.region id ops.toArray true).seq y) s Q:=
 aG.Ba λ_ O=>aG.Yh B Y md n1 F L j N M λ_ U=>h _ λs' G=>U s' (O s' G)
def eO.Ln{f:FuncId}{fn:Func}{c:Code}{ds:List D}{r:D}(F:cn P V)(M:P.funcs[f]?=some fn)(G:fn.body=some c)(N:ds.length<=fn.ntmps)(h:∀(R:bP),R.r=none->∀w0 I0(Q:Exit->St->Prop),(∀e s,(e = .ret\/e = .normal)->wZ V s fn.results.toList r->Q e s)->aG P w0 I0 fn.ntmps c ⟨lq 0 ds,[]⟩ Q):eO P f ds r:=
 eO.of F M G N λR B w0 I0=>h R B w0 I0 _ λ_ _ j k=>⟨j,k⟩
end
section
end
def oj(o:Option D):D:=o.getD .dI
def NB(f:Option D):Spec:=λds=>match ds with| []=>some (oj f,f.isSome=true)|_=>none
def rV{α:Type}[bG α](f:α->Option D):Spec:=λds=>match ds with| [a]=>some (oj (f (dec a)),enc (dec a:α)=a/\(f (dec a)).isSome=true)|_=>none
def NC{α β:Type}[bG α][bG β](f:α->β->Option D):Spec:=λds=>match ds with| [a,b]=>some (oj (f (dec a) (dec b)),enc (dec a:α)=a/\enc (dec b:β)=b/\(f (dec a) (dec b)).isSome=true)|_=>none
def ND{α β j:Type}[bG α][bG β][bG j](f:α->β->j->Option D):Spec:=λds=>match ds with| [a,b,c]=>some (oj (f (dec a) (dec b) (dec c)),enc (dec a:α)=a/\enc (dec b:β)=b/\enc (dec c:j)=c/\(f (dec a) (dec b) (dec c)).isSome=true)|_=>none
def NF{α β j k:Type}[bG α][bG β][bG j][bG k](f:α->β->j->k->Option D):Spec:=λds=>match ds with| [a,b,c,d]=>some (oj (f (dec a) (dec b) (dec c) (dec d)),enc (dec a:α)=a/\enc (dec b:β)=b/\enc (dec c:j)=c/\enc (dec d:k)=d/\(f (dec a) (dec b) (dec c) (dec d)).isSome=true)|_=>none
section
variable {P:Program}{g:FuncId}
def WG{o:Option D}(h:o.isSome=true):o=some (oj o):=by cases o<;>first|rfl|cases h
def qm.Lm{α:Type}[bG α]{f:α->Option D}(B:Enters P g)(h:∀a r,f a=some r->eO P g [enc a] r):qm P g (rV f):=⟨B,λds r ob j k=>by
 unfold rV at j;split at j
 ·cases j
  have:=h _ _ (WG k.2);rw[k.1]at this;exact this
 cases j⟩
end
end Go.ag
namespace Go.Sy
open Go Go.ag
inductive Ty where
 |int (k:IntKind)
 |bool
 |str
 |st (i:Nat)
 |list (t:Ty)
 |map (k v:Ty)
 |fn (f:Nat)
 |aB (f:Nat) (t:Ty)
 |box (t:Ty)
 |aJ (a b:Ty)
 |unit
 deriving DecidableEq,Inhabited
class bQ where
 cp:Nat->Type
def Ty.den[bQ]:Ty->Type
 |.int _=>Int
 |.bool=>Bool
 |.str=>ByteArray
 |.st i=>bQ.cp i
 |.list t=>List t.den
 |.map k v=>List (k.den×v.den)
 |.fn _=>Unit
 |.aB _ t=>t.den
 |.box t=>t.den
 |.aJ a b=>a.den×b.den
 |.unit=>Unit
def aT:List Ty->Ty
 | []=>.unit
 | [t]=>t
 |t::u::ts=>.aJ t (aT (u::ts))
abbrev V[bQ]:=(t:Ty)×t.den
abbrev aN[bQ]:=List (Nat×V)
def lk[bQ]:aN->Nat->Option V
 | [],_=>none
 | (j,v)::r,i=>bif Nat.beq j i then some v else lk r i
def c6[bQ](t:Ty)(v:V):Option t.den:=if h:v.1=t then some (h▸v.2)else none
class aD extends bQ where
 bU:Nat->List Ty
 sz:Nat->Nat
 un:∀i,cp i->(aT (bU i)).den
 ew:∀i,(aT (bU i)).den->cp i
 cells:∀i,cp i->List D
 oJ:∀i x,un i (ew i x)=x
 Ep:∀i x,ew i (un i x)=x
 eA:Nat->Option (List Int)
variable [aD]
def Ty.size:Ty->Nat
 |.st i=>aD.sz i
 |_=>1
def Ty.eL:(t:Ty)->t.den->D×List D
 |.int k,n=>(.int k n,[.int k n])
 |.bool,b=>(.bool b,[.bool b])
 |.str,s=>(.str s,[.str s])
 |.st i,x=>(.agg (aD.cells i x),[.agg (aD.cells i x)])
 |.list t,xs=>(.slice t.size (List.map (λx=>(t.eL x).1) xs),[.slice t.size (List.map (λx=>(t.eL x).1) xs)])
 |.map k v,m=>(.map (List.map (λp=>(k.eL p.1).1) m) (List.map (λp=>(v.eL p.2).1) m),[.map (List.map (λp=>(k.eL p.1).1) m) (List.map (λp=>(v.eL p.2).1) m)])
 |.fn f,_=>(.fn f,[.fn f])
 |.aB f t,x=>(.aB f (t.eL x).2,[.aB f (t.eL x).2])
 |.box t,x=>(.box (t.eL x).1,[.box (t.eL x).1])
 |.aJ a b,x=>(.aJ ((a.eL x.1).1::(b.eL x.2).2),(a.eL x.1).1::(b.eL x.2).2)
 |.unit,_=>(.aJ [],[])
def Ty.enc(t:Ty)(x:t.den):D:=(t.eL x).1
inductive U1 where
 |not
 |neg (k:IntKind)
 |len
 |Kr
 |Kq
 |gT
 |conv (k:IntKind)
 |fit (b:Nat)
 |fst
 |snd
 |unbox
 |GJ
 deriving DecidableEq
inductive U2 where
 |add (k:IntKind)
 |sub (k:IntKind)
 |mul (k:IntKind)
 |quo (k:IntKind)
 |rem (k:IntKind)
 |lt
 |le
 |aA
 |CJ
 |CK
 |CL (i:Nat)
 |and
 |Jr
 |cat
 |cons
 |app
 |take
 |drop
 |byte
 |max
 |min
 |od
 |yT
 |rep
 |qp (k:IntKind)
 |shr (k:IntKind)
 deriving DecidableEq
inductive U3 where
 |set
 |og
 |jG
 deriving DecidableEq
inductive X where
 |var (i:Nat)
 |hole (p:Nat)
 |int (k:IntKind) (n:Int)
 |bool (b:Bool)
 |str (s:List UInt8)
 |nil (t:Ty)
 |ke (k v:Ty)
 |unit
 |fn (f:Nat)
 |pair (a b:X)
 |aB (f:Nat) (x:X)
 |box (x:X)
 |proj (i j:Nat) (x:X)
 |mk (i:Nat) (x:X)
 |u1 (o:U1) (x:X)
 |u2 (o:U2) (x y:X)
 |u3 (o:U3) (x y z:X)
 deriving Inhabited
def mq(k:IntKind)(n:Int):Int:=match k with
 |.i64=>n
 |k=>k.wrap n
abbrev ah(a b:Int):Bool:=decide (a<b)
abbrev leI(a b:Int):Bool:=decide (a<=b)
abbrev aA(a b:Int):Bool:=decide (a=b)
abbrev ai(a:Int):Bool:=decide (ag.gT a)
abbrev jH(a:Int):Int:=0-a
def fY:U1->V->Option V
 |.not,⟨.bool,b⟩=>some ⟨.bool,!b⟩
 |.neg k,⟨.int _,n⟩=>some ⟨.int k,mq k (jH n)⟩
 |.len,⟨.list _,xs⟩=>some ⟨.int .i64,(List.length xs:Int)⟩
 |.Kr,⟨.str,s⟩=>some ⟨.int .i64,(ByteArray.size s:Int)⟩
 |.Kq,⟨.map _ _,m⟩=>some ⟨.int .i64,(List.length m:Int)⟩
 |.gT,⟨.int _,n⟩=>some ⟨.bool,ai n⟩
 |.conv k,⟨.int _,n⟩=>some ⟨.int k,k.wrap n⟩
 |.fit b,⟨.list _,xs⟩=>some ⟨.bool,decide (List.length xs*b<=140737488355328/\List.length xs<=9223372036854775807)⟩
 |.fst,⟨.aJ a _,x⟩=>some ⟨a,x.1⟩
 |.snd,⟨.aJ _ b,x⟩=>some ⟨b,x.2⟩
 |.unbox,⟨.box t,x⟩=>some ⟨t,x⟩
 |.GJ,⟨.aB _ t,x⟩=>some ⟨t,x⟩
 |_,_=>none
def RR(s:ByteArray)(n:Int):Int:=xU s n.toNat
def dq{α:Type}(m:List (Int×α))(k:Int):Bool:=m.any λp=>p.1 == k
def an{α:Type}(m:List (Int×α))(k:Int)(d:α):α:=((m.find? λp=>p.1 == k).map (·.2)).getD d
def aH{α:Type}:List (Int×α)->Int->α->List (Int×α)
 | [],k,v=>[(k,v)]
 |p::m,k,v=>if p.1=k then(k,v)::m else p::aH m k v
def fe{α:Type}:List (Int×α)->Int->List (Int×α)
 | [],_=>[]
 |p::m,k=>if p.1=k then m else p::fe m k
def kL(i:Nat)(a b:bQ.cp i):Bool:=cV (aD.cells i a) (aD.cells i b)
def pC{α:Type}(i:Nat)(m:List (bQ.cp i×α))(k:bQ.cp i):Bool:=m.any λp=>kL i k p.1
def lS{α:Type}(i:Nat)(m:List (bQ.cp i×α))(k:bQ.cp i)(d:α):α:=((m.find? λp=>kL i k p.1).map (·.2)).getD d
def kc{α:Type}(i:Nat):List (bQ.cp i×α)->bQ.cp i->α->List (bQ.cp i×α)
 | [],k,v=>[(k,v)]
 |p::m,k,v=>if kL i k p.1=true then(p.1,v)::m else p::kc i m k v
def cD:U2->V->V->Option V
 |.add k,⟨.int _,a⟩,⟨.int _,b⟩=>some ⟨.int k,mq k (Int.add a b)⟩
 |.sub k,⟨.int _,a⟩,⟨.int _,b⟩=>some ⟨.int k,mq k (Int.sub a b)⟩
 |.mul k,⟨.int _,a⟩,⟨.int _,b⟩=>some ⟨.int k,mq k (Int.mul a b)⟩
 |.quo k,⟨.int _,a⟩,⟨.int _,b⟩=>some ⟨.int k,Int.tdiv a b⟩
 |.rem k,⟨.int _,a⟩,⟨.int _,b⟩=>some ⟨.int k,Int.tmod a b⟩
 |.lt,⟨.int _,a⟩,⟨.int _,b⟩=>some ⟨.bool,ah a b⟩
 |.le,⟨.int _,a⟩,⟨.int _,b⟩=>some ⟨.bool,leI a b⟩
 |.aA,⟨.int _,a⟩,⟨.int _,b⟩=>some ⟨.bool,aA a b⟩
 |.CJ,⟨.bool,a⟩,⟨.bool,b⟩=>some ⟨.bool,BEq.beq (α:=Bool) a b⟩
 |.CK,⟨.str,a⟩,⟨.str,b⟩=>some ⟨.bool,BEq.beq (α:=ByteArray) a b⟩
 |.CL i,u,v=>match c6 (.st i) u,c6 (.st i) v with
  |some a,some b=>some ⟨.bool,cV (aD.cells i a) (aD.cells i b)⟩
  |_,_=>none
 |.and,⟨.bool,a⟩,⟨.bool,b⟩=>some ⟨.bool,and a b⟩
 |.Jr,⟨.str,a⟩,⟨.str,b⟩=>some ⟨.bool,decide ((ByteArray.size a:Int)+(ByteArray.size b:Int)<=9223372036854775807)⟩
 |.cons,u,⟨.list t,xs⟩=>match c6 t u with
  |some x=>some ⟨.list t,List.cons x xs⟩
  |none=>none
 |.cat,⟨.str,a⟩,⟨.str,b⟩=>some ⟨.str,ByteArray.append a b⟩
 |.app,⟨.list t,xs⟩,v=>match c6 (.list t) v with
  |some ys=>some ⟨.list t,List.append xs ys⟩
  |none=>none
 |.take,⟨.list t,xs⟩,⟨.int _,n⟩=>some ⟨.list t,List.take (Int.toNat n) xs⟩
 |.drop,⟨.list t,xs⟩,⟨.int _,n⟩=>some ⟨.list t,List.drop (Int.toNat n) xs⟩
 |.byte,⟨.str,s⟩,⟨.int _,n⟩=>some ⟨.int .u8,RR s n⟩
 |.max,⟨.int k,a⟩,⟨.int _,b⟩=>some ⟨.int k,Max.max (α:=Int) a b⟩
 |.min,⟨.int k,a⟩,⟨.int _,b⟩=>some ⟨.int k,Min.min (α:=Int) a b⟩
 |.od,⟨.map (.int _) _,m⟩,⟨.int _,n⟩=>some ⟨.bool,dq m n⟩
 |.yT,⟨.map (.int k) v,m⟩,⟨.int _,n⟩=>some ⟨.map (.int k) v,fe m n⟩
 |.od,⟨.map (.st i) _,m⟩,u=>match c6 (.st i) u with
  |some k=>some ⟨.bool,pC i m k⟩
  |none=>none
 |.rep,⟨.int _,n⟩,⟨t,x⟩=>some ⟨.list t,List.replicate (Int.toNat n) x⟩
 |.qp k,⟨.int _,a⟩,⟨.int _,b⟩=>some ⟨.int k,qp k a b⟩
 |.shr k,⟨.int _,a⟩,⟨.int _,b⟩=>some ⟨.int k,pW k a b⟩
 |_,_,_=>none
def nu:U3->V->V->V->Option V
 |.set,⟨.list t,xs⟩,⟨.int _,n⟩,v=>match c6 t v with
  |some y=>some ⟨.list t,List.set xs (Int.toNat n) y⟩
  |none=>none
 |.og,⟨.map (.int k) t,m⟩,⟨.int _,n⟩,v=>match c6 t v with
  |some y=>some ⟨.map (.int k) t,aH m n y⟩
  |none=>none
 |.jG,⟨.map (.int _) t,m⟩,⟨.int _,n⟩,v=>match c6 t v with
  |some y=>some ⟨t,an m n y⟩
  |none=>none
 |.og,⟨.map (.st i) t,m⟩,u,v=>match c6 (.st i) u,c6 t v with
  |some k,some y=>some ⟨.map (.st i) t,kc i m k y⟩
  |_,_=>none
 |.jG,⟨.map (.st i) t,m⟩,u,v=>match c6 (.st i) u,c6 t v with
  |some k,some y=>some ⟨t,lS i m k y⟩
  |_,_=>none
 |_,_,_,_=>none
def cI:(ts:List Ty)->(aT ts).den->Nat->Option V
 | [],_,_=>none
 | [t],x,0=>some ⟨t,x⟩
 | [_],_,_+1=>none
 |t::_::_,x,0=>some ⟨t,x.1⟩
 |_::u::ts,x,j+1=>cI (u::ts) x.2 j
def X.den(ρ:aN):X->Option V
 |.var i=>lk ρ i
 |.hole _=>none
 |.int k n=>some ⟨.int k,n⟩
 |.bool b=>some ⟨.bool,b⟩
 |.str s=>some ⟨.str,⟨⟨s⟩⟩⟩
 |.nil t=>some ⟨.list t,([]:List t.den)⟩
 |.ke k v=>some ⟨.map k v,([]:List (k.den×v.den))⟩
 |.unit=>some ⟨.unit,()⟩
 |.fn f=>some ⟨.fn f,()⟩
 |.pair a b=>match a.den ρ,b.den ρ with
  |some u,some v=>some ⟨.aJ u.1 v.1,(u.2,v.2)⟩
  |_,_=>none
 |.aB f x=>match x.den ρ with
  |some v=>some ⟨.aB f v.1,v.2⟩
  |none=>none
 |.box x=>match x.den ρ with
  |some v=>some ⟨.box v.1,v.2⟩
  |none=>none
 |.proj i j x=>match x.den ρ with
  |some v=>match c6 (.st i) v with
   |some a=>cI (aD.bU i) (aD.un i a) j
   |none=>none
  |none=>none
 |.mk i x=>match x.den ρ with
  |some v=>match c6 (aT (aD.bU i)) v with
   |some a=>some ⟨.st i,aD.ew i a⟩
   |none=>none
  |none=>none
 |.u1 o x=>match x.den ρ with
  |some u=>fY o u
  |none=>none
 |.u2 o x y=>match x.den ρ,y.den ρ with
  |some u,some v=>cD o u v
  |_,_=>none
 |.u3 o x y z=>match x.den ρ,y.den ρ,z.den ρ with
  |some u,some v,some w=>nu o u v w
  |_,_,_=>none
end Go.Sy
namespace Go.Sy
open Go Go.ag
def X.beq:X->X->Bool
 |.var i,.var j=>Nat.beq i j
 |.hole i,.hole j=>Nat.beq i j
 |.int k n,.int F O=>decide (k=F)&&decide (n=O)
 |.bool b,.bool c=>b == c
 |.str s,.str t=>decide (s=t)
 |.nil t,.nil u=>decide (t=u)
 |.ke k v,.ke F U=>decide (k=F)&&decide (v=U)
 |.unit,.unit=>true
 |.fn f,.fn g=>Nat.beq f g
 |.pair a b,.pair c d=>X.beq a c&&X.beq b d
 |.aB f x,.aB g y=>Nat.beq f g&&X.beq x y
 |.box x,.box y=>X.beq x y
 |.proj i j x,.proj B N y=>Nat.beq i B&&Nat.beq j N&&X.beq x y
 |.mk i x,.mk B y=>Nat.beq i B&&X.beq x y
 |.u1 o x,.u1 o' y=>decide (o=o')&&X.beq x y
 |.u2 o x y,.u2 o' G M=>decide (o=o')&&X.beq x G&&X.beq y M
 |.u3 o x y z,.u3 o' G M z'=>decide (o=o')&&X.beq x G&&X.beq y M&&X.beq z z'
 |_,_=>false
inductive TX where
 |undef
 |gone
 |d (t:Ty) (x:X)
 |bu (s:Nat)
 |dV
 |ptr (id off:Nat)
 |br (t:Ty) (e:X) (off:Nat)
 |row (id:Nat)
 |bj (id:Nat) (k:X) (off:Nat)
 |map (id:Nat)
 |aW (id:Nat)
 |bB (id:Nat) (t:Ty) (x:X)
 |agg (cs:List TX)
 |aJ (ts:List TX)
 |aB (f:Nat) (ts:List TX)
 |cw (id n:Nat)
 |sub (id:Nat) (lo hi:X)
 deriving Inhabited
inductive Ex where
 |normal
 |ret
 |exit (id:Nat)
 |eW (e:Ex)
 deriving DecidableEq
inductive Ls where
 |ready
 |busy
 |done (e:Ex)
 deriving DecidableEq
inductive AX where
 |dead
 |var (ty:TypeId) (cs:List TX)
 |row (fr:Bool) (e:TypeId) (t:Ty) (x:X)
 |map (fr:Bool) (k v:Ty) (x:X)
 |bn (e:TypeId) (kk:IntKind) (t:Ty) (x:X)
 |fc (e:TypeId) (kk:IntKind) (t:Ty) (x k:X)
 |dj (j base:Nat) (refs:List Nat)
 |lp (j base:Nat) (refs:List Nat) (st:Ls)
 |ey
 deriving Inhabited
structure Sk where
 n:Nat
 t:List (Nat×TX)
 l:List AX
 deriving Inhabited
def aV:List (Nat×TX)->Nat->TX
 | [],_=>.undef
 | (i,t)::r,k=>bif Nat.beq i k then t else aV r k
structure ml where
 f:FuncId
 args:List Ty
 res:List Ty
structure kF where
 f:FuncId
 t:Ty
 args:List Ty
 k:Nat
structure Cx where
 E:bW
 ty:TypeId->Option Ty
 eqs:TypeId->Option (List Lf)
 nt:Nat
 sigs:List ml
 mG:List (Nat×Func)
 dep:Nat
 kn:Bool
 Dg:List Nat
 turns:List kF
 bvs:List Nat:=[]
 brs:List Nat:=[]
inductive Ins where
 |bJ (x:X)
 |get (xs k:X)
 |call (c:Nat) (x:X)
inductive xu where
 |none
 |new (a:AX)
 |aK (l:List AX)
structure dA where
 ins:List Ins
 t:TX
 bq:xu
variable [aD]
def fp:List X->X
 | []=>.unit
 | [x]=>x
 |x::y::r=>.pair x (fp (y::r))
def sR:X->X
 |.pair a _=>a
 |x=>.u1 .fst x
def uv:X->X
 |.pair _ b=>b
 |x=>.u1 .snd x
def ri:Nat->Nat->X->X
 |0,_,x=>x
 |1,_,x=>x
 |_+2,0,x=>sR x
 |n+2,j+1,x=>ri (n+1) j (uv x)
def uf(i j:Nat)(x:X):X:=match x with
 |.mk k y=>bif Nat.beq i k then ri (aD.bU i).length j y else .proj i j x
 |x=>.proj i j x
def qo(i:Nat)(x:X):Nat->List X->Bool
 |_,[]=>true
 |j,.proj k B y::r=>Nat.beq i k&&Nat.beq j B&&X.beq x y&&qo i x (j+1) r
 |_,_=>false
def o9(i:Nat)(xs:List X):X:=match xs with
 |.proj j 0 x::r=>bif Nat.beq i j&&qo i x 1 r&&Nat.beq (r.length+1) (aD.bU i).length then x else .mk i (fp xs)
 |_=>.mk i (fp xs)
def qx(g:Ty->X->Option (List (Ty×X)))(i:Nat)(x:X):List Ty->Nat->Option (List (Ty×X))
 | [],_=>some []
 |t::ts,j=>match g t (uf i j x),qx g i x ts (j+1)with
  |some a,some b=>some (a++b)
  |_,_=>none
def fw:Nat->Ty->X->Option (List (Ty×X))
 |0,_,_=>none
 |f+1,.st i,x=>qx (fw f) i x (aD.bU i) 0
 |_+1,t,x=>some [(t,x)]
def fK:Nat:=9
def qY(g:Ty->List (Ty×X)->Option (X×List (Ty×X))):List Ty->List (Ty×X)->Option (List X×List (Ty×X))
 | [],cs=>some ([],cs)
 |t::ts,cs=>match g t cs with
  |some (x,r)=>match qY g ts r with
   |some (xs,j)=>some (x::xs,j)
   |none=>none
  |none=>none
def kW:Nat->Ty->List (Ty×X)->Option (X×List (Ty×X))
 |0,_,_=>none
 |f+1,.st i,cs=>match qY (kW f) (aD.bU i) cs with
  |some (xs,r)=>some (o9 i xs,r)
  |none=>none
 |_+1,t,(u,x)::r=>if t=u then some (x,r)else none
 |_+1,_,[]=>none
def vQ(t:Ty)(cs:List (Ty×X)):Option X:=match kW fK t cs with
 |some (x,[])=>some x
 |_=>none
def sG:TX->Option (Ty×X)
 |.d t x=>some (t,x)
 |_=>none
def cd:Ty->Bool
 |.st _=>true
 |_=>false
def vV:TX->Bool
 |.d t _=>!cd t
 |.bu _=>true
 |.dV=>true
 |.ptr _ _=>true
 |.br _ _ _=>true
 |.row _=>true
 |.bj _ _ _=>true
 |.map _=>true
 |.aW _=>true
 |.cw _ _=>true
 |.bB _ _ _=>true
 |.aB _ _=>true
 |_=>false
def iw:TX->Option (List TX)
 |.d t x=>(fw fK t x).map (·.map λp=>.d p.1 p.2)
 |.agg cs=>some cs
 |.undef=>none
 |.gone=>none
 |.aJ _=>none
 |t=>some [t]
def qv(t:TX):Option (List TX):=match iw t with
 |some cs=>bif cs.all vV then some cs else none
 |none=>none
def qZ(t:Ty)(cs:List TX):Option TX:=
 bif cd t then(match cs.mapM sG with
  |some ds=>(vQ t ds).map (.d t ·)
  |none=>some (.agg cs))
 else(match cs with| [c]=>some c|_=>none)
def jO:Nat->Ty->Option X
 |0,_=>none
 |_+1,.int k=>some (.int k 0)
 |_+1,.bool=>some (.bool false)
 |_+1,.str=>some (.str [])
 |_+1,.list t=>some (.nil t)
 |_+1,.map k v=>some (.ke k v)
 |f+1,.st i=>((aD.bU i).mapM (jO f)).map λxs=>.mk i (fp xs)
 |_,_=>none
def xq(p:Ty×X):TX:=match p with
 | (.list t,x)=>(match x with |.nil u=>(if t=u then .bu t.size else .undef)|_=>.undef)
 | (t,x)=>.d t x
def zeroCells(t:Ty):Option (List TX):=match jO fK t with
 |some x=>(fw fK t x).map (·.map xq)
 |none=>none
def gn(l:List AX)(t:Ty):TX->Option (X×List AX)
 |.d u x=>if t=u then some (x,l)else none
 |.bu s=>match t with
  |.list u=>bif Nat.beq s u.size then some (.nil u,l)else none
  |_=>none
 |.dV=>match t with
  |.map k v=>some (.ke k v,l)
  |_=>none
 |.row id=>match l[id]? with
  |some (.row fr e u x)=>if t = .list u then some (x,bif fr then l else l.set id (.row true e u x))else none
  |_=>none
 |.bB _ u x=>if t = .list u then some (x,l)else none
 |.map id=>match l[id]? with
  |some (.map fr k v x)=>if t = .map k v then some (x,bif fr then l else l.set id (.map true k v x))else none
  |_=>none
 |_=>none
def jN:Nat->List AX->List Ty->List TX->Option (List X×List TX×List AX)
 |0,_,_,_=>none
 |_+1,l,[],cs=>some ([],cs,l)
 |f+1,l,t::ts,cs=>match t with
  |.st i=>match jN f l (aD.bU i) cs with
   |some (xs,r,l1)=>match jN f l1 ts r with
    |some (ys,k,j)=>some (o9 i xs::ys,k,j)
    |none=>none
   |none=>none
  |t=>match cs with
   | []=>none
   |c::cs=>match gn l t c with
    |some (x,l1)=>match jN f l1 ts cs with
     |some (ys,r,j)=>some (x::ys,r,j)
     |none=>none
    |none=>none
def lu(l:List AX)(t:Ty)(x:TX):Option (X×List AX):=match x with
 |.agg cs=>match t with
  |.st i=>match jN 60 l (aD.bU i) cs with
   |some (xs,[],l')=>some (o9 i xs,l')
   |_=>none
  |_=>none
 |x=>gn l t x
def gH(l:List AX):List Ty->List TX->Option (List X×List AX)
 | [],[]=>some ([],l)
 |t::ts,x::xs=>match lu l t x with
  |some (y,l1)=>match gH l1 ts xs with
   |some (ys,j)=>some (y::ys,j)
   |none=>none
  |none=>none
 |_,_=>none
def Cz:Value->TX
 |.bool b=>.d .bool (.bool b)
 |.int k n=>.d (.int k) (.int k n)
 |.string s=>.d .str (.str s.data.toList)
 |.slice none 0 0=>.bu 0
 |.map none=>.dV
 |_=>.undef
def gE(t:List (Nat×TX)):Operand->TX
 |.tmp k=>aV t k
 |.const v=>Cz v
 |.func f=>.d (.fn f) (.fn f)
 |.global _=>.undef
def Ew:X->X
 |.bool b=>.bool (!b)
 |x=>.u1 .not x
def eG(t:TX):Option dA:=some ⟨[],t,.none⟩
def r7(E:bW)(t:TypeId):TX->TX
 |.bu _=>.bu (ye E t)
 |x=>x
def w8(l:List TX)(off:Nat)(xs:List TX):List TX:=l.take off++xs++l.drop (off+xs.length)
def pS(u:Ty)(e:X)(off:Nat)(t:Ty):Option TX:=
 bif Nat.beq off 0&&decide (t=u)then some (.d t e)else
 bif Nat.beq off 0&&Nat.beq t.size u.size&&(cd t != cd u)then none else
 match fw fK u e with
 |some cs=>bif Nat.ble (off+t.size) cs.length then(vQ t ((cs.drop off).take t.size)).map (.d t ·)else none
 |none=>none
def dG:Ty->Bool
 |.aJ _ _=>false
 |.unit=>false
 |_=>true
def gI:TX->TX
 |.d (.box u) x=>bif dG u then(match x with
  |.box e=>.br u e 0
  |x=>.br u (.u1 .unbox x) 0)else .undef
 |t=>t
def D4(C:Cx)(ty:TypeId)(l:List AX)(n:Nat)(a:TX):Option dA:=
 match C.ty ty with
 |none=>match a,C.E ty with
  |.br u e off,some i=>bif Nat.beq i.size u.size&&(i.desc.agg == cd u)&&dG u then(pS u e off u).map λv=>⟨[],v,.none⟩else none
  |.ptr id off,some i=>match l[id]? with
   |some (.var _ cs)=>bif Nat.beq i.size 1 && !i.desc.agg then(cs[off]?).map λv=>⟨[],v,.none⟩else none
   |_=>none
  |_,_=>none
 |some t=>match a with
  |.ptr id off=>match l[id]? with
   |some (.var _ cs)=>bif Nat.ble (off+t.size) cs.length then(qZ t ((cs.drop off).take t.size)).map λv=>⟨[],v,.none⟩else none
   |_=>none
  |.br u e off=>(pS u e off t).map λv=>⟨[],v,.none⟩
  |.bj id k off=>match l[id]? with
   |some (.row _ _ u x)=>(pS u (.var n) off t).map λv=>⟨[.get x k],v,.none⟩
   |_=>none
  |_=>none
def Gl(C:Cx)(ty:TypeId)(l:List AX)(n:Nat)(a v:TX):Option dA:=
 match C.ty ty,qv v with
 |some t,some vs=>bif Nat.beq vs.length t.size&&Nat.ble 1 vs.length then
  match a with
  |.ptr id off=>match l[id]? with
   |some (.var j cs)=>bif Nat.ble (off+vs.length) cs.length then some ⟨[],.undef,.aK (l.set id (.var j (w8 cs off vs)))⟩else none
   |_=>none
  |.bj id k off=>match l[id]?,v with
   |some (.row false e u x),.d B F=>
    if off=0/\B=u then some ⟨[.get x k],.undef,.aK (l.set id (.row false e u (.u3 .set x k F)))⟩
    else match fw fK u (.var n),fw fK B F with
     |some cs,some ds=>bif Nat.ble (off+ds.length) cs.length && !(Nat.beq off 0&&Nat.beq ds.length cs.length)then(vQ u (cs.take off++ds++cs.drop (off+ds.length))).map λy=>⟨[.get x k],.undef,.aK (l.set id (.row false e u (.u3 .set x k y)))⟩else none
     |_,_=>none
   |_,_=>none
  |_=>none
  else none
 |none,some [y]=>match a with
  |.ptr id off=>match l[id]? with
   |some (.var j cs)=>bif Nat.beq (bw C.E ty) 1&&Nat.ble (off+1) cs.length then some ⟨[],.undef,.aK (l.set id (.var j (w8 cs off [y])))⟩else none
   |_=>none
  |_=>none
 |_,_=>none
def CS(C:Cx)(s:TypeId)(f:Nat)(a:TX):Option dA:=
 match C.E s with
 |some ⟨_,_,_,.struct fs⟩=>match fs[f]? with
  |some p=>bif Nat.ble 1 (bw C.E p.2)then
   match a with
   |.ptr id off=>eG (.ptr id (off+p.1))
   |.br u e off=>eG (.br u e (off+p.1))
   |.bj id k off=>eG (.bj id k (off+p.1))
   |_=>none
   else none
  |none=>none
 |_=>none
def CT(C:Cx)(s:TypeId)(f:Nat)(a:TX):Option dA:=
 match C.E s,a with
 |some ⟨_,_,_,.struct fs⟩,.d u e=>match fs[f]? with
  |some p=>match C.ty p.2 with
   |some t=>bif cd u&&Nat.ble 1 t.size then(pS u e p.1 t).map λv=>⟨[],v,.none⟩else none
   |none=>none
  |none=>none
 |_,_=>none
def iX(n:Int):X:=.int .i64 n
def yO(l:List Int):X:=match l with
 | []=>.nil (.int .i64)
 |x::xs=>.u2 .cons (iX x) (yO xs)
def Dy(C:Cx)(t:TypeId)(g:Nat)(n:Nat)(i:TX):Option dA:=
 match C.E t,aD.eA g,i with
 |some ⟨_,_,_,.array len e⟩,some l,.d (.int _) k=>bif Nat.beq len l.length&&Nat.beq (bw C.E e) 1&&Nat.ble 2 len&&(C.E e).isSome then some ⟨[.get (yO l) k],.br (.int .i64) (.var n) 0,.none⟩else none
 |_,_,_=>none
def yB(k n:X):X:=.u2 .and (.u2 .le (iX 0) k) (.u2 .lt k n)
def gd(x:X):X:=.u1 .len x
def Dz(C:Cx)(t:TypeId)(l:List AX)(n:Nat)(a i:TX):Option dA:=
 match C.E t,i with
 |some ⟨_,_,_,.slice e⟩,.d (.int _) k=>match a with
  |.d (.list u) xs=>bif Nat.beq (bw C.E e) u.size&&Nat.ble 1 u.size&&dG u then some ⟨[.get xs k],.br u (.var n) 0,.none⟩else none
  |.row id=>match l[id]? with
   |some (.row _ _ u xs)=>bif Nat.beq (bw C.E e) u.size&&Nat.ble 1 u.size then some ⟨[.bJ (yB k (gd xs))],.bj id k 0,.none⟩else none
   |_=>none
  |_=>none
 |_,_=>none
def Bd(xs:X)(lo hi:Option TX):Option (List Ins×X):=
 match lo,hi with
 |none,none=>some ([],xs)
 |some (.d (.int _) a),none=>some ([.bJ (.u2 .and (.u2 .le (iX 0) a) (.u2 .le a (gd xs)))],.u2 .drop xs a)
 |none,some (.d (.int _) b)=>some ([.bJ (.u2 .and (.u2 .le (iX 0) b) (.u2 .le b (gd xs)))],.u2 .take xs b)
 |some (.d (.int _) a),some (.d (.int _) b)=>some ([.bJ (.u2 .and (.u2 .le (iX 0) a) (.u2 .and (.u2 .le a b) (.u2 .le b (gd xs))))],.u2 .drop (.u2 .take xs b) a)
 |_,_=>none
def uJ(k:IntKind)(x:X):List Ins:=match k with
 |.i64=>[.bJ (.u1 .gT x)]
 |_=>[]
def Kt:Lf->Ty->Bool
 |.bool,.bool=>true
 |.int k,.int j=>decide (k=j)
 |.str,.str=>true
 |_,_=>false
def qS:List Lf->List (Ty×X)->Bool
 | [],[]=>true
 |a::r,p::s=>Kt a p.1&&qS r s
 |_,_=>false
def CN(C:Cx)(ty:TypeId)(i:Nat)(a b:X):Bool:=match C.eqs ty,fw fK (.st i) a,fw fK (.st i) b with
 |some ls,some p,some q=>qS ls p&&qS ls q && !decide (ls=[.bool])
 |_,_,_=>false
def H6(C:Cx)(ty:TypeId)(B:BinOp):TX->TX->Option (List Ins×TX)
 |.d (.int k) a,.d (.int F) b=>
  if k≠F then(match B with |.shr=>some ([.bJ (.u2 .le (.int F 0) b)],.d (.int k) (.u2 (.shr k) a b))|_=>none)else
  match B with
  |.shr=>some ([.bJ (.u2 .le (.int F 0) b)],.d (.int k) (.u2 (.shr k) a b))
  |.and=>some ([],.d (.int k) (.u2 (.qp k) a b))
  |.add=>some (uJ k (.u2 (.add k) a b),.d (.int k) (.u2 (.add k) a b))
  |.sub=>some (uJ k (.u2 (.sub k) a b),.d (.int k) (.u2 (.sub k) a b))
  |.mul=>some (uJ k (.u2 (.mul k) a b),.d (.int k) (.u2 (.mul k) a b))
  |.quo=>(match k with |.i64=>some ([.bJ (.u1 .not (.u2 .aA b (iX 0))),.bJ (.u1 .gT (.u2 (.quo k) a b))],.d (.int k) (.u2 (.quo k) a b))|_=>none)
  |.rem=>some ([.bJ (.u1 .not (.u2 .aA b (.int k 0)))],.d (.int k) (.u2 (.rem k) a b))
  |.eql=>some ([],.d .bool (.u2 .aA a b))
  |.neq=>some ([],.d .bool (.u1 .not (.u2 .aA a b)))
  |.lss=>some ([],.d .bool (.u2 .lt a b))
  |.leq=>some ([],.d .bool (.u2 .le a b))
  |.gtr=>some ([],.d .bool (.u2 .lt b a))
  |.geq=>some ([],.d .bool (.u2 .le b a))
  |_=>none
 |.d .bool a,.d .bool b=>bif decide (C.eqs ty=some [.bool])then(match B with
  |.eql=>some ([],.d .bool (.u2 .CJ a b))
  |.neq=>some ([],.d .bool (.u1 .not (.u2 .CJ a b)))
  |_=>none)else none
 |.d .str a,.d .str b=>match B with
  |.eql=>some ([],.d .bool (.u2 .CK a b))
  |.neq=>some ([],.d .bool (.u1 .not (.u2 .CK a b)))
  |.add=>some ([.bJ (.u2 .Jr a b)],.d .str (.u2 .cat a b))
  |_=>none
 |.d (.st i) a,.d (.st j) b=>bif Nat.beq i j&&CN C ty i a b then(match B with
  |.eql=>some ([],.d .bool (.u2 (.CL i) a b))
  |.neq=>some ([],.d .bool (.u1 .not (.u2 (.CL i) a b)))
  |_=>none)else none
 |_,_=>none
def wL(j:Nat->Option (Nat×Nat))(cells:List TX):List (Nat×TX)->Option (List TX)
 | []=>some cells
 | (i,t)::rest=>match j i,qv t with
  |some (off,size),some vs=>bif Nat.beq vs.length size&&Nat.ble (off+size) cells.length then wL j (w8 cells off vs) rest else none
  |_,_=>none
def vH(t:Ty):List X->X
 | []=>.nil t
 |x::xs=>.u2 .cons x (vH t xs)
def nZ(C:Cx)(t:TypeId):Option (Ty×Ty):=match C.ty t with
 |some (.map k v)=>some (k,v)
 |_=>none
def vM(l:List AX)(k v:Ty):TX->Option X
 |.d (.map j B) x=>if k=j/\v=B then some x else none
 |.dV=>some (.ke k v)
 |.map id=>match l[id]? with
  |some (.map _ j B x)=>if k=j/\v=B then some x else none
  |some (.bn _ kk t x)=>if k = .int kk/\v = .list t then some x else none
  |_=>none
 |_=>none
def bytesOf(E:bW)(e:TypeId):Nat:=match E e with|some i=>i.bytes|none=>0
def Da(l:List AX)(id:Nat):Bool:=match l[id]? with
 |some (.row fr _ _ _)=>fr
 |_=>false
def BR(C:Cx)(t:TypeId)(l:List AX)(nid:Nat)(s x:TX):Option dA:=
 match C.E t,C.ty t with
 |some ⟨_,_,_,.slice e⟩,some (.list u)=>
  match lu l (.list u) x with
  |some (
      y,l1)=>match s with
   |.bu _=>some ⟨[.bJ (.u1 (.fit (bytesOf C.E e)) y)],.row nid,.aK (l1++[.row false e u y])⟩
   |.row id=>match l1[id]? with
    |some (.row fr j k z)=>if j=e/\k=u then(bif Nat.beq nid l1.length&&(Da l id == fr)then
      some ⟨[.bJ (.u1 (.fit (bytesOf C.E e)) (.u2 .app z y))],.row nid,.aK (l1.set id .dead++[.row fr e u (.u2 .app z y)])⟩else none)else none
    |_=>none
   |_=>none
  |none=>none
 |_,_=>none
def DS(C:Cx)(t:TypeId)(l:List AX)(x:TX):Option dA:=
 match C.E t,x with
 |some ⟨_,_,_,.string⟩,.d .str s=>eG (.d (.int .i64) (.u1 .Kr s))
 |some ⟨_,_,_,.slice _⟩,.d (.list _) xs=>eG (.d (.int .i64) (.u1 .len xs))
 |some ⟨_,_,_,.slice _⟩,.bu _=>eG (.d (.int .i64) (iX 0))
 |some ⟨_,_,_,.slice _⟩,.row id=>match l[id]? with
  |some (.row _ _ _ xs)=>eG (.d (.int .i64) (.u1 .len xs))
  |_=>none
 |some ⟨_,_,_,.map _ _⟩,x=>match nZ C t with
  |some (k,v)=>(vM l k v x).map λm=>⟨[],.d (.int .i64) (.u1 .Kq m),.none⟩
  |none=>none
 |_,_=>none
def isLit:TX->Option Bool
 |.d .bool (.bool b)=>some b
 |_=>none
def nG:Ty->X->Option (List TX)
 |.aJ a b,x=>bif dG a then(match nG b (uv x)with|some r=>some (.d a (sR x)::r)|none=>none)else none
 |.unit,_=>some []
 |t,x=>some [.d t x]
def kI:TX->Option (FuncId×List TX)
 |.aB g ts=>some (g,ts)
 |.d (.fn g) _=>some (g,[])
 |.d (.aB g t) (.aB _ x)=>(nG t x).map λr=>(g,r)
 |.d (.aB g t) x=>(nG t (.u1 .GJ x)).map λr=>(g,r)
 |_=>none
def qI(l:List AX)(g:FuncId)(ts:List TX):List ml->Nat->Option (Nat×List X×List AX×ml)
 | [],_=>none
 |s::r,k=>bif Nat.beq s.f g then(match gH l s.args ts with
   |some (xs,l')=>some (k,xs,l',s)
   |none=>qI l g ts r (k+1))else qI l g ts r (k+1)
def oI(E:bW):List TypeId->List TX->List TX
 |t::ts,x::xs=>r7 E t x::oI E ts xs
 |_,xs=>xs
def nk(v:X):List Ty->TX
 | []=>.aJ []
 | [t]=>.d t v
 |ts=>.aJ (mz ts.length v ts 0)
where mz (n:Nat) (v:X):List Ty->Nat->List TX
 | [],_=>[]
 |t::ts,j=>.d t (ri n j v)::mz n v ts (j+1)
def Cg(C:Cx)(l:List AX)(n:Nat)(g:FuncId)(ts:List TX):Option dA:=
 match qI l g ts C.sigs 0 with
 |some (k,xs,l',s)=>some ⟨[.call k (fp xs)],nk (.var n) s.res,.aK l'⟩
 |none=>none
def ph(l:List AX)(g:FuncId)(t:Ty)(ts:List TX):List kF->Option (kF×List X×List AX)
 | []=>none
 |s::r=>if s.t=t then(bif Nat.beq s.f g then(match gH l s.args ts with
   |some (xs,l')=>some (s,xs,l')
   |none=>ph l g t ts r)else ph l g t ts r)else ph l g t ts r
def qH(l:List AX)(g:FuncId)(ts:List TX):List kF->Option (kF×List X×List AX)
 | []=>none
 |s::r=>bif Nat.beq s.f g then(match gH l s.args ts with
   |some (xs,l')=>some (s,xs,l')
   |none=>qH l g ts r)else qH l g ts r
def GF(C:Cx)(l:List AX)(n:Nat)(g:FuncId):List TX->Option dA
 |.row id::ts=>match l[id]? with
  |some (.row false e t x)=>match ph l g t ts C.turns with
   |some (s,xs,l')=>match l'[id]? with
    |some (.row false j t' B)=>if j=e/\t'=t then some ⟨[.call s.k (fp (B::xs))],.aJ [],.aK (l'.set id (.row false e t (.var n)))⟩else none
    |_=>none
   |none=>none
  |_=>none
 |.bu _::ts=>match qH l g ts C.turns with
  |some (s,xs,l')=>some ⟨[.call s.k (fp (.nil s.t::xs))],.aJ [],.aK (l'++[.row false 0 s.t (.var n)])⟩
  |none=>none
 |_=>none
def uc(v:Ty):TX->Option X
 |.d t x=>if t=v then some x else none
 |.bu s=>match v with
  |.list u=>bif Nat.beq s u.size then some (.nil u)else none
  |_=>none
 |_=>none
def th(C:Cx)(t:TypeId)(i:Nat):Bool:=match C.E t with
 |some ⟨_,_,_,.map kt _⟩=>(match yM C.E kt with
  |some (n,kk)=>decide (aD.bU i=List.replicate n (.int kk))
  |none=>false)
 |_=>false
def AU(C:Cx)(t:TypeId)(l:List AX)(m k x:TX):Option dA:=match nZ C t,m,k with
 |some (.int kk,v),.map id,.d (.int G) key=>match uc v x,l[id]? with
  |some y,some (.map false B F mm)=>if kk=G/\B = .int kk/\v=F then some ⟨[],.undef,.aK (l.set id (.map false B F (.u3 .og mm key y)))⟩else none
  |_,_=>none
 |some (.st i,v),.map id,.d (.st j) key=>match uc v x,l[id]? with
  |some y,some (.map false B F mm)=>if i=j/\B = .st i/\v=F then(bif th C t i then some ⟨[],.undef,.aK (l.set id (.map false B F (.u3 .og mm key y)))⟩else none)else none
  |_,_=>none
 |_,_,_=>none
def CC(C:Cx)(t:TypeId)(l:List AX)(m k:TX):Option dA:=match nZ C t,m,k with
 |some (.int kk,v),.map id,.d (.int F) key=>match l[id]? with
  |some (.map false j B mm)=>if kk=F/\j = .int kk/\v=B then some ⟨[],.aJ [],.aK (l.set id (.map false j B (.u2 .yT mm key)))⟩else none
  |_=>none
 |_,_,_=>none
def Eb(C:Cx)(t:TypeId)(l:List AX)(nid:Nat)(a b:TX):Option dA:=match C.E t,C.ty t,a,b with
 |some ⟨_,_,_,.slice e⟩,some (.list u),.d (.int _) n,.d (.int _) c=>(match jO fK u with
  |some z=>bif X.beq n c then some ⟨[.bJ (.u2 .le (iX 0) n),.bJ (.u1 (.fit (bytesOf C.E e)) (.u2 .rep n z))],.row nid,.aK (l++[.row false e u (.u2 .rep n z)])⟩else none
  |none=>none)
 |_,_,_,_=>none
def dD(C:Cx)(ρ:Operand->TX)(l:List AX)(n nid:Nat)(o:Oper):Option dA:=
 match o.op with
 |.move x |.assign x=>eG (r7 C.E o.type (ρ x))
 |.pick c a b=>match isLit (ρ c)with
  |some true=>(match ρ a,ρ b with |.d .bool x,.d .bool _=>eG (.d .bool x) |.d .bool x,.gone=>eG (.d .bool x)|_,_=>none)
  |some false=>(match ρ b,ρ a with |.d .bool x,.d .bool _=>eG (.d .bool x) |.d .bool x,.gone=>eG (.d .bool x)|_,_=>none)
  |none=>none
 |.box e x=>(qv (ρ x)).map λcs=>⟨[],.ptr nid 0,.new (.var e cs)⟩
 |.alloc e=>match C.ty e with
  |some t=>(zeroCells t).map λcs=>⟨[],.ptr nid 0,.new (.var e cs)⟩
  |none=>match C.E e with
   |some ⟨_,_,[_],_⟩=>some ⟨[],.ptr nid 0,.new (.var e [.undef])⟩
   |_=>none
 |.load t a=>D4 C t l n (gI (ρ a))
 |.store t a x=>Gl C t l n (r7 C.E t (ρ a)) (r7 C.E t (ρ x))
 |.nilCheck x=>match ρ x with
  |.ptr id off=>eG (.ptr id off)
  |_=>none
 |.fieldAddr s x f=>CS C s f (gI (ρ x))
 |.field s x f=>CT C s f (ρ x)
 |.binOp F ty x y _=>(H6 C ty F (ρ x) (ρ y)).map λr=>⟨r.1,r.2,.none⟩
 |.unOp F _ x=>match F,ρ x with
  |.not,.d .bool a=>eG (.d .bool (Ew a))
  |.neg,.d (.int k) a=>some ⟨uJ k (.u1 (.neg k) a),.d (.int k) (.u1 (.neg k) a),.none⟩
  |_,_=>none
 |.indexAddr t x i=>match x with
  |.global g=>Dy C t g n (ρ i)
  |x=>Dz C t l n (gI (ρ x)) (ρ i)
 |.slice t x lo hi none=>match C.ty t,ρ x with
  |some (.list u),.d (.list N) xs=>if u=N then(Bd xs (lo.map ρ) (hi.map ρ)).map λr=>⟨r.1,.d (.list u) r.2,.none⟩else none
  |some (.list u),.row id=>match gn l (.list u) (.row id)with
   |some (xs,l')=>(Bd xs (lo.map ρ) (hi.map ρ)).map λr=>⟨r.1,.d (.list u) r.2,.aK l'⟩
   |none=>none
  |_,_=>none
 |.build t parts=>match C.E t,C.ty t with
  |some ⟨_,_,_,.struct fs⟩,some u=>match zeroCells u with
   |some z=>(wL (rH C.E fs) z (parts.toList.map λp=>(p.1,ρ p.2))).bind λcs=>(qZ u cs).map λv=>⟨[],v,.none⟩
   |none=>none
  |_,_=>none
 |.buildSlice t len parts=>match C.E t,C.ty t with
  |some ⟨_,_,_,.slice e⟩,some (.list u)=>
   bif Nat.beq len 0 then(bif parts.toList.isEmpty then some ⟨[],.row nid,.aK (l++[.row false e u (.nil u)])⟩else none)
   else bif decide (parts.toList.map (·.1)=List.range len)&&Nat.ble (len*u.size) 16777216 then
    match gH l (List.replicate len u) (parts.toList.map λp=>ρ p.2)with
    |some (xs,l')=>some ⟨[],.d (.list u) (vH u xs),.aK l'⟩
    |none=>none
   else none
  |_,_=>none
 |.extract x i=>match ρ x with
  |.aJ ts=>(ts[i]?).map λt=>⟨[],t,.none⟩
  |_=>none
 |.call c=>match c.callee with
  |.value f=>match kI (ρ f)with
   |some (g,ts)=>match Cg C l n g (oI C.E c.argTypes.toList (c.args.toList.map ρ)++ts)with
    |some q=>some q
    |none=>GF C l n g (oI C.E c.argTypes.toList (c.args.toList.map ρ)++ts)
   |none=>none
  |.builtin .len=>match c.args.toList,c.argTypes.toList with| [x],[t]=>DS C t l (ρ x)|_,_=>none
  |.builtin .append=>match c.args.toList,c.argTypes.toList with
   | [s,x],[t,t']=>if t=t' then BR C t l nid (ρ s) (ρ x)else none
   |_,_=>none
  |.builtin .max=>match c.args.toList.map ρ with| [.d (.int k) a,.d (.int B) b]=>if k=B then eG (.d (.int k) (.u2 .max a b))else none|_=>none
  |.builtin .min=>match c.args.toList.map ρ with| [.d (.int k) a,.d (.int B) b]=>if k=B then eG (.d (.int k) (.u2 .min a b))else none|_=>none
  |.builtin .delete=>match c.args.toList,c.argTypes.toList with
   | [x,k],[t,_]=>CC C t l (ρ x) (ρ k)
   |_,_=>none
  |_=>none
 |.makeSlice t a b=>Eb C t l nid (ρ a) (ρ b)
 |.makeMap t none=>match nZ C t with
  |some (k,v)=>some ⟨[],.map nid,.aK (l++[.map false k v (.ke k v)])⟩
  |none=>none
 |.mapUpdate t m k x=>AU C t l (ρ m) (ρ k) (ρ x)
 |.insert t m k x=>AU C t l (ρ m) (ρ k) (ρ x)
 |.lookup t x k ok=>match nZ C t,ρ k with
  |some (.int kk,v),.d (.int G) key=>if kk=G then(match vM l (.int kk) v (ρ x),jO fK v with
   |some m,some z=>eG (bif ok then .aJ [.d v (.u3 .jG m key z),.d .bool (.u2 .od m key)]else .d v (.u3 .jG m key z))
   |_,_=>none)else none
  |some (.st i,v),.d (.st j) key=>if i=j then(bif th C t i then(match vM l (.st i) v (ρ x),jO fK v with
   |some m,some z=>eG (bif ok then .aJ [.d v (.u3 .jG m key z),.d .bool (.u2 .od m key)]else .d v (.u3 .jG m key z))
   |_,_=>none)else none)else none
  |_,_=>none
 |.convert M t x=>match C.E M,C.E t,ρ x with
  |some ⟨_,_,_,.dF _⟩,some ⟨_,_,_,.dF k⟩,.d (.int _) a=>eG (.d (.int k) (.u1 (.conv k) a))
  |_,_,_=>none
 |.makeFunc (.func g) first caps=>bif first.isEmpty then
   (match (caps.toList.map ρ).mapM sG with
   |some ds=>eG (.d (.aB g (aT (ds.map (·.1)))) (.aB g (fp (ds.map (·.2)))))
   |none=>eG (.aB g (caps.toList.map ρ)))else none
 |_=>none
def DB:AX->Bool
 |.bn .. =>true
 |.fc .. =>true
 |_=>false
def BA:AX->AX
 |.bn _ kk t x=>.map false (.int kk) (.list t) x
 |a=>a
def qe(id:Nat):List AX->Nat->List AX
 | [],_=>[]
 |a::r,i=>(bif Nat.beq i id then a else BA a)::qe id r (i+1)
def vT(id:Nat):List AX->Nat->Bool
 | [],_=>true
 |a::r,i=>(Nat.beq i id || !DB (BA a))&&vT id r (i+1)
def yu(C:Cx)(t:TypeId):Option TypeId:=match C.E t with
 |some ⟨_,_,_,.map _ v⟩=>(match C.E v with
  |some ⟨_,_,_,.slice e⟩=>some e
  |_=>none)
 |_=>none
def Bp(e:TypeId)(kk:IntKind)(u:Ty):AX->Option X
 |.bn j F G x=>if j=e/\F=kk/\G=u then some x else none
 |.map false k v (.ke B M)=>if k = .int kk/\v = .list u/\B = .int kk/\M = .list u then some (.ke k v)else none
 |_=>none
def Jo(ops:List Oper)(d:Nat):Bool:=ops.any λo=>match o.op with
 |.call c=>(match c.callee with
  |.builtin .append=>(match c.args.toList with
   |.tmp t::_=>Nat.beq t d
   |_=>false)
  |_=>false)
 |_=>false
def Dq(C:Cx)(t:TypeId)(l:List AX)(nid:Nat)(m k:TX):Option dA:=match nZ C t,m,k with
 |some (.int kk,.list u),.map id,.d (.int j) key=>(match yu C t,l[id]? with
  |some e,some a=>(match Bp e kk u a with
   |some x=>if kk=j then(bif vT id l 0 then some ⟨[],.row nid,.aK ((qe id l 0).set id (.fc e kk u x key)++[.row true e u (.u3 .jG x key (.nil u))])⟩else none)else none
   |none=>none)
  |_,_=>none)
 |_,_,_=>none
def y6:X->Bool
 |.u2 .app _ (.u2 .cons _ _)=>true
 |_=>false
def Dr(C:Cx)(t:TypeId)(l:List AX)(m k x:TX):Option dA:=match m,k,x with
 |.map id,.d (.int G) key,.row j=>(match l[id]?,l[j]? with
  |some (.fc e kk u mm F),some (.row true B M y)=>if kk=G/\e=B/\u=M/\nZ C t=some (.int kk,.list u)then(bif X.beq key F&&y6 y then some ⟨[],.undef,.aK ((l.set j .dead).set id (.bn e kk u (.u3 .og mm key y)))⟩else none)else none
  |_,_=>none)
 |_,_,_=>none
def Io(ops:List Oper)(d:Nat):Bool:=ops.any λo=>match o.op with
 |.call c=>(match c.callee,c.args.toList with
  |.builtin .clear,[.tmp t]=>Nat.beq t d
  |_,_=>false)
 |_=>false
def Gt(C:Cx)(t:TypeId)(l:List AX)(x lo:TX):Option dA:=match C.E t,C.ty t,x,lo with
 |some ⟨_,_,_,.slice _⟩,some (.list u),.row id,.d (.int _) n=>(match l[id]? with
  |some (.row false _ j xs)=>if j=u then some ⟨[.bJ (.u2 .and (.u2 .le (iX 0) n) (.u2 .le n (gd xs)))],.sub id n (gd xs),.aK l⟩else none
  |_=>none)
 |_,_,_,_=>none
def Ct(C:Cx)(t:TypeId)(l:List AX)(x:TX):Option dA:=match C.E t,C.ty t,x with
 |some ⟨_,_,_,.slice _⟩,some (.list u),.sub id lo hi=>(match l[id]?,jO fK u with
  |some (.row false e j xs),some z=>if j=u then(bif X.beq hi (gd xs)then some ⟨[],.aJ [],.aK (l.set id (.row false e u (.u2 .app (.u2 .take xs lo) (.u2 .rep (.u2 (.sub .i64) hi lo) z))))⟩else none)else none
  |_,_=>none)
 |_,_,_=>none
def JV(C:Cx)(ops:List Oper)(ρ:Operand->TX)(l:List AX)(nid:Nat)(o:Oper):Option dA:=match o.op with
 |.lookup t x k false=>(match o.dst with
  |some d=>bif Jo ops d then Dq C t l nid (ρ x) (ρ k)else none
  |none=>none)
 |.mapUpdate t m k x=>Dr C t l (ρ m) (ρ k) (ρ x)
 |.slice t x (some lo) none none=>(match o.dst with
  |some d=>bif Io ops d then Gt C t l (ρ x) (ρ lo)else none
  |none=>none)
 |.call c=>(match c.callee,c.args.toList,c.argTypes.toList with
  |.builtin .clear,[x],[t]=>Ct C t l (ρ x)
  |_,_,_=>none)
 |_=>none
def pd(C:Cx)(ops:List Oper)(ρ:Operand->TX)(l:List AX)(n nid:Nat)(o:Oper):Option dA:=match JV C ops ρ l nid o with
 |some q=>some q
 |none=>dD C ρ l n nid o
end Go.Sy
namespace Go.Sy
open Go Go.ag
inductive Tr where
 |leaf (e:Ex) (σ:Sk)
 |out (k:Nat) (x:X)
 |bJ (x:X) (t:Tr)
 |get (v:Nat) (xs k:X) (t:Tr)
 |call (v c:Nat) (x:X) (t:Tr)
 |fx (c:X) (a b:Tr)
 |gg (x:X) (a b:Tr)
 |join (ty:Ty) (v:Nat) (a b:Tr)
 |loop (ty:Ty) (v:Nat) (init:X) (body:Tr)
 |bad (why:Nat)
 deriving Inhabited
def hasB(m k:Nat):Bool:=Nat.beq (Nat.land (Nat.shiftRight m k) 1) 1
def jn(m k:Nat):Nat:=Nat.lor m (Nat.shiftLeft 1 k)
def zh(m:Nat):Operand->Nat
 |.tmp t=>jn m t
 |_=>m
def WJ(m:Nat)(j:List Oper):Nat:=j.foldl (λm o=>o.op.operands.toList.foldl zh m) m
def IF(m k:Nat):Nat:=bif hasB m k then Nat.xor m (Nat.shiftLeft 1 k)else m
structure Lv where
 out:Nat
 ex:List (Nat×Nat)
 rt:Nat
def VH(ops:List Oper)(m:Nat)(o:Oper):Nat:=match o.guard with
 |some (j,_)=>(match (ops[j]?).bind (·.dst)with|some d=>jn m d|none=>m)
 |none=>m
def D8(ops:List Oper):List Oper->Nat->Nat
 | [],m=>m
 |o::r,m=>VH ops (o.op.operands.toList.foldl zh (match o.dst with|some d=>IF (D8 ops r m) d|none=>D8 ops r m)) o
def KD(j:List (Nat×Nat))(id:Nat):Nat:=match j with
 | []=>0
 |p::r=>bif Nat.beq p.1 id then p.2 else KD r id
def fO:Code->Lv->Nat
 |.region _ ops _,l=>D8 ops.toList ops.toList l.out
 |.seq a b,l=>fO a {l with out:=fO b l}
 |.cond c a b,l=>zh (Nat.lor (fO a l) (fO b l)) c
 |.block id c,l=>fO c {l with ex:=(id,l.out)::l.ex}
 |.loop c,l=>fO c {l with out:=fO c {l with out:=0} }
 |.rangeFunc g ps a b,l=>zh (Nat.lor l.out (ps.toList.foldl IF (fO a ⟨fO b ⟨0,l.ex,l.rt⟩,l.ex,l.rt⟩))) g
 |.scope c,l=>fO c l
 |.exit id,l=>KD l.ex id
 |.ret,l=>l.rt
 |_,l=>l.out
def X.j9:X->Nat
 |.var i=>i+1
 |.hole _=>1000000000
 |.pair a b=>Nat.max a.j9 b.j9
 |.aB _ x=>x.j9
 |.box x=>x.j9
 |.proj _ _ x=>x.j9
 |.mk _ x=>x.j9
 |.u1 _ x=>x.j9
 |.u2 _ x y=>Nat.max x.j9 y.j9
 |.u3 _ x y z=>Nat.max x.j9 (Nat.max y.j9 z.j9)
 |_=>0
def X.fill(g:Nat->X):X->X
 |.hole p=>g p
 |.pair a b=>.pair (a.fill g) (b.fill g)
 |.aB f x=>.aB f (x.fill g)
 |.box x=>.box (x.fill g)
 |.proj i j x=>.proj i j (x.fill g)
 |.mk i x=>.mk i (x.fill g)
 |.u1 o x=>.u1 o (x.fill g)
 |.u2 o x y=>.u2 o (x.fill g) (y.fill g)
 |.u3 o x y z=>.u3 o (x.fill g) (y.fill g) (z.fill g)
 |x=>x
mutual
def TX.fill (g:Nat->X):TX->TX
 |.d t x=>.d t (x.fill g)
 |.br t e off=>.br t (e.fill g) off
 |.bj id k off=>.bj id (k.fill g) off
 |.bB id t x=>.bB id t (x.fill g)
 |.agg cs=>.agg (TX.jx g cs)
 |.aJ cs=>.aJ (TX.jx g cs)
 |.aB f cs=>.aB f (TX.jx g cs)
 |t=>t
def TX.jx (g:Nat->X):List TX->List TX
 | []=>[]
 |t::ts=>t.fill g::TX.jx g ts
end
def AX.fill(g:Nat->X):AX->AX
 |.var ty cs=>.var ty (TX.jx g cs)
 |.row j e t x=>.row j e t (x.fill g)
 |.map j k v x=>.map j k v (x.fill g)
 |.bn e kk t x=>.bn e kk t (x.fill g)
 |.fc e kk t x k=>.fc e kk t (x.fill g) (k.fill g)
 |a=>a
def Sk.fill(g:Nat->X)(n:Nat)(σ:Sk):Sk:=⟨n,σ.t.map λp=>(p.1,p.2.fill g),σ.l.map (AX.fill g)⟩
mutual
def TX.beq:TX->TX->Bool
 |.undef,.undef=>true
 |.gone,.gone=>true
 |.d t x,.d u y=>decide (t=u)&&X.beq x y
 |.bu s,.bu s'=>Nat.beq s s'
 |.dV,.dV=>true
 |.ptr i o,.ptr B o'=>Nat.beq i B&&Nat.beq o o'
 |.br t e o,.br t' F o'=>decide (t=t')&&X.beq e F&&Nat.beq o o'
 |.row i,.row j=>Nat.beq i j
 |.bj i k o,.bj B G o'=>Nat.beq i B&&X.beq k G&&Nat.beq o o'
 |.map i,.map j=>Nat.beq i j
 |.aW i,.aW j=>Nat.beq i j
 |.cw i n,.cw j m=>Nat.beq i j&&Nat.beq n m
 |.bB i t x,.bB B t' M=>Nat.beq i B&&decide (t=t')&&X.beq x M
 |.agg a,.agg b=>TX.oW a b
 |.aJ a,.aJ b=>TX.oW a b
 |.aB f a,.aB g b=>Nat.beq f g&&TX.oW a b
 |_,_=>false
def TX.oW:List TX->List TX->Bool
 | [],[]=>true
 |a::r,b::s=>TX.beq a b&&TX.oW r s
 |_,_=>false
end
def rY:List (Nat×TX)->List (Nat×TX)->Bool
 | [],[]=>true
 | (i,a)::r,(j,b)::s=>Nat.beq i j&&TX.beq a b&&rY r s
 |_,_=>false
def AX.beq:AX->AX->Bool
 |.dead,.dead=>true
 |.var t a,.var u b=>Nat.beq t u&&TX.oW a b
 |.row f e t x,.row N F t' B=>(f == N)&&Nat.beq e F&&decide (t=t')&&X.beq x B
 |.map f k v x,.map N G Y B=>(f == N)&&decide (k=G)&&decide (v=Y)&&X.beq x B
 |.bn e k t x,.bn F G t' B=>Nat.beq e F&&decide (k=G)&&decide (t=t')&&X.beq x B
 |.fc e k t x y,.fc F G t' B Z=>Nat.beq e F&&decide (k=G)&&decide (t=t')&&X.beq x B&&X.beq y Z
 |.dj j b r,.dj O M U=>Nat.beq j O&&Nat.beq b M&&decide (r=U)
 |.lp j b r s,.lp O M U s'=>Nat.beq j O&&Nat.beq b M&&decide (r=U)&&decide (s=s')
 |.ey,.ey=>true
 |_,_=>false
def lF:List AX->List AX->Bool
 | [],[]=>true
 |a::r,b::s=>AX.beq a b&&lF r s
 |_,_=>false
def nS(k:Nat)(t:TX):List (Nat×TX)->List (Nat×TX)
 | []=>[(k,t)]
 | (j,u)::r=>bif Nat.ble k j then(bif Nat.beq k j then(j,u)::r else(k,t)::(j,u)::r)else(j,u)::nS k t r
def vw:TX->Bool
 |.undef=>true
 |.gone=>true
 |_=>false
def jg(j:Nat):List (Nat×TX)->Nat->List (Nat×TX)
 | [],_=>[]
 | (k,t)::r,seen=>bif hasB j k && !hasB seen k then(bif vw t then jg j r (jn seen k)else nS k t (jg j r (jn seen k)))else jg j r seen
def Sk.cu(j:Nat)(σ:Sk):Sk:={σ with t:=jg j σ.t 0}
def sW(id:Nat):List Nat->Nat->Option Nat
 | [],_=>none
 |x::xs,k=>bif Nat.beq x id then some k else sW id xs (k+1)
def fo(ids:List Nat)(f:Nat->TX)(id:Nat):TX:=match sW id ids 0 with|some k=>f k|none=>.undef
def AY(ids:List Nat):TX->TX
 |.ptr id off=>fo ids (.ptr · off) id
 |.aW id=>fo ids .aW id
 |t=>t
def oA(ids:List Nat):TX->TX
 |.ptr id off=>fo ids (.ptr · off) id
 |.row id=>fo ids .row id
 |.bj id k off=>fo ids (.bj · k off) id
 |.map id=>fo ids .map id
 |.aW id=>fo ids .aW id
 |.cw id n=>fo ids (.cw · n) id
 |.bB id t x=>match sW id ids 0 with|some k=>.bB k t x|none=>.d (.list t) x
 |.agg _=>.undef
 |.sub _ _ _=>.undef
 |.aJ _=>.undef
 |.aB _ _=>.undef
 |.gone=>.undef
 |t=>t
def qJ:TX->Bool
 |.d _ _=>true
 |.ptr _ _=>true
 |.aW _=>true
 |_=>false
def yF:TX->Bool
 |.d _ _=>true
 |_=>false
def TX.re(ids:List Nat):TX->TX
 |.gone=>.undef
 |.sub _ _ _=>.undef
 |.ptr id off=>fo ids (.ptr · off) id
 |.row id=>fo ids .row id
 |.bj id k off=>fo ids (.bj · k off) id
 |.map id=>fo ids .map id
 |.aW id=>fo ids .aW id
 |.cw id n=>fo ids (.cw · n) id
 |.bB id t x=>match sW id ids 0 with|some k=>.bB k t x|none=>.d (.list t) x
 |.agg cs=>.agg (cs.map (oA ids))
 |.aB f cs=>bif cs.all qJ then .aB f (cs.map (AY ids))else .undef
 |.aJ cs=>bif cs.all yF then .aJ cs else .undef
 |t=>t
def AX.re(ids:List Nat):AX->AX
 |.var ty cs=>.var ty (cs.map (TX.re ids))
 |o=>o
def Sk.re(ids:List Nat)(σ:Sk):Sk:=⟨σ.n,σ.t.map λp=>(p.1,p.2.re ids),ids.map λid=>((σ.l[id]?).getD .dead).re ids⟩
inductive Pl where
 |slot (j:Nat)
 |cell (id k:Nat)
 |obj (id:Nat)
inductive Co where
 |sq (e:TypeId) (t:Ty)
 |data (t:Ty)
 |yr
 |grow (e:TypeId) (kk:IntKind) (t:Ty)
 |Bz
def ma(j:Nat)(t:TX):List (Nat×TX)->List (Nat×TX)
 | []=>[]
 | (i,u)::r=>bif Nat.beq i j then(i,t)::r else(i,u)::ma j t r
variable [aD]
def mu(σ:Sk):Pl->TX
 |.slot j=>aV σ.t j
 |.cell id k=>match σ.l[id]? with
  |some (.var _ cs)=>(cs[k]?).getD .undef
  |_=>.undef
 |.obj _=>.undef
def KE(σ:Sk):Pl->TX
 |.obj id=>.map id
 |p=>mu σ p
def uq(σ:Sk)(t:TX):Pl->Sk
 |.slot j=>{σ with t:=ma j t σ.t}
 |.cell id k=>match σ.l[id]? with
  |some (.var ty cs)=>{σ with l:=σ.l.set id (.var ty (cs.set k t))}
  |_=>σ
 |.obj _=>σ
def oS(σ:Sk)(p:Pl):Co->Option Sk
 |.sq e t=>bif !dG t then none else match mu σ p with
  |.bu _=>some (uq {σ with l:=σ.l++[.row false e t (.nil t)]} (.row σ.l.length) p)
  |_=>none
 |.data t=>bif !dG t then none else match lu σ.l t (mu σ p)with
  |some (x,l')=>some (uq {σ with l:=l' } (.d t x) p)
  |none=>none
 |.yr=>match mu σ p with
  |.row id=>match σ.l[id]? with
   |some (.row false e t x)=>some {σ with l:=σ.l.set id (.row true e t x)}
   |_=>none
  |_=>none
 |.grow e kk t=>match KE σ p with
  |.map id=>match σ.l[id]? with
   |some a=>match Bp e kk t a with
    |some x=>bif dG t&&Nat.ble 1 t.size then some {σ with l:=σ.l.set id (.bn e kk t x)}else none
    |none=>none
   |none=>none
  |_=>none
 |.Bz=>match KE σ p with
  |.map id=>match σ.l[id]? with
   |some (.bn _ kk t x)=>some {σ with l:=σ.l.set id (.map false (.int kk) (.list t) x)}
   |_=>none
  |_=>none
def El(B F:List AX)(a b:TX):Option (Option Co×Option Co):=
 match a,b with
 |.bu _,.row id=>match F[id]? with|some (.row _ e t _)=>some (some (.sq e t),none)|_=>none
 |.row id,.bu _=>match B[id]? with|some (.row _ e t _)=>some (none,some (.sq e t))|_=>none
 |.bu _,.d (.list t) _=>some (some (.data (.list t)),none)
 |.d (.list t) _,.bu _=>some (none,some (.data (.list t)))
 |.dV,.d (.map k v) _=>some (some (.data (.map k v)),none)
 |.d (.map k v) _,.dV=>some (none,some (.data (.map k v)))
 |.row _,.d t _=>some (some (.data t),none)
 |.d t _,.row _=>some (none,some (.data t))
 |.agg _,.d t _=>some (some (.data t),none)
 |.d t _,.agg _=>some (none,some (.data t))
 |.map _,.d t _=>some (some (.data t),none)
 |.d t _,.map _=>some (none,some (.data t))
 |.row i,.row j=>match B[i]?,F[j]? with
  |some (.row G _ _ _),some (.row M _ _ _)=>bif G == M then none else(bif G then some (none,some .yr)else some (some .yr,none))
  |_,_=>none
 |.map i,.map j=>match B[i]?,F[j]? with
  |some (.bn e k t _),some (.map false _ _ x)=>match x with
   |.ke _ _=>some (none,some (.grow e k t))
   |_=>some (some .Bz,none)
  |some (.map false _ _ x),some (.bn e k t _)=>match x with
   |.ke _ _=>some (some (.grow e k t),none)
   |_=>some (none,some .Bz)
  |_,_=>none
 |_,_=>none
abbrev jP:=List (Nat×Nat)
abbrev mi:=jP×jP
def yn:Nat:=1000000
def jo(p:Nat×Nat)(l:mi):mi:=bif l.1.any λq=>Nat.beq q.1 p.1 then l else
 match l.1[p.1]? with
 |some q=>bif Nat.beq q.1 (yn+p.1)then(l.1.set p.1 p,l.2++[p])else(l.1++[p],l.2++[p])
 |none=>(l.1++[p],l.2++[p])
def LH:TX->TX->mi->mi
 |.ptr i _,.ptr j _,l=>jo (i,j) l
 |.row i,.row j,l=>jo (i,j) l
 |.bB i _ _,.bB j _ _,l=>jo (i,j) l
 |.bj i _ _,.bj j _ _,l=>jo (i,j) l
 |.map i,.map j,l=>jo (i,j) l
 |.aW i,.aW j,l=>jo (i,j) l
 |.cw i _,.cw j _,l=>jo (i,j) l
 |.aB _ a,.aB _ b,l=>(a.zip b).foldl (λl p=>match p with
  | (.ptr i _,.ptr j _)=>jo (i,j) l
  | (.aW i,.aW j)=>jo (i,j) l
  |_=>l) l
 |.agg a,.agg b,l=>(a.zip b).foldl (λl p=>match p with
  | (.ptr i _,.ptr j _)=>jo (i,j) l
  | (.row i,.row j)=>jo (i,j) l
  | (.map i,.map j)=>jo (i,j) l
  | (.bB i _ _,.bB j _ _)=>jo (i,j) l
  | (.cw i _,.cw j _)=>jo (i,j) l
  |_=>l) l
 |_,_,l=>l
def MX(A B:Sk):List (Nat×TX)->mi->Sum (Pl×Pl×Option Co×Option Co) mi
 | [],ps=>.inr ps
 | (j,a)::r,ps=>match El A.l B.l a (aV B.t j)with
  |some (x,y)=>.inl (.slot j,.slot j,x,y)
  |none=>MX A B r (LH a (aV B.t j) ps)
def MU(A B:Sk)(j F:Nat):List TX->List TX->Nat->mi->Sum (Pl×Pl×Option Co×Option Co) mi
 |a::r,b::s,k,ps=>match El A.l B.l a b with
  |some (x,y)=>.inl (.cell j k,.cell F k,x,y)
  |none=>MU A B j F r s (k+1) (LH a b ps)
 |_,_,_,ps=>.inr ps
def F5(A B:Sk):Nat->mi->Sum (Pl×Pl×Option Co×Option Co) jP
 |0,ps=>.inr ps.1
 |f+1,(ps,w)=>match w with
  | []=>.inr ps
  | (
     i,j)::w=>match El A.l B.l (.map i) (.map j)with
   |some (x,y)=>.inl (.obj i,.obj j,x,y)
   |none=>match A.l[i]?,B.l[j]? with
    |some (.var _ a),some (.var _ b)=>match MU A B i j a b 0 (ps,w)with
     |.inl m=>.inl m
     |.inr q=>F5 A B f q
    |_,_=>F5 A B f (ps,w)
def Db:AX->Option (Nat×List Nat)
 |.dj _ b r=>some (b,r)
 |.lp _ b r _=>some (b,r)
 |_=>none
def N5:List AX->Nat->Nat->Nat
 | [],_,m=>m
 |a::r,i,m=>N5 r (i+1) (match Db a with|some _=>i+1|none=>m)
def FI:List AX->Nat->List Nat
 | [],_=>[]
 |a::r,i=>match Db a with
  |some (_,rs)=>i::rs++FI r (i+1)
  |none=>FI r (i+1)
def pins(A:Sk):mi:=match N5 A.l 0 0 with
 |0=>([],[])
 |m=>let rs:=FI A.l 0
  let l:=(List.range m).map λi=>bif rs.any (Nat.beq i)then(i,i)else(yn+i,yn+i)
  (l,l)
def YA(A B:Sk):Sum (Pl×Pl×Option Co×Option Co) jP:=match MX A B A.t (pins A)with
 |.inl m=>.inl m
 |.inr ps=>F5 A B 200 ps
def yd(σ:Sk)(p:Pl):Option Co->Option Sk
 |none=>some σ
 |some c=>oS σ p c
def meet:Nat->Sk->Sk->Option (Sk×Sk×jP)
 |0,_,_=>none
 |f+1,A,B=>match YA A B with
  |.inr ps=>some (A,B,ps)
  |.inl (M,N,F,G)=>match yd A M F,yd B N G with
   |some j,some k=>meet f j k
   |_,_=>none
def jF(n0:Nat)(t:Ty)(x y:X)(h:List Ty):X×List Ty:=bif X.beq x y&&Nat.ble x.j9 n0 then(x,h)else(.hole h.length,h++[t])
def qW(j k:Nat)(ps:jP):Option Nat:=ps.findIdx? λq=>Nat.beq q.1 j&&Nat.beq q.2 k
mutual
def yV (n0:Nat) (ps:jP):TX->TX->List Ty->TX×List Ty
 |.d t x,.d u y,h=>if t=u then(.d t (jF n0 t x y h).1,(jF n0 t x y h).2)else(.undef,h)
 |.bu s,.bu s',h=>bif Nat.beq s s' then(.bu s,h)else(.undef,h)
 |.dV,.dV,h=>(.dV,h)
 |.ptr i o,.ptr j o',h=>match qW i j ps with|some k=>(bif Nat.beq o o' then .ptr k o else .undef,h)|none=>(.undef,h)
 |.br t e o,.br t' B o',h=>if t=t' then(bif Nat.beq o o' then(.br t (jF n0 t e B h).1 o,(jF n0 t e B h).2)else(.undef,h))else(.undef,h)
 |.row i,.row j,h=>match qW i j ps with|some k=>(.row k,h)|none=>(.undef,h)
 |.bj i k o,.bj j F o',h=>match qW i j ps with|some q=>(bif Nat.beq o o' then(.bj q (jF n0 (.int .i64) k F h).1 o,(jF n0 (.int .i64) k F h).2)else(.undef,h))|none=>(.undef,h)
 |.map i,.map j,h=>match qW i j ps with|some k=>(.map k,h)|none=>(.undef,h)
 |.aW i,.aW j,h=>match qW i j ps with|some k=>(.aW k,h)|none=>(.undef,h)
 |.cw i n,.cw j m,h=>match qW i j ps with|some k=>(bif Nat.beq n m then .cw k n else .undef,h)|none=>(.undef,h)
 |.bB i t x,.bB j u y,h=>match qW i j ps with|some k=>(if t=u then(.bB k t (jF n0 (.list t) x y h).1,(jF n0 (.list t) x y h).2)else(.undef,h))|none=>(.undef,h)
 |.agg a,.agg b,h=>(.agg (mV n0 ps a b h).1,(mV n0 ps a b h).2)
 |.aJ a,.aJ b,h=>(.aJ (mV n0 ps a b h).1,(mV n0 ps a b h).2)
 |.aB f a,.aB g b,h=>bif Nat.beq f g then(.aB f (mV n0 ps a b h).1,(mV n0 ps a b h).2)else(.undef,h)
 |_,_,h=>(.undef,h)
def mV (n0:Nat) (ps:jP):List TX->List TX->List Ty->List TX×List Ty
 |a::r,b::s,h=>((yV n0 ps a b h).1::(mV n0 ps r s (yV n0 ps a b h).2).1,(mV n0 ps r s (yV n0 ps a b h).2).2)
 |_,_,h=>([],h)
end
def KN(n0:Nat)(ps:jP)(B:Sk):List (Nat×TX)->List Ty->List (Nat×TX)×List Ty
 | [],h=>([],h)
 | (j,a)::r,h=>let m:=yV n0 ps a (aV B.t j) h
  let q:=KN n0 ps B r m.2
  (bif vw m.1 then q.1 else(j,m.1)::q.1,q.2)
def VU(n0:Nat)(ps:jP):AX->AX->List Ty->AX×List Ty
 |.var t a,.var _ b,h=>(.var t (mV n0 ps a b h).1,(mV n0 ps a b h).2)
 |.row f e t x,.row _ _ _ y,h=>(.row f e t (jF n0 (.list t) x y h).1,(jF n0 (.list t) x y h).2)
 |.map f k v x,.map _ _ _ y,h=>(.map f k v (jF n0 (.map k v) x y h).1,(jF n0 (.map k v) x y h).2)
 |.bn e k t x,.bn _ _ _ y,h=>(.bn e k t (jF n0 (.map (.int k) (.list t)) x y h).1,(jF n0 (.map (.int k) (.list t)) x y h).2)
 |.dj j b r,.dj _ _ _,h=>(.dj j b r,h)
 |.lp j b r s,.lp _ _ _ _,h=>(.lp j b r s,h)
 |_,_,h=>(.dead,h)
def KM(n0:Nat)(ps:jP)(A B:Sk):jP->List Ty->List AX×List Ty
 | [],h=>([],h)
 | (i,j)::r,h=>let m:=VU n0 ps ((A.l[i]?).getD .dead) ((B.l[j]?).getD .dead) h
  let q:=KM n0 ps A B r m.2
  (m.1::q.1,q.2)
def yU(n0:Nat)(A B:Sk):Option (Sk×List Ty):=match meet 40 A B with
 |some (A,B,ps)=>
  let s:=KN n0 ps B A.t []
  let q:=KM n0 ps A B ps s.2
  some (⟨n0,s.1,q.1⟩,q.2)
 |none=>none
def qG(x y:X)(j:List (Nat×X)):List (Nat×X):=match x with
 |.hole p=>j++[(p,y)]
 |_=>j
mutual
def Jh:TX->TX->List (Nat×X)->List (Nat×X)
 |.d _ x,.d _ y,c=>qG x y c
 |.br _ x _,.br _ y _,c=>qG x y c
 |.bj _ x _,.bj _ y _,c=>qG x y c
 |.bB _ _ x,.bB _ _ y,c=>qG x y c
 |.agg a,.agg b,c=>ve a b c
 |.aJ a,.aJ b,c=>ve a b c
 |.aB _ a,.aB _ b,c=>ve a b c
 |_,_,c=>c
def ve:List TX->List TX->List (Nat×X)->List (Nat×X)
 |a::r,b::s,c=>ve r s (Jh a b c)
 |_,_,c=>c
end
def TT:AX->AX->List (Nat×X)->List (Nat×X)
 |.var _ a,.var _ b,c=>ve a b c
 |.row _ _ _ x,.row _ _ _ y,c=>qG x y c
 |.map _ _ _ x,.map _ _ _ y,c=>qG x y c
 |.bn _ _ _ x,.bn _ _ _ y,c=>qG x y c
 |_,_,c=>c
def Jg(j σ:Sk):List (Nat×X):=
 let c:=(j.t.zip σ.t).foldl (λc p=>Jh p.1.2 p.2.2 c) []
 (j.l.zip σ.l).foldl (λc p=>TT p.1 p.2 c) c
def qT:List (Nat×X)->Nat->X
 | [],_=>.unit
 | (j,x)::r,p=>bif Nat.beq j p then x else qT r p
def Eg:List (Nat×TX)->Nat->Nat
 | [],m=>m
 | (j,_)::r,m=>Eg r (jn m j)
def lT:List Nat->Bool
 | []=>true
 |x::xs=>!(xs.any λy=>Nat.beq x y)&&lT xs
def qL(ids:List Nat)(l:List AX):Bool:=ids.all λid=>match l[id]? with
 |some .ey=>false
 |some a=>match Db a with
  |some (b,rs)=>Nat.ble b ids.length&&rs.all λr=>Nat.blt r b&&(match ids[r]? with|some i=>Nat.beq i r|none=>false)
  |none=>true
 |none=>true
def X.cA(n h:Nat):X->Bool
 |.var i=>Nat.blt i n
 |.hole p=>Nat.blt p h
 |.pair a b=>a.cA n h&&b.cA n h
 |.aB _ x=>x.cA n h
 |.box x=>x.cA n h
 |.proj _ _ x=>x.cA n h
 |.mk _ x=>x.cA n h
 |.u1 _ x=>x.cA n h
 |.u2 _ x y=>x.cA n h&&y.cA n h
 |.u3 _ x y z=>x.cA n h&&y.cA n h&&z.cA n h
 |_=>true
mutual
def TX.cA (n h:Nat):TX->Bool
 |.d _ x=>x.cA n h
 |.br _ e _=>e.cA n h
 |.bj _ k _=>k.cA n h
 |.bB _ _ x=>x.cA n h
 |.sub _ _ _=>false
 |.agg cs=>TX.rk n h cs
 |.aJ cs=>TX.rk n h cs
 |.aB _ cs=>TX.rk n h cs
 |_=>true
def TX.rk (n h:Nat):List TX->Bool
 | []=>true
 |t::ts=>t.cA n h&&TX.rk n h ts
end
def AX.cA(n h:Nat):AX->Bool
 |.var _ cs=>TX.rk n h cs
 |.row _ _ _ x=>x.cA n h
 |.map _ _ _ x=>x.cA n h
 |.bn _ _ _ x=>x.cA n h
 |.fc _ _ _ x y=>x.cA n h&&y.cA n h
 |_=>true
def Sk.cA(n h:Nat)(σ:Sk):Bool:=σ.t.all (λp=>p.2.cA n h)&&σ.l.all (AX.cA n h)
def instS(j:Sk)(k:Nat)(σ:Sk):Option (List X):=
 match meet 40 j (σ.cu (Eg j.t 0))with
 |some (_,B,ps)=>
  let ids:=ps.map (·.2)
  let bC:=B.re ids
  let vs:=Jg j bC
  let xs:=(List.range k).map (qT vs)
  let F:=j.fill (qT vs) σ.n
  bif rY F.t bC.t&&lF F.l bC.l&&lT ids&&qL ids B.l then some xs else none
 |none=>none
def leaves(e:Ex):Tr->List Sk
 |.leaf j σ=>if e=j then [σ]else []
 |.out _ _=>[]
 |.bJ _ t=>leaves e t
 |.get _ _ _ t=>leaves e t
 |.call _ _ _ t=>leaves e t
 |.fx _ a b=>leaves e a++leaves e b
 |.gg _ a b=>leaves e a++leaves e b
 |.join _ _ a b=>leaves e a++leaves e b
 |.loop _ _ _ b=>leaves e b
 |.bad _=>[]
def resolve(e:Ex)(j:Sk)(B:Nat):Nat->Tr->Tr
 |k,.leaf F σ=>if e=F then(match instS j B σ with|some xs=>.out k (fp xs)|none=>.bad 1)else .leaf F σ
 |_,.out k x=>.out k x
 |k,.bJ x t=>.bJ x (resolve e j B k t)
 |k,.get v xs i t=>.get v xs i (resolve e j B k t)
 |k,.call v c x t=>.call v c x (resolve e j B k t)
 |k,.fx c a b=>.fx c (resolve e j B k a) (resolve e j B k b)
 |k,.gg c a b=>.gg c (resolve e j B k a) (resolve e j B k b)
 |k,.join ty v a b=>.join ty v (resolve e j B (k+1) a) (resolve e j B k b)
 |k,.loop ty v i b=>.loop ty v i (resolve e j B (k+1) b)
 |_,.bad w=>.bad w
def eo(f:Ex->Sk->Tr):Tr->Tr
 |.leaf e σ=>f e σ
 |.out k x=>.out k x
 |.bJ x t=>.bJ x (eo f t)
 |.get v xs i t=>.get v xs i (eo f t)
 |.call v c x t=>.call v c x (eo f t)
 |.fx c a b=>.fx c (eo f a) (eo f b)
 |.gg c a b=>.gg c (eo f a) (eo f b)
 |.join ty v a b=>.join ty v (eo f a) (eo f b)
 |.loop ty v i b=>.loop ty v i (eo f b)
 |.bad w=>.bad w
def kP:Tr->Bool
 |.leaf _ _=>false
 |.out _ _=>false
 |.bJ _ t=>kP t
 |.get _ _ _ t=>kP t
 |.call _ _ _ t=>kP t
 |.fx _ a b=>kP a||kP b
 |.gg _ a b=>kP a||kP b
 |.join _ _ _ b=>kP b
 |.loop _ _ _ _=>true
 |.bad _=>false
def po:Tr->Bool
 |.bJ _ t=>po t
 |.get _ _ _ t=>po t
 |.call _ _ _ t=>po t
 |.fx _ a b=>po a||po b
 |.gg _ _ _=>true
 |.join _ _ _ b=>po b
 |_=>false
def sK(v n p:Nat):X:=ri n p (.var v)
def Ej(n0:Nat):Sk->List Sk->Option (Sk×List Ty)
 |A,[]=>yU n0 A A
 |A,[B]=>yU n0 A B
 |A,B::r=>match yU n0 A B with
  |some (M,_)=>Ej n0 M r
  |none=>none
def MC(ls:List Sk):Bool:=ls.any λσ=>σ.t.any λp=>(match p.2 with |.bu _=>true|_=>false)&&ls.any λj=>match aV j.t p.1 with |.row _=>true|_=>false
def uo(j n0:Nat)(T:Tr)(f:Sk->Tr):Tr:=
 match leaves .normal T with
 | []=>T
 | [_]=>bif kP T then yL else eo (λe σ=>match e with |.normal=>f σ|e=>.leaf e σ) T
 |_=>bif kP T || !po T||MC (leaves .normal T)then yL else eo (λe σ=>match e with |.normal=>f σ|e=>.leaf e σ) T
where yL:Tr:=match leaves .normal T with
 | []=>T
 |σ::r=>match Ej n0 (σ.cu j) (r.map (Sk.cu j))with
  |some (M,ts)=>bif M.cA n0 ts.length then .join (aT ts) n0 (resolve .normal M ts.length 0 T) (f (M.fill (sK n0 ts.length) (n0+1)))else .bad 13
  |none=>.bad 2
def pq(t:Tr):Nat->List Ins->Tr
 |_,[]=>t
 |n,.bJ x::r=>.bJ x (pq t n r)
 |n,.get xs k::r=>.get n xs k (pq t (n+1) r)
 |n,.call c x::r=>.call n c x (pq t (n+1) r)
def jX(n:Nat):List Ins->Nat
 | []=>n
 |.bJ _::r=>jX n r
 |_::r=>jX (n+1) r
def gZ(t:List (Nat×TX))(j:Option Nat)(x:TX):List (Nat×TX):=match j with|some d=>(d,x)::t|none=>t
def sr(σ:Sk)(j:Option Nat)(r:dA):Sk:=⟨jX σ.n r.ins,gZ σ.t j r.t,match r.bq with |.none=>σ.l |.new a=>σ.l++[a] |.aK l'=>l'⟩
inductive Gd where
 |yes
 |no
 |ask (x:X) (b:Bool)
 |bad
def mH(ops:List Oper)(σ:Sk):Option (Nat×Bool)->Gd
 |none=>.yes
 |some (j,b)=>match (ops[j]?).bind (·.dst)with
  |some d=>match aV σ.t d with
   |.d .bool (.bool c)=>bif c == b then .yes else .no
   |.d .bool x=>.ask x b
   |.gone=>.no
   |_=>.bad
  |none=>.bad
def nH(x:X)(b:Bool):List (Nat×TX)->List (Nat×TX)
 | []=>[]
 | (j,.d .bool y)::r=>(j,.d .bool (bif X.beq x y then .bool b else y))::nH x b r
 |p::r=>p::nH x b r
def Sk.decide(x:X)(b:Bool)(σ:Sk):Sk:={σ with t:=nH x b σ.t}
def Uv(ops:List Oper)(m:Nat)(o:Oper):Nat:=match o.guard with
 |some (j,_)=>(match (ops[j]?).bind (·.dst)with|some d=>jn m d|none=>m)
 |none=>m
def Kw(j:Nat)(ops r:List Oper):Nat:=r.foldl (Uv ops) (WJ j r)
abbrev xv:=Oper->Nat->Sk->Option ((TX->Sk->Tr)->Tr)
def l7(C:Cx)(H:xv)(j:Nat)(ops:List Oper):List Oper->Sk->Tr
 | [],σ=>.leaf .normal σ
 |o::r,σ=>
  let k:=λ(σ:Sk)=>bif !du C.nt o.dst then .bad 15 else match pd C ops (gE σ.t) σ.l σ.n σ.l.length o with
   |some q=>pq (l7 C H j ops r (sr σ o.dst q)) σ.n q.ins
   |none=>match H o (Kw j ops r) σ with
    |some F=>F λx B=>l7 C H j ops r ⟨B.n,gZ B.t o.dst x,B.l⟩
    |none=>.bad (30000+o.dst.getD 9999)
  let skip:=λ(σ:Sk)=>bif !du C.nt o.dst then .bad 16 else l7 C H j ops r {σ with t:=gZ σ.t o.dst .gone}
  match mH ops σ o.guard with
  |.yes=>k σ
  |.no=>skip σ
  |.ask x b=>.fx x (bif b then k (σ.decide x true)else skip (σ.decide x true)) (bif b then skip (σ.decide x false)else k (σ.decide x false))
  |.bad=>.bad 4
def vI(F n0:Nat)(B:Sk->Tr):Nat->Sk->Sk->Tr
 |0,_,_=>.bad 5
 |f+1,σ,A=>
  match yU n0 A A with
  |some (k,j)=>
   let T:=B (k.fill (sK n0 j.length) (n0+1))
   match Ej n0 A ((leaves .normal T).map (Sk.cu F))with
   |some (M,ts)=>match instS k j.length σ with
    |some xs=>match (leaves .normal T).all λG=>(instS k j.length G).isSome with
     |true=>bif k.cA n0 j.length then .loop (aT j) n0 (fp xs) (resolve .normal k j.length 0 T)else .bad 14
     |false=>vI F n0 B f σ M
    |none=>vI F n0 B f σ M
   |none=>.bad 6
  |none=>.bad 7
def qh:List Ty->Type
 | []=>Empty
 | [t]=>t.den
 |t::u::r=>t.den⊕qh (u::r)
def jW:(j:List Ty)->Nat->V->Option (qh j)
 | [],_,_=>none
 | [t],0,v=>c6 t v
 | [_],_+1,_=>none
 |t::_::_,0,v=>match c6 t v with
  |some x=>some (.inl x)
  |none=>none
 |_::u::r,k+1,v=>match jW (u::r) k v with
  |some y=>some (.inr y)
  |none=>none
def iP:Nat->Tr->Bool
 |_,.leaf _ _=>false
 |k,.out j _=>Nat.blt k j
 |k,.bJ _ t=>iP k t
 |k,.get _ _ _ t=>iP k t
 |k,.call _ _ _ t=>iP k t
 |k,.fx _ a b=>iP k a||iP k b
 |k,.gg _ a b=>iP k a||iP k b
 |k,.join _ _ a b=>iP (k+1) a||iP k b
 |k,.loop _ _ _ b=>iP (k+1) b
 |_,.bad _=>false
structure Callee where
 f:FuncId
 args:List Ty
 res:List Ty
 fn:(aT args).den->Option (aT res).den
def ae{β:Type}(p:Bool)(o:Option β):Option β:=match p with|true=>o|false=>none
def UW(t:Ty):(j:List Ty)->Option (qh (t::j))->(t.den->Option (qh j))->Option (qh j)
 | [],o,f=>aa o f
 |_::_,o,f=>aa o λx=>match x with
  |.inl z=>f z
  |.inr y=>some y
def aQ{α β:Type}(o:Option (α⊕β))(f:α->Option β):Option β:=aa o λx=>match x with
 |.inl z=>f z
 |.inr y=>some y
noncomputable def oi{β:Type}(e:Bool)(a b:Option β):Option β:=open Classical in match e with|true=>if a=b then b else none|false=>b
noncomputable def Tr.den(cs:List Callee):(sig:List Ty)->Tr->aN->Option (qh sig)
 |_,.leaf _ _,_=>none
 |sig,.out k x,ρ=>match x.den ρ with
  |some v=>jW sig k v
  |none=>none
 |sig,.bJ x t,ρ=>match x.den ρ with
  |some ⟨.bool,b⟩=>ae b (Tr.den cs sig t ρ)
  |_=>none
 |sig,.get v xs k t,ρ=>match xs.den ρ,k.den ρ with
  |some ⟨.list j,l⟩,some ⟨.int _,i⟩=>aa (au (α:=j.den) l i) λe=>Tr.den cs sig t ((v,⟨j,e⟩)::ρ)
  |_,_=>none
 |sig,.call v c x t,ρ=>match cs[c]? with
  |some C=>match x.den ρ with
   |some u=>match c6 (aT C.args) u with
    |some a=>aa (C.fn a) λr=>Tr.den cs sig t ((v,⟨aT C.res,r⟩)::ρ)
    |none=>none
   |none=>none
  |none=>none
 |sig,.fx c a b,ρ=>match c.den ρ with
  |some ⟨.bool,b0⟩=>ab b0 (Tr.den cs sig a ρ) (Tr.den cs sig b ρ)
  |_=>none
 |sig,.gg c a b,ρ=>match c.den ρ with
  |some ⟨.list _,xs⟩=>oi (List.isEmpty xs) (Tr.den cs sig a ρ) (Tr.den cs sig b ρ)
  |_=>none
 |sig,.join ty v a b,ρ=>bif iP 0 a then UW ty sig (Tr.den cs (ty::sig) a ρ) λz=>Tr.den cs sig b ((v,⟨ty,z⟩)::ρ)
  else aa (Tr.den cs [ty] a ρ) λz=>Tr.den cs sig b ((v,⟨ty,z⟩)::ρ)
 |sig,.loop ty v init body,ρ=>match sig with
  | []=>none
  |s::r=>match init.den ρ with
   |some u=>match c6 ty u with
    |some B=>ay (λz=>Tr.den cs (ty::s::r) body ((v,⟨ty,z⟩)::ρ)) B
    |none=>none
   |none=>none
 |_,.bad _,_=>none
def nM:(ts:List Ty)->(aT ts).den->Nat->aN
 | [],_,_=>[]
 | [t],x,k=>[(k,⟨t,x⟩)]
 |t::u::ts,x,k=>(k,⟨t,x.1⟩)::nM (u::ts) x.2 (k+1)
noncomputable def sP(cs:List Callee)(T:Tr)(j k:List Ty)(a:(aT j).den):Option (aT k).den:=Tr.den cs [aT k] T (nM j a 0)
end Go.Sy
namespace Go.Sy
open Go Go.ag
inductive F2{α β:Type}(R:α->β->Prop):List α->List β->Prop
 |nil:F2 R [] []
 |cons {a b as bs}:R a b->F2 R as bs->F2 R (a::as) (b::bs)
section
variable {α β:Type}{R S:α->β->Prop}
theorem F2.mono(h:∀a b,R a b->S a b){as:List α}{j:List β}(k:F2 R as j):F2 S as j:=by
 induction k with
 |nil=>exact .nil
 |cons B _ F=>exact .cons (h _ _ B) F
def F2.len{as:List α}{j:List β}(k:F2 R as j):as.length=j.length:=by
 induction k with
 |nil=>rfl
 |cons _ _ B=>simp[B]
def F2.app{as cs:List α}{j ds:List β}(h:F2 R as j)(k:F2 R cs ds):F2 R (as++cs) (j++ds):=by
 induction h with
 |nil=>exact k
 |cons B _ F=>exact .cons B F
def F2.take{as:List α}{j:List β}(h:F2 R as j):∀n,F2 R (as.take n) (j.take n):=by
 induction h with
 |nil=>intro n;simp;exact .nil
 |cons k _ B=>intro n;cases n with
  |zero=>exact .nil
  |succ n=>exact .cons k (B n)
def F2.drop{as:List α}{j:List β}(h:F2 R as j):∀n,F2 R (as.drop n) (j.drop n):=by
 induction h with
 |nil=>intro n;simp;exact .nil
 |cons k B F=>intro n;cases n with
  |zero=>exact .cons k B
  |succ n=>exact F n
theorem F2.get{as:List α}{B:List β}(h:F2 R as B):∀{i:Nat}{a b},as[i]?=some a->B[i]?=some b->R a b:=by
 induction h with
 |nil=>intro i a b j;simp at j
 |cons F _ G=>intro i a b j k;cases i with
  |zero=>simp at j k;subst j;subst k;exact F
  |succ i=>simp at j k;exact G j k
def F2.left{as:List α}{j:List β}(h:F2 R as j){i:Nat}{a}(k:as[i]?=some a):∃b,j[i]?=some b/\R a b:=by
 have hi:=(da.1 k).1
 have B:j[i]?=some (j[i]'(by rw[<-h.len];exact hi)):=c4 _
 exact⟨_,B,h.get k B⟩
def F2.right{as:List α}{j:List β}(h:F2 R as j){i:Nat}{b}(B:j[i]?=some b):∃a,as[i]?=some a/\R a b:=by
 have hi:=(da.1 B).1
 have k:as[i]?=some (as[i]'(by rw[h.len];exact hi)):=c4 _
 exact⟨_,k,h.get k B⟩
theorem F2.none{as:List α}{j:List β}(h:F2 R as j){i:Nat}(k:as[i]?=none):j[i]?=none:=by
 rw[List.getElem?_eq_none_iff]at k⊢;rw[<-h.len];exact k
theorem F2.set{as:List α}{j:List β}(h:F2 R as j){a b}(F:R a b):∀i,F2 R (as.set i a) (j.set i b):=by
 induction h with
 |nil=>intro i;simp;exact .nil
 |cons k B G=>intro i;cases i with
  |zero=>exact .cons F B
  |succ i=>exact .cons k (G i)
theorem F2.map{k:Type}{f:k->α}{as:List k}{j:List β}(h:F2 (λc b=>R (f c) b) as j):F2 R (as.map f) j:=by
 induction h with
 |nil=>exact .nil
 |cons B _ F=>exact .cons B F
theorem F2.of{as:List α}{j:List β}(k:as.length=j.length)(h:∀(i:Nat) a b,as[i]?=some a->j[i]?=some b->R a b):F2 R as j:=by
 induction as generalizing j with
 |nil=>cases j with
  |nil=>exact .nil
  |cons _ _=>simp at k
 |cons a as G=>cases j with
  |nil=>simp at k
  |cons b j=>exact .cons (h 0 a b rfl rfl) (G (by simpa using k) λi x y B F=>h (i+1) x y B F)
end
def X.beq_eq:∀{x y:X},X.beq x y=true->x=y:=by
 intro x
 induction x<;>intro y h<;>cases y<;>simp[X.beq]at h<;>simp_all<;>grind
def Ext[bQ](ρ ρ':aN):Prop:=∀i v,lk ρ i=some v->lk ρ' i=some v
theorem Ext.refl[bQ](ρ:aN):Ext ρ ρ:=λ_ _ h=>h
theorem Ext.trans[bQ]{a b c:aN}(h:Ext a b)(k:Ext b c):Ext a c:=λi v x=>k i v (h i v x)
def dY[bQ](n:Nat)(ρ:aN):Prop:=∀p∈ρ,p.1<n
def DZ[bQ]{n:Nat}:∀{ρ:aN}{i:Nat}{v:V},dY n ρ->lk ρ i=some v->i<n
 | (j,w)::r,i,v,k,h=>by
  simp only[lk]at h
  cases B:Nat.beq j i with
  |true=>
   have:=et B
   subst this
   exact k (j,w) (by simp)
  |false=>
   rw[B]at h
   exact DZ (λp F=>k p (by simp[F])) h
def Ext.push[bQ]{n:Nat}{ρ:aN}(j:dY n ρ)(v:V):Ext ρ ((n,v)::ρ):=λi u h=>by
 have:=DZ j h
 have k:Nat.beq n i=false:=by
  cases e:Nat.beq n i with
  |false=>rfl
  |true=>have:=et e;omega
 simp only[lk,k,cond_false]
 exact h
def dY.push[bQ]{n m:Nat}{ρ:aN}(j:dY n ρ)(h:n<m)(v:V):dY m ((n,v)::ρ):=λp hp=>by
 rcases fb.1 hp with rfl|hp
 ·exact h
 have:=j p hp;omega
def jE[bQ](n:Nat)(v:V)(ρ:aN):lk ((n,v)::ρ) n=some v:=by
 have:Nat.beq n n=true:=ik n
 simp[lk,this]
def oY[bQ]{t:Ty}{v:V}{a:t.den}(h:c6 t v=some a):v=⟨t,a⟩:=by
 obtain⟨u,b⟩:=v
 unfold c6 at h
 split at h
 ·rename_i j
  cases j
  simp at h
  rw[h]
 cases h
def fH[bQ](t:Ty)(a:t.den):c6 t ⟨t,a⟩=some a:=by simp[c6]
variable [aD]
def X.eF{ρ ρ':aN}(h:Ext ρ ρ'):∀{x:X}{v:V},x.den ρ=some v->x.den ρ'=some v:=by
 intro x
 induction x with
 |var i=>intro v k;exact h i v k
 |pair a b Z aa=>
  intro v k;simp only[X.den]at k⊢
  cases O:a.den ρ<;>cases U:b.den ρ<;>simp[O,U]at k
  rw[Z O,aa U];simp[k]
 |aB f x G|box x G|proj i j x G|mk i x G|u1 o x G=>
  intro v k;simp only[X.den]at k⊢
  cases B:x.den ρ<;>simp[B]at k
  rw[G B];simpa using k
 |u2 o x y M N=>
  intro v k;simp only[X.den]at k⊢
  cases B:x.den ρ<;>cases F:y.den ρ<;>simp[B,F]at k
  rw[M B,N F];simpa using k
 |u3 o x y z M N ab=>
  intro v k;simp only[X.den]at k⊢
  cases B:x.den ρ<;>cases F:y.den ρ<;>cases Y:z.den ρ<;>simp[B,F,Y]at k
  rw[M B,N F,ab Y];simpa using k
 |_=>intro v k;exact k
def cellsOf:(ts:List Ty)->(aT ts).den->List D
 | [],_=>[]
 | [t],x=>(t.enc x).cells
 |t::u::ts,x=>(t.enc x.1).cells++cellsOf (u::ts) x.2
class cz:Prop where
 cells:∀i a,aD.cells i a=cellsOf (aD.bU i) (aD.un i a)
 len:∀i a,(aD.cells i a).length=aD.sz i
 zg:∀i a,∀x∈aD.cells i a,x.one=true
def kJ{t:Ty}(h:cd t=false)(j:∀a b,t ≠ .aJ a b)(k:t ≠ .unit)(v:t.den):(t.enc v).cells=[t.enc v]/\(t.enc v).one=true:=by
 cases t<;>simp_all [cd,Ty.enc,Ty.eL,D.cells,D.one]
def isVal(t:Ty):Prop:=(∀a b,t ≠ .aJ a b)/\t ≠ .unit
def RC(ρ:aN)(p:Ty×X)(d:D):Prop:=isVal p.1/\∃v:p.1.den,p.2.den ρ=some ⟨p.1,v⟩/\d=p.1.enc v
theorem N6{x y:X}{r:List X}:fp (x::y::r) = .pair x (fp (y::r)):=rfl
theorem qa{ρ:aN}:∀{ts:List Ty}{xs:List X}{a:(aT ts).den},xs.length=ts.length->(∀j t,ts[j]?=some t->∃x,xs[j]?=some x/\x.den ρ=cI ts a j)->(fp xs).den ρ=some ⟨aT ts,a⟩
 | [],[],a,_,_=>by cases a;rfl
 | [t],[x],a,_,h=>by
  obtain⟨y,G,B⟩:=h 0 t rfl
  simp at G;subst G
  exact B
 |t::u::ts,x::y::xs,a,k,h=>by
  obtain⟨Y,F,B⟩:=h 0 t rfl
  simp at F;subst F
  have U:=qa (ts:=u::ts) (xs:=y::xs) (a:=a.2) (by simpa using k) (λj v M=>by
   obtain⟨z,N,O⟩:=h (j+1) v (by simpa using M)
   exact⟨z,by simpa using N,by simpa [cI]using O⟩)
  rw[N6]
  simp only[X.den,B,cI,U]
  rfl
 | [],_::_,_,k,_=>by simp at k
 |_::_,[],_,k,_=>by simp at k
 | [_],_::_::_,_,k,_=>by simp at k
 |_::_::_,[_],_,k,_=>by simp at k
theorem Lg:∀{ts:List Ty}{j:Nat}{t:Ty}(a:(aT ts).den),ts[j]?=some t->∃v:t.den,cI ts a j=some ⟨t,v⟩
 | [],j,t,a,h=>by simp at h
 | [u],0,t,a,h=>by simp at h;subst h;exact⟨a,rfl⟩
 | [u],j+1,t,a,h=>by simp at h
 |u::w::ts,0,t,a,h=>by simp at h;subst h;exact⟨a.1,rfl⟩
 |u::w::ts,j+1,t,a,h=>by
  obtain⟨v,k⟩:=Lg (ts:=w::ts) a.2 (by simpa using h)
  exact⟨v,k⟩
theorem JK{ρ:aN}{t u:Ty}{p:t.den×u.den}{x:X}(h:x.den ρ=some ⟨.aJ t u,p⟩):(sR x).den ρ=some ⟨t,p.1⟩:=by
 have key:∀y:X,y.den ρ=some ⟨.aJ t u,p⟩->(X.u1 .fst y).den ρ=some ⟨t,p.1⟩:=λy F=>by simp only[X.den,F];rfl
 by_cases B:∃a b,x = .pair a b
 ·obtain⟨a,b,rfl⟩:=B
  simp only[X.den]at h
  cases j:X.den ρ a<;>cases k:X.den ρ b<;>simp[j,k]at h
  rename_i v w
  obtain⟨G,M⟩:=v;obtain⟨N,O⟩:=w
  cases h
  simp[sR,j,k]
 have:sR x = .u1 .fst x:=by
  unfold sR;split
  ·exact absurd ⟨_,_,rfl⟩ B
  rfl
 rw[this];exact key x h
theorem Ni{ρ:aN}{t u:Ty}{p:t.den×u.den}{x:X}(h:x.den ρ=some ⟨.aJ t u,p⟩):(uv x).den ρ=some ⟨u,p.2⟩:=by
 have key:∀y:X,y.den ρ=some ⟨.aJ t u,p⟩->(X.u1 .snd y).den ρ=some ⟨u,p.2⟩:=λy F=>by simp only[X.den,F];rfl
 by_cases B:∃a b,x = .pair a b
 ·obtain⟨a,b,rfl⟩:=B
  simp only[X.den]at h
  cases j:X.den ρ a<;>cases k:X.den ρ b<;>simp[j,k]at h
  rename_i v w
  obtain⟨G,M⟩:=v;obtain⟨N,O⟩:=w
  cases h
  simp[uv,j,k]
 have:uv x = .u1 .snd x:=by
  unfold uv;split
  ·exact absurd ⟨_,_,rfl⟩ B
  rfl
 rw[this];exact key x h
theorem y9{ρ:aN}:∀{ts:List Ty}{x:X}{a:(aT ts).den}(j:Nat),x.den ρ=some ⟨aT ts,a⟩->j<ts.length->(ri ts.length j x).den ρ=cI ts a j
 | [t],x,a,0,h,_=>h
 | [t],_,_,j+1,_,k=>by simp at k
 |t::u::ts,x,a,0,h,_=>JK (t:=t) (u:=aT (u::ts)) (p:=a) h
 |t::u::ts,x,a,j+1,h,k=>y9 (ts:=u::ts) j (Ni (t:=t) (u:=aT (u::ts)) (p:=a) h) (by simpa using k)
end Go.Sy
namespace Go.Sy
open Go Go.ag
variable [aD]
def LX{ρ:aN}{i j:Nat}{x:X}{a:bQ.cp i}(h:x.den ρ=some ⟨.st i,a⟩):(X.proj i j x).den ρ=cI (aD.bU i) (aD.un i a) j:=by
 simp only[X.den,h,fH (.st i) a]
def VZ{ρ:aN}{i k:Nat}{y:X}{a:bQ.cp i}(h:(X.mk k y).den ρ=some ⟨.st i,a⟩):k=i/\y.den ρ=some ⟨aT (aD.bU i),aD.un i a⟩:=by
 simp only[X.den]at h
 cases B:y.den ρ with
 |none=>simp[B]at h
 |some v=>
  simp only[B]at h
  cases j:c6 (aT (aD.bU k)) v with
  |none=>simp[j]at h
  |some b=>
   simp only[j]at h
   have F:=oY j
   injection h with h
   cases h
   refine⟨rfl,?_⟩
   rw[F,aD.oJ]
def KQ{ρ:aN}{i:Nat}{y:X}{a:(aT (aD.bU i)).den}(h:y.den ρ=some ⟨aT (aD.bU i),a⟩):(X.mk i y).den ρ=some ⟨.st i,aD.ew i a⟩:=by
 simp only[X.den,h,fH]
def Xl{ρ:aN}{i j:Nat}{x:X}{a:bQ.cp i}(h:x.den ρ=some ⟨.st i,a⟩)(F:j<(aD.bU i).length):(uf i j x).den ρ=cI (aD.bU i) (aD.un i a) j:=by
 by_cases k:∃B y,x = .mk B y
 ·obtain⟨B,y,rfl⟩:=k
  obtain⟨rfl,G⟩:=VZ h
  simp only[uf,ik,cond_true]
  exact y9 j G F
 have:uf i j x = .proj i j x:=by
  unfold uf;split
  ·exact absurd ⟨_,_,rfl⟩ k
  rfl
 rw[this];exact LX h
def Hj{i:Nat}{x:X}:∀{xs:List X}{j k:Nat}{y:X},qo i x j xs=true->xs[k]?=some y->y = .proj i (j+k) x
 | [],j,k,y,_,h=>by simp at h
 |z::r,j,k,y,h,hk=>by
  have aa:∃B F w,z = .proj B F w:=by
   cases z<;>simp[qo]at h
   exact⟨_,_,_,rfl⟩
  obtain⟨B,F,w,rfl⟩:=aa
  simp only[qo,dd]at h
  obtain⟨⟨⟨O,U⟩,Y⟩,Z⟩:=h
  have G:=et O;have M:=et U;have N:=X.beq_eq Y
  subst G;subst M;subst N
  cases k with
  |zero=>simp at hk;exact hk.symm
  |succ k=>simp at hk;rw[Hj Z hk];congr 1;omega
def jI(ρ:aN)(ts:List Ty)(xs:List X)(a:(aT ts).den):Prop:=xs.length=ts.length/\∀j t,ts[j]?=some t->∃x,xs[j]?=some x/\x.den ρ=cI ts a j
theorem N8:∀{ts:List Ty}{a b:(aT ts).den},(∀j,j<ts.length->cI ts a j=cI ts b j)->a=b
 | [],a,b,_=>by cases a;cases b;rfl
 | [t],a,b,h=>by
  have:=h 0 (by simp)
  simp only[cI]at this
  injection this with this
  cases this
  rfl
 |t::u::ts,a,b,h=>by
  have k:=h 0 (by simp)
  simp only[cI]at k
  have k:a.1=b.1:=by
   injection k with k
   injection k
  have:=N8 (ts:=u::ts) (a:=a.2) (b:=b.2) (λj B=>by simpa [cI]using h (j+1) (by simpa using B))
  exact Prod.ext k this
def yj{ρ:aN}{i:Nat}{xs:List X}{a:(aT (aD.bU i)).den}(h:jI ρ (aD.bU i) xs a):(o9 i xs).den ρ=some ⟨.st i,aD.ew i a⟩:=by
 have af:(X.mk i (fp xs)).den ρ=some ⟨.st i,aD.ew i a⟩:=KQ (qa h.1 h.2)
 by_cases U:∃B x r,xs = .proj B 0 x::r/\(Nat.beq i B&&qo i x 1 r&&Nat.beq (r.length+1) (aD.bU i).length)=true
 ·obtain⟨B,x,r,rfl,k⟩:=U
  have e:o9 i (.proj B 0 x::r)=x:=by simp only[o9,k,cond_true]
  rw[e]
  simp only[dd]at k
  obtain⟨⟨aa,ab⟩,ad⟩:=k
  have Z:=et aa;have ai:=et ad
  subst Z
  have O:0<(aD.bU i).length:=by omega
  have key:∀j t,(aD.bU i)[j]?=some t->(X.proj i j x).den ρ=cI (aD.bU i) a j:=λj t ht=>by
   obtain⟨y,G,M⟩:=h.2 j t ht
   cases j with
   |zero=>simp at G;subst G;exact M
   |succ j=>
    simp at G
    have:=Hj ab G
    rw[this,abi]at M;exact M
  have F:=key 0 _ (c4 O)
  obtain⟨aj,ag⟩:=Lg a (c4 O)
  rw[ag]at F
  have ah:∃b:bQ.cp i,x.den ρ=some ⟨.st i,b⟩:=by
   simp only[X.den]at F
   cases Y:x.den ρ with
   |none=>simp[Y]at F
   |some w=>
    simp only[Y]at F
    cases k:c6 (.st i) w with
    |none=>simp[k]at F
    |some b=>exact⟨b,by rw[oY k]⟩
  obtain⟨b,N⟩:=ah
  have:aD.un i b=a:=N8 λj ae=>by
   have:=key j _ (c4 ae)
   rw[LX N]at this
   exact this
  rw[N,<-this,aD.Ep]
 have e:o9 i xs = .mk i (fp xs):=by
  unfold o9
  split
  ·rename_i B x r
   cases k:(Nat.beq i B&&qo i x 1 r&&Nat.beq (r.length+1) (aD.bU i).length)with
   |true=>exact absurd ⟨B,x,r,rfl,k⟩ U
   |false=>simp
  rfl
 rw[e];exact af
class c9:Prop where
 val:∀i t,t∈aD.bU i->isVal t
def qw[cz][c9]{ρ:aN}:∀(f:Nat){t:Ty}{x:X}{v:t.den}{cs:List (Ty×X)},isVal t->x.den ρ=some ⟨t,v⟩->fw f t x=some cs->F2 (RC ρ) cs (t.enc v).cells:=by
 intro f
 induction f with
 |zero=>intro t x v cs _ _ h;simp[fw]at h
 |succ f ab=>
  intro t x v cs U aa h
  by_cases ag:∃i,t = .st i
  ·obtain⟨i,rfl⟩:=ag
   simp only[fw]at h
   have key:∀(ts:List Ty)(j:Nat)(cs:List (Ty×X))(b:(aT ts).den),(∀k t,ts[k]?=some t->(aD.bU i)[j+k]?=some t)->(∀k,k<ts.length->cI ts b k=cI (aD.bU i) (aD.un i v) (j+k)) ->
     qx (fw f) i x ts j=some cs->F2 (RC ρ) cs (cellsOf ts b):=by
    intro ts
    induction ts with
    |nil=>intro j cs b _ _ h;simp[qx]at h;subst h;exact .nil
    |cons t ts ah=>
     intro j cs b Z Y h
     simp only[qx]at h
     cases B:fw f t (uf i j x)with
     |none=>simp[B]at h
     |some a=>
      cases F:qx (fw f) i x ts (j+1)with
      |none=>simp[B,F]at h
      |some r=>
       simp only[B,F]at h
       injection h with h;subst h
       have O:(aD.bU i)[j]?=some t:=by simpa using Z 0 t rfl
       have ae:=(da.1 O).1
       have M:=Xl (j:=j) aa ae
       have G:=Y 0 (by simp)
       cases ts with
       |nil=>
        simp only[cI,Nat.add_zero]at G
        rw[<-G]at M
        simp[qx]at F
        subst F
        rw[nb]
        exact ab (c9.val i t (dn O)) M B
       |cons u ts=>
        simp only[cI,Nat.add_zero]at G
        rw[<-G]at M
        refine F2.app (ab (c9.val i t (dn O)) M B) ?_
        refine ah (j+1) r b.2 (λk w N=>?_) (λk N=>?_) F
        ·have:=Z (k+1) w (by simpa using N)
         rwa [sm,abi 1 k]
        have:=Y (k+1) (by simpa using N)
        simp only[cI]at this
        rwa [sm,abi 1 k]
   have:=key (aD.bU i) 0 cs (aD.un i v) (λk t h=>by simpa using h) (λk _=>by simp) h
   have e:((Ty.st i).enc v).cells=cellsOf (aD.bU i) (aD.un i v):=cz.cells i v
   rw[e];exact this
  have af:cd t=false:=by cases t<;>simp_all [cd]
  have ad:fw (f+1) t x=some [(t,x)]:=by cases t<;>simp_all [fw]
  rw[ad]at h
  injection h with h;subst h
  rw[(kJ af U.1 U.2 v).1]
  exact .cons ⟨U,v,aa,rfl⟩ .nil
def VX[cz][c9]{ρ:aN}:∀(f:Nat){t:Ty}{cs r:List (Ty×X)}{x:X}{ds:List D},isVal t->kW f t cs=some (x,r)->F2 (RC ρ) cs ds ->
  ∃v k,x.den ρ=some ⟨t,v⟩/\ds=(t.enc v).cells++k/\F2 (RC ρ) r k:=by
 intro f
 induction f with
 |zero=>intro t cs r x ds _ h;simp[kW]at h
 |succ f au=>
  intro t cs r x ds ad h M
  by_cases aq:∃i,t = .st i
  ·obtain⟨i,rfl⟩:=aq
   simp only[kW]at h
   cases N:qY (kW f) (aD.bU i) cs with
   |none=>simp[N]at h
   |some p=>
    obtain⟨xs,aw⟩:=p
    simp only[N]at h
    injection h with h;injection h with B F;subst B;subst F
    have key:∀(ts:List Ty)(cs:List (Ty×X))(ds:List D)(xs:List X)(r:List (Ty×X)),(∀t∈ts,isVal t)->qY (kW f) ts cs=some (xs,r)->F2 (RC ρ) cs ds ->
      ∃(a:(aT ts).den)(k:List D),jI ρ ts xs a/\ds=cellsOf ts a++k/\F2 (RC ρ) r k:=by
     intro ts
     induction ts with
     |nil=>intro cs ds xs r _ h M;simp[qY]at h;obtain⟨rfl,rfl⟩:=h;exact⟨(),ds,⟨rfl,λj t h=>by simp at h⟩,rfl,M⟩
     |cons t ts av=>
      intro cs ds xs r U h M
      simp only[qY]at h
      cases B:kW f t cs with
      |none=>simp[B]at h
      |some p=>
       obtain⟨x,Z⟩:=p
       simp only[B]at h
       cases F:qY (kW f) ts Z with
       |none=>simp[F]at h
       |some p=>
        obtain⟨ys,af⟩:=p
        simp only[F]at h
        injection h with h;injection h with ah ai;subst ah;subst ai
        obtain⟨v,ag,ae,rfl,ak⟩:=au (U t (by simp)) B M
        obtain⟨a,aa,O,rfl,ab⟩:=av Z ag ys af (λt ht=>U t (by simp[ht])) F ak
        cases ts with
        |nil=>
         obtain⟨an,_⟩:=O
         have:ys=[]:=by simpa using an
         subst this
         refine⟨v,aa,⟨rfl,λj w G=>?_⟩,?_,ab⟩
         ·cases j with
          |zero=>simp at G;subst G;exact⟨x,rfl,ae⟩
          |succ j=>simp at G
         simp[cellsOf]
        |cons u ts=>
         refine⟨(v,a),aa,⟨by simp[O.1],λj w G=>?_⟩,by simp[cellsOf],ab⟩
         cases j with
         |zero=>simp at G;subst G;exact⟨x,rfl,by simpa [cI]using ae⟩
         |succ j=>
          obtain⟨y,ar,al⟩:=O.2 j w (by simpa using G)
          exact⟨y,by simpa using ar,by simpa [cI]using al⟩
    obtain⟨a,k,O,rfl,Y⟩:=key (aD.bU i) cs ds xs aw (λt ht=>c9.val i t ht) N M
    refine⟨aD.ew i a,k,yj O,?_,Y⟩
    have e:((Ty.st i).enc (aD.ew i a)).cells=cellsOf (aD.bU i) (aD.un i (aD.ew i a)):=cz.cells i (aD.ew i a)
    rw[e,aD.oJ]
  have ao:cd t=false:=by cases t<;>simp_all [cd]
  cases M with
  |nil=>exfalso;cases t<;>simp_all [kW]
  |cons aj Y=>
   rename_i p d ps ds
   obtain⟨u,y⟩:=p
   have N:kW (f+1) t ((u,y)::ps)=if t=u then some (y,ps)else none:=by cases t<;>simp_all [kW]
   rw[N]at h
   split at h
   ·rename_i e;subst e
    injection h with h;injection h with B F;subst B;subst F
    obtain⟨_,v,U,rfl⟩:=aj
    exact⟨v,ds,U,by rw[(kJ ao ad.1 ad.2 v).1];rfl,Y⟩
   cases h
def Em[cz][c9]{ρ:aN}{t:Ty}{cs:List (Ty×X)}{x:X}{ds:List D}(G:isVal t)(h:vQ t cs=some x)(F:F2 (RC ρ) cs ds):∃v,x.den ρ=some ⟨t,v⟩/\ds=(t.enc v).cells:=by
 unfold vQ at h
 split at h
 ·rename_i y M
  injection h with h;subst h
  obtain⟨v,N,j,k,B⟩:=VX _ G M F
  cases B
  exact⟨v,j,by simpa using k⟩
 cases h
end Go.Sy
namespace Go.ag
open Go bG
variable {α:Type}
def kE(p:Int×α):D:=.int .i64 p.1
def vE[bG α](p:Int×α):D:=enc p.2
def Ek(n:Int)(x:List (Int×α)):Option Nat:=x.findIdx? λp=>decide (n=p.1)
def og(x:List (Int×α))(n:Int)(v:α):List (Int×α):=match Ek n x with
 |some j=>x.set j (n,v)
 |none=>x++[(n,v)]
def yT(x:List (Int×α))(n:Int):List (Int×α):=match Ek n x with
 |some j=>x.eraseIdx j
 |none=>x
def od(x:List (Int×α))(n:Int):Bool:=(Ek n x).isSome
theorem Mg:List.range 5=[0,1,2,3,4]:=rfl
theorem Mh:List.range 6=[0,1,2,3,4,5]:=rfl
theorem Mi:List.range 7=[0,1,2,3,4,5,6]:=rfl
theorem Mj:List.range 8=[0,1,2,3,4,5,6,7]:=rfl
structure xx(k:IntKind) where
 n:Int
 deriving DecidableEq
instance {k:IntKind}:bG (xx k):=⟨λr=>.int k r.n,λd=>match d with |.int _ n=>⟨n⟩|_=>⟨0⟩,1,λ_=>rfl,λ_=>rfl,by simp[D.cells,D.one]⟩
theorem IX{k:IntKind}(r:xx k):enc r = .int k r.n:=rfl
theorem Nd{k:IntKind}:bG.size (xx k)=1:=rfl
theorem IC{k j:IntKind}(n:Int):(dec (.int j n):xx k)=⟨n⟩:=rfl
end Go.ag
