/-
  SoundPartsUpto: whatever the input of bulk at most 1048576 (all values that come in, counted together), the call returns true and each argument reads as it did.
  The package variable naturals holds what the program's text lays (tied by the card).
-/
import Derived.Test.YthhlipkkjippfaaGreatDoorX9
set_option linter.all false
namespace Go.Proofs.YthhlipkkjippfaaGreatDoor
open Go Go.ag Go.Sy Go.RowKit Go.ChangeShapes Go.WideShapes
attribute [local instance] lU
theorem W8(j:Ty.den (.st 13))(M:bT 9 (.st 13) j<=1048576)(Y:ff 9 (.st 13) j)(B:Ty.den (.st 14))(N:bT 9 (.st 14) B<=1048576)(Z:ff 9 (.st 14) B)(F:Ty.den (.int .u8))(O:bT 9 (.int .u8) F<=1048576)(aa:ff 9 (.int .u8) F)(G:Ty.den (.int .u8))(U:bT 9 (.int .u8) G<=1048576)(ab:ff 9 (.int .u8) G):eO Tryz.prog 5 [Ty.enc (.st 13) j,Ty.enc (.st 14) B,Ty.enc (.int .u8) F,Ty.enc (.int .u8) G] (.bool true):=
 Ps.k.jv (j,B,F,G) true (Vn j M Y B N Z F O aa G U ab)
set_option maxRecDepth 100000 in
theorem WZ(H:Type)(en:TypeId×Value->H)(W:World)(base:Nat)(k:Array Value)(ds Y:List (DataW H))(aj:List MemPlace)(aD:∀(j:Nat) t v,Tryz.f5.params[j]?=some t->k[j]?=some v->Value.okWide Tryz.prog W .any base t v)(Z:DataW.Whole en Tryz.prog Tryz.f5.params.toList Rows.soundPartsSpec.vars false W k.toList ds Y aj)(B:Rows.uptoSmall H (ds++Y)=true)(ax:laidMetH Tryz.prog Rows.soundPartsUptoRow.laid W) :
  Calls Tryz.prog 5 k W λe U=>∃v,e = .returned v/\Rows.soundPartsSpec.post en Tryz.prog Tryz.f5 false true false false W k v U:=by
 have G:∀(j:Nat) t v,Tryz.f5.params[j]?=some t->k[j]?=some v->Value.okWide Tryz.prog W .any base t v:=aD
 have O:=Z
 obtain⟨p,q,aw,ay,rfl,_,_⟩:=Z
 have N:DataW.TrodAll en Tryz.prog W 0 (λ_=>true) true Tryz.f5.params.toList k.toList ds p:=aw
 obtain⟨rfl,rfl⟩:=trodVars_none ay
 have az:=N
 rw[Tryz.params5]at N G
 obtain⟨aR,aS,aT,aU,ak,al,an,ao,aJ,aK,aL,aM,rfl,rfl,rfl,aq,ar,au,av⟩:=trodAll_four N
 simp only[nb]at O B
 obtain⟨ab,b0,aF,aN⟩:=oT (f:=9) jt (ty:=36) (t:=.st 13) (by kernel_rfl) rfl (G 0 36 aR rfl rfl) aq
 obtain⟨ad,ag,aG,aO⟩:=oT (f:=9) jt (ty:=39) (t:=.st 14) (by kernel_rfl) rfl (G 1 39 aS rfl rfl) ar
 obtain⟨ae,ah,aH,aP⟩:=oT (f:=9) jt (ty:=5) (t:=.int .u8) (by kernel_rfl) rfl (G 2 5 aT rfl rfl) au
 obtain⟨af,ai,aI,aQ⟩:=oT (f:=9) jt (ty:=5) (t:=.int .u8) (by kernel_rfl) rfl (G 3 5 aU rfl rfl) av
 refine(FY (W8 ab (hF b0 (pY B (d:=ak) (by simp))) aF ad (hF ag (pY B (d:=al) (by simp))) aG ae (hF ah (pY B (d:=an) (by simp))) aH af (hF ai (pY B (d:=ao) (by simp))) aI) (c7 ax) rfl (λi v d F M=>?_)).mono λe U ⟨v,J,aA,aa,aC⟩=>?_
 ·rcases i with _|_|_|_|i
  ·cases F;cases M;exact aN
  ·cases F;cases M;exact aO
  ·cases F;cases M;exact aP
  ·cases F;cases M;exact aQ
  simp at F
 subst aA
 cases aC
 have aB:∀x∈aJ++aK++aL++aM,x.block<W.heap.size:=λx aE=>by simpa using O.lt x (by simpa using aE)
 exact⟨_,rfl,_,_,_,[],_,[],O,trodAll_mk1 (Gb true),Bq laidOut aa (by kernel_rfl) az aB,rfl,aa.frame _,λh=>by cases h⟩
noncomputable def Fx(j:Os):World:=
 {World.holding Tryz.prog j ⟨#[],#[],[]⟩with heap:=(World.holding Tryz.prog j ⟨#[],#[],[]⟩).heap.modify 0 λ
   |.cells _ t frozen=>.cells #[.int .i64 0,.int .i64 2,.int .i64 4,.int .i64 5,.int .i64 7,.int .i64 9,.int .i64 11] t frozen
   |o=>o}
def W6(j:Os):laidMet Tryz.prog Rows.soundPartsUptoRow.laid ((Fx j).forCall (λ_ _=>0) ⟨#[],#[.agg #[.int .i64 0,.slice none 0 0,.slice none 0 0,.slice none 0 0,.int .i64 0,.slice none 0 0,.slice none 0 0,.int .i64 0,.int .i64 0,.int .i64 0,.slice none 0 0,.slice none 0 0],.agg #[.int .i64 0,.int .i64 0,.slice none 0 0,.slice none 0 0,.int .i64 0,.int .i64 0,.int .i64 0,.slice none 0 0,.slice none 0 0],.int .u8 0,.int .u8 0],[]⟩).memory:=
 laidMet_of_run' 8 (by kernel_rfl) (by kernel_rfl)
def W9(j:Os){H:Type}(en:TypeId×Value->H):∃k,DataW.whole en Tryz.prog ((Fx j).forCall (λ_ _=>0) ⟨#[],#[.agg #[.int .i64 0,.slice none 0 0,.slice none 0 0,.slice none 0 0,.int .i64 0,.slice none 0 0,.slice none 0 0,.int .i64 0,.int .i64 0,.int .i64 0,.slice none 0 0,.slice none 0 0],.agg #[.int .i64 0,.int .i64 0,.slice none 0 0,.slice none 0 0,.int .i64 0,.int .i64 0,.int .i64 0,.slice none 0 0,.slice none 0 0],.int .u8 0,.int .u8 0],[]⟩).memory Tryz.f5.params.toList Rows.soundPartsSpec.vars false (#[.agg #[.int .i64 0,.slice none 0 0,.slice none 0 0,.slice none 0 0,.int .i64 0,.slice none 0 0,.slice none 0 0,.int .i64 0,.int .i64 0,.int .i64 0,.slice none 0 0,.slice none 0 0],.agg #[.int .i64 0,.int .i64 0,.slice none 0 0,.slice none 0 0,.int .i64 0,.int .i64 0,.int .i64 0,.slice none 0 0,.slice none 0 0],.int .u8 0,.int .u8 0]:Array Value).toList 8=some ([.agg [.agg [.lit (.int .i64 0),.nil,.nil,.nil],.agg [.lit (.int .i64 0),.nil,.nil,.agg [.lit (.int .i64 0),.lit (.int .i64 0),.lit (.int .i64 0)],.nil],.nil],.agg [.lit (.int .i64 0),.agg [.lit (.int .i64 0),.nil,.nil,.agg [.lit (.int .i64 0),.lit (.int .i64 0),.lit (.int .i64 0)],.nil],.nil],.lit (.int .u8 0),.lit (.int .u8 0)],[],k):=
 ⟨[],by kernel_rfl⟩
set_option maxRecDepth 100000 in
theorem W5(j:Os)(ab:j.Started)(H:Type)(en:TypeId×Value->H)(F:Stop.Interp) :
  ReturnsInHanded {} Tryz.checked j 5 .any ((Rows.OpenSpec.upto Rows.soundPartsSpec).preRow en Tryz.prog Tryz.f5 Rows.soundPartsUptoRow.domain false Rows.soundPartsUptoRow.laid) (((Rows.OpenSpec.upto Rows.soundPartsSpec).at F).post en Tryz.prog Tryz.f5 false true false false):=by
 obtain⟨ad,aa⟩:=W9 j en
 refine returnsInHanded_of_row (C:=Tryz.checked) (s:=Rows.OpenSpec.upto Rows.soundPartsSpec) own ab (by kernel_rfl) Tryz.func5
  (
   witness_row_at (enc:=en) (C:=Tryz.checked) false (Fx j) #[.agg #[.int .i64 0,.slice none 0 0,.slice none 0 0,.slice none 0 0,.int .i64 0,.slice none 0 0,.slice none 0 0,.int .i64 0,.int .i64 0,.int .i64 0,.slice none 0 0,.slice none 0 0],.agg #[.int .i64 0,.int .i64 0,.slice none 0 0,.slice none 0 0,.int .i64 0,.int .i64 0,.int .i64 0,.slice none 0 0,.slice none 0 0],.int .u8 0,.int .u8 0] rfl (by kernel_rfl) (by kernel_rfl) (by kernel_rfl)
   (OpenSpec.preRow_of_cond 8 aa (by kernel_rfl) (λk Y=>by cases Y;kernel_rfl) (by kernel_rfl) (W6 j))) ?_
 intro W base B ds M G Z O _ U _ N _ _
 exact WZ H en W base B ds M G Z O (U _ rfl) N
def W1:(Rows.soundPartsUptoRow.inPlace == Tryz.pinned.checked.prog.inPlace 5)=true:=by kernel_rfl
def W3:(Rows.soundPartsUptoRow.unfollowed == Tryz.pinned.checked.prog.unfollowed 5)=true:=by kernel_rfl
def W2:(Rows.soundPartsUptoRow.recurses == Tryz.pinned.checked.prog.recurses 5)=true:=by kernel_rfl
def W4:(Rows.soundPartsUptoRow.named == Tryz.pinned.checked.prog.varsNamed 5)=true:=by kernel_rfl
def W0:joinedFacts Tryz.pinned.checked.prog 5 Tryz.f5 (Rows.OpenSpec.upto Rows.soundPartsSpec).bare Rows.soundPartsUptoRow=true:=by
 unfold joinedFacts
 rw[W1,W3,W2,W4]
 kernel_rfl
def Xa:Rows.SoundPartsUptoSaid:=
 OpenClaim.holds_of_cond 5 Tryz.f5 rfl rfl rfl rfl rfl rfl rfl ⟨rfl,rfl,rfl,rfl,rfl⟩ rfl rfl rfl rfl rfl (by kernel_rfl) Tryz.func5 W0
  (hD (by kernel_rfl)) (by unfold Func.isWrapper;first| (rw[if_pos (by decide +kernel)];kernel_rfl)| (rw[if_neg (by decide +kernel)];exact⟨rfl,rfl⟩))
  (λj k H en _ F=>by rw[OpenClaim.pre_eq_preRow];exact W5 j k H en F)
def W7(f:FuncId)(fn:Func)(k:Tryz.pinned.checked.prog.funcNamed "partbook/partbooklaw33.SoundParts" = some f)(B:Tryz.pinned.checked.prog.funcs[f]?=some fn) :
  false=Tryz.pinned.checked.prog.looks []/\∀(j:Nat) t,fn.params[j]?=some t->Tryz.pinned.checked.prog.wantsStandIn t=false:=by
 obtain rfl:f=5:=kA ((show Tryz.prog.funcNamed "partbook/partbooklaw33.SoundParts" = some 5 by kernel_rfl).symm.trans k) |>.symm
 obtain rfl:fn=Tryz.f5:=(kA (Tryz.func5.symm.trans B)).symm
 refine⟨by kernel_rfl,λj t ht=>?_⟩
 rw[Tryz.params5]at ht
 have h:∀t∈[36,39,5,5],Tryz.prog.wantsStandIn t=false:=by
  intro t ht
  simp only[fb,r3,Qd]at ht
  rcases ht with rfl|rfl|rfl|rfl<;>kernel_rfl
 exact h t (by simpa using u0 ht)
def parts_holds:Rows.SoundPartsUptoCardSaid:=
 Claim7.holds_tied_plain_at .later [] _ _ _ _ Xa (λ_ h=>by cases h) (by kernel_rfl) (λ_ h=>by cases h) soundPartsUpto_row_tie rfl ⟨rfl,rfl⟩ (by kernel_rfl) rfl W7 (by kernel_rfl)
#print axioms parts_holds
end Go.Proofs.YthhlipkkjippfaaGreatDoor
