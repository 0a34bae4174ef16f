/-
  SoundTogetherUpto: whatever the input of bulk at most 1048576 (all values that come in, counted together), the call returns true and each argument reads as it did.
  The package variable naturals holds what the program's text lays (tied by the card).
-/
import Derived.Test.YthhlipkkjippfaaGreatDoorX9
set_option linter.all false
namespace Go.Proofs.YthhlipkkjippfaaGreatDoor
open Go Go.ag Go.Sy Go.RowKit Go.ChangeShapes Go.WideShapes
attribute [local instance] lU
theorem aae(j:Ty.den (.st 13))(F:bT 9 (.st 13) j<=1048576)(M:ff 9 (.st 13) j)(B:Ty.den (.st 14))(G:bT 9 (.st 14) B<=1048576)(N:ff 9 (.st 14) B):eO Tryz.prog 4 [Ty.enc (.st 13) j,Ty.enc (.st 14) B] (.bool true):=
 Pu.k.jv (j,B) true (Vp j F M B G N)
set_option maxRecDepth 100000 in
theorem Z5(H:Type)(en:TypeId×Value->H)(W:World)(base:Nat)(k:Array Value)(ds U:List (DataW H))(af:List MemPlace)(av:∀(j:Nat) t v,Tryz.f4.params[j]?=some t->k[j]?=some v->Value.okWide Tryz.prog W .any base t v)(Y:DataW.Whole en Tryz.prog Tryz.f4.params.toList Rows.soundTogetherSpec.vars false W k.toList ds U af)(G:Rows.uptoSmall H (ds++U)=true)(al:laidMetH Tryz.prog Rows.soundTogetherUptoRow.laid W) :
  Calls Tryz.prog 4 k W λe O=>∃v,e = .returned v/\Rows.soundTogetherSpec.post en Tryz.prog Tryz.f4 false true false false W k v O:=by
 have N:∀(j:Nat) t v,Tryz.f4.params[j]?=some t->k[j]?=some v->Value.okWide Tryz.prog W .any base t v:=av
 have F:=Y
 obtain⟨p,q,ak,an,rfl,_,_⟩:=Y
 have B:DataW.TrodAll en Tryz.prog W 0 (λ_=>true) true Tryz.f4.params.toList k.toList ds p:=ak
 obtain⟨rfl,rfl⟩:=trodVars_none an
 have ao:=B
 rw[Tryz.params4]at B N
 obtain⟨aD,aE,ag,ah,az,aA,rfl,rfl,rfl,ai,aj⟩:=trodAll_two B
 simp only[nb]at F G
 obtain⟨ab,b0,ax,aB⟩:=oT (f:=9) jt (ty:=36) (t:=.st 13) (by kernel_rfl) rfl (N 0 36 aD rfl rfl) ai
 obtain⟨ad,ae,ay,aC⟩:=oT (f:=9) jt (ty:=39) (t:=.st 14) (by kernel_rfl) rfl (N 1 39 aE rfl rfl) aj
 refine(FY (aae ab (hF b0 (pY G (d:=ag) (by simp))) ax ad (hF ae (pY G (d:=ah) (by simp))) ay) (c7 al) rfl (λi v d M aa=>?_)).mono λe O ⟨v,J,aq,Z,au⟩=>?_
 ·rcases i with _|_|i
  ·cases M;cases aa;exact aB
  ·cases M;cases aa;exact aC
  simp at M
 subst aq
 cases au
 have ar:∀x∈az++aA,x.block<W.heap.size:=λx aw=>by simpa using F.lt x (by simpa using aw)
 exact⟨_,rfl,_,_,_,[],_,[],F,trodAll_mk1 (Gb true),Bq laidOut Z (by kernel_rfl) ao ar,rfl,Z.frame _,λh=>by cases h⟩
noncomputable def GB(j:Os):World:=
 {World.holding Tryz.prog j ⟨#[],#[],[]⟩with heap:=(World.holding Tryz.prog j ⟨#[],#[],[]⟩).heap.modify 0 λ
   |.cells _ t frozen=>.cells #[.int .i64 0,.int .i64 2,.int .i64 4,.int .i64 5,.int .i64 7,.int .i64 9,.int .i64 11] t frozen
   |o=>o}
def aac(j:Os):laidMet Tryz.prog Rows.soundTogetherUptoRow.laid ((GB j).forCall (λ_ _=>0) ⟨#[],#[.agg #[.int .i64 0,.slice none 0 0,.slice none 0 0,.slice none 0 0,.int .i64 0,.slice none 0 0,.slice none 0 0,.int .i64 0,.int .i64 0,.int .i64 0,.slice none 0 0,.slice none 0 0],.agg #[.int .i64 0,.int .i64 0,.slice none 0 0,.slice none 0 0,.int .i64 0,.int .i64 0,.int .i64 0,.slice none 0 0,.slice none 0 0]],[]⟩).memory:=
 laidMet_of_run' 8 (by kernel_rfl) (by kernel_rfl)
def aaf(j:Os){H:Type}(en:TypeId×Value->H):∃k,DataW.whole en Tryz.prog ((GB j).forCall (λ_ _=>0) ⟨#[],#[.agg #[.int .i64 0,.slice none 0 0,.slice none 0 0,.slice none 0 0,.int .i64 0,.slice none 0 0,.slice none 0 0,.int .i64 0,.int .i64 0,.int .i64 0,.slice none 0 0,.slice none 0 0],.agg #[.int .i64 0,.int .i64 0,.slice none 0 0,.slice none 0 0,.int .i64 0,.int .i64 0,.int .i64 0,.slice none 0 0,.slice none 0 0]],[]⟩).memory Tryz.f4.params.toList Rows.soundTogetherSpec.vars false (#[.agg #[.int .i64 0,.slice none 0 0,.slice none 0 0,.slice none 0 0,.int .i64 0,.slice none 0 0,.slice none 0 0,.int .i64 0,.int .i64 0,.int .i64 0,.slice none 0 0,.slice none 0 0],.agg #[.int .i64 0,.int .i64 0,.slice none 0 0,.slice none 0 0,.int .i64 0,.int .i64 0,.int .i64 0,.slice none 0 0,.slice none 0 0]]:Array Value).toList 8=some ([.agg [.agg [.lit (.int .i64 0),.nil,.nil,.nil],.agg [.lit (.int .i64 0),.nil,.nil,.agg [.lit (.int .i64 0),.lit (.int .i64 0),.lit (.int .i64 0)],.nil],.nil],.agg [.lit (.int .i64 0),.agg [.lit (.int .i64 0),.nil,.nil,.agg [.lit (.int .i64 0),.lit (.int .i64 0),.lit (.int .i64 0)],.nil],.nil]],[],k):=
 ⟨[],by kernel_rfl⟩
set_option maxRecDepth 100000 in
theorem aab(j:Os)(ab:j.Started)(H:Type)(en:TypeId×Value->H)(F:Stop.Interp) :
  ReturnsInHanded {} Tryz.checked j 4 .any ((Rows.OpenSpec.upto Rows.soundTogetherSpec).preRow en Tryz.prog Tryz.f4 Rows.soundTogetherUptoRow.domain false Rows.soundTogetherUptoRow.laid) (((Rows.OpenSpec.upto Rows.soundTogetherSpec).at F).post en Tryz.prog Tryz.f4 false true false false):=by
 obtain⟨ad,aa⟩:=aaf j en
 refine returnsInHanded_of_row (C:=Tryz.checked) (s:=Rows.OpenSpec.upto Rows.soundTogetherSpec) own ab (by kernel_rfl) Tryz.func4
  (
   witness_row_at (enc:=en) (C:=Tryz.checked) false (GB j) #[.agg #[.int .i64 0,.slice none 0 0,.slice none 0 0,.slice none 0 0,.int .i64 0,.slice none 0 0,.slice none 0 0,.int .i64 0,.int .i64 0,.int .i64 0,.slice none 0 0,.slice none 0 0],.agg #[.int .i64 0,.int .i64 0,.slice none 0 0,.slice none 0 0,.int .i64 0,.int .i64 0,.int .i64 0,.slice none 0 0,.slice none 0 0]] rfl (by kernel_rfl) (by kernel_rfl) (by kernel_rfl)
   (OpenSpec.preRow_of_cond 8 aa (by kernel_rfl) (λk Y=>by cases Y;kernel_rfl) (by kernel_rfl) (aac j))) ?_
 intro W base B ds M G Z O _ U _ N _ _
 exact Z5 H en W base B ds M G Z O (U _ rfl) N
def Z7:(Rows.soundTogetherUptoRow.inPlace == Tryz.pinned.checked.prog.inPlace 4)=true:=by kernel_rfl
def Z9:(Rows.soundTogetherUptoRow.unfollowed == Tryz.pinned.checked.prog.unfollowed 4)=true:=by kernel_rfl
def Z8:(Rows.soundTogetherUptoRow.recurses == Tryz.pinned.checked.prog.recurses 4)=true:=by kernel_rfl
def aaa:(Rows.soundTogetherUptoRow.named == Tryz.pinned.checked.prog.varsNamed 4)=true:=by kernel_rfl
def Z6:joinedFacts Tryz.pinned.checked.prog 4 Tryz.f4 (Rows.OpenSpec.upto Rows.soundTogetherSpec).bare Rows.soundTogetherUptoRow=true:=by
 unfold joinedFacts
 rw[Z7,Z9,Z8,aaa]
 kernel_rfl
def aag:Rows.SoundTogetherUptoSaid:=
 OpenClaim.holds_of_cond 4 Tryz.f4 rfl rfl rfl rfl rfl rfl rfl ⟨rfl,rfl,rfl,rfl,rfl⟩ rfl rfl rfl rfl rfl (by kernel_rfl) Tryz.func4 Z6
  (hD (by kernel_rfl)) (by unfold Func.isWrapper;first| (rw[if_pos (by decide +kernel)];kernel_rfl)| (rw[if_neg (by decide +kernel)];exact⟨rfl,rfl⟩))
  (λj k H en _ F=>by rw[OpenClaim.pre_eq_preRow];exact aab j k H en F)
def aad(f:FuncId)(fn:Func)(k:Tryz.pinned.checked.prog.funcNamed "partbook/partbooklaw33.SoundTogether" = some f)(B:Tryz.pinned.checked.prog.funcs[f]?=some fn) :
  false=Tryz.pinned.checked.prog.looks []/\∀(j:Nat) t,fn.params[j]?=some t->Tryz.pinned.checked.prog.wantsStandIn t=false:=by
 obtain rfl:f=4:=kA ((show Tryz.prog.funcNamed "partbook/partbooklaw33.SoundTogether" = some 4 by kernel_rfl).symm.trans k) |>.symm
 obtain rfl:fn=Tryz.f4:=(kA (Tryz.func4.symm.trans B)).symm
 refine⟨by kernel_rfl,λj t ht=>?_⟩
 rw[Tryz.params4]at ht
 have h:∀t∈[36,39],Tryz.prog.wantsStandIn t=false:=by
  intro t ht
  simp only[fb,r3,Qd]at ht
  rcases ht with rfl|rfl<;>kernel_rfl
 exact h t (by simpa using u0 ht)
def together_holds:Rows.SoundTogetherUptoCardSaid:=
 Claim7.holds_tied_plain_at .later [] _ _ _ _ aag (λ_ h=>by cases h) (by kernel_rfl) (λ_ h=>by cases h) soundTogetherUpto_row_tie rfl ⟨rfl,rfl⟩ (by kernel_rfl) rfl aad (by kernel_rfl)
#print axioms together_holds
end Go.Proofs.YthhlipkkjippfaaGreatDoor
