/-
  SoundTimeUpto: whatever the input of bulk at most 1048576 (all values that come in, counted together), the call returns true and each argument reads as it did.
  The package variable naturals holds what the program's text lays (tied by the card).
-/
import Derived.Test.YthhlipkkjippfaaGreatDoorX9
set_option linter.all false
namespace Go.Proofs.YthhlipkkjippfaaGreatDoor
open Go Go.ag Go.Sy Go.RowKit Go.ChangeShapes Go.WideShapes
attribute [local instance] lU
theorem ZY(j:Ty.den (.st 13))(F:bT 9 (.st 13) j<=1048576)(M:ff 9 (.st 13) j)(B:Ty.den (.st 14))(G:bT 9 (.st 14) B<=1048576)(N:ff 9 (.st 14) B):eO Tryz.prog 7 [Ty.enc (.st 13) j,Ty.enc (.st 14) B] (.bool true):=
 Pt.k.jv (j,B) true (Vo j F M B G N)
set_option maxRecDepth 100000 in
theorem ZP(H:Type)(en:TypeId×Value->H)(W:World)(base:Nat)(k:Array Value)(ds U:List (DataW H))(af:List MemPlace)(av:∀(j:Nat) t v,Tryz.f7.params[j]?=some t->k[j]?=some v->Value.okWide Tryz.prog W .any base t v)(Y:DataW.Whole en Tryz.prog Tryz.f7.params.toList Rows.soundTimeSpec.vars false W k.toList ds U af)(G:Rows.uptoSmall H (ds++U)=true)(al:laidMetH Tryz.prog Rows.soundTimeUptoRow.laid W) :
  Calls Tryz.prog 7 k W λe O=>∃v,e = .returned v/\Rows.soundTimeSpec.post en Tryz.prog Tryz.f7 false true false false W k v O:=by
 have N:∀(j:Nat) t v,Tryz.f7.params[j]?=some t->k[j]?=some v->Value.okWide Tryz.prog W .any base t v:=av
 have F:=Y
 obtain⟨p,q,ak,an,rfl,_,_⟩:=Y
 have B:DataW.TrodAll en Tryz.prog W 0 (λ_=>true) true Tryz.f7.params.toList k.toList ds p:=ak
 obtain⟨rfl,rfl⟩:=trodVars_none an
 have ao:=B
 rw[Tryz.params7]at B N
 obtain⟨aD,aE,ag,ah,az,aA,rfl,rfl,rfl,ai,aj⟩:=trodAll_two B
 simp only[nb]at F G
 obtain⟨ab,b0,ax,aB⟩:=oT (f:=9) jt (ty:=36) (t:=.st 13) (by kernel_rfl) rfl (N 0 36 aD rfl rfl) ai
 obtain⟨ad,ae,ay,aC⟩:=oT (f:=9) jt (ty:=39) (t:=.st 14) (by kernel_rfl) rfl (N 1 39 aE rfl rfl) aj
 refine(FY (ZY ab (hF b0 (pY G (d:=ag) (by simp))) ax ad (hF ae (pY G (d:=ah) (by simp))) ay) (c7 al) rfl (λi v d M aa=>?_)).mono λe O ⟨v,J,aq,Z,au⟩=>?_
 ·rcases i with _|_|i
  ·cases M;cases aa;exact aB
  ·cases M;cases aa;exact aC
  simp at M
 subst aq
 cases au
 have ar:∀x∈az++aA,x.block<W.heap.size:=λx aw=>by simpa using F.lt x (by simpa using aw)
 exact⟨_,rfl,_,_,_,[],_,[],F,trodAll_mk1 (Gb true),Bq laidOut Z (by kernel_rfl) ao ar,rfl,Z.frame _,λh=>by cases h⟩
noncomputable def Gy(j:Os):World:=
 {World.holding Tryz.prog j ⟨#[],#[],[]⟩with heap:=(World.holding Tryz.prog j ⟨#[],#[],[]⟩).heap.modify 0 λ
   |.cells _ t frozen=>.cells #[.int .i64 0,.int .i64 2,.int .i64 4,.int .i64 5,.int .i64 7,.int .i64 9,.int .i64 11] t frozen
   |o=>o}
def ZW(j:Os):laidMet Tryz.prog Rows.soundTimeUptoRow.laid ((Gy j).forCall (λ_ _=>0) ⟨#[],#[.agg #[.int .i64 0,.slice none 0 0,.slice none 0 0,.slice none 0 0,.int .i64 0,.slice none 0 0,.slice none 0 0,.int .i64 0,.int .i64 0,.int .i64 0,.slice none 0 0,.slice none 0 0],.agg #[.int .i64 0,.int .i64 0,.slice none 0 0,.slice none 0 0,.int .i64 0,.int .i64 0,.int .i64 0,.slice none 0 0,.slice none 0 0]],[]⟩).memory:=
 laidMet_of_run' 8 (by kernel_rfl) (by kernel_rfl)
def ZZ(j:Os){H:Type}(en:TypeId×Value->H):∃k,DataW.whole en Tryz.prog ((Gy j).forCall (λ_ _=>0) ⟨#[],#[.agg #[.int .i64 0,.slice none 0 0,.slice none 0 0,.slice none 0 0,.int .i64 0,.slice none 0 0,.slice none 0 0,.int .i64 0,.int .i64 0,.int .i64 0,.slice none 0 0,.slice none 0 0],.agg #[.int .i64 0,.int .i64 0,.slice none 0 0,.slice none 0 0,.int .i64 0,.int .i64 0,.int .i64 0,.slice none 0 0,.slice none 0 0]],[]⟩).memory Tryz.f7.params.toList Rows.soundTimeSpec.vars false (#[.agg #[.int .i64 0,.slice none 0 0,.slice none 0 0,.slice none 0 0,.int .i64 0,.slice none 0 0,.slice none 0 0,.int .i64 0,.int .i64 0,.int .i64 0,.slice none 0 0,.slice none 0 0],.agg #[.int .i64 0,.int .i64 0,.slice none 0 0,.slice none 0 0,.int .i64 0,.int .i64 0,.int .i64 0,.slice none 0 0,.slice none 0 0]]:Array Value).toList 8=some ([.agg [.agg [.lit (.int .i64 0),.nil,.nil,.nil],.agg [.lit (.int .i64 0),.nil,.nil,.agg [.lit (.int .i64 0),.lit (.int .i64 0),.lit (.int .i64 0)],.nil],.nil],.agg [.lit (.int .i64 0),.agg [.lit (.int .i64 0),.nil,.nil,.agg [.lit (.int .i64 0),.lit (.int .i64 0),.lit (.int .i64 0)],.nil],.nil]],[],k):=
 ⟨[],by kernel_rfl⟩
set_option maxRecDepth 100000 in
theorem ZV(j:Os)(ab:j.Started)(H:Type)(en:TypeId×Value->H)(F:Stop.Interp) :
  ReturnsInHanded {} Tryz.checked j 7 .any ((Rows.OpenSpec.upto Rows.soundTimeSpec).preRow en Tryz.prog Tryz.f7 Rows.soundTimeUptoRow.domain false Rows.soundTimeUptoRow.laid) (((Rows.OpenSpec.upto Rows.soundTimeSpec).at F).post en Tryz.prog Tryz.f7 false true false false):=by
 obtain⟨ad,aa⟩:=ZZ j en
 refine returnsInHanded_of_row (C:=Tryz.checked) (s:=Rows.OpenSpec.upto Rows.soundTimeSpec) own ab (by kernel_rfl) Tryz.func7
  (
   witness_row_at (enc:=en) (C:=Tryz.checked) false (Gy j) #[.agg #[.int .i64 0,.slice none 0 0,.slice none 0 0,.slice none 0 0,.int .i64 0,.slice none 0 0,.slice none 0 0,.int .i64 0,.int .i64 0,.int .i64 0,.slice none 0 0,.slice none 0 0],.agg #[.int .i64 0,.int .i64 0,.slice none 0 0,.slice none 0 0,.int .i64 0,.int .i64 0,.int .i64 0,.slice none 0 0,.slice none 0 0]] rfl (by kernel_rfl) (by kernel_rfl) (by kernel_rfl)
   (OpenSpec.preRow_of_cond 8 aa (by kernel_rfl) (λk Y=>by cases Y;kernel_rfl) (by kernel_rfl) (ZW j))) ?_
 intro W base B ds M G Z O _ U _ N _ _
 exact ZP H en W base B ds M G Z O (U _ rfl) N
def ZR:(Rows.soundTimeUptoRow.inPlace == Tryz.pinned.checked.prog.inPlace 7)=true:=by kernel_rfl
def ZT:(Rows.soundTimeUptoRow.unfollowed == Tryz.pinned.checked.prog.unfollowed 7)=true:=by kernel_rfl
def ZS:(Rows.soundTimeUptoRow.recurses == Tryz.pinned.checked.prog.recurses 7)=true:=by kernel_rfl
def ZU:(Rows.soundTimeUptoRow.named == Tryz.pinned.checked.prog.varsNamed 7)=true:=by kernel_rfl
def ZQ:joinedFacts Tryz.pinned.checked.prog 7 Tryz.f7 (Rows.OpenSpec.upto Rows.soundTimeSpec).bare Rows.soundTimeUptoRow=true:=by
 unfold joinedFacts
 rw[ZR,ZT,ZS,ZU]
 kernel_rfl
def Z0:Rows.SoundTimeUptoSaid:=
 OpenClaim.holds_of_cond 7 Tryz.f7 rfl rfl rfl rfl rfl rfl rfl ⟨rfl,rfl,rfl,rfl,rfl⟩ rfl rfl rfl rfl rfl (by kernel_rfl) Tryz.func7 ZQ
  (hD (by kernel_rfl)) (by unfold Func.isWrapper;first| (rw[if_pos (by decide +kernel)];kernel_rfl)| (rw[if_neg (by decide +kernel)];exact⟨rfl,rfl⟩))
  (λj k H en _ F=>by rw[OpenClaim.pre_eq_preRow];exact ZV j k H en F)
def ZX(f:FuncId)(fn:Func)(k:Tryz.pinned.checked.prog.funcNamed "partbook/partbooklaw33.SoundTime" = some f)(B:Tryz.pinned.checked.prog.funcs[f]?=some fn) :
  false=Tryz.pinned.checked.prog.looks []/\∀(j:Nat) t,fn.params[j]?=some t->Tryz.pinned.checked.prog.wantsStandIn t=false:=by
 obtain rfl:f=7:=kA ((show Tryz.prog.funcNamed "partbook/partbooklaw33.SoundTime" = some 7 by kernel_rfl).symm.trans k) |>.symm
 obtain rfl:fn=Tryz.f7:=(kA (Tryz.func7.symm.trans B)).symm
 refine⟨by kernel_rfl,λj t ht=>?_⟩
 rw[Tryz.params7]at ht
 have h:∀t∈[36,39],Tryz.prog.wantsStandIn t=false:=by
  intro t ht
  simp only[fb,r3,Qd]at ht
  rcases ht with rfl|rfl<;>kernel_rfl
 exact h t (by simpa using u0 ht)
def time_holds:Rows.SoundTimeUptoCardSaid:=
 Claim7.holds_tied_plain_at .later [] _ _ _ _ Z0 (λ_ h=>by cases h) (by kernel_rfl) (λ_ h=>by cases h) soundTimeUpto_row_tie rfl ⟨rfl,rfl⟩ (by kernel_rfl) rfl ZX (by kernel_rfl)
#print axioms time_holds
end Go.Proofs.YthhlipkkjippfaaGreatDoor
