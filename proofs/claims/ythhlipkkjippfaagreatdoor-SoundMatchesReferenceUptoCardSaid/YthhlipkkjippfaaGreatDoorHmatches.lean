/-
  SoundMatchesReferenceUpto: whatever the input of bulk at most 1048576 (all values that come in, counted together), the call returns true and each argument reads as it did.
  The package variable naturals holds what the program's text lays (tied by the card).
-/
import Derived.Test.YthhlipkkjippfaaGreatDoorX9
set_option linter.all false
namespace Go.Proofs.YthhlipkkjippfaaGreatDoor
open Go Go.ak Go.Sy Go.RowKit Go.ChangeShapes Go.WideShapes
attribute [local instance] nV
theorem Yo(j:Ty.den (.st 13))(h0:cj 9 (.st 13) j<=1048576)(N:lh 9 (.st 13) j)(B:Ty.den (.st 14))(G:cj 9 (.st 14) B<=1048576)(O:lh 9 (.st 14) B)(F:Ty.den (.list (.st 18)))(M:cj 9 (.list (.st 18)) F<=1048576)(U:lh 9 (.list (.st 18)) F):gA Tryz.prog 3 [Ty.enc (.st 13) j,Ty.enc (.st 14) B,Ty.enc (.list (.st 18)) F] (.bool true):=
 RP.k.kF (j,B,F) true (XQ j h0 N B G O F M U)
set_option maxRecDepth 100000 in
theorem Yf(H:Type)(en:TypeId×Value->H)(W:World)(base:Nat)(k:Array Value)(ds U:List (DataW H))(ag:List MemPlace)(ax:∀(j:Nat) t v,Tryz.f3.params[j]?=some t->k[j]?=some v->Value.okWide Tryz.prog W .any base t v)(Y:DataW.Whole en Tryz.prog Tryz.f3.params.toList Rows.soundMatchesReferenceSpec.vars false W k.toList ds U ag)(B:Rows.uptoSmall H (ds++U)=true)(ao:laidMetH Tryz.prog Rows.soundMatchesReferenceUptoRow.laid W) :
  Calls Tryz.prog 3 k W λe O=>∃v,e=.returned v/\Rows.soundMatchesReferenceSpec.post en Tryz.prog Tryz.f3 false true false false W k v O:=by
 have F:∀(j:Nat) t v,Tryz.f3.params[j]?=some t->k[j]?=some v->Value.okWide Tryz.prog W .any base t v:=ax;have M:=Y;obtain⟨p,q,an,aq,rfl,_,_⟩:=Y;have G:DataW.TrodAll en Tryz.prog W 0 (λ_=>true) true Tryz.f3.params.toList k.toList ds p:=an;obtain⟨rfl,rfl⟩:=trodVars_none aq;have ar:=G;rw[Tryz.params3]at G F;obtain⟨v0,aI,aJ,ah,ai,aj,aC,aD,aE,rfl,rfl,rfl,h0,ak,al⟩:=trodAll_three G;simp only[iu]at M B;obtain⟨aa,b0,az,aF⟩:=Dx (f:=9) oC (ty:=36) (t:=.st 13) (by kernel_rfl) rfl (F 0 36 v0 rfl rfl) h0;obtain⟨ab,ae,aA,aG⟩:=Dx (f:=9) oC (ty:=39) (t:=.st 14) (by kernel_rfl) rfl (F 1 39 aI rfl rfl) ak;obtain⟨ad,af,aB,aH⟩:=Dx (f:=9) oC (ty:=40) (t:=.list (.st 18)) (by kernel_rfl) rfl (F 2 40 aJ rfl rfl) al;refine(abj (Yo aa (hB b0 (H0 B (d:=ah) (by simp))) az ab (hB ae (H0 B (d:=ai) (by simp))) aA ad (hB af (H0 B (d:=aj) (by simp))) aB) (dK ao) rfl (λi v d hv N=>?_)).mono λe O ⟨v,J,au,Z,aw⟩=>?_
 ·rcases i with _|_|_|i
  ·cases hv;cases N;exact aF
  ·cases hv;cases N;exact aG
  ·cases hv;cases N;exact aH
  simp at hv
 subst au;cases aw;have av:∀x∈aC++aD++aE,x.block<W.heap.size:=λx ay=>by simpa using M.lt x (by simpa using ay)
 exact⟨_,rfl,_,_,_,[],_,[],M,trodAll_mk1 (abJ true),Qm laidOut Z (by kernel_rfl) ar av,rfl,Z.frame _,λh=>by cases h⟩
noncomputable def FX(j:Os):World:=
 {World.holding Tryz.prog j ⟨#[],#[],[]⟩with heap:=(World.holding Tryz.prog j ⟨#[],#[],[]⟩).heap.modify 0 λ
   |.cells _ t frozen=>.cells #[.int .i64 0,.int .i64 2,.int .i64 4,.int .i64 5,.int .i64 7,.int .i64 9,.int .i64 11] t frozen
   |o=>o}
def Ym(j:Os):laidMet Tryz.prog Rows.soundMatchesReferenceUptoRow.laid ((FX j).forCall (λ_ _=>0) ⟨#[],#[.agg #[.int .i64 0,.slice none 0 0,.slice none 0 0,.slice none 0 0,.int .i64 0,.slice none 0 0,.slice none 0 0,.int .i64 0,.int .i64 0,.int .i64 0,.slice none 0 0,.slice none 0 0],.agg #[.int .i64 0,.int .i64 0,.slice none 0 0,.slice none 0 0,.int .i64 0,.int .i64 0,.int .i64 0,.slice none 0 0,.slice none 0 0],.slice none 0 0],[]⟩).memory:=
 laidMet_of_run' 8 (by kernel_rfl) (by kernel_rfl)
def Yp(j:Os){H:Type}(en:TypeId×Value->H):∃k,DataW.whole en Tryz.prog ((FX j).forCall (λ_ _=>0) ⟨#[],#[.agg #[.int .i64 0,.slice none 0 0,.slice none 0 0,.slice none 0 0,.int .i64 0,.slice none 0 0,.slice none 0 0,.int .i64 0,.int .i64 0,.int .i64 0,.slice none 0 0,.slice none 0 0],.agg #[.int .i64 0,.int .i64 0,.slice none 0 0,.slice none 0 0,.int .i64 0,.int .i64 0,.int .i64 0,.slice none 0 0,.slice none 0 0],.slice none 0 0],[]⟩).memory Tryz.f3.params.toList Rows.soundMatchesReferenceSpec.vars false (#[.agg #[.int .i64 0,.slice none 0 0,.slice none 0 0,.slice none 0 0,.int .i64 0,.slice none 0 0,.slice none 0 0,.int .i64 0,.int .i64 0,.int .i64 0,.slice none 0 0,.slice none 0 0],.agg #[.int .i64 0,.int .i64 0,.slice none 0 0,.slice none 0 0,.int .i64 0,.int .i64 0,.int .i64 0,.slice none 0 0,.slice none 0 0],.slice none 0 0]:Array Value).toList 8=some ([.agg [.agg [.lit (.int .i64 0),.nil,.nil,.nil],.agg [.lit (.int .i64 0),.nil,.nil,.agg [.lit (.int .i64 0),.lit (.int .i64 0),.lit (.int .i64 0)],.nil],.nil],.agg [.lit (.int .i64 0),.agg [.lit (.int .i64 0),.nil,.nil,.agg [.lit (.int .i64 0),.lit (.int .i64 0),.lit (.int .i64 0)],.nil],.nil],.nil],[],k):=
 ⟨[],by kernel_rfl⟩
set_option maxRecDepth 100000 in
theorem Yl(j:Os)(ab:j.Started)(H:Type)(en:TypeId×Value->H)(F:Stop.Interp) :
  ReturnsInHanded {} Tryz.checked j 3 .any ((Rows.OpenSpec.upto Rows.soundMatchesReferenceSpec).preRow en Tryz.prog Tryz.f3 Rows.soundMatchesReferenceUptoRow.domain false Rows.soundMatchesReferenceUptoRow.laid) (((Rows.OpenSpec.upto Rows.soundMatchesReferenceSpec).at F).post en Tryz.prog Tryz.f3 false true false false):=by
 obtain⟨ad,aa⟩:=Yp j en;refine returnsInHanded_of_row (C:=Tryz.checked) (s:=Rows.OpenSpec.upto Rows.soundMatchesReferenceSpec) own ab (by kernel_rfl) Tryz.func3
  (
   witness_row_at (enc:=en) (C:=Tryz.checked) false (FX j) #[.agg #[.int .i64 0,.slice none 0 0,.slice none 0 0,.slice none 0 0,.int .i64 0,.slice none 0 0,.slice none 0 0,.int .i64 0,.int .i64 0,.int .i64 0,.slice none 0 0,.slice none 0 0],.agg #[.int .i64 0,.int .i64 0,.slice none 0 0,.slice none 0 0,.int .i64 0,.int .i64 0,.int .i64 0,.slice none 0 0,.slice none 0 0],.slice none 0 0] rfl (by kernel_rfl) (by kernel_rfl) (by kernel_rfl)
   (OpenSpec.preRow_of_cond 8 aa (by kernel_rfl) (λk Y=>by cases Y;kernel_rfl) (by kernel_rfl) (Ym j))) ?_
 intro W base B ds M G Z O _ U _ N _ _;exact Yf H en W base B ds M G Z O (U _ rfl) N
def Yh:(Rows.soundMatchesReferenceUptoRow.inPlace == Tryz.pinned.checked.prog.inPlace 3)=true:=by kernel_rfl
def Yj:(Rows.soundMatchesReferenceUptoRow.unfollowed == Tryz.pinned.checked.prog.unfollowed 3)=true:=by kernel_rfl
def Yi:(Rows.soundMatchesReferenceUptoRow.recurses == Tryz.pinned.checked.prog.recurses 3)=true:=by kernel_rfl
def Yk:(Rows.soundMatchesReferenceUptoRow.named == Tryz.pinned.checked.prog.varsNamed 3)=true:=by kernel_rfl
def Yg:joinedFacts Tryz.pinned.checked.prog 3 Tryz.f3 (Rows.OpenSpec.upto Rows.soundMatchesReferenceSpec).bare Rows.soundMatchesReferenceUptoRow=true:=by
 unfold joinedFacts;rw[Yh,Yj,Yi,Yk]
 kernel_rfl
def Yq:Rows.SoundMatchesReferenceUptoSaid:=
 OpenClaim.holds_of_cond 3 Tryz.f3 rfl rfl rfl rfl rfl rfl rfl ⟨rfl,rfl,rfl,rfl,rfl⟩ rfl rfl rfl rfl rfl (by kernel_rfl) Tryz.func3 Yg
  (fv (by kernel_rfl)) (by unfold Func.isWrapper;first| (rw[if_pos (by decide +kernel)];kernel_rfl)| (rw[if_neg (by decide +kernel)];exact⟨rfl,rfl⟩))
  (λj k H en _ F=>by rw[OpenClaim.pre_eq_preRow];exact Yl j k H en F)
def Yn(f:FuncId)(fn:Func)(k:Tryz.pinned.checked.prog.funcNamed "partbook/partbooklaw33.SoundMatchesReference" = some f)(B:Tryz.pinned.checked.prog.funcs[f]?=some fn) :
  false=Tryz.pinned.checked.prog.looks []/\∀(j:Nat) t,fn.params[j]?=some t->Tryz.pinned.checked.prog.wantsStandIn t=false:=by
 obtain rfl:f=3:=nn ((show Tryz.prog.funcNamed "partbook/partbooklaw33.SoundMatchesReference" = some 3 by kernel_rfl).symm.trans k) |>.symm;obtain rfl:fn=Tryz.f3:=(nn (Tryz.func3.symm.trans B)).symm;refine⟨by kernel_rfl,λj t ht=>?_⟩;rw[Tryz.params3]at ht;have h:∀t∈[36,39,40],Tryz.prog.wantsStandIn t=false:=by
  intro t ht;simp only[fa,s4,adM]at ht;rcases ht with rfl|rfl|rfl<;>kernel_rfl
 exact h t (by simpa using Array.mem_of_getElem? ht)
def matches_holds:Rows.SoundMatchesReferenceUptoCardSaid:=
 Claim7.holds_tied_plain_at .later [] _ _ _ _ Yq (λ_ h=>by cases h) (by kernel_rfl) (λ_ h=>by cases h) soundMatchesReferenceUpto_row_tie rfl ⟨rfl,rfl⟩ (by kernel_rfl) rfl Yn (by kernel_rfl)
#print axioms matches_holds
end Go.Proofs.YthhlipkkjippfaaGreatDoor
