/-
  SoundVisitsUpto: whatever the input of bulk at most 1048576 (all values that come in, counted together), the call returns true and each argument reads as it did.
  The package variable naturals holds what the program's text lays (tied by the card).
-/
import Derived.Test.YthhlipkkjippfaaGreatDoorX9
set_option linter.all false
namespace Go.Proofs.YthhlipkkjippfaaGreatDoor
open Go Go.ag Go.Sy Go.RowKit Go.ChangeShapes Go.WideShapes
attribute [local instance] nF
theorem aaU(j:Ty.den (.st 13))(G:cJ 9 (.st 13) j<=1048576)(O:kO 9 (.st 13) j)(B:Ty.den (.st 14))(M:cJ 9 (.st 14) B<=1048576)(U:kO 9 (.st 14) B)(F:Ty.den (.int .u8))(N:cJ 9 (.int .u8) F<=1048576)(Y:kO 9 (.int .u8) F):fE Tryz.prog 6 [Ty.enc (.st 13) j,Ty.enc (.st 14) B,Ty.enc (.int .u8) F] (.bool true):=PW.k.ly (j,B,F) true (VP j G O B M U F N Y)
set_option maxRecDepth 100000 in
theorem aaL(H:Type)(en:TypeId×Value->H)(W:World)(base:Nat)(k:Array Value)(ds Y:List (DataW H))(ah:List MemPlace)(az:∀(j:Nat) t v,Tryz.f6.params[j]?=some t->k[j]?=some v->Value.okWide Tryz.prog W .any base t v)(Z:DataW.Whole en Tryz.prog Tryz.f6.params.toList Rows.soundVisitsSpec.vars false W k.toList ds Y ah)(B:Rows.uptoSmall H (ds++Y)=true)(ar:laidMetH Tryz.prog Rows.soundVisitsUptoRow.laid W) :
  Calls Tryz.prog 6 k W λe U=>∃v,e=.returned v/\Rows.soundVisitsSpec.post en Tryz.prog Tryz.f6 false true false false W k v U:=by
 have G:∀(j:Nat) t v,Tryz.f6.params[j]?=some t->k[j]?=some v->Value.okWide Tryz.prog W .any base t v:=az
 have N:=Z
 obtain⟨p,q,aq,au,rfl,_,_⟩:=Z
 have M:DataW.TrodAll en Tryz.prog W 0 (λ_=>true) true Tryz.f6.params.toList k.toList ds p:=aq
 obtain⟨rfl,rfl⟩:=trodVars_none au
 have av:=M
 rw[Tryz.params6]at M G
 obtain⟨aK,aL,aM,ai,aj,ak,aE,aF,aG,rfl,rfl,rfl,al,an,ao⟩:=trodAll_three M
 simp only[mb]at N B
 obtain⟨ab,b0,aB,aH⟩:=Cl (f:=9) oe (ty:=36) (t:=.st 13) (by kernel_rfl) rfl (G 0 36 aK rfl rfl) al
 obtain⟨ad,af,aC,aI⟩:=Cl (f:=9) oe (ty:=39) (t:=.st 14) (by kernel_rfl) rfl (G 1 39 aL rfl rfl) an
 obtain⟨ae,ag,aD,aJ⟩:=Cl (f:=9) oe (ty:=5) (t:=.int .u8) (by kernel_rfl) rfl (G 2 5 aM rfl rfl) ao
 refine(YL (aaU ab (hJ b0 (GA B (d:=ai) (by simp))) aB ad (hJ af (GA B (d:=aj) (by simp))) aC ae (hJ ag (GA B (d:=ak) (by simp))) aD) (dz ar) rfl (λi v d F O=>?_)).mono λe U ⟨v,J,aw,aa,ay⟩=>?_
 ·rcases i with _|_|_|i
  ·cases F;cases O;exact aH
  ·cases F;cases O;exact aI
  ·cases F;cases O;exact aJ
  simp at F
 subst aw
 cases ay
 have ax:∀x∈aE++aF++aG,x.block<W.heap.size:=λx aA=>by simpa using N.lt x (by simpa using aA)
 exact⟨_,rfl,_,_,_,[],_,[],N,trodAll_mk1 (Y7 true),Ox laidOut aa (by kernel_rfl) av ax,rfl,aa.frame _,λh=>by cases h⟩
noncomputable def Hb(j:Os):World:=
 {World.holding Tryz.prog j ⟨#[],#[],[]⟩with heap:=(World.holding Tryz.prog j ⟨#[],#[],[]⟩).heap.modify 0 λ
   |.cells _ t frozen=>.cells #[.int .i64 0,.int .i64 2,.int .i64 4,.int .i64 5,.int .i64 7,.int .i64 9,.int .i64 11] t frozen
   |o=>o}
def aaS(j:Os):laidMet Tryz.prog Rows.soundVisitsUptoRow.laid ((Hb j).forCall (λ_ _=>0) ⟨#[],#[.agg #[.int .i64 0,.slice none 0 0,.slice none 0 0,.slice none 0 0,.int .i64 0,.slice none 0 0,.slice none 0 0,.int .i64 0,.int .i64 0,.int .i64 0,.slice none 0 0,.slice none 0 0],.agg #[.int .i64 0,.int .i64 0,.slice none 0 0,.slice none 0 0,.int .i64 0,.int .i64 0,.int .i64 0,.slice none 0 0,.slice none 0 0],.int .u8 0],[]⟩).memory:=laidMet_of_run' 8 (by kernel_rfl) (by kernel_rfl)
def aaV(j:Os){H:Type}(en:TypeId×Value->H):∃k,DataW.whole en Tryz.prog ((Hb j).forCall (λ_ _=>0) ⟨#[],#[.agg #[.int .i64 0,.slice none 0 0,.slice none 0 0,.slice none 0 0,.int .i64 0,.slice none 0 0,.slice none 0 0,.int .i64 0,.int .i64 0,.int .i64 0,.slice none 0 0,.slice none 0 0],.agg #[.int .i64 0,.int .i64 0,.slice none 0 0,.slice none 0 0,.int .i64 0,.int .i64 0,.int .i64 0,.slice none 0 0,.slice none 0 0],.int .u8 0],[]⟩).memory Tryz.f6.params.toList Rows.soundVisitsSpec.vars false (#[.agg #[.int .i64 0,.slice none 0 0,.slice none 0 0,.slice none 0 0,.int .i64 0,.slice none 0 0,.slice none 0 0,.int .i64 0,.int .i64 0,.int .i64 0,.slice none 0 0,.slice none 0 0],.agg #[.int .i64 0,.int .i64 0,.slice none 0 0,.slice none 0 0,.int .i64 0,.int .i64 0,.int .i64 0,.slice none 0 0,.slice none 0 0],.int .u8 0]:Array Value).toList 8=some ([.agg [.agg [.lit (.int .i64 0),.nil,.nil,.nil],.agg [.lit (.int .i64 0),.nil,.nil,.agg [.lit (.int .i64 0),.lit (.int .i64 0),.lit (.int .i64 0)],.nil],.nil],.agg [.lit (.int .i64 0),.agg [.lit (.int .i64 0),.nil,.nil,.agg [.lit (.int .i64 0),.lit (.int .i64 0),.lit (.int .i64 0)],.nil],.nil],.lit (.int .u8 0)],[],k):=⟨[],by kernel_rfl⟩
set_option maxRecDepth 100000 in
theorem aaR(j:Os)(ab:j.Started)(H:Type)(en:TypeId×Value->H)(F:Stop.Interp) :
  ReturnsInHanded {} Tryz.checked j 6 .any ((Rows.OpenSpec.upto Rows.soundVisitsSpec).preRow en Tryz.prog Tryz.f6 Rows.soundVisitsUptoRow.domain false Rows.soundVisitsUptoRow.laid) (((Rows.OpenSpec.upto Rows.soundVisitsSpec).at F).post en Tryz.prog Tryz.f6 false true false false):=by
 obtain⟨ad,aa⟩:=aaV j en
 refine returnsInHanded_of_row (C:=Tryz.checked) (s:=Rows.OpenSpec.upto Rows.soundVisitsSpec) own ab (by kernel_rfl) Tryz.func6
  (
   witness_row_at (enc:=en) (C:=Tryz.checked) false (Hb j) #[.agg #[.int .i64 0,.slice none 0 0,.slice none 0 0,.slice none 0 0,.int .i64 0,.slice none 0 0,.slice none 0 0,.int .i64 0,.int .i64 0,.int .i64 0,.slice none 0 0,.slice none 0 0],.agg #[.int .i64 0,.int .i64 0,.slice none 0 0,.slice none 0 0,.int .i64 0,.int .i64 0,.int .i64 0,.slice none 0 0,.slice none 0 0],.int .u8 0] rfl (by kernel_rfl) (by kernel_rfl) (by kernel_rfl)
   (OpenSpec.preRow_of_cond 8 aa (by kernel_rfl) (λk Y=>by cases Y;kernel_rfl) (by kernel_rfl) (aaS j))) ?_
 intro W base B ds M G Z O _ U _ N _ _
 exact aaL H en W base B ds M G Z O (U _ rfl) N
def aaN:(Rows.soundVisitsUptoRow.inPlace == Tryz.pinned.checked.prog.inPlace 6)=true:=by kernel_rfl
def aaP:(Rows.soundVisitsUptoRow.unfollowed == Tryz.pinned.checked.prog.unfollowed 6)=true:=by kernel_rfl
def aaO:(Rows.soundVisitsUptoRow.recurses == Tryz.pinned.checked.prog.recurses 6)=true:=by kernel_rfl
def aaQ:(Rows.soundVisitsUptoRow.named == Tryz.pinned.checked.prog.varsNamed 6)=true:=by kernel_rfl
def aaM:joinedFacts Tryz.pinned.checked.prog 6 Tryz.f6 (Rows.OpenSpec.upto Rows.soundVisitsSpec).bare Rows.soundVisitsUptoRow=true:=by
 unfold joinedFacts
 rw[aaN,aaP,aaO,aaQ]
 kernel_rfl
def aaW:Rows.SoundVisitsUptoSaid:=
 OpenClaim.holds_of_cond 6 Tryz.f6 rfl rfl rfl rfl rfl rfl rfl ⟨rfl,rfl,rfl,rfl,rfl⟩ rfl rfl rfl rfl rfl (by kernel_rfl) Tryz.func6 aaM
  (hA (by kernel_rfl)) (by unfold Func.isWrapper;first| (rw[if_pos (by decide +kernel)];kernel_rfl)| (rw[if_neg (by decide +kernel)];exact⟨rfl,rfl⟩))
  (λj k H en _ F=>by rw[OpenClaim.pre_eq_preRow];exact aaR j k H en F)
def aaT(f:FuncId)(fn:Func)(k:Tryz.pinned.checked.prog.funcNamed "partbook/partbooklaw33.SoundVisits" = some f)(B:Tryz.pinned.checked.prog.funcs[f]?=some fn) :
  false=Tryz.pinned.checked.prog.looks []/\∀(j:Nat) t,fn.params[j]?=some t->Tryz.pinned.checked.prog.wantsStandIn t=false:=by
 obtain rfl:f=6:=pa ((show Tryz.prog.funcNamed "partbook/partbooklaw33.SoundVisits" = some 6 by kernel_rfl).symm.trans k) |>.symm
 obtain rfl:fn=Tryz.f6:=(pa (Tryz.func6.symm.trans B)).symm
 refine⟨by kernel_rfl,λj t ht=>?_⟩
 rw[Tryz.params6]at ht
 have h:∀t∈[36,39,5],Tryz.prog.wantsStandIn t=false:=by
  intro t ht
  simp only[fb,u0,or_false]at ht
  rcases ht with rfl|rfl|rfl<;>kernel_rfl
 exact h t (by simpa using Array.mem_of_getElem? ht)
def visits_holds:Rows.SoundVisitsUptoCardSaid:=Claim7.holds_tied_plain_at .later [] _ _ _ _ aaW (λ_ h=>by cases h) (by kernel_rfl) (λ_ h=>by cases h) soundVisitsUpto_row_tie rfl ⟨rfl,rfl⟩ (by kernel_rfl) rfl aaT (by kernel_rfl)
#print axioms visits_holds
end Go.Proofs.YthhlipkkjippfaaGreatDoor