/-
  RoomWaitsUpto: whatever the input of bulk at most 1048576 (all values that come in, counted together), the call returns true and each argument reads as it did.
  The package variables errors.errorType and naturals hold what the program's text lays (tied by the card).
-/
import Derived.Test.YtioaemdeeebgcaaGreatDoorX8
set_option linter.all false
namespace Go.Proofs.YtioaemdeeebgcaaGreatDoor
open Go Go.af Go.Sy Go.RowKit Go.ChangeShapes Go.WideShapes
attribute [local instance] jB
theorem Uz:AW.c.fn=qQ:=by kernel_rfl
theorem UH(j:Ty.den (.list (.st 24)))(F:fW 9 (.list (.st 24)) j≤1048576)(M:jA 9 (.list (.st 24)) j)(B:Ty.den (.list (.st 3)))(G:fW 9 (.list (.st 3)) B≤1048576)(O:jA 9 (.list (.st 3)) B):jh Tryz.prog 3 [Ty.enc (.list (.st 24)) j,Ty.enc (.list (.st 3)) B] (.bool true):=
 AW.k.jX (j,B) true ((congrFun Uz (j,B)).trans (NC j F M B G O))
set_option maxRecDepth 100000 in
theorem Uv(H:Type)(en:TypeId×Value→H)(W:World)(base:Nat)(k:Array Value)(ds Y:List (DataW H))(ag:List MemPlace)(aw:∀(j:Nat) t v,Tryz.f3.params[j]?=some t→k[j]?=some v→Value.okWide Tryz.prog W .any base t v)(Z:DataW.Whole en Tryz.prog Tryz.f3.params.toList Rows.roomWaitsSpec.vars false W k.toList ds Y ag)(G:Rows.uptoSmall H (ds++Y)=true)(an:laidMetH Tryz.prog Rows.roomWaitsUptoRow.laid W) :
  Calls Tryz.prog 3 k W λe U=>∃v,e=.returned v∧Rows.roomWaitsSpec.post en Tryz.prog Tryz.f3 false true false false W k v U:=by
 have O:∀(j:Nat) t v,Tryz.f3.params[j]?=some t→k[j]?=some v→Value.okWide Tryz.prog W .any base t v:=aw
 have F:=Z
 obtain⟨p,q,al,ao,rfl,_,_⟩:=Z
 have B:DataW.TrodAll en Tryz.prog W 0 (λ_=>true) true Tryz.f3.params.toList k.toList ds p:=al
 obtain⟨rfl,rfl⟩:=trodVars_none ao
 have aq:=B
 rw[Tryz.params3]at B O
 obtain⟨aE,aF,ah,ai,aA,aB,rfl,rfl,rfl,aj,ak⟩:=trodAll_two B
 simp only[List.append_nil]at F G
 obtain⟨ad,b0,ay,aC⟩:=AL (f:=9) ox (ty:=22) (t:=.list (.st 24)) (by kernel_rfl) rfl (O 0 22 aE rfl rfl) aj
 obtain⟨ae,af,az,aD⟩:=AL (f:=9) ox (ty:=23) (t:=.list (.st 3)) (by kernel_rfl) rfl (O 1 23 aF rfl rfl) ak
 refine(SK (UH ad (Nat.le_trans b0 (IA G (d:=ah) (by simp))) ay ae (Nat.le_trans af (IA G (d:=ai) (by simp))) az) (c9 an) rfl (λi v d M ab=>?_)).mono λe U ⟨v,J,ar,aa,av⟩=>?_
 ·rcases i with _|_|i
  ·cases M;cases ab;exact aC
  ·cases M;cases ab;exact aD
  simp at M
 subst ar
 cases av
 have au:∀x∈aA++aB,x.block<W.heap.size:=λx ax=>by simpa using F.lt x (by simpa using ax)
 exact⟨_,rfl,_,_,_,[],_,[],F,trodAll_mk1 (S5 true),I8 laidOut aa (by kernel_rfl) aq au,rfl,aa.frame _,λh=>by cases h⟩
noncomputable def Aq(j:Os):World:=
 let w0:=World.holding Tryz.prog j ⟨#[],#[],[]⟩
 {w0 with heap:=(w0.heap.modify 0 λ
   |.cells _ t frozen=>.cells #[.int .i64 0,.int .i64 2,.int .i64 4,.int .i64 5,.int .i64 7,.int .i64 9,.int .i64 11] t frozen
   |o=>o).modify 1 λ
   |.cells _ t frozen=>.cells #[.iface 446 (.agg #[.pointer (some ⟨2,257,none⟩)])] t frozen
   |o=>o}
theorem UE(j:Os):laidMetH Tryz.prog Rows.roomWaitsUptoRow.laid ((Aq j).forCall (λ_ _=>0) ⟨#[],#[.slice none 0 0,.slice none 0 0],[]⟩).memory:=
 laidMetH_of_parts (laidMet_of_run' 8 (by kernel_rfl) (by kernel_rfl)) (by kernel_rfl)
theorem UI(j:Os){H:Type}(en:TypeId×Value→H):∃k,DataW.whole en Tryz.prog ((Aq j).forCall (λ_ _=>0) ⟨#[],#[.slice none 0 0,.slice none 0 0],[]⟩).memory Tryz.f3.params.toList Rows.roomWaitsSpec.vars false (#[.slice none 0 0,.slice none 0 0]:Array Value).toList 8=some ([.nil,.nil],[],k):=
 ⟨[],by kernel_rfl⟩
set_option maxRecDepth 100000 in
theorem UD(j:Os)(ad:j.Started)(H:Type)(en:TypeId×Value→H)(F:Stop.Interp) :
  ReturnsInHanded {} Tryz.checked j 3 .any ((Rows.OpenSpec.upto Rows.roomWaitsSpec).preRow en Tryz.prog Tryz.f3 Rows.roomWaitsUptoRow.domain false Rows.roomWaitsUptoRow.laid) (((Rows.OpenSpec.upto Rows.roomWaitsSpec).at F).post en Tryz.prog Tryz.f3 false true false false):=by
 obtain⟨ae,ab⟩:=UI j en
 refine returnsInHanded_of_row (C:=Tryz.checked) (s:=Rows.OpenSpec.upto Rows.roomWaitsSpec) own ad (by kernel_rfl) Tryz.func3
  (
   witness_row_at (enc:=en) (C:=Tryz.checked) false (Aq j) #[.slice none 0 0,.slice none 0 0] rfl (by kernel_rfl) (by kernel_rfl) (by kernel_rfl)
   (OpenSpec.preRow_of_cond 8 ab (by kernel_rfl) (λk Z=>by cases Z;kernel_rfl) (by kernel_rfl) (UE j))) ?_
 intro W base B ds M G aa U _ Y _ O _ _
 exact Uv H en W base B ds M G aa U (Y _ rfl) O
theorem Uy:(Rows.roomWaitsUptoRow.inPlace == Tryz.pinned.checked.prog.inPlace 3)=true:=by kernel_rfl
theorem UB:(Rows.roomWaitsUptoRow.unfollowed == Tryz.pinned.checked.prog.unfollowed 3)=true:=by kernel_rfl
theorem UA:(Rows.roomWaitsUptoRow.recurses == Tryz.pinned.checked.prog.recurses 3)=true:=by kernel_rfl
theorem UC:(Rows.roomWaitsUptoRow.named == Tryz.pinned.checked.prog.varsNamed 3)=true:=by kernel_rfl
theorem Ux:joinedFacts Tryz.pinned.checked.prog 3 Tryz.f3 (Rows.OpenSpec.upto Rows.roomWaitsSpec).bare Rows.roomWaitsUptoRow=true:=by
 unfold joinedFacts
 rw[Uy,UB,UA,UC]
 kernel_rfl
theorem UJ:Rows.RoomWaitsUptoSaid:=
 OpenClaim.holds_of_cond 3 Tryz.f3 rfl rfl rfl rfl rfl rfl rfl ⟨rfl,rfl,rfl,rfl,rfl⟩ rfl rfl rfl rfl rfl (by kernel_rfl) Tryz.func3 Ux
  (of_decide_eq_true (by kernel_rfl)) (by unfold Func.isWrapper;first| (rw[if_pos (by decide +kernel)];kernel_rfl)| (rw[if_neg (by decide +kernel)];exact⟨rfl,rfl⟩))
  (λj k H en _ F=>by rw[OpenClaim.pre_eq_preRow];exact UD j k H en F)
theorem UG(f:FuncId)(fn:Func)(B:Tryz.pinned.checked.prog.funcNamed "partbook/partbooklaw41.RoomWaits" = some f)(F:Tryz.pinned.checked.prog.funcs[f]?=some fn) :
  true=Tryz.pinned.checked.prog.looks []∧∀(j:Nat) t,fn.params[j]?=some t→Tryz.pinned.checked.prog.wantsStandIn t=false:=by
 obtain rfl:f=3:=Option.some.inj ((show Tryz.prog.funcNamed "partbook/partbooklaw41.RoomWaits" = some 3 by kernel_rfl).symm.trans B) |>.symm
 obtain rfl:fn=Tryz.f3:=(Option.some.inj (Tryz.func3.symm.trans F)).symm
 refine⟨by kernel_rfl,λj t k=>?_⟩
 rw[Tryz.params3]at k
 have h:∀t∈[22,23],Tryz.prog.wantsStandIn t=false:=by
  intro t k
  simp only[List.mem_cons,List.not_mem_nil,or_false]at k
  rcases k with rfl|rfl<;>kernel_rfl
 exact h t (by simpa using Array.mem_of_getElem? k)
theorem waits_holds:Rows.RoomWaitsUptoCardSaid:=
 Claim7.holds_tied_plain_at .later [] _ _ _ _ UJ (λ_ h=>by cases h) (by kernel_rfl) (λ_ h=>by cases h) roomWaitsUpto_row_tie rfl ⟨rfl,rfl⟩ (by kernel_rfl) rfl UG (by kernel_rfl)
#print axioms waits_holds
end Go.Proofs.YtioaemdeeebgcaaGreatDoor
