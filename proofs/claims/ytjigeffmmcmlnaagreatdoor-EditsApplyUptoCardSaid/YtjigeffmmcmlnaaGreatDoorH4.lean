/-
  EditsApplyUpto: whatever the input of bulk at most 1048576 (all values that come in, counted together), the call returns true and each argument reads as it did.
  The package variable naturals holds what the program's text lays (tied by the card).
-/
import Derived.Test.YtjigeffmmcmlnaaGreatDoorX21
import Derived.Test.YtjigeffmmcmlnaaGreatDoorYg1
import Derived.Test.YtjigeffmmcmlnaaGreatDoorYa1
set_option linter.all false
set_option linter.unnecessarySimpa false
set_option linter.deprecated false
set_option linter.unusedVariables false
set_option linter.unusedSimpArgs false
set_option linter.unusedSectionVars false
namespace Go.Proofs.YtjigeffmmcmlnaaGreatDoor
open Go Go.an Go.RowKit Go.ChangeShapes Go.WideShapes
set_option linter.unusedVariables false
theorem azp (s:Score) (x:aa) (hs:s.bars.length≤1048576):ee Tryz.prog 4 [au.enc s,au.enc x] (.bool true):=by
  have he:=auP x hs
  have h:=ok4.AH [au.enc s,au.enc x] _ _ rfl (by simp only[au.lj,he];exact⟨trivial,trivial,rfl⟩)
  simp only[au.lj,he] at h
  exact h
set_option maxRecDepth 100000 in
theorem ang (H:Type) (en:TypeId×Value→H) (W:World) (base:Nat) (args:Array Value) (ds gs:List (DataW H)) (before:List MemPlace)
    (yD:∀ (j:Nat) t v,Tryz.f4.params[j]?=some t→args[j]?=some v→Value.okWide Tryz.prog W .any base t v)
    (hW:DataW.Whole en Tryz.prog Tryz.f4.params.toList Rows.editsApplySpec.vars false W args.toList ds gs before) (hk:Rows.uptoSmall H (ds++gs)=true) (hL:laidMetH Tryz.prog Rows.editsApplyUptoRow.laid W) :
    Calls Tryz.prog 4 args W fun e W'=>∃ v,e = .returned v∧Rows.editsApplySpec.post en Tryz.prog Tryz.f4 false true false false W args v W':=by
  have eH:∀ (j:Nat) t v,Tryz.f4.params[j]?=some t→args[j]?=some v→Value.okWide Tryz.prog W .any base t v:=yD
  have oy:=hW
  obtain⟨p,q,yi,hV,rfl,_,_⟩:=hW
  have hA:DataW.TrodAll en Tryz.prog W 0 (fun _=>true) true Tryz.f4.params.toList args.toList ds p:=yi
  obtain⟨rfl,rfl⟩:=trodVars_none hV
  have dV:=hA
  rw[Tryz.params4] at hA eH
  obtain⟨v0,v1,d0,d1,p0,p1,rfl,rfl,rfl,h0,h1⟩:=trodAll_two hA
  simp only[List.append_nil] at oy hk
  obtain⟨s,EL,r0⟩:=DP SV (fun _=>rfl) Tryz.underlying26 (eH 0 26 v0 rfl rfl) h0
  have DR:=tA hk (d:=d0) (by simp)
  obtain⟨x,h_x,r1⟩:=DP SX (fun _=>rfl) Tryz.underlying52 (eH 1 52 v1 rfl rfl) h1
  have b_x:=tA hk (d:=d1) (by simp)
  have hs:s.bars.length≤1048576:=Qw EL DR
  refine(Jb (azp s x hs) (dS hL) rfl (fun i v d hv hd=>?_)).mono fun e W' ⟨v,J,he,hb,hr⟩=>?_
  · rcases i with _ | _ | i
    · cases hv;cases hd;exact r0
    · cases hv;cases hd;exact r1
    · simp at hv
  subst he
  cases hr
  have aN:∀ x∈p0++p1,x.block < W.heap.size:=fun x hx=>by simpa using oy.lt x (by simpa using hx)
  exact⟨_,rfl,_,_,_,[],_,[],oy,trodAll_mk1 (Je true),F9 laidOut hb (by kernel_rfl) dV aN,rfl,hb.frame _,fun h=>by cases h⟩
noncomputable def UY (os:Os):World:=
  { World.holding Tryz.prog os ⟨#[],#[],[]⟩ with heap:=(World.holding Tryz.prog os ⟨#[],#[],[]⟩).heap.modify 0 fun
      | .cells _ t frozen=> .cells #[.int .i64 0,.int .i64 2,.int .i64 4,.int .i64 5,.int .i64 7,.int .i64 9,.int .i64 11] t frozen
      | o=>o }
theorem ani (os:Os):laidMet Tryz.prog Rows.editsApplyUptoRow.laid ((UY os).forCall (fun _ _=>0) ⟨#[],#[.agg #[.int .i64 0,.slice none 0 0,.slice none 0 0,.slice none 0 0],.agg #[.int .i64 0,.int .i64 0,.int .i64 0,.int .i64 0,.int .i64 0,.int .i64 0,.int .i64 0,.int .i64 0,.int .i64 0,.int .i64 0,.int .i64 0,.int .i64 0,.int .i64 0,.int .i64 0,.int .i64 0]],[]⟩).memory:=
  laidMet_of_run' 8 (by kernel_rfl) (by kernel_rfl)
theorem ank (os:Os) {H:Type} (en:TypeId×Value→H):∃ places,DataW.whole en Tryz.prog ((UY os).forCall (fun _ _=>0) ⟨#[],#[.agg #[.int .i64 0,.slice none 0 0,.slice none 0 0,.slice none 0 0],.agg #[.int .i64 0,.int .i64 0,.int .i64 0,.int .i64 0,.int .i64 0,.int .i64 0,.int .i64 0,.int .i64 0,.int .i64 0,.int .i64 0,.int .i64 0,.int .i64 0,.int .i64 0,.int .i64 0,.int .i64 0]],[]⟩).memory Tryz.f4.params.toList Rows.editsApplySpec.vars false (#[.agg #[.int .i64 0,.slice none 0 0,.slice none 0 0,.slice none 0 0],.agg #[.int .i64 0,.int .i64 0,.int .i64 0,.int .i64 0,.int .i64 0,.int .i64 0,.int .i64 0,.int .i64 0,.int .i64 0,.int .i64 0,.int .i64 0,.int .i64 0,.int .i64 0,.int .i64 0,.int .i64 0]]:Array Value).toList 8=some ([.agg [.lit (.int .i64 0),.nil,.nil,.nil],.agg [.lit (.int .i64 0),.lit (.int .i64 0),.lit (.int .i64 0),.agg [.lit (.int .i64 0),.lit (.int .i64 0),.lit (.int .i64 0),.lit (.int .i64 0),.lit (.int .i64 0),.agg [.lit (.int .i64 0),.lit (.int .i64 0)],.agg [.lit (.int .i64 0),.lit (.int .i64 0)],.agg [.lit (.int .i64 0),.lit (.int .i64 0),.lit (.int .i64 0)]]]],[],places):=
  ⟨[],by kernel_rfl⟩
set_option maxRecDepth 100000 in
theorem anh (os:Os) (started:os.Started) (H:Type) (en:TypeId×Value→H) (F:Stop.Interp) :
    ReturnsInHanded {} Tryz.checked os 4 .any ((Rows.OpenSpec.upto Rows.editsApplySpec).preRow en Tryz.prog Tryz.f4 Rows.editsApplyUptoRow.domain false Rows.editsApplyUptoRow.laid) (((Rows.OpenSpec.upto Rows.editsApplySpec).at F).post en Tryz.prog Tryz.f4 false true false false):=by
  obtain⟨places,hx⟩:=ank os en
  refine returnsInHanded_of_row (C:=Tryz.checked) (s:=Rows.OpenSpec.upto Rows.editsApplySpec) own started (by kernel_rfl) Tryz.func4
    (witness_row_at (enc:=en) (C:=Tryz.checked) false (UY os) #[.agg #[.int .i64 0,.slice none 0 0,.slice none 0 0,.slice none 0 0],.agg #[.int .i64 0,.int .i64 0,.int .i64 0,.int .i64 0,.int .i64 0,.int .i64 0,.int .i64 0,.int .i64 0,.int .i64 0,.int .i64 0,.int .i64 0,.int .i64 0,.int .i64 0,.int .i64 0,.int .i64 0]] rfl (by kernel_rfl) (by kernel_rfl) (by kernel_rfl)
      (OpenSpec.preRow_of_cond 8 hx (by kernel_rfl) (fun k hk=>by cases hk;kernel_rfl) (by kernel_rfl) (ani os))) ?_
  intro W base args ds gs before eH hW _ oT _ hL _ _
  exact ang H en W base args ds gs before eH hW (oT _ rfl) hL
theorem anl:Rows.EditsApplyUptoSaid:=
  OpenClaim.holds_of_cond 4 Tryz.f4 rfl rfl rfl rfl rfl rfl rfl ⟨rfl,rfl,rfl,rfl,rfl⟩ rfl rfl rfl rfl rfl (by kernel_rfl) Tryz.func4 (by kernel_rfl)
    (of_decide_eq_true (by kernel_rfl)) (by unfold Func.isWrapper;first | (rw[if_pos (by decide +kernel)];kernel_rfl) | (rw[if_neg (by decide +kernel)];exact⟨rfl,rfl⟩))
    (fun os started H en _ F=>by rw[OpenClaim.pre_eq_preRow];exact anh os started H en F)
theorem anj (f:FuncId) (fn:Func) (hf:Tryz.pinned.checked.prog.funcNamed "partbook/partbooklaw24.EditsApply" = some f) (qp:Tryz.pinned.checked.prog.funcs[f]?=some fn) :
    false=Tryz.pinned.checked.prog.looks []∧∀ (j:Nat) t,fn.params[j]?=some t→Tryz.pinned.checked.prog.wantsStandIn t=false:=by
  obtain rfl:f=4:=Option.some.inj ((show Tryz.prog.funcNamed "partbook/partbooklaw24.EditsApply" = some 4 by kernel_rfl).symm.trans hf) |>.symm
  obtain rfl:fn=Tryz.f4:=(Option.some.inj (Tryz.func4.symm.trans qp)).symm
  refine⟨by kernel_rfl,fun j t ht=>?_⟩
  rw[Tryz.params4] at ht
  have h:∀ t∈[26,52],Tryz.prog.wantsStandIn t=false:=by
    intro t ht
    simp only[List.mem_cons,List.not_mem_nil,or_false] at ht
    rcases ht with rfl | rfl<;>kernel_rfl
  exact h t (by simpa using Array.mem_of_getElem? ht)
theorem apply_holds:Rows.EditsApplyUptoCardSaid:=
  Claim7.holds_tied_plain_at .later [] _ _ _ _ anl (fun _ h=>by cases h) (by kernel_rfl) (fun _ h=>by cases h) editsApplyUpto_row_tie rfl ⟨rfl,rfl⟩ (by kernel_rfl) rfl anj (by kernel_rfl)
#print axioms apply_holds
end Go.Proofs.YtjigeffmmcmlnaaGreatDoor
