/-
  EditsUndoUpto: whatever the input of bulk at most 1048576 (all values that come in, counted together), the call returns true and each argument reads as it did.
  The package variable naturals holds what the program's text lays (tied by the card).
-/
import Derived.Test.YtjigeffmmcmlnaaGreatDoorX21
import Derived.Test.YtjigeffmmcmlnaaGreatDoorYk1
set_option linter.all false
set_option linter.unnecessarySimpa false
set_option linter.deprecated false
set_option linter.unusedVariables false
set_option linter.unusedSimpArgs false
set_option linter.unusedSectionVars false
namespace Go.Proofs.YtjigeffmmcmlnaaGreatDoor
open Go Go.an Go.RowKit Go.ChangeShapes Go.WideShapes
set_option linter.unusedVariables false
theorem azt (s:Score) (l:List aa) (hs:s.bars.length≤1048576) (hl:l.length≤1048576):ee Tryz.prog 8 [au.enc s,au.enc l] (.bool true):=by
  have he:=auV hs hl
  have h:=ok8.AH [au.enc s,au.enc l] _ _ rfl (by simp only[au.lj,he];exact⟨trivial,trivial,rfl⟩)
  simp only[au.lj,he] at h
  exact h
set_option maxRecDepth 100000 in
theorem aAq (H:Type) (en:TypeId×Value→H) (W:World) (base:Nat) (args:Array Value) (ds gs:List (DataW H)) (before:List MemPlace)
    (yD:∀ (j:Nat) t v,Tryz.f8.params[j]?=some t→args[j]?=some v→Value.okWide Tryz.prog W .any base t v)
    (hW:DataW.Whole en Tryz.prog Tryz.f8.params.toList Rows.editsUndoSpec.vars false W args.toList ds gs before) (hk:Rows.uptoSmall H (ds++gs)=true) (hL:laidMetH Tryz.prog Rows.editsUndoUptoRow.laid W) :
    Calls Tryz.prog 8 args W fun e W'=>∃ v,e = .returned v∧Rows.editsUndoSpec.post en Tryz.prog Tryz.f8 false true false false W args v W':=by
  have eH:∀ (j:Nat) t v,Tryz.f8.params[j]?=some t→args[j]?=some v→Value.okWide Tryz.prog W .any base t v:=yD
  have oy:=hW
  obtain⟨p,q,yi,hV,rfl,_,_⟩:=hW
  have hA:DataW.TrodAll en Tryz.prog W 0 (fun _=>true) true Tryz.f8.params.toList args.toList ds p:=yi
  obtain⟨rfl,rfl⟩:=trodVars_none hV
  have dV:=hA
  rw[Tryz.params8] at hA eH
  obtain⟨v0,v1,d0,d1,p0,p1,rfl,rfl,rfl,h0,h1⟩:=trodAll_two hA
  simp only[List.append_nil] at oy hk
  obtain⟨s,EL,r0⟩:=DP SV (fun _=>rfl) Tryz.underlying26 (eH 0 26 v0 rfl rfl) h0
  have DR:=tA hk (d:=d0) (by simp)
  obtain⟨l,h_l,r1⟩:=Ax Dd (fun _=>rfl) (eH 1 27 v1 rfl rfl) (by kernel_rfl) h1
  have b_l:=tA hk (d:=d1) (by simp)
  have hs:s.bars.length≤1048576:=Qw EL DR
  have hl:l.length≤1048576:=AN h_l b_l
  refine(Jb (azt s l hs hl) (dS hL) rfl (fun i v d hv hd=>?_)).mono fun e W' ⟨v,J,he,hb,hr⟩=>?_
  · rcases i with _ | _ | i
    · cases hv;cases hd;exact r0
    · cases hv;cases hd;exact r1
    · simp at hv
  subst he
  cases hr
  have aN:∀ x∈p0++p1,x.block < W.heap.size:=fun x hx=>by simpa using oy.lt x (by simpa using hx)
  exact⟨_,rfl,_,_,_,[],_,[],oy,trodAll_mk1 (Je true),F9 laidOut hb (by kernel_rfl) dV aN,rfl,hb.frame _,fun h=>by cases h⟩
noncomputable def adf (os:Os):World:=
  { World.holding Tryz.prog os ⟨#[],#[],[]⟩ with heap:=(World.holding Tryz.prog os ⟨#[],#[],[]⟩).heap.modify 0 fun
      | .cells _ t frozen=> .cells #[.int .i64 0,.int .i64 2,.int .i64 4,.int .i64 5,.int .i64 7,.int .i64 9,.int .i64 11] t frozen
      | o=>o }
theorem aAu (os:Os):laidMet Tryz.prog Rows.editsUndoUptoRow.laid ((adf os).forCall (fun _ _=>0) ⟨#[],#[.agg #[.int .i64 0,.slice none 0 0,.slice none 0 0,.slice none 0 0],.slice none 0 0],[]⟩).memory:=
  laidMet_of_run' 8 (by kernel_rfl) (by kernel_rfl)
theorem aAw (os:Os) {H:Type} (en:TypeId×Value→H):∃ places,DataW.whole en Tryz.prog ((adf os).forCall (fun _ _=>0) ⟨#[],#[.agg #[.int .i64 0,.slice none 0 0,.slice none 0 0,.slice none 0 0],.slice none 0 0],[]⟩).memory Tryz.f8.params.toList Rows.editsUndoSpec.vars false (#[.agg #[.int .i64 0,.slice none 0 0,.slice none 0 0,.slice none 0 0],.slice none 0 0]:Array Value).toList 8=some ([.agg [.lit (.int .i64 0),.nil,.nil,.nil],.nil],[],places):=
  ⟨[],by kernel_rfl⟩
set_option maxRecDepth 100000 in
theorem aAs (os:Os) (started:os.Started) (H:Type) (en:TypeId×Value→H) (F:Stop.Interp) :
    ReturnsInHanded {} Tryz.checked os 8 .any ((Rows.OpenSpec.upto Rows.editsUndoSpec).preRow en Tryz.prog Tryz.f8 Rows.editsUndoUptoRow.domain false Rows.editsUndoUptoRow.laid) (((Rows.OpenSpec.upto Rows.editsUndoSpec).at F).post en Tryz.prog Tryz.f8 false true false false):=by
  obtain⟨places,hx⟩:=aAw os en
  refine returnsInHanded_of_row (C:=Tryz.checked) (s:=Rows.OpenSpec.upto Rows.editsUndoSpec) own started (by kernel_rfl) Tryz.func8
    (witness_row_at (enc:=en) (C:=Tryz.checked) false (adf os) #[.agg #[.int .i64 0,.slice none 0 0,.slice none 0 0,.slice none 0 0],.slice none 0 0] rfl (by kernel_rfl) (by kernel_rfl) (by kernel_rfl)
      (OpenSpec.preRow_of_cond 8 hx (by kernel_rfl) (fun k hk=>by cases hk;kernel_rfl) (by kernel_rfl) (aAu os))) ?_
  intro W base args ds gs before eH hW _ oT _ hL _ _
  exact aAq H en W base args ds gs before eH hW (oT _ rfl) hL
theorem aAx:Rows.EditsUndoUptoSaid:=
  OpenClaim.holds_of_cond 8 Tryz.f8 rfl rfl rfl rfl rfl rfl rfl ⟨rfl,rfl,rfl,rfl,rfl⟩ rfl rfl rfl rfl rfl (by kernel_rfl) Tryz.func8 (by kernel_rfl)
    (of_decide_eq_true (by kernel_rfl)) (by unfold Func.isWrapper;first | (rw[if_pos (by decide +kernel)];kernel_rfl) | (rw[if_neg (by decide +kernel)];exact⟨rfl,rfl⟩))
    (fun os started H en _ F=>by rw[OpenClaim.pre_eq_preRow];exact aAs os started H en F)
theorem aAv (f:FuncId) (fn:Func) (hf:Tryz.pinned.checked.prog.funcNamed "partbook/partbooklaw24.EditsUndo" = some f) (qp:Tryz.pinned.checked.prog.funcs[f]?=some fn) :
    false=Tryz.pinned.checked.prog.looks []∧∀ (j:Nat) t,fn.params[j]?=some t→Tryz.pinned.checked.prog.wantsStandIn t=false:=by
  obtain rfl:f=8:=Option.some.inj ((show Tryz.prog.funcNamed "partbook/partbooklaw24.EditsUndo" = some 8 by kernel_rfl).symm.trans hf) |>.symm
  obtain rfl:fn=Tryz.f8:=(Option.some.inj (Tryz.func8.symm.trans qp)).symm
  refine⟨by kernel_rfl,fun j t ht=>?_⟩
  rw[Tryz.params8] at ht
  have h:∀ t∈[26,27],Tryz.prog.wantsStandIn t=false:=by
    intro t ht
    simp only[List.mem_cons,List.not_mem_nil,or_false] at ht
    rcases ht with rfl | rfl<;>kernel_rfl
  exact h t (by simpa using Array.mem_of_getElem? ht)
theorem undo_holds:Rows.EditsUndoUptoCardSaid:=
  Claim7.holds_tied_plain_at .later [] _ _ _ _ aAx (fun _ h=>by cases h) (by kernel_rfl) (fun _ h=>by cases h) editsUndoUpto_row_tie rfl ⟨rfl,rfl⟩ (by kernel_rfl) rfl aAv (by kernel_rfl)
#print axioms undo_holds
end Go.Proofs.YtjigeffmmcmlnaaGreatDoor
