/-
  EditsMergeUpto: whatever the input of bulk at most 1048576 (all values that come in, counted together), the call returns true and each argument reads as it did.
  The package variable naturals holds what the program's text lays (tied by the card).
-/
import Derived.Test.YtjigeffmmcmlnaaGreatDoorX21
import Derived.Test.YtjigeffmmcmlnaaGreatDoorYi1
import Derived.Test.YtjigeffmmcmlnaaGreatDoorYd1
set_option linter.all false
set_option linter.unnecessarySimpa false
set_option linter.deprecated false
set_option linter.unusedVariables false
set_option linter.unusedSimpArgs false
set_option linter.unusedSectionVars false
namespace Go.Proofs.YtjigeffmmcmlnaaGreatDoor
open Go Go.an Go.RowKit Go.ChangeShapes Go.WideShapes
set_option linter.unusedVariables false
theorem azr (a:List aa) (b:List aa) (c:List aa) (ha:a.length≤1048576) (hb:b.length≤1048576) (hc:c.length≤1048576):ee Tryz.prog 6 [au.enc a,au.enc b,au.enc c] (.bool true):=by
  have he:=auS ha hb hc
  have h:=ok6.AH [au.enc a,au.enc b,au.enc c] _ _ rfl (by simp only[au.lj,he];exact⟨trivial,trivial,trivial,rfl⟩)
  simp only[au.lj,he] at h
  exact h
set_option maxRecDepth 100000 in
theorem avq (H:Type) (en:TypeId×Value→H) (W:World) (base:Nat) (args:Array Value) (ds gs:List (DataW H)) (before:List MemPlace)
    (yD:∀ (j:Nat) t v,Tryz.f6.params[j]?=some t→args[j]?=some v→Value.okWide Tryz.prog W .any base t v)
    (hW:DataW.Whole en Tryz.prog Tryz.f6.params.toList Rows.editsMergeSpec.vars false W args.toList ds gs before) (hk:Rows.uptoSmall H (ds++gs)=true) (hL:laidMetH Tryz.prog Rows.editsMergeUptoRow.laid W) :
    Calls Tryz.prog 6 args W fun e W'=>∃ v,e = .returned v∧Rows.editsMergeSpec.post en Tryz.prog Tryz.f6 false true false false W args v W':=by
  have eH:∀ (j:Nat) t v,Tryz.f6.params[j]?=some t→args[j]?=some v→Value.okWide Tryz.prog W .any base t v:=yD
  have oy:=hW
  obtain⟨p,q,yi,hV,rfl,_,_⟩:=hW
  have hA:DataW.TrodAll en Tryz.prog W 0 (fun _=>true) true Tryz.f6.params.toList args.toList ds p:=yi
  obtain⟨rfl,rfl⟩:=trodVars_none hV
  have dV:=hA
  rw[Tryz.params6] at hA eH
  obtain⟨v0,v1,v2,d0,d1,d2,p0,p1,p2,rfl,rfl,rfl,h0,h1,h2⟩:=trodAll_three hA
  simp only[List.append_nil] at oy hk
  obtain⟨a,Lz,r0⟩:=Ax Dd (fun _=>rfl) (eH 0 27 v0 rfl rfl) (by kernel_rfl) h0
  have JU:=tA hk (d:=d0) (by simp)
  obtain⟨b,LA,r1⟩:=Ax Dd (fun _=>rfl) (eH 1 27 v1 rfl rfl) (by kernel_rfl) h1
  have JV:=tA hk (d:=d1) (by simp)
  obtain⟨c,h_c,r2⟩:=Ax Dd (fun _=>rfl) (eH 2 27 v2 rfl rfl) (by kernel_rfl) h2
  have b_c:=tA hk (d:=d2) (by simp)
  have ha:a.length≤1048576:=AN Lz JU
  have hb:b.length≤1048576:=AN LA JV
  have hc:c.length≤1048576:=AN h_c b_c
  refine(Jb (azr a b c ha hb hc) (dS hL) rfl (fun i v d hv hd=>?_)).mono fun e W' ⟨v,J,he,hb,hr⟩=>?_
  · rcases i with _ | _ | _ | i
    · cases hv;cases hd;exact r0
    · cases hv;cases hd;exact r1
    · cases hv;cases hd;exact r2
    · simp at hv
  subst he
  cases hr
  have aN:∀ x∈p0++p1++p2,x.block < W.heap.size:=fun x hx=>by simpa using oy.lt x (by simpa using hx)
  exact⟨_,rfl,_,_,_,[],_,[],oy,trodAll_mk1 (Je true),F9 laidOut hb (by kernel_rfl) dV aN,rfl,hb.frame _,fun h=>by cases h⟩
noncomputable def aan (os:Os):World:=
  { World.holding Tryz.prog os ⟨#[],#[],[]⟩ with heap:=(World.holding Tryz.prog os ⟨#[],#[],[]⟩).heap.modify 0 fun
      | .cells _ t frozen=> .cells #[.int .i64 0,.int .i64 2,.int .i64 4,.int .i64 5,.int .i64 7,.int .i64 9,.int .i64 11] t frozen
      | o=>o }
theorem avs (os:Os):laidMet Tryz.prog Rows.editsMergeUptoRow.laid ((aan os).forCall (fun _ _=>0) ⟨#[],#[.slice none 0 0,.slice none 0 0,.slice none 0 0],[]⟩).memory:=
  laidMet_of_run' 8 (by kernel_rfl) (by kernel_rfl)
theorem avv (os:Os) {H:Type} (en:TypeId×Value→H):∃ places,DataW.whole en Tryz.prog ((aan os).forCall (fun _ _=>0) ⟨#[],#[.slice none 0 0,.slice none 0 0,.slice none 0 0],[]⟩).memory Tryz.f6.params.toList Rows.editsMergeSpec.vars false (#[.slice none 0 0,.slice none 0 0,.slice none 0 0]:Array Value).toList 8=some ([.nil,.nil,.nil],[],places):=
  ⟨[],by kernel_rfl⟩
set_option maxRecDepth 100000 in
theorem avr (os:Os) (started:os.Started) (H:Type) (en:TypeId×Value→H) (F:Stop.Interp) :
    ReturnsInHanded {} Tryz.checked os 6 .any ((Rows.OpenSpec.upto Rows.editsMergeSpec).preRow en Tryz.prog Tryz.f6 Rows.editsMergeUptoRow.domain false Rows.editsMergeUptoRow.laid) (((Rows.OpenSpec.upto Rows.editsMergeSpec).at F).post en Tryz.prog Tryz.f6 false true false false):=by
  obtain⟨places,hx⟩:=avv os en
  refine returnsInHanded_of_row (C:=Tryz.checked) (s:=Rows.OpenSpec.upto Rows.editsMergeSpec) own started (by kernel_rfl) Tryz.func6
    (witness_row_at (enc:=en) (C:=Tryz.checked) false (aan os) #[.slice none 0 0,.slice none 0 0,.slice none 0 0] rfl (by kernel_rfl) (by kernel_rfl) (by kernel_rfl)
      (OpenSpec.preRow_of_cond 8 hx (by kernel_rfl) (fun k hk=>by cases hk;kernel_rfl) (by kernel_rfl) (avs os))) ?_
  intro W base args ds gs before eH hW _ oT _ hL _ _
  exact avq H en W base args ds gs before eH hW (oT _ rfl) hL
theorem avw:Rows.EditsMergeUptoSaid:=
  OpenClaim.holds_of_cond 6 Tryz.f6 rfl rfl rfl rfl rfl rfl rfl ⟨rfl,rfl,rfl,rfl,rfl⟩ rfl rfl rfl rfl rfl (by kernel_rfl) Tryz.func6 (by kernel_rfl)
    (of_decide_eq_true (by kernel_rfl)) (by unfold Func.isWrapper;first | (rw[if_pos (by decide +kernel)];kernel_rfl) | (rw[if_neg (by decide +kernel)];exact⟨rfl,rfl⟩))
    (fun os started H en _ F=>by rw[OpenClaim.pre_eq_preRow];exact avr os started H en F)
theorem avu (f:FuncId) (fn:Func) (hf:Tryz.pinned.checked.prog.funcNamed "partbook/partbooklaw24.EditsMerge" = some f) (qp:Tryz.pinned.checked.prog.funcs[f]?=some fn) :
    false=Tryz.pinned.checked.prog.looks []∧∀ (j:Nat) t,fn.params[j]?=some t→Tryz.pinned.checked.prog.wantsStandIn t=false:=by
  obtain rfl:f=6:=Option.some.inj ((show Tryz.prog.funcNamed "partbook/partbooklaw24.EditsMerge" = some 6 by kernel_rfl).symm.trans hf) |>.symm
  obtain rfl:fn=Tryz.f6:=(Option.some.inj (Tryz.func6.symm.trans qp)).symm
  refine⟨by kernel_rfl,fun j t ht=>?_⟩
  rw[Tryz.params6] at ht
  have h:∀ t∈[27,27,27],Tryz.prog.wantsStandIn t=false:=by
    intro t ht
    simp only[List.mem_cons,List.not_mem_nil,or_false] at ht
    rcases ht with rfl | rfl | rfl<;>kernel_rfl
  exact h t (by simpa using Array.mem_of_getElem? ht)
theorem merge_holds:Rows.EditsMergeUptoCardSaid:=
  Claim7.holds_tied_plain_at .later [] _ _ _ _ avw (fun _ h=>by cases h) (by kernel_rfl) (fun _ h=>by cases h) editsMergeUpto_row_tie rfl ⟨rfl,rfl⟩ (by kernel_rfl) rfl avu (by kernel_rfl)
#print axioms merge_holds
end Go.Proofs.YtjigeffmmcmlnaaGreatDoor
