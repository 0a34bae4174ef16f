/-
  EditsLastUpto: whatever the input of bulk at most 1048576 (all values that come in, counted together), the call returns true and each argument reads as it did.
  The package variable naturals holds what the program's text lays (tied by the card).
-/
import Derived.Test.YtjigeffmmcmlnaaGreatDoorX21
import Derived.Test.YtjigeffmmcmlnaaGreatDoorYj1
import Derived.Test.YtjigeffmmcmlnaaGreatDoorYe1
set_option linter.all false
set_option linter.unnecessarySimpa false
set_option linter.deprecated false
set_option linter.unusedVariables false
set_option linter.unusedSimpArgs false
set_option linter.unusedSectionVars false
namespace Go.Proofs.YtjigeffmmcmlnaaGreatDoor
open Go Go.an Go.RowKit Go.ChangeShapes Go.WideShapes
set_option linter.unusedVariables false
theorem azs (a:List aa) (b:List aa) (ha:a.length≤1048576) (hb:b.length≤1048576):ee Tryz.prog 7 [au.enc a,au.enc b] (.bool true):=by
  have he:=auQ ha hb
  have h:=ok7.AH [au.enc a,au.enc b] _ _ rfl (by simp only[au.lj,he];exact⟨trivial,trivial,rfl⟩)
  simp only[au.lj,he] at h
  exact h
set_option maxRecDepth 100000 in
theorem auH (H:Type) (en:TypeId×Value→H) (W:World) (base:Nat) (args:Array Value) (ds gs:List (DataW H)) (before:List MemPlace)
    (yD:∀ (j:Nat) t v,Tryz.f7.params[j]?=some t→args[j]?=some v→Value.okWide Tryz.prog W .any base t v)
    (hW:DataW.Whole en Tryz.prog Tryz.f7.params.toList Rows.editsLastSpec.vars false W args.toList ds gs before) (hk:Rows.uptoSmall H (ds++gs)=true) (hL:laidMetH Tryz.prog Rows.editsLastUptoRow.laid W) :
    Calls Tryz.prog 7 args W fun e W'=>∃ v,e = .returned v∧Rows.editsLastSpec.post en Tryz.prog Tryz.f7 false true false false W args v W':=by
  have eH:∀ (j:Nat) t v,Tryz.f7.params[j]?=some t→args[j]?=some v→Value.okWide Tryz.prog W .any base t v:=yD
  have oy:=hW
  obtain⟨p,q,yi,hV,rfl,_,_⟩:=hW
  have hA:DataW.TrodAll en Tryz.prog W 0 (fun _=>true) true Tryz.f7.params.toList args.toList ds p:=yi
  obtain⟨rfl,rfl⟩:=trodVars_none hV
  have dV:=hA
  rw[Tryz.params7] at hA eH
  obtain⟨v0,v1,d0,d1,p0,p1,rfl,rfl,rfl,h0,h1⟩:=trodAll_two hA
  simp only[List.append_nil] at oy hk
  obtain⟨a,Lz,r0⟩:=Ax Dd (fun _=>rfl) (eH 0 27 v0 rfl rfl) (by kernel_rfl) h0
  have JU:=tA hk (d:=d0) (by simp)
  obtain⟨b,LA,r1⟩:=Ax Dd (fun _=>rfl) (eH 1 27 v1 rfl rfl) (by kernel_rfl) h1
  have JV:=tA hk (d:=d1) (by simp)
  have ha:a.length≤1048576:=AN Lz JU
  have hb:b.length≤1048576:=AN LA JV
  refine(Jb (azs a b ha hb) (dS hL) rfl (fun i v d hv hd=>?_)).mono fun e W' ⟨v,J,he,hb,hr⟩=>?_
  · rcases i with _ | _ | i
    · cases hv;cases hd;exact r0
    · cases hv;cases hd;exact r1
    · simp at hv
  subst he
  cases hr
  have aN:∀ x∈p0++p1,x.block < W.heap.size:=fun x hx=>by simpa using oy.lt x (by simpa using hx)
  exact⟨_,rfl,_,_,_,[],_,[],oy,trodAll_mk1 (Je true),F9 laidOut hb (by kernel_rfl) dV aN,rfl,hb.frame _,fun h=>by cases h⟩
noncomputable def Zx (os:Os):World:=
  { World.holding Tryz.prog os ⟨#[],#[],[]⟩ with heap:=(World.holding Tryz.prog os ⟨#[],#[],[]⟩).heap.modify 0 fun
      | .cells _ t frozen=> .cells #[.int .i64 0,.int .i64 2,.int .i64 4,.int .i64 5,.int .i64 7,.int .i64 9,.int .i64 11] t frozen
      | o=>o }
theorem auK (os:Os):laidMet Tryz.prog Rows.editsLastUptoRow.laid ((Zx os).forCall (fun _ _=>0) ⟨#[],#[.slice none 0 0,.slice none 0 0],[]⟩).memory:=
  laidMet_of_run' 8 (by kernel_rfl) (by kernel_rfl)
theorem auM (os:Os) {H:Type} (en:TypeId×Value→H):∃ places,DataW.whole en Tryz.prog ((Zx os).forCall (fun _ _=>0) ⟨#[],#[.slice none 0 0,.slice none 0 0],[]⟩).memory Tryz.f7.params.toList Rows.editsLastSpec.vars false (#[.slice none 0 0,.slice none 0 0]:Array Value).toList 8=some ([.nil,.nil],[],places):=
  ⟨[],by kernel_rfl⟩
set_option maxRecDepth 100000 in
theorem auJ (os:Os) (started:os.Started) (H:Type) (en:TypeId×Value→H) (F:Stop.Interp) :
    ReturnsInHanded {} Tryz.checked os 7 .any ((Rows.OpenSpec.upto Rows.editsLastSpec).preRow en Tryz.prog Tryz.f7 Rows.editsLastUptoRow.domain false Rows.editsLastUptoRow.laid) (((Rows.OpenSpec.upto Rows.editsLastSpec).at F).post en Tryz.prog Tryz.f7 false true false false):=by
  obtain⟨places,hx⟩:=auM os en
  refine returnsInHanded_of_row (C:=Tryz.checked) (s:=Rows.OpenSpec.upto Rows.editsLastSpec) own started (by kernel_rfl) Tryz.func7
    (witness_row_at (enc:=en) (C:=Tryz.checked) false (Zx os) #[.slice none 0 0,.slice none 0 0] rfl (by kernel_rfl) (by kernel_rfl) (by kernel_rfl)
      (OpenSpec.preRow_of_cond 8 hx (by kernel_rfl) (fun k hk=>by cases hk;kernel_rfl) (by kernel_rfl) (auK os))) ?_
  intro W base args ds gs before eH hW _ oT _ hL _ _
  exact auH H en W base args ds gs before eH hW (oT _ rfl) hL
theorem auO:Rows.EditsLastUptoSaid:=
  OpenClaim.holds_of_cond 7 Tryz.f7 rfl rfl rfl rfl rfl rfl rfl ⟨rfl,rfl,rfl,rfl,rfl⟩ rfl rfl rfl rfl rfl (by kernel_rfl) Tryz.func7 (by kernel_rfl)
    (of_decide_eq_true (by kernel_rfl)) (by unfold Func.isWrapper;first | (rw[if_pos (by decide +kernel)];kernel_rfl) | (rw[if_neg (by decide +kernel)];exact⟨rfl,rfl⟩))
    (fun os started H en _ F=>by rw[OpenClaim.pre_eq_preRow];exact auJ os started H en F)
theorem auL (f:FuncId) (fn:Func) (hf:Tryz.pinned.checked.prog.funcNamed "partbook/partbooklaw24.EditsLast" = some f) (qp:Tryz.pinned.checked.prog.funcs[f]?=some fn) :
    false=Tryz.pinned.checked.prog.looks []∧∀ (j:Nat) t,fn.params[j]?=some t→Tryz.pinned.checked.prog.wantsStandIn t=false:=by
  obtain rfl:f=7:=Option.some.inj ((show Tryz.prog.funcNamed "partbook/partbooklaw24.EditsLast" = some 7 by kernel_rfl).symm.trans hf) |>.symm
  obtain rfl:fn=Tryz.f7:=(Option.some.inj (Tryz.func7.symm.trans qp)).symm
  refine⟨by kernel_rfl,fun j t ht=>?_⟩
  rw[Tryz.params7] at ht
  have h:∀ t∈[27,27],Tryz.prog.wantsStandIn t=false:=by
    intro t ht
    simp only[List.mem_cons,List.not_mem_nil,or_false] at ht
    rcases ht with rfl | rfl<;>kernel_rfl
  exact h t (by simpa using Array.mem_of_getElem? ht)
theorem last_holds:Rows.EditsLastUptoCardSaid:=
  Claim7.holds_tied_plain_at .later [] _ _ _ _ auO (fun _ h=>by cases h) (by kernel_rfl) (fun _ h=>by cases h) editsLastUpto_row_tie rfl ⟨rfl,rfl⟩ (by kernel_rfl) rfl auL (by kernel_rfl)
#print axioms last_holds
end Go.Proofs.YtjigeffmmcmlnaaGreatDoor
