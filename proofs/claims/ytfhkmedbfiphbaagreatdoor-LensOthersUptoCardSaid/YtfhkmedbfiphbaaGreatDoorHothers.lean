/-
  LensOthersUpto: whatever the input of bulk at most 1048576 (all values that come in, counted together), the call returns true and each argument reads as it did.
  The package variable naturals holds what the program's text lays (tied by the card).
-/
import Derived.Test.YtfhkmedbfiphbaaGreatDoorX8
set_option linter.all false
namespace Go.Proofs.YtfhkmedbfiphbaaGreatDoor
open Go Go.aj Go.Sy Go.RowKit Go.ChangeShapes Go.WideShapes
attribute [local instance] oW
theorem afY (a0:Ty.den (.st 6)) (h0:cM 9 (.st 6) a0≤1048576) (o0:ec 9 (.st 6) a0) (a1:Ty.den (.st 9)) (h1:cM 9 (.st 9) a1≤1048576) (o1:ec 9 (.st 9) a1) (a2:Ty.den (.int .u8)) (h2:cM 9 (.int .u8) a2≤1048576) (o2:ec 9 (.int .u8) a2):gg Tryz.prog 8 [Ty.enc (.st 6) a0,Ty.enc (.st 9) a1,Ty.enc (.int .u8) a2] (.bool true):=
 acQ.kJ (a0,a1,a2) true (aeu a0 h0 o0 a1 h1 o1 a2 h2 o2)
set_option maxRecDepth 100000 in
theorem afT (H:Type) (en:TypeId×Value→H) (W:World) (base:Nat) (args:Array Value) (ds gs:List (DataW H)) (before:List MemPlace)
  (oL:∀ (j:Nat) t v,Tryz.f8.params[j]?=some t→args[j]?=some v→Value.okWide Tryz.prog W .any base t v)
  (hW:DataW.Whole en Tryz.prog Tryz.f8.params.toList Rows.lensOthersSpec.vars false W args.toList ds gs before) (hk:Rows.uptoSmall H (ds++gs)=true) (hL:laidMetH Tryz.prog Rows.lensOthersUptoRow.laid W) :
  Calls Tryz.prog 8 args W fun e W'=>∃ v,e = .returned v∧Rows.lensOthersSpec.post en Tryz.prog Tryz.f8 false true false false W args v W':=by
 have de:∀ (j:Nat) t v,Tryz.f8.params[j]?=some t→args[j]?=some v→Value.okWide Tryz.prog W .any base t v:=oL
 have gL:=hW
 obtain⟨p,q,oC,hV,rfl,_,_⟩:=hW
 have hA:DataW.TrodAll en Tryz.prog W 0 (fun _=>true) true Tryz.f8.params.toList args.toList ds p:=oC
 obtain⟨rfl,rfl⟩:=trodVars_none hV
 have c9:=hA
 rw[Tryz.params8] at hA de
 obtain⟨v0,v1,v2,d0,d1,d2,p0,p1,p2,rfl,rfl,rfl,h0,h1,h2⟩:=trodAll_three hA
 simp only[List.append_nil] at gL hk
 obtain⟨a0,b0,o0,r0⟩:=lq (f:=9) iD (ty:=26) (t:= .st 6) (by kernel_rfl) rfl (de 0 26 v0 rfl rfl) h0
 obtain⟨a1,b1,o1,r1⟩:=lq (f:=9) iD (ty:=29) (t:= .st 9) (by kernel_rfl) rfl (de 1 29 v1 rfl rfl) h1
 obtain⟨a2,b2,o2,r2⟩:=lq (f:=9) iD (ty:=5) (t:= .int .u8) (by kernel_rfl) rfl (de 2 5 v2 rfl rfl) h2
 refine(yD (afY a0 (Nat.le_trans b0 (lS hk (d:=d0) (by simp))) o0 a1 (Nat.le_trans b1 (lS hk (d:=d1) (by simp))) o1 a2 (Nat.le_trans b2 (lS hk (d:=d2) (by simp))) o2) (dA hL) rfl (fun i v d hv hd=>?_)).mono fun e W' ⟨v,J,he,hb,hr⟩=>?_
 ·rcases i with _ | _ | _ | i
  ·cases hv;cases hd;exact r0
  ·cases hv;cases hd;exact r1
  ·cases hv;cases hd;exact r2
  simp at hv
 subst he
 cases hr
 have aN:∀ x∈p0++p1++p2,x.block < W.heap.size:=fun x hx=>by simpa using gL.lt x (by simpa using hx)
 exact⟨_,rfl,_,_,_,[],_,[],gL,trodAll_mk1 (yI true),wG laidOut hb (by kernel_rfl) c9 aN,rfl,hb.frame _,fun h=>by cases h⟩
noncomputable def Mi (os:Os):World:=
 { World.holding Tryz.prog os ⟨#[],#[],[]⟩ with heap:=(World.holding Tryz.prog os ⟨#[],#[],[]⟩).heap.modify 0 fun
   | .cells _ t frozen=> .cells #[.int .i64 0,.int .i64 2,.int .i64 4,.int .i64 5,.int .i64 7,.int .i64 9,.int .i64 11] t frozen
   | o=>o }
theorem afW (os:Os):laidMet Tryz.prog Rows.lensOthersUptoRow.laid ((Mi os).forCall (fun _ _=>0) ⟨#[],#[.agg #[.int .i64 0,.slice none 0 0,.slice none 0 0,.slice none 0 0],.agg #[.int .i64 0,.slice none 0 0],.int .u8 0],[]⟩).memory:=
 laidMet_of_run' 8 (by kernel_rfl) (by kernel_rfl)
theorem afZ (os:Os) {H:Type} (en:TypeId×Value→H):∃ places,DataW.whole en Tryz.prog ((Mi os).forCall (fun _ _=>0) ⟨#[],#[.agg #[.int .i64 0,.slice none 0 0,.slice none 0 0,.slice none 0 0],.agg #[.int .i64 0,.slice none 0 0],.int .u8 0],[]⟩).memory Tryz.f8.params.toList Rows.lensOthersSpec.vars false (#[.agg #[.int .i64 0,.slice none 0 0,.slice none 0 0,.slice none 0 0],.agg #[.int .i64 0,.slice none 0 0],.int .u8 0]:Array Value).toList 8=some ([.agg [.lit (.int .i64 0),.nil,.nil,.nil],.agg [.lit (.int .i64 0),.nil],.lit (.int .u8 0)],[],places):=
 ⟨[],by kernel_rfl⟩
set_option maxRecDepth 100000 in
theorem afU (os:Os) (started:os.Started) (H:Type) (en:TypeId×Value→H) (F:Stop.Interp) :
  ReturnsInHanded {} Tryz.checked os 8 .any ((Rows.OpenSpec.upto Rows.lensOthersSpec).preRow en Tryz.prog Tryz.f8 Rows.lensOthersUptoRow.domain false Rows.lensOthersUptoRow.laid) (((Rows.OpenSpec.upto Rows.lensOthersSpec).at F).post en Tryz.prog Tryz.f8 false true false false):=by
 obtain⟨places,hx⟩:=afZ os en
 refine returnsInHanded_of_row (C:=Tryz.checked) (s:=Rows.OpenSpec.upto Rows.lensOthersSpec) own started (by kernel_rfl) Tryz.func8
  (
   witness_row_at (enc:=en) (C:=Tryz.checked) false (Mi os) #[.agg #[.int .i64 0,.slice none 0 0,.slice none 0 0,.slice none 0 0],.agg #[.int .i64 0,.slice none 0 0],.int .u8 0] rfl (by kernel_rfl) (by kernel_rfl) (by kernel_rfl)
   (OpenSpec.preRow_of_cond 8 hx (by kernel_rfl) (fun k hk=>by cases hk;kernel_rfl) (by kernel_rfl) (afW os))) ?_
 intro W base args ds gs before de hW _ fe _ hL _ _
 exact afT H en W base args ds gs before de hW (fe _ rfl) hL
theorem af0:Rows.LensOthersUptoSaid:=
 OpenClaim.holds_of_cond 8 Tryz.f8 rfl rfl rfl rfl rfl rfl rfl ⟨rfl,rfl,rfl,rfl,rfl⟩ rfl rfl rfl rfl rfl (by kernel_rfl) Tryz.func8 (by kernel_rfl)
  (of_decide_eq_true (by kernel_rfl)) (by unfold Func.isWrapper;first | (rw[if_pos (by decide +kernel)];kernel_rfl) | (rw[if_neg (by decide +kernel)];exact⟨rfl,rfl⟩))
  (fun os started H en _ F=>by rw[OpenClaim.pre_eq_preRow];exact afU os started H en F)
theorem afX (f:FuncId) (fn:Func) (hf:Tryz.pinned.checked.prog.funcNamed "partbook/partbooklaw15.LensOthers" = some f) (ic:Tryz.pinned.checked.prog.funcs[f]?=some fn) :
  false=Tryz.pinned.checked.prog.looks []∧∀ (j:Nat) t,fn.params[j]?=some t→Tryz.pinned.checked.prog.wantsStandIn t=false:=by
 obtain rfl:f=8:=Option.some.inj ((show Tryz.prog.funcNamed "partbook/partbooklaw15.LensOthers" = some 8 by kernel_rfl).symm.trans hf) |>.symm
 obtain rfl:fn=Tryz.f8:=(Option.some.inj (Tryz.func8.symm.trans ic)).symm
 refine⟨by kernel_rfl,fun j t ht=>?_⟩
 rw[Tryz.params8] at ht
 have h:∀ t∈[26,29,5],Tryz.prog.wantsStandIn t=false:=by
  intro t ht
  simp only[List.mem_cons,List.not_mem_nil,or_false] at ht
  rcases ht with rfl | rfl | rfl<;>kernel_rfl
 exact h t (by simpa using Array.mem_of_getElem? ht)
theorem others_holds:Rows.LensOthersUptoCardSaid:=
 Claim7.holds_tied_plain_at .later [] _ _ _ _ af0 (fun _ h=>by cases h) (by kernel_rfl) (fun _ h=>by cases h) lensOthersUpto_row_tie rfl ⟨rfl,rfl⟩ (by kernel_rfl) rfl afX (by kernel_rfl)
#print axioms others_holds
end Go.Proofs.YtfhkmedbfiphbaaGreatDoor
