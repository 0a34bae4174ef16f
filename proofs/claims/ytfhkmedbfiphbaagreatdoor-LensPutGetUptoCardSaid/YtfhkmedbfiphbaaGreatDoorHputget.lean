/-
  LensPutGetUpto: whatever the input of bulk at most 1048576 (all values that come in, counted together), the call returns true and each argument reads as it did.
  The package variable naturals holds what the program's text lays (tied by the card).
-/
import Derived.Test.YtfhkmedbfiphbaaGreatDoorX8
set_option linter.all false
namespace Go.Proofs.YtfhkmedbfiphbaaGreatDoor
open Go Go.aj Go.Sy Go.RowKit Go.ChangeShapes Go.WideShapes
attribute [local instance] oW
theorem agz (a0:Ty.den (.st 6)) (h0:cM 9 (.st 6) a0≤1048576) (o0:ec 9 (.st 6) a0) (a1:Ty.den (.st 9)) (h1:cM 9 (.st 9) a1≤1048576) (o1:ec 9 (.st 9) a1):gg Tryz.prog 4 [Ty.enc (.st 6) a0,Ty.enc (.st 9) a1] (.bool true):=
 acR.kJ (a0,a1) true (aev a0 h0 o0 a1 h1 o1)
set_option maxRecDepth 100000 in
theorem agv (H:Type) (en:TypeId×Value→H) (W:World) (base:Nat) (args:Array Value) (ds gs:List (DataW H)) (before:List MemPlace)
  (oL:∀ (j:Nat) t v,Tryz.f4.params[j]?=some t→args[j]?=some v→Value.okWide Tryz.prog W .any base t v)
  (hW:DataW.Whole en Tryz.prog Tryz.f4.params.toList Rows.lensPutGetSpec.vars false W args.toList ds gs before) (hk:Rows.uptoSmall H (ds++gs)=true) (hL:laidMetH Tryz.prog Rows.lensPutGetUptoRow.laid W) :
  Calls Tryz.prog 4 args W fun e W'=>∃ v,e = .returned v∧Rows.lensPutGetSpec.post en Tryz.prog Tryz.f4 false true false false W args v W':=by
 have de:∀ (j:Nat) t v,Tryz.f4.params[j]?=some t→args[j]?=some v→Value.okWide Tryz.prog W .any base t v:=oL
 have gL:=hW
 obtain⟨p,q,oC,hV,rfl,_,_⟩:=hW
 have hA:DataW.TrodAll en Tryz.prog W 0 (fun _=>true) true Tryz.f4.params.toList args.toList ds p:=oC
 obtain⟨rfl,rfl⟩:=trodVars_none hV
 have c9:=hA
 rw[Tryz.params4] at hA de
 obtain⟨v0,v1,d0,d1,p0,p1,rfl,rfl,rfl,h0,h1⟩:=trodAll_two hA
 simp only[List.append_nil] at gL hk
 obtain⟨a0,b0,o0,r0⟩:=lq (f:=9) iD (ty:=26) (t:= .st 6) (by kernel_rfl) rfl (de 0 26 v0 rfl rfl) h0
 obtain⟨a1,b1,o1,r1⟩:=lq (f:=9) iD (ty:=29) (t:= .st 9) (by kernel_rfl) rfl (de 1 29 v1 rfl rfl) h1
 refine(yD (agz a0 (Nat.le_trans b0 (lS hk (d:=d0) (by simp))) o0 a1 (Nat.le_trans b1 (lS hk (d:=d1) (by simp))) o1) (dA hL) rfl (fun i v d hv hd=>?_)).mono fun e W' ⟨v,J,he,hb,hr⟩=>?_
 ·rcases i with _ | _ | i
  ·cases hv;cases hd;exact r0
  ·cases hv;cases hd;exact r1
  simp at hv
 subst he
 cases hr
 have aN:∀ x∈p0++p1,x.block < W.heap.size:=fun x hx=>by simpa using gL.lt x (by simpa using hx)
 exact⟨_,rfl,_,_,_,[],_,[],gL,trodAll_mk1 (yI true),wG laidOut hb (by kernel_rfl) c9 aN,rfl,hb.frame _,fun h=>by cases h⟩
noncomputable def MV (os:Os):World:=
 { World.holding Tryz.prog os ⟨#[],#[],[]⟩ with heap:=(World.holding Tryz.prog os ⟨#[],#[],[]⟩).heap.modify 0 fun
   | .cells _ t frozen=> .cells #[.int .i64 0,.int .i64 2,.int .i64 4,.int .i64 5,.int .i64 7,.int .i64 9,.int .i64 11] t frozen
   | o=>o }
theorem agx (os:Os):laidMet Tryz.prog Rows.lensPutGetUptoRow.laid ((MV os).forCall (fun _ _=>0) ⟨#[],#[.agg #[.int .i64 0,.slice none 0 0,.slice none 0 0,.slice none 0 0],.agg #[.int .i64 0,.slice none 0 0]],[]⟩).memory:=
 laidMet_of_run' 8 (by kernel_rfl) (by kernel_rfl)
theorem agA (os:Os) {H:Type} (en:TypeId×Value→H):∃ places,DataW.whole en Tryz.prog ((MV os).forCall (fun _ _=>0) ⟨#[],#[.agg #[.int .i64 0,.slice none 0 0,.slice none 0 0,.slice none 0 0],.agg #[.int .i64 0,.slice none 0 0]],[]⟩).memory Tryz.f4.params.toList Rows.lensPutGetSpec.vars false (#[.agg #[.int .i64 0,.slice none 0 0,.slice none 0 0,.slice none 0 0],.agg #[.int .i64 0,.slice none 0 0]]:Array Value).toList 8=some ([.agg [.lit (.int .i64 0),.nil,.nil,.nil],.agg [.lit (.int .i64 0),.nil]],[],places):=
 ⟨[],by kernel_rfl⟩
set_option maxRecDepth 100000 in
theorem agw (os:Os) (started:os.Started) (H:Type) (en:TypeId×Value→H) (F:Stop.Interp) :
  ReturnsInHanded {} Tryz.checked os 4 .any ((Rows.OpenSpec.upto Rows.lensPutGetSpec).preRow en Tryz.prog Tryz.f4 Rows.lensPutGetUptoRow.domain false Rows.lensPutGetUptoRow.laid) (((Rows.OpenSpec.upto Rows.lensPutGetSpec).at F).post en Tryz.prog Tryz.f4 false true false false):=by
 obtain⟨places,hx⟩:=agA os en
 refine returnsInHanded_of_row (C:=Tryz.checked) (s:=Rows.OpenSpec.upto Rows.lensPutGetSpec) own started (by kernel_rfl) Tryz.func4
  (
   witness_row_at (enc:=en) (C:=Tryz.checked) false (MV os) #[.agg #[.int .i64 0,.slice none 0 0,.slice none 0 0,.slice none 0 0],.agg #[.int .i64 0,.slice none 0 0]] rfl (by kernel_rfl) (by kernel_rfl) (by kernel_rfl)
   (OpenSpec.preRow_of_cond 8 hx (by kernel_rfl) (fun k hk=>by cases hk;kernel_rfl) (by kernel_rfl) (agx os))) ?_
 intro W base args ds gs before de hW _ fe _ hL _ _
 exact agv H en W base args ds gs before de hW (fe _ rfl) hL
theorem agB:Rows.LensPutGetUptoSaid:=
 OpenClaim.holds_of_cond 4 Tryz.f4 rfl rfl rfl rfl rfl rfl rfl ⟨rfl,rfl,rfl,rfl,rfl⟩ rfl rfl rfl rfl rfl (by kernel_rfl) Tryz.func4 (by kernel_rfl)
  (of_decide_eq_true (by kernel_rfl)) (by unfold Func.isWrapper;first | (rw[if_pos (by decide +kernel)];kernel_rfl) | (rw[if_neg (by decide +kernel)];exact⟨rfl,rfl⟩))
  (fun os started H en _ F=>by rw[OpenClaim.pre_eq_preRow];exact agw os started H en F)
theorem agy (f:FuncId) (fn:Func) (hf:Tryz.pinned.checked.prog.funcNamed "partbook/partbooklaw15.LensPutGet" = some f) (ic:Tryz.pinned.checked.prog.funcs[f]?=some fn) :
  false=Tryz.pinned.checked.prog.looks []∧∀ (j:Nat) t,fn.params[j]?=some t→Tryz.pinned.checked.prog.wantsStandIn t=false:=by
 obtain rfl:f=4:=Option.some.inj ((show Tryz.prog.funcNamed "partbook/partbooklaw15.LensPutGet" = some 4 by kernel_rfl).symm.trans hf) |>.symm
 obtain rfl:fn=Tryz.f4:=(Option.some.inj (Tryz.func4.symm.trans ic)).symm
 refine⟨by kernel_rfl,fun j t ht=>?_⟩
 rw[Tryz.params4] at ht
 have h:∀ t∈[26,29],Tryz.prog.wantsStandIn t=false:=by
  intro t ht
  simp only[List.mem_cons,List.not_mem_nil,or_false] at ht
  rcases ht with rfl | rfl<;>kernel_rfl
 exact h t (by simpa using Array.mem_of_getElem? ht)
theorem putget_holds:Rows.LensPutGetUptoCardSaid:=
 Claim7.holds_tied_plain_at .later [] _ _ _ _ agB (fun _ h=>by cases h) (by kernel_rfl) (fun _ h=>by cases h) lensPutGetUpto_row_tie rfl ⟨rfl,rfl⟩ (by kernel_rfl) rfl agy (by kernel_rfl)
#print axioms putget_holds
end Go.Proofs.YtfhkmedbfiphbaaGreatDoor
