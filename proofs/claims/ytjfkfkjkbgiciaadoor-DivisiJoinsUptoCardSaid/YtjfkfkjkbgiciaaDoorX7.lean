/-
  The evaluator, the printed walks and the plain laws, part 7 of 8.
-/
import Derived.Test.YtjfkfkjkbgiciaaDoorX6
set_option linter.all false
set_option linter.unnecessarySimpa false
set_option linter.deprecated false
set_option linter.unusedVariables false
set_option linter.unusedSimpArgs false
set_option linter.unusedSectionVars false
namespace Go.Proofs.YtjfkfkjkbgiciaaDoor
open Go Go.Eva Enc
noncomputable def eachO_s5 (l : (List Measure)) (f : C52_30) : ((List Measure) × Int) → Option (((List Measure) × Int) ⊕ (((List Measure)))) := fun (z2u5, z2u10) =>
  ifb (decide (z2u10 < (l.length : Int))) (bnd (at? l z2u10) fun x46 =>
  bnd (kept1O x46 f.v0) fun x49 =>
  grd (((z2u5 ++ [x49]) : List Measure).length * 56 ≤ 140737488355328) (eachO_j6 z2u10 (z2u5 ++ [x49])))
  (some (.inr z2u5))
noncomputable def eachO_j1 (y3u5 : (List Measure)) : Option (List Measure) :=
  some y3u5
noncomputable def eachO (l : (List Measure)) (f : C52_30) : Option (List Measure) :=
  bnd (loopO (eachO_s5 l f) ([], 0)) fun q56u5 =>
  eachO_j1 q56u5
noncomputable def keptO (v : View) (h : C30) : Option View :=
  bnd (eachO v.measures (⟨(⟨h⟩ : (Bx C30))⟩ : C52_30)) fun x2 =>
  some (⟨v.part, x2⟩ : View)
noncomputable def pOssia_r9 (chosen : (List Int)) (z2u10 : Int) (x67 : Int) : Option Bool :=
  (ifb (decide (x67 < 1)) (some true) (ifb (decide (20 < x67)) (some true) (ifb (decide (0 < z2u10)) (grd (inI (z2u10 - 1)) (bnd (at? chosen (z2u10 - 1)) fun x71 =>
  some (decide (x67 ≤ x71)))) (some false))))
noncomputable def pOssia_j8 (z2u10 : Int) : Option ((Int) ⊕ ((View × Int) ⊕ (Unit))) :=
  grd (inI (z2u10 + 1)) (some (.inl (z2u10 + 1)))
noncomputable def pOssia_s7 (chosen : (List Int)) : Int → Option ((Int) ⊕ ((View × Int) ⊕ (Unit))) := fun (z2u10 : Int) =>
  ifb (decide (z2u10 < (chosen.length : Int))) (bnd (at? chosen z2u10) fun x67 =>
  bnd (pOssia_r9 chosen z2u10 x67) fun y73u33 =>
  ifb y73u33 (some (.inr (.inl ((⟨0, []⟩ : View), 1))))
  (pOssia_j8 z2u10))
  (some (.inr (.inr ())))
noncomputable def pOssia_j1 (v : View) (chosen : (List Int)) : Option (View × Int) :=
  bnd (isView v) fun x92 =>
  ifb (!x92) (some ((⟨0, []⟩ : View), 1))
  (bnd (keptO v (⟨(⟨chosen⟩ : (Bx (List Int)))⟩ : C30)) fun x97 =>
  some (x97, 0))
noncomputable def pOssia (v : View) (chosen : (List Int)) : Option (View × Int) :=
  bnd (loopO (pOssia_s7 chosen) 0) fun o56 =>
  match o56 with
  | .inl (q89u0, q89u1) => some (q89u0, q89u1)
  | .inr () => pOssia_j1 v chosen
end Go.Proofs.YtjfkfkjkbgiciaaDoor
namespace Go.Proofs.YtjfkfkjkbgiciaaDoor
open Go Go.Eva Enc
set_option maxRecDepth 4000
attribute [local instance] rndX
attribute [local congr] AWp.congrS
attribute [local simp] evalSeq opRes guardPc evalOp evT Eva.get startT strip putT Eva.after constT typed obAll holds dstOk R.ok R.bad ofD binD unD pickT subL subP Op.operands Call.operands toD toD1 argsD argsD1 callD callT typedAll cfind quietT quietT1 spec0 spec1 spec2 spec3 enc_int enc_bool enc_str enc_fn enc_list dec_int dec_bool dec_str dec_fn dec_list size_int size_str map_dec_enc map_dec_comp cellsT D.cells T.oneT D.one mkT dataT zeroT unD1 setAt loadAs loadEl storeAs fieldP fieldV sizeE intOfT indexP appendT lenT sliceT elemSize arith lfsOk lfOk isAggD mkD fillT placeS TD.agg env restr List.map keyIdx mapTy lookT mapPutT mapDelT mapOf indexS convT evalPure range1 range2 range3 range4 range5 range6 range7 range8 enc_intk size_intk dec_intk eta_intk keysInt_nil keyIdx_E keysInt_E isE_iff put_E del_E get_E getok_E mkeys_E mkeys_E' mkeys_enc specO0 specO1 specO2 specO3 specO4 opD skips gone unbox cloT subO clearT makeT enc_bx dec_bx size_bx selS cloIs List.contains_cons List.contains_nil elAt_zero enc_Rat dec_Rat size_Rat eta_Rat beqL_Rat beqR_Rat enc_Pitch dec_Pitch size_Pitch eta_Pitch beqL_Pitch beqR_Pitch enc_Written dec_Written size_Written eta_Written beqL_Written beqR_Written enc_Measure dec_Measure size_Measure eta_Measure enc_View dec_View size_View eta_View enc_Fraction dec_Fraction size_Fraction eta_Fraction beqL_Fraction beqR_Fraction dat0 len_natTab eqT4 eqT34 eqT36 eqT38 eqT114 te1 te2 te3 te4 te5 te6 te7 te8 te9 te10 te11 te12 te13 te14 te15 te16 te17 te18 te19 te21 te22 te23 te24 te25 te26 te27 te28 te30 te31 te32 te33 te34 te35 te36 te37 te38 te39 te40 te41 te42 te43 te45 te46 te47 te48 te49 te50 te51 te52 te53 te55 te56 te57 te58 te59 te60 te61 te62 te63 te64 te65 te66 te67 te68 te69 te70 te71 te72 te73 te74 te75 te76 te77 te79 te80 te81 te82 te83 te84 te85 te86 te87 te88 te89 te90 te91 te92 te93 te94 te95 te96 te97 te98 te99 te100 te101 te102 te104 te105 te106 te108 te109 te110 te111 te112 te113 te114 te115 te116 te117 te118 te119 te120 te121 te122 te123 te124 te125 te126 te127 te128 te129 te130 te131 te133 te134 te135 te136 te137 te138 te139 te140 te141 te142 te143 te144 te145 te146 te147 te148 te149 te150
section
variable [Onn]
attribute [local simp] enc_C36 dec_C36 size_C36 eta_C36 enc_C39 dec_C39 size_C39 eta_C39 enc_C28 dec_C28 size_C28 eta_C28 enc_C52_28 dec_C52_28 size_C52_28 eta_C52_28 enc_C29 dec_C29 size_C29 eta_C29 enc_C55_29 dec_C55_29 size_C55_29 eta_C55_29 enc_C33 dec_C33 size_C33 eta_C33 enc_C34 dec_C34 size_C34 eta_C34 enc_C56 dec_C56 size_C56 eta_C56 enc_C30 dec_C30 size_C30 eta_C30 enc_C52_30 dec_C52_30 size_C52_30 eta_C52_30 enc_C55_34 dec_C55_34 size_C55_34 eta_C55_34 envD fDel cloneR delR Low AO.lows T.lows T.low1 AO.isFrame
noncomputable def sp55_keepO : Eva.Spec := specO2 fun (w : Written) (is : (Bx C34)) => (keepO w is).map fun r => enc r
theorem ok55_keepO : SpecOk Tryd.prog 55 sp55_keepO := by
 have hV : VOk Tryd.prog (env [(34, sp34_ossia12)]) := env_ok ⟨ok34_ossia12, trivial⟩
 refine SpecOk.ofO2 (Enters.of Tryd.func55 (by decide)) fun w is rr hr => ?_
 obtain ⟨r, hg, rfl⟩ := mpj hr; clear hr
 refine PureCon.ofN hV Tryd.func55 rfl Tryd.ntmps55 fun R hR w0 I0 Q hQ => ?_
 unfold keepO at hg
 refine AWp.rS hV none [1, 2] fun K k1 => ?_
 simp; repeat refine ai ?_
 refine kc [se 1 is, (2, .ptr 0 0)] [.w 38 w] (k1 _ ?_)
 obtain ⟨x2, h3, hg⟩ := bnd_some hg
 refine AWp.rS hV none [3] fun K k4 => ?_
 simp [sp34_ossia12, h3]; repeat refine ai ?_
 refine kd [se 3 (!x2)] [.w 38 w] (by first | rfl | (simp [sp34_ossia12, h3] <;> grind)) (k4 _ ?_)
 refine AWp.ret ?_
 cases hg; exact hQ _ _ (.inl rfl) rt
noncomputable def sp52_kept1O : Eva.Spec := specO2 fun (m : Measure) (h : (Bx C30)) => (kept1O m h).map fun r => enc r
theorem ok52_kept1O : SpecOk Tryd.prog 52 sp52_kept1O := by
 have hV : VOk Tryd.prog (envD 55 sp55_keepO [(30, sp30_ossia1)]) := envD_ok ok55_keepO ⟨ok30_ossia1, trivial⟩
 refine SpecOk.ofO2 (Enters.of Tryd.func52 (by decide)) fun m h rr hr => ?_
 obtain ⟨r, hg, rfl⟩ := mpj hr; clear hr
 refine PureCon.ofN hV Tryd.func52 rfl Tryd.ntmps52 fun R hR w0 I0 Q hQ => ?_
 unfold kept1O at hg
 refine AWp.rS hV none [1, 2, 3] fun K k1 => ?_
 simp; repeat refine ai ?_
 refine kc [se 1 h, (2, .ptr 0 0), (3, .ptr 1 0)] [.w 42 m, .var 42 [.d (enc (0 : Int)), .d (enc (0 : Int)), .d (enc ((⟨0, 0⟩ : Rat).n : Int)), .d (enc ((⟨0, 0⟩ : Rat).d : Int)), .nils 10]] (k1 _ ?_)
 obtain ⟨x2, h3, hg⟩ := bnd_some hg
 refine AWp.rS hV none [2, 3, 4] fun K k4 => ?_
 simp [sp30_ossia1, h3]; repeat refine ai ?_
 refine kd [(2, .ptr 0 0), (3, .ptr 1 0), (4, .ptr 2 0)] [.w 42 m, .var 42 [.d (enc (0 : Int)), .d (enc (0 : Int)), .d (enc ((⟨0, 0⟩ : Rat).n : Int)), .d (enc ((⟨0, 0⟩ : Rat).d : Int)), .nils 10], .w 67 x2] (by first | rfl | (simp [sp30_ossia1, h3] <;> grind)) (k4 _ ?_)
 refine AWp.sub (s' := ⟨[se 4 ((⟨x2⟩ : (Bx C34)) : (Bx C34)), (2, .ptr 0 0), (3, .ptr 1 0)], [.w 42 m, .var 42 [.d (enc (0 : Int)), .d (enc (0 : Int)), .d (enc ((⟨0, 0⟩ : Rat).n : Int)), .d (enc ((⟨0, 0⟩ : Rat).d : Int)), .nils 10]]⟩) (Sub.fz 4 2 x2 [0, 1]) ?_
 obtain ⟨g5, hg⟩ := grd_some hg
 obtain ⟨g7, hg⟩ := grd_some hg
 obtain ⟨x6, h8, hg⟩ := bnd_some hg
 obtain ⟨h8a, h8b⟩ := delO_some (s := sp55_keepO) (caps := [enc ((⟨(⟨x2⟩ : (Bx C34))⟩ : C55_34).v0 : (Bx C34))]) h8 (fun x b hb => spec2_bool hb)
 have h8ag := h8a
 try simp at h8ag
 have h8bg := h8b
 try simp at h8bg
 refine AWp.rS hV none [2, 3] fun K k9 => ?_
 simp [h8a, h8ag, h8b, h8bg]; repeat refine ai ?_
 refine kd [(2, .ptr 0 0), (3, .ptr 1 0)] [.var 42 [.d (enc (m.bar : Int)), .d (enc (m.key : Int)), .d (enc (m.length.n : Int)), .d (enc (m.length.d : Int)), .row 4], .var 42 [.d (enc (0 : Int)), .d (enc (0 : Int)), .d (enc ((⟨0, 0⟩ : Rat).n : Int)), .d (enc ((⟨0, 0⟩ : Rat).d : Int)), .nils 10], .dead, .dead, .ro 38 10 x6] (by first | rfl | (simp [h8a, h8ag, h8b, h8bg] <;> grind)) (k9 _ ?_)
 refine AWp.rS hV none [3] fun K k10 => ?_
 simp; repeat refine ai ?_
 refine kc [(3, .ptr 1 0)] [.var 42 [.d (enc (m.bar : Int)), .d (enc (m.key : Int)), .d (enc (m.length.n : Int)), .d (enc (m.length.d : Int)), .row 4], .var 42 [.d (enc (m.bar : Int)), .d (enc (m.key : Int)), .d (enc (m.length.n : Int)), .d (enc (m.length.d : Int)), .row 4], .dead, .dead, .ro 38 10 x6] (k10 _ ?_)
 refine AWp.ret ?_
 cases hg; exact hQ _ _ (.inl rfl) rt
noncomputable def sp51_eachO : Eva.Spec := specO2 fun (l : (List Measure)) (f : C52_30) => (eachO l f).map fun r => enc r
theorem ok51_eachO : SpecOk Tryd.prog 51 sp51_eachO := by
 have hV : VOk Tryd.prog (env [(52, sp52_kept1O)]) := env_ok ⟨ok52_kept1O, trivial⟩
 refine SpecOk.ofO2 (Enters.of Tryd.func51 (by decide)) fun l f rr hr => ?_
 obtain ⟨r, hg, rfl⟩ := mpj hr; clear hr
 refine PureCon.ofN hV Tryd.func51 rfl Tryd.ntmps51 fun R hR w0 I0 Q hQ => ?_
 unfold eachO at hg
 refine AWp.rS hV none [0, 1] fun K k1 => ?_
 simp; repeat refine ai ?_
 refine kc [se 0 l, se 1 f] [] (k1 _ ?_)
 refine AWp.rS hV none [0, 1, 5] fun K k2 => ?_
 simp; repeat refine ai ?_
 refine kc [se 0 l, se 1 f, (5, .nils 5)] [] (k2 _ ?_)
 refine AWp.seqJ (fun s' => ∃ y3u5 : (List Measure), eachO_j1 y3u5 = some r ∧ Sub s' ⟨[(5, .row 0)], [.ro 42 5 y3u5]⟩) (fun _ k4 => ?_) ?_
 ·refine AWp.rS hV none [1, 5, 8, 9, 10] fun K k5 => ?_
  simp; repeat refine ai ?_
  refine kc [se 1 f, (5, .nils 5), se 8 l, se 9 ((l.length : Int) : Int), se 10 (0 : Int)] [] (k5 _ ?_)
  refine AWp.block ?_
  obtain ⟨o35, hl36, hq37⟩ := bnd_some hg; clear hg
  refine AWp.loopO (fun ((z2u5, z2u10) : (List Measure) × Int) => ⟨[se 1 f, (5, .row 0), se 8 l, se 9 ((l.length : Int) : Int), se 10 z2u10], [.ro 42 5 z2u5]⟩) (eachO_s5 l f) ([], 0) hl36 ?_ fun z38 w40 _ hg hx39 k6 => ?_
  ·exact Sub.trans (Sub.adopt 5 42 5 rfl) (Sub.rm [0])
  obtain ⟨z2u5, z2u10⟩ := z38
  unfold eachO_s5 at hg; try dsimp only at hg
  show AWp _ _ _ _ _ ⟨[se 1 f, (5, .row 0), se 8 l, se 9 ((l.length : Int) : Int), se 10 z2u10], [.ro 42 5 z2u5]⟩ _
  refine AWp.rS hV none [1, 5, 8, 9, 10, 11] fun K k41 => ?_
  simp; repeat refine ai ?_
  refine kc [se 1 f, (5, .row 0), se 8 l, se 9 ((l.length : Int) : Int), se 10 z2u10, se 11 (decide (z2u10 < (l.length : Int)))] [.ro 42 5 z2u5] (k41 _ ?_)
  refine AWp.seqG fun _ k42 => ?_
  refine AWp.cnd hg rfl ?_ ?_ <;> (clear hg; intro h43 hg)
  ·refine AWp.skip ?_
   refine k42 _ ?_
   refine AWp.seqJ (fun s' => ∃ y44u5 : (List Measure), eachO_j6 z2u10 y44u5 = some w40 ∧ Sub s' ⟨[se 1 f, (5, .row 0), se 8 l, se 9 ((l.length : Int) : Int), se 10 z2u10], [.ro 42 5 y44u5]⟩) (fun _ k45 => ?_) ?_
   ·refine AWp.block ?_
    obtain ⟨x46, h47, hg⟩ := bnd_some hg
    obtain ⟨h47a, h47b, h47f⟩ := at_e h47; have h47g := h47f; try simp at h47g
    refine AWp.rS hV none [1, 5, 7, 8, 9, 10] fun K k48 => ?_
    simp [h47f, h47g]; repeat refine ai ?_
    refine kd [se 1 f, (5, .row 0), (7, .ptr 1 0), se 8 l, se 9 ((l.length : Int) : Int), se 10 z2u10] [.ro 42 5 z2u5, .w 42 x46] (by first | rfl | (simp [h47f, h47g] <;> grind)) (k48 _ ?_)
    obtain ⟨x49, h50, hg⟩ := bnd_some hg
    obtain ⟨g51, hg⟩ := grd_some hg
    refine AWp.regF hV none [1, 5, 8, 9, 10] fun K k52 => ?_
    simp [sp52_kept1O, h50]; repeat refine ai ?_
    refine kd [se 1 f, (5, .row 2), se 8 l, se 9 ((l.length : Int) : Int), se 10 z2u10] [.dead, .w 42 x46, .ro 42 5 ((z2u5 ++ [x49]) : List Measure)] (by first | rfl | (simp [sp52_kept1O, h50] <;> grind)) (k52 _ ?_)
    exact k45 _ ⟨_, hg, Sub.rm [2]⟩
   ·rintro s' ⟨y44u5, hg, hs⟩
    unfold eachO_j6 at hg
    refine AWp.sub hs ?_
    obtain ⟨g53, hg⟩ := grd_some hg
    unfold inI at g53
    refine AWp.regF hV none [1, 5, 8, 9, 10] fun K k54 => ?_
    simp; repeat refine ai ?_
    refine kc [se 1 f, (5, .row 0), se 8 l, se 9 ((l.length : Int) : Int), se 10 ((z2u10 + 1) : Int)] [.ro 42 5 y44u5] (k54 _ ?_)
    exact k6 _ _ (oij hg).symm (Sub.rm [0])
  ·refine AWp.exit ?_
   cases hx39 _ (oij hg).symm; have hg := hq37; try dsimp only at hg
   exact k4 _ ⟨_, hg, Sub.rm [0]⟩
 ·rintro s' ⟨y3u5, hg, hs⟩
  unfold eachO_j1 at hg
  refine AWp.sub hs ?_
  refine AWp.rS hV none [4] fun K k57 => ?_
  simp; repeat refine ai ?_
  refine kc [(4, .row 0)] [.ro 42 5 y3u5] (k57 _ ?_)
  refine AWp.ret ?_
  cases hg; exact hQ _ _ (.inl rfl) rt
noncomputable def sp27_keptO : Eva.Spec := specO2 fun (v : View) (h : C30) => (keptO v h).map fun r => enc r
theorem ok27_keptO : SpecOk Tryd.prog 27 sp27_keptO := by
 have hV : VOk Tryd.prog (env [(51, sp51_eachO)]) := env_ok ⟨ok51_eachO, trivial⟩
 refine SpecOk.ofO2 (Enters.of Tryd.func27 (by decide)) fun v h rr hr => ?_
 obtain ⟨r, hg, rfl⟩ := mpj hr; clear hr
 refine PureCon.ofN hV Tryd.func27 rfl Tryd.ntmps27 fun R hR w0 I0 Q hQ => ?_
 unfold keptO at hg
 refine AWp.rS hV none [2, 3, 4] fun K k1 => ?_
 simp; repeat refine ai ?_
 refine kc [(2, .ptr 0 0), (3, .ptr 1 0), (4, .ptr 2 0)] [.w 27 v, .w 68 h, .var 27 [.d (enc (0 : Int)), .nils 5]] (k1 _ ?_)
 refine AWp.sub (s' := ⟨[se 3 ((⟨h⟩ : (Bx C30)) : (Bx C30)), (2, .ptr 0 0), (4, .ptr 1 0)], [.w 27 v, .var 27 [.d (enc (0 : Int)), .nils 5]]⟩) (Sub.fz 3 1 h [0, 2]) ?_
 obtain ⟨x2, h3, hg⟩ := bnd_some hg
 have h3g := h3; try simp at h3g
 refine AWp.rDF hV mixed none 6 [] [4] (by decide) fun K k4 => ?_
 simp [sp51_eachO, h3, h3g]; repeat refine ai ?_
 refine kd [(4, .ptr 1 0)] [.w 27 v, .w 27 (⟨v.part, x2⟩ : View)] (by first | rfl | (simp [sp51_eachO, h3, h3g] <;> grind)) (k4 _ ?_)
 refine AWp.ret ?_
 cases hg; exact hQ _ _ (.inl rfl) rt
noncomputable def sp12 : Eva.Spec := specO2 fun (v : View) (chosen : (List Int)) => (pOssia v chosen).map fun r => .tup [enc r.1, enc r.2]
theorem ok12 : SpecOk Tryd.prog 12 sp12 := by
 have hV : VOk Tryd.prog (env [(18, sp18), (27, sp27_keptO)]) := env_ok ⟨ok18, ok27_keptO, trivial⟩
 refine SpecOk.ofO2 (Enters.of Tryd.func12 (by decide)) fun v chosen rr hr => ?_
 obtain ⟨r, hg, rfl⟩ := mpj hr; clear hr
 refine PureCon.ofN hV Tryd.func12 rfl Tryd.ntmps12 fun R hR w0 I0 Q hQ => ?_
 unfold pOssia at hg
 refine AWp.rS hV none [2, 3, 4] fun K k1 => ?_
 simp; repeat refine ai ?_
 refine kc [(2, .ptr 0 0), (3, .ptr 1 0), (4, .ptr 2 0)] [.w 27 v, .w 43 chosen, .var 27 [.d (enc (0 : Int)), .nils 5]] (k1 _ ?_)
 refine AWp.seqJ (fun s' => pOssia_j1 v chosen = some r ∧ Sub s' ⟨[(2, .ptr 0 0), (3, .ptr 1 0), (4, .ptr 2 0)], [.w 27 v, .w 43 chosen, .var 27 [.d (enc (0 : Int)), .nils 5]]⟩) (fun _ k3 => ?_) ?_
 ·refine AWp.rS hV none [2, 3, 4, 8, 9, 10] fun K k4 => ?_
  simp; repeat refine ai ?_
  refine kc [(2, .ptr 0 0), (3, .ptr 1 0), (4, .ptr 2 0), se 8 chosen, se 9 ((chosen.length : Int) : Int), se 10 (0 : Int)] [.w 27 v, .w 43 chosen, .var 27 [.d (enc (0 : Int)), .nils 5]] (k4 _ ?_)
  refine AWp.block ?_
  obtain ⟨o56, hl57, hq58⟩ := bnd_some hg; clear hg
  refine AWp.loopO (fun (z2u10 : Int) => ⟨[(2, .ptr 0 0), (3, .ptr 1 0), (4, .ptr 2 0), se 8 chosen, se 9 ((chosen.length : Int) : Int), se 10 z2u10], [.w 27 v, .w 43 chosen, .var 27 [.d (enc (0 : Int)), .nils 5]]⟩) (pOssia_s7 chosen) 0 hl57 ?_ fun z2u10 w61 _ hg hx60 k5 => ?_
  ·exact Sub.rm [0, 1, 2]
  unfold pOssia_s7 at hg; try dsimp only at hg
  show AWp _ _ _ _ _ ⟨[(2, .ptr 0 0), (3, .ptr 1 0), (4, .ptr 2 0), se 8 chosen, se 9 ((chosen.length : Int) : Int), se 10 z2u10], [.w 27 v, .w 43 chosen, .var 27 [.d (enc (0 : Int)), .nils 5]]⟩ _
  refine AWp.rS hV none [2, 3, 4, 8, 9, 10, 11] fun K k62 => ?_
  simp; repeat refine ai ?_
  refine kc [(2, .ptr 0 0), (3, .ptr 1 0), (4, .ptr 2 0), se 8 chosen, se 9 ((chosen.length : Int) : Int), se 10 z2u10, se 11 (decide (z2u10 < (chosen.length : Int)))] [.w 27 v, .w 43 chosen, .var 27 [.d (enc (0 : Int)), .nils 5]] (k62 _ ?_)
  refine AWp.seqG fun _ k63 => ?_
  refine AWp.cnd hg rfl ?_ ?_ <;> (clear hg; intro h64 hg)
  ·refine AWp.skip ?_
   refine k63 _ ?_
   refine AWp.seqJ (fun s' => pOssia_j8 z2u10 = some w61 ∧ Sub s' ⟨[(2, .ptr 0 0), (3, .ptr 1 0), (4, .ptr 2 0), se 8 chosen, se 9 ((chosen.length : Int) : Int), se 10 z2u10], [.w 27 v, .w 43 chosen, .var 27 [.d (enc (0 : Int)), .nils 5]]⟩) (fun _ k66 => ?_) ?_
   ·refine AWp.block ?_
    obtain ⟨x67, h68, hg⟩ := bnd_some hg
    obtain ⟨h68a, h68b, h68f⟩ := at_e h68; have h68g := h68f; try simp at h68g
    refine AWp.rS hV none [2, 3, 4, 6, 7, 8, 9, 10] fun K k69 => ?_
    simp [h68f, h68g]; repeat refine ai ?_
    refine kd [(2, .ptr 0 0), (3, .ptr 1 0), (4, .ptr 2 0), se 6 z2u10, se 7 x67, se 8 chosen, se 9 ((chosen.length : Int) : Int), se 10 z2u10] [.w 27 v, .w 43 chosen, .var 27 [.d (enc (0 : Int)), .nils 5]] (by first | rfl | (simp [h68f, h68g] <;> grind)) (k69 _ ?_)
    obtain ⟨y73u33, hx74, hg⟩ := bnd_some hg
    unfold pOssia_r9 at hx74
    refine AWp.seqJ (fun s' => Sub s' ⟨[(2, .ptr 0 0), (3, .ptr 1 0), (4, .ptr 2 0), se 8 chosen, se 9 ((chosen.length : Int) : Int), se 10 z2u10, se 33 y73u33], [.w 27 v, .w 43 chosen, .var 27 [.d (enc (0 : Int)), .nils 5]]⟩) (fun _ k75 => ?_) ?_
    ·rcases ifb_o hx74 with ⟨c76, hx74⟩ | ⟨c76, hx74⟩
     ·have c76g := c76; try simp at c76g
      refine AWp.regF hV (some [18, 19, 22, 23, 24, 25, 26, 27, 28, 29, 30, 31, 32]) [2, 3, 4, 8, 9, 10, 33] fun K k77 => ?_
      simp [c76, c76g]; repeat refine ai ?_
      cases hx74; exact k77 _ (k75 _ (Sub.rm [0, 1, 2]))
     ·have c76g := c76; try simp at c76g
      rcases ifb_o hx74 with ⟨c78, hx74⟩ | ⟨c78, hx74⟩
      ·have c78g := c78; try simp at c78g
       refine AWp.regF hV (some [22, 23, 24, 25, 26, 27, 28, 29, 30, 31, 32]) [2, 3, 4, 8, 9, 10, 33] fun K k79 => ?_
       simp [c76, c76g, c78, c78g]; repeat refine ai ?_
       cases hx74; exact k79 _ (k75 _ (Sub.rm [0, 1, 2]))
      ·have c78g := c78; try simp at c78g
       rcases ifb_o hx74 with ⟨c80, hx74⟩ | ⟨c80, hx74⟩
       ·have c80g := c80; try simp at c80g
        obtain ⟨g70, hx74⟩ := grd_some hx74
        unfold inI at g70
        obtain ⟨x71, h72, hx74⟩ := bnd_some hx74
        obtain ⟨h72a, h72b, h72f⟩ := at_e h72; have h72g := h72f; try simp at h72g
        refine AWp.regF hV (some []) [2, 3, 4, 8, 9, 10, 33] fun K k81 => ?_
        simp [c76, c76g, c78, c78g, c80, c80g, h72f, h72g]; repeat refine ai ?_
        cases hx74; exact k81 _ (k75 _ (Sub.rm [0, 1, 2]))
       ·have c80g := c80; try simp at c80g
        refine AWp.regF hV (some [25, 26, 27, 28, 29, 30, 31]) [2, 3, 4, 8, 9, 10, 33] fun K k82 => ?_
        simp [c76, c76g, c78, c78g, c80, c80g]; repeat refine ai ?_
        cases hx74; exact k82 _ (k75 _ (Sub.rm [0, 1, 2]))
    ·intro s' hs
     refine AWp.sub hs ?_
     clear hs s'
     refine AWp.cnd hg rfl ?_ ?_ <;> (clear hg; intro h83 hg)
     ·refine AWp.rS hV none [4, 5] fun K k84 => ?_
      simp; repeat refine ai ?_
      refine kc [(4, .ptr 2 0), se 5 (1 : Int)] [.w 27 v, .w 43 chosen, .var 27 [.d (enc (0 : Int)), .nils 5]] (k84 _ ?_)
      refine AWp.ret ?_
      cases hx60 _ (oij hg).symm; have hg := hq58; try dsimp only at hg
      cases hg; exact hQ _ _ (.inl rfl) rt
     ·refine AWp.skip ?_
      exact k66 _ ⟨hg, Sub.rm [0, 1, 2]⟩
   ·rintro s' ⟨hg, hs⟩
    unfold pOssia_j8 at hg
    refine AWp.sub hs ?_
    obtain ⟨g86, hg⟩ := grd_some hg
    unfold inI at g86
    refine AWp.regF hV none [2, 3, 4, 8, 9, 10] fun K k87 => ?_
    simp; repeat refine ai ?_
    refine kc [(2, .ptr 0 0), (3, .ptr 1 0), (4, .ptr 2 0), se 8 chosen, se 9 ((chosen.length : Int) : Int), se 10 ((z2u10 + 1) : Int)] [.w 27 v, .w 43 chosen, .var 27 [.d (enc (0 : Int)), .nils 5]] (k87 _ ?_)
    exact k5 _ _ (oij hg).symm (Sub.rm [0, 1, 2])
  ·refine AWp.exit ?_
   cases hx60 _ (oij hg).symm; have hg := hq58; try dsimp only at hg
   exact k3 _ ⟨hg, Sub.rm [0, 1, 2]⟩
 ·rintro s' ⟨hg, hs⟩
  unfold pOssia_j1 at hg
  refine AWp.sub hs ?_
  refine AWp.seqG fun _ k91 => ?_
  obtain ⟨x92, h93, hg⟩ := bnd_some hg
  refine AWp.rS hV none [2, 3, 4, 38] fun K k94 => ?_
  simp [sp18, h93]; repeat refine ai ?_
  refine kd [(2, .ptr 0 0), (3, .ptr 1 0), (4, .ptr 2 0), se 38 (!x92)] [.w 27 v, .w 43 chosen, .var 27 [.d (enc (0 : Int)), .nils 5]] (by first | rfl | (simp [sp18, h93] <;> grind)) (k94 _ ?_)
  refine AWp.cnd hg rfl ?_ ?_ <;> (clear hg; intro h95 hg)
  ·refine AWp.rS hV none [4, 5] fun K k96 => ?_
   simp; repeat refine ai ?_
   refine kc [(4, .ptr 2 0), se 5 (1 : Int)] [.w 27 v, .w 43 chosen, .var 27 [.d (enc (0 : Int)), .nils 5]] (k96 _ ?_)
   refine AWp.ret ?_
   cases hg; exact hQ _ _ (.inl rfl) rt
  ·refine AWp.skip ?_
   refine k91 _ ?_
   refine AWp.sub (s' := ⟨[se 3 ((⟨chosen⟩ : (Bx (List Int))) : (Bx (List Int))), (2, .ptr 0 0), (4, .ptr 1 0), se 38 (!x92)], [.w 27 v, .var 27 [.d (enc (0 : Int)), .nils 5]]⟩) (Sub.fz 3 1 chosen [0, 2]) ?_
   obtain ⟨x97, h98, hg⟩ := bnd_some hg
   have h98g := h98; try simp at h98g
   refine AWp.rS hV none [4, 5] fun K k99 => ?_
   simp [sp27_keptO, h98, h98g]; repeat refine ai ?_
   refine kd [(4, .ptr 1 0), se 5 (0 : Int)] [.w 27 v, .w 27 x97] (by first | rfl | (simp [sp27_keptO, h98, h98g] <;> grind)) (k99 _ ?_)
   refine AWp.ret ?_
   cases hg; exact hQ _ _ (.inl rfl) rt
end
end Go.Proofs.YtjfkfkjkbgiciaaDoor
namespace Go.Proofs.YtjfkfkjkbgiciaaDoor
open Go Go.Eva Enc
structure C17 where
instance : Enc C17 := ⟨fun _ => .fn 17, fun _ => ⟨⟩, 1, fun _ => rfl, fun _ => rfl, by simp [D.cells, D.one]⟩
theorem enc_C17 (c : C17) : (enc c : D) = .fn 17 := rfl
theorem dec_C17 (d : D) : (dec d : C17) = ⟨⟩ := rfl
theorem size_C17 : size C17 = 1 := rfl
theorem eta_C17 (c : C17) : (⟨⟩ : C17) = c := rfl
structure C19 where
  v0 : (Bx (List View))
instance : Enc C19 := ⟨fun c => .clo 19 [enc c.v0], fun d => match d with | .clo _ [a0] => ⟨dec a0⟩ | _ => ⟨dec D.nilp⟩, 1, fun c => by simp only [dec_enc], fun _ => rfl, by simp [D.cells, D.one]⟩
theorem enc_C19 (c : C19) : (enc c : D) = .clo 19 [enc c.v0] := rfl
theorem dec_C19 (g : FuncId) (a0 : D) : (dec (.clo g [a0]) : C19) = ⟨dec a0⟩ := rfl
theorem size_C19 : size C19 = 1 := rfl
theorem eta_C19 (c : C19) : (⟨c.v0⟩ : C19) = c := rfl
noncomputable def eqFit_j6 (z2u17 : Int) : Option ((Int) ⊕ ((Bool) ⊕ (Unit))) :=
  grd (inI (z2u17 + 1)) (some (.inl (z2u17 + 1)))
noncomputable def eqFit_s5 (a : (List Measure)) (b : (List Measure)) : Int → Option ((Int) ⊕ ((Bool) ⊕ (Unit))) := fun (z2u17 : Int) =>
  ifb (decide (z2u17 < (a.length : Int))) (bnd (at? a z2u17) fun x57 =>
  bnd (at? b z2u17) fun x60 =>
  bnd (fit1 x57 x60) fun x63 =>
  ifb (!x63) (some (.inr (.inl false)))
  (eqFit_j6 z2u17))
  (some (.inr (.inr ())))
noncomputable def eqFit_j1 : Option Bool :=
  some true
noncomputable def eqFit (a : (List Measure)) (b : (List Measure)) (f : C39) : Option Bool :=
  ifb (!decide ((a.length : Int) = (b.length : Int))) (some false)
  (bnd (loopO (eqFit_s5 a b) 0) fun o46 =>
  match o46 with
  | .inl q72u0 => some q72u0
  | .inr () => eqFit_j1)
noncomputable def fit_r1 (a : View) (b : View) : Option Bool :=
  (ifb (decide (a.part = b.part)) (bnd (eqFit a.measures b.measures (⟨⟩ : C39)) fun x2 =>
  some x2) (some false))
noncomputable def fit (a : View) (b : View) : Option Bool :=
  bnd (fit_r1 a b) fun y4u4 =>
  some y4u4
noncomputable def notView (v : View) : Option Bool :=
  bnd (isView v) fun x2 =>
  some (!x2)
noncomputable def noFit (v : View) (l : (Bx (List View))) : Option Bool :=
  bnd (at? l.v 0) fun x2 =>
  bnd (fit x2 v) fun x4 =>
  some (!x4)
noncomputable def idxV_j6 (z2u8 : Int) : Option ((Int) ⊕ ((Int) ⊕ (Unit))) :=
  grd (inI (z2u8 + 1)) (some (.inl (z2u8 + 1)))
noncomputable def idxV_s5 (l : (List View)) : Int → Option ((Int) ⊕ ((Int) ⊕ (Unit))) := fun (z2u8 : Int) =>
  ifb (decide (z2u8 < (l.length : Int))) (bnd (at? l z2u8) fun x48 =>
  bnd (notView x48) fun x50 =>
  ifb x50 (some (.inr (.inl z2u8)))
  (idxV_j6 z2u8))
  (some (.inr (.inr ())))
noncomputable def idxV_j1 : Option Int :=
  some (-1)
noncomputable def idxV (l : (List View)) (f : C17) : Option Int :=
  bnd (loopO (idxV_s5 l) 0) fun o36 =>
  match o36 with
  | .inl q59u0 => some q59u0
  | .inr () => idxV_j1
noncomputable def contV (l : (List View)) (f : C17) : Option Bool :=
  bnd (idxV l f) fun x2 =>
  some (decide (0 ≤ x2))
noncomputable def idxF_j6 (z2u8 : Int) : Option ((Int) ⊕ ((Int) ⊕ (Unit))) :=
  grd (inI (z2u8 + 1)) (some (.inl (z2u8 + 1)))
noncomputable def idxF_s5 (l : (List View)) (f : C19) : Int → Option ((Int) ⊕ ((Int) ⊕ (Unit))) := fun (z2u8 : Int) =>
  ifb (decide (z2u8 < (l.length : Int))) (bnd (at? l z2u8) fun x48 =>
  bnd (noFit x48 f.v0) fun x50 =>
  ifb x50 (some (.inr (.inl z2u8)))
  (idxF_j6 z2u8))
  (some (.inr (.inr ())))
noncomputable def idxF_j1 : Option Int :=
  some (-1)
noncomputable def idxF (l : (List View)) (f : C19) : Option Int :=
  bnd (loopO (idxF_s5 l f) 0) fun o36 =>
  match o36 with
  | .inl q59u0 => some q59u0
  | .inr () => idxF_j1
noncomputable def contF (l : (List View)) (f : C19) : Option Bool :=
  bnd (idxF l f) fun x2 =>
  some (decide (0 ≤ x2))
end Go.Proofs.YtjfkfkjkbgiciaaDoor
namespace Go.Proofs.YtjfkfkjkbgiciaaDoor
open Go Go.Eva Enc
set_option maxRecDepth 4000
attribute [local instance] rndX
attribute [local congr] AWp.congrS
attribute [local simp] evalSeq opRes guardPc evalOp evT Eva.get startT strip putT Eva.after constT typed obAll holds dstOk R.ok R.bad ofD binD unD pickT subL subP Op.operands Call.operands toD toD1 argsD argsD1 callD callT typedAll cfind quietT quietT1 spec0 spec1 spec2 spec3 enc_int enc_bool enc_str enc_fn enc_list dec_int dec_bool dec_str dec_fn dec_list size_int size_str map_dec_enc map_dec_comp cellsT D.cells T.oneT D.one mkT dataT zeroT unD1 setAt loadAs loadEl storeAs fieldP fieldV sizeE intOfT indexP appendT lenT sliceT elemSize arith lfsOk lfOk isAggD mkD fillT placeS TD.agg env restr List.map keyIdx mapTy lookT mapPutT mapDelT mapOf indexS convT evalPure range1 range2 range3 range4 range5 range6 range7 range8 enc_intk size_intk dec_intk eta_intk keysInt_nil keyIdx_E keysInt_E isE_iff put_E del_E get_E getok_E mkeys_E mkeys_E' mkeys_enc specO0 specO1 specO2 specO3 specO4 opD skips gone unbox cloT subO clearT makeT enc_bx dec_bx size_bx selS cloIs List.contains_cons List.contains_nil elAt_zero enc_Rat dec_Rat size_Rat eta_Rat beqL_Rat beqR_Rat enc_Pitch dec_Pitch size_Pitch eta_Pitch beqL_Pitch beqR_Pitch enc_Written dec_Written size_Written eta_Written beqL_Written beqR_Written enc_Measure dec_Measure size_Measure eta_Measure enc_View dec_View size_View eta_View enc_Fraction dec_Fraction size_Fraction eta_Fraction beqL_Fraction beqR_Fraction dat0 len_natTab eqT4 eqT34 eqT36 eqT38 eqT114 te1 te2 te3 te4 te5 te6 te7 te8 te9 te10 te11 te12 te13 te14 te15 te16 te17 te18 te19 te21 te22 te23 te24 te25 te26 te27 te28 te30 te31 te32 te33 te34 te35 te36 te37 te38 te39 te40 te41 te42 te43 te45 te46 te47 te48 te49 te50 te51 te52 te53 te55 te56 te57 te58 te59 te60 te61 te62 te63 te64 te65 te66 te67 te68 te69 te70 te71 te72 te73 te74 te75 te76 te77 te79 te80 te81 te82 te83 te84 te85 te86 te87 te88 te89 te90 te91 te92 te93 te94 te95 te96 te97 te98 te99 te100 te101 te102 te104 te105 te106 te108 te109 te110 te111 te112 te113 te114 te115 te116 te117 te118 te119 te120 te121 te122 te123 te124 te125 te126 te127 te128 te129 te130 te131 te133 te134 te135 te136 te137 te138 te139 te140 te141 te142 te143 te144 te145 te146 te147 te148 te149 te150
section
variable [Onn]
attribute [local simp] enc_C36 dec_C36 size_C36 eta_C36 enc_C39 dec_C39 size_C39 eta_C39 enc_C28 dec_C28 size_C28 eta_C28 enc_C52_28 dec_C52_28 size_C52_28 eta_C52_28 enc_C29 dec_C29 size_C29 eta_C29 enc_C55_29 dec_C55_29 size_C55_29 eta_C55_29 enc_C33 dec_C33 size_C33 eta_C33 enc_C34 dec_C34 size_C34 eta_C34 enc_C56 dec_C56 size_C56 eta_C56 enc_C30 dec_C30 size_C30 eta_C30 enc_C52_30 dec_C52_30 size_C52_30 eta_C52_30 enc_C55_34 dec_C55_34 size_C55_34 eta_C55_34 enc_C17 dec_C17 size_C17 eta_C17 enc_C19 dec_C19 size_C19 eta_C19
noncomputable def sp38_eqFit : Eva.Spec := specO3 fun (a : (List Measure)) (b : (List Measure)) (f : C39) => (eqFit a b f).map fun r => enc r
theorem ok38_eqFit : SpecOk Tryd.prog 38 sp38_eqFit := by
 have hV : VOk Tryd.prog (env [(39, sp39)]) := env_ok ⟨ok39, trivial⟩
 refine SpecOk.ofO3 (Enters.of Tryd.func38 (by decide)) fun a b f rr hr => ?_
 obtain ⟨r, hg, rfl⟩ := mpj hr; clear hr
 refine PureCon.ofN hV Tryd.func38 rfl Tryd.ntmps38 fun R hR w0 I0 Q hQ => ?_
 unfold eqFit at hg
 refine AWp.rS hV none [0, 1, 2] fun K k1 => ?_
 simp; repeat refine ai ?_
 refine kc [se 0 a, se 1 b, se 2 f] [] (k1 _ ?_)
 refine AWp.seqG fun _ k2 => ?_
 refine AWp.rS hV none [0, 1, 2, 14] fun K k3 => ?_
 simp; repeat refine ai ?_
 refine kc [se 0 a, se 1 b, se 2 f, se 14 (!decide ((a.length : Int) = (b.length : Int)))] [] (k3 _ ?_)
 refine AWp.cnd hg rfl ?_ ?_ <;> (clear hg; intro h4 hg)
 ·refine AWp.rS hV none [6] fun K k5 => ?_
  simp; repeat refine ai ?_
  refine kc [se 6 false] [] (k5 _ ?_)
  refine AWp.ret ?_
  cases hg; exact hQ _ _ (.inl rfl) rt
 ·refine AWp.skip ?_
  refine k2 _ ?_
  refine AWp.seqJ (fun s' => eqFit_j1 = some r ∧ Sub s' ⟨[], []⟩) (fun _ k7 => ?_) ?_
  ·refine AWp.rS hV none [1, 2, 15, 16, 17] fun K k8 => ?_
   simp; repeat refine ai ?_
   refine kc [se 1 b, se 2 f, se 15 a, se 16 ((a.length : Int) : Int), se 17 (0 : Int)] [] (k8 _ ?_)
   refine AWp.block ?_
   obtain ⟨o46, hl47, hq48⟩ := bnd_some hg; clear hg
   refine AWp.loopO (fun (z2u17 : Int) => ⟨[se 1 b, se 2 f, se 15 a, se 16 ((a.length : Int) : Int), se 17 z2u17], []⟩) (eqFit_s5 a b) 0 hl47 ?_ fun z2u17 w51 _ hg hx50 k9 => ?_
   ·exact Sub.rm []
   unfold eqFit_s5 at hg; try dsimp only at hg
   show AWp _ _ _ _ _ ⟨[se 1 b, se 2 f, se 15 a, se 16 ((a.length : Int) : Int), se 17 z2u17], []⟩ _
   refine AWp.rS hV none [1, 2, 15, 16, 17, 18] fun K k52 => ?_
   simp; repeat refine ai ?_
   refine kc [se 1 b, se 2 f, se 15 a, se 16 ((a.length : Int) : Int), se 17 z2u17, se 18 (decide (z2u17 < (a.length : Int)))] [] (k52 _ ?_)
   refine AWp.seqG fun _ k53 => ?_
   refine AWp.cnd hg rfl ?_ ?_ <;> (clear hg; intro h54 hg)
   ·refine AWp.skip ?_
    refine k53 _ ?_
    refine AWp.seqJ (fun s' => eqFit_j6 z2u17 = some w51 ∧ Sub s' ⟨[se 1 b, se 2 f, se 15 a, se 16 ((a.length : Int) : Int), se 17 z2u17], []⟩) (fun _ k56 => ?_) ?_
    ·refine AWp.block ?_
     obtain ⟨x57, h58, hg⟩ := bnd_some hg
     obtain ⟨h58a, h58b, h58f⟩ := at_e h58; have h58g := h58f; try simp at h58g
     refine AWp.rS hV none [1, 2, 7, 8, 15, 16, 17] fun K k59 => ?_
     simp [h58f, h58g]; repeat refine ai ?_
     refine kd [se 1 b, se 2 f, se 7 z2u17, (8, .ptr 0 0), se 15 a, se 16 ((a.length : Int) : Int), se 17 z2u17] [.w 42 x57] (by first | rfl | (simp [h58f, h58g] <;> grind)) (k59 _ ?_)
     obtain ⟨x60, h61, hg⟩ := bnd_some hg
     obtain ⟨h61a, h61b, h61f⟩ := at_e h61; have h61g := h61f; try simp at h61g
     refine AWp.rS hV none [1, 2, 8, 9, 15, 16, 17] fun K k62 => ?_
     simp [h61f, h61g]; repeat refine ai ?_
     refine kd [se 1 b, se 2 f, (8, .ptr 0 0), (9, .ptr 1 0), se 15 a, se 16 ((a.length : Int) : Int), se 17 z2u17] [.w 42 x57, .w 42 x60] (by first | rfl | (simp [h61f, h61g] <;> grind)) (k62 _ ?_)
     obtain ⟨x63, h64, hg⟩ := bnd_some hg
     refine AWp.rS hV none [1, 2, 15, 16, 17, 30] fun K k65 => ?_
     simp [sp39, h64]; repeat refine ai ?_
     refine kd [se 1 b, se 2 f, se 15 a, se 16 ((a.length : Int) : Int), se 17 z2u17, se 30 (!x63)] [.w 42 x57, .w 42 x60] (by first | rfl | (simp [sp39, h64] <;> grind)) (k65 _ ?_)
     refine AWp.cnd hg rfl ?_ ?_ <;> (clear hg; intro h66 hg)
     ·refine AWp.rS hV none [6] fun K k67 => ?_
      simp; repeat refine ai ?_
      refine kc [se 6 false] [.w 42 x57, .w 42 x60] (k67 _ ?_)
      refine AWp.ret ?_
      cases hx50 _ (oij hg).symm; have hg := hq48; try dsimp only at hg
      cases hg; exact hQ _ _ (.inl rfl) rt
     ·refine AWp.skip ?_
      exact k56 _ ⟨hg, Sub.rm []⟩
    ·rintro s' ⟨hg, hs⟩
     unfold eqFit_j6 at hg
     refine AWp.sub hs ?_
     obtain ⟨g69, hg⟩ := grd_some hg
     unfold inI at g69
     refine AWp.regF hV none [1, 2, 15, 16, 17] fun K k70 => ?_
     simp; repeat refine ai ?_
     refine kc [se 1 b, se 2 f, se 15 a, se 16 ((a.length : Int) : Int), se 17 ((z2u17 + 1) : Int)] [] (k70 _ ?_)
     exact k9 _ _ (oij hg).symm (Sub.rm [])
   ·refine AWp.exit ?_
    cases hx50 _ (oij hg).symm; have hg := hq48; try dsimp only at hg
    exact k7 _ ⟨hg, Sub.rm []⟩
  ·rintro s' ⟨hg, hs⟩
   unfold eqFit_j1 at hg
   refine AWp.sub hs ?_
   refine AWp.rS hV none [6] fun K k74 => ?_
   simp; repeat refine ai ?_
   refine kc [se 6 true] [] (k74 _ ?_)
   refine AWp.ret ?_
   cases hg; exact hQ _ _ (.inl rfl) rt
noncomputable def sp20 : Eva.Spec := specO2 fun (a : View) (b : View) => (fit a b).map fun r => enc r
theorem ok20 : SpecOk Tryd.prog 20 sp20 := by
 have hV : VOk Tryd.prog (env [(38, sp38_eqFit)]) := env_ok ⟨ok38_eqFit, trivial⟩
 refine SpecOk.ofO2 (Enters.of Tryd.func20 (by decide)) fun a b rr hr => ?_
 obtain ⟨r, hg, rfl⟩ := mpj hr; clear hr
 refine PureCon.ofN hV Tryd.func20 rfl Tryd.ntmps20 fun R hR w0 I0 Q hQ => ?_
 unfold fit at hg
 refine AWp.rS hV none [2, 3] fun K k1 => ?_
 simp; repeat refine ai ?_
 refine kc [(2, .ptr 0 0), (3, .ptr 1 0)] [.w 27 a, .w 27 b] (k1 _ ?_)
 obtain ⟨y4u4, hx5, hg⟩ := bnd_some hg
 unfold fit_r1 at hx5
 refine AWp.seqJ (fun s' => Sub s' ⟨[se 4 y4u4], []⟩) (fun _ k6 => ?_) ?_
 ·rcases ifb_o hx5 with ⟨c7, hx5⟩ | ⟨c7, hx5⟩
  ·have c7g := eq_true (of_decide_eq_true c7)
   obtain ⟨x2, h3, hx5⟩ := bnd_some hx5
   have h3g := h3; try simp at h3g
   refine AWp.regF hV (some []) [4] fun K k8 => ?_
   simp [sp38_eqFit, c7, c7g, h3, h3g]; repeat refine ai ?_
   cases hx5; exact k8 _ (k6 _ (Sub.rm []))
  ·have c7g := c7; try simp at c7g
   refine AWp.regF hV (some [11, 12, 13, 14, 15]) [4] fun K k9 => ?_
   simp [sp38_eqFit, c7, c7g]; repeat refine ai ?_
   cases hx5; exact k9 _ (k6 _ (Sub.rm []))
 ·intro s' hs
  refine AWp.sub hs ?_
  clear hs s'
  refine AWp.ret ?_
  cases hg; exact hQ _ _ (.inl rfl) rt
noncomputable def sp17 : Eva.Spec := specO1 fun (v : View) => (notView v).map fun r => enc r
theorem ok17 : SpecOk Tryd.prog 17 sp17 := by
 have hV : VOk Tryd.prog (env [(18, sp18)]) := env_ok ⟨ok18, trivial⟩
 refine SpecOk.ofO1 (Enters.of Tryd.func17 (by decide)) fun v rr hr => ?_
 obtain ⟨r, hg, rfl⟩ := mpj hr; clear hr
 refine PureCon.ofN hV Tryd.func17 rfl Tryd.ntmps17 fun R hR w0 I0 Q hQ => ?_
 unfold notView at hg
 refine AWp.rS hV none [1] fun K k1 => ?_
 simp; repeat refine ai ?_
 refine kc [(1, .ptr 0 0)] [.w 27 v] (k1 _ ?_)
 obtain ⟨x2, h3, hg⟩ := bnd_some hg
 refine AWp.rS hV none [2] fun K k4 => ?_
 simp [sp18, h3]; repeat refine ai ?_
 refine kd [se 2 (!x2)] [.w 27 v] (by first | rfl | (simp [sp18, h3] <;> grind)) (k4 _ ?_)
 refine AWp.ret ?_
 cases hg; exact hQ _ _ (.inl rfl) rt
noncomputable def sp19_noFit : Eva.Spec := specO2 fun (v : View) (l : (Bx (List View))) => (noFit v l).map fun r => enc r
theorem ok19_noFit : SpecOk Tryd.prog 19 sp19_noFit := by
 have hV : VOk Tryd.prog (env [(20, sp20)]) := env_ok ⟨ok20, trivial⟩
 refine SpecOk.ofO2 (Enters.of Tryd.func19 (by decide)) fun v l rr hr => ?_
 obtain ⟨r, hg, rfl⟩ := mpj hr; clear hr
 refine PureCon.ofN hV Tryd.func19 rfl Tryd.ntmps19 fun R hR w0 I0 Q hQ => ?_
 unfold noFit at hg
 refine AWp.rS hV none [1, 2] fun K k1 => ?_
 simp; repeat refine ai ?_
 refine kc [se 1 l, (2, .ptr 0 0)] [.w 27 v] (k1 _ ?_)
 obtain ⟨x2, h3, hg⟩ := bnd_some hg
 obtain ⟨h3a, h3b, h3f⟩ := at_e h3; have h3g := h3f; try simp at h3g
 obtain ⟨x4, h5, hg⟩ := bnd_some hg
 refine AWp.rDF hV mixed none 4 [] [3] (by decide) fun K k6 => ?_
 simp [sp20, h3f, h3g, h5]; repeat refine ai ?_
 refine kd [se 3 (!x4)] [.w 27 v] (by first | rfl | (simp [sp20, h3f, h3g, h5] <;> grind)) (k6 _ ?_)
 refine AWp.ret ?_
 cases hg; exact hQ _ _ (.inl rfl) rt
noncomputable def sp35_idxV : Eva.Spec := specO2 fun (l : (List View)) (f : C17) => (idxV l f).map fun r => enc r
theorem ok35_idxV : SpecOk Tryd.prog 35 sp35_idxV := by
 have hV : VOk Tryd.prog (env [(17, sp17)]) := env_ok ⟨ok17, trivial⟩
 refine SpecOk.ofO2 (Enters.of Tryd.func35 (by decide)) fun l f rr hr => ?_
 obtain ⟨r, hg, rfl⟩ := mpj hr; clear hr
 refine PureCon.ofN hV Tryd.func35 rfl Tryd.ntmps35 fun R hR w0 I0 Q hQ => ?_
 unfold idxV at hg
 refine AWp.rS hV none [0, 1] fun K k1 => ?_
 simp; repeat refine ai ?_
 refine kc [se 0 l, se 1 f] [] (k1 _ ?_)
 refine AWp.seqJ (fun s' => idxV_j1 = some r ∧ Sub s' ⟨[], []⟩) (fun _ k3 => ?_) ?_
 ·refine AWp.rS hV none [0, 1, 7, 8] fun K k4 => ?_
  simp; repeat refine ai ?_
  refine kc [se 0 l, se 1 f, se 7 ((l.length : Int) : Int), se 8 (0 : Int)] [] (k4 _ ?_)
  refine AWp.block ?_
  obtain ⟨o36, hl37, hq38⟩ := bnd_some hg; clear hg
  refine AWp.loopO (fun (z2u8 : Int) => ⟨[se 0 l, se 1 f, se 7 ((l.length : Int) : Int), se 8 z2u8], []⟩) (idxV_s5 l) 0 hl37 ?_ fun z2u8 w41 _ hg hx40 k5 => ?_
  ·exact Sub.rm []
  unfold idxV_s5 at hg; try dsimp only at hg
  show AWp _ _ _ _ _ ⟨[se 0 l, se 1 f, se 7 ((l.length : Int) : Int), se 8 z2u8], []⟩ _
  refine AWp.rS hV none [0, 1, 7, 8, 9] fun K k42 => ?_
  simp; repeat refine ai ?_
  refine kc [se 0 l, se 1 f, se 7 ((l.length : Int) : Int), se 8 z2u8, se 9 (decide (z2u8 < (l.length : Int)))] [] (k42 _ ?_)
  refine AWp.seqG fun _ k43 => ?_
  refine AWp.cnd hg rfl ?_ ?_ <;> (clear hg; intro h44 hg)
  ·refine AWp.skip ?_
   refine k43 _ ?_
   refine AWp.seqJ (fun s' => idxV_j6 z2u8 = some w41 ∧ Sub s' ⟨[se 0 l, se 1 f, se 7 ((l.length : Int) : Int), se 8 z2u8], []⟩) (fun _ k46 => ?_) ?_
   ·refine AWp.block ?_
    refine AWp.rS hV none [0, 1, 5, 7, 8] fun K k47 => ?_
    simp; repeat refine ai ?_
    refine kc [se 0 l, se 1 f, se 5 z2u8, se 7 ((l.length : Int) : Int), se 8 z2u8] [] (k47 _ ?_)
    obtain ⟨x48, h49, hg⟩ := bnd_some hg
    obtain ⟨h49a, h49b, h49f⟩ := at_e h49; have h49g := h49f; try simp at h49g
    obtain ⟨x50, h51, hg⟩ := bnd_some hg
    refine AWp.rS hV none [0, 1, 5, 7, 8, 16] fun K k52 => ?_
    simp [sp17, h49f, h49g, h51]; repeat refine ai ?_
    refine kd [se 0 l, se 1 f, se 5 z2u8, se 7 ((l.length : Int) : Int), se 8 z2u8, se 16 x50] [] (by first | rfl | (simp [sp17, h49f, h49g, h51] <;> grind)) (k52 _ ?_)
    refine AWp.cnd hg rfl ?_ ?_ <;> (clear hg; intro h53 hg)
    ·refine AWp.rS hV none [4] fun K k54 => ?_
     simp; repeat refine ai ?_
     refine kc [se 4 z2u8] [] (k54 _ ?_)
     refine AWp.ret ?_
     cases hx40 _ (oij hg).symm; have hg := hq38; try dsimp only at hg
     cases hg; exact hQ _ _ (.inl rfl) rt
    ·refine AWp.skip ?_
     exact k46 _ ⟨hg, Sub.rm []⟩
   ·rintro s' ⟨hg, hs⟩
    unfold idxV_j6 at hg
    refine AWp.sub hs ?_
    obtain ⟨g56, hg⟩ := grd_some hg
    unfold inI at g56
    refine AWp.regF hV none [0, 1, 7, 8] fun K k57 => ?_
    simp; repeat refine ai ?_
    refine kc [se 0 l, se 1 f, se 7 ((l.length : Int) : Int), se 8 ((z2u8 + 1) : Int)] [] (k57 _ ?_)
    exact k5 _ _ (oij hg).symm (Sub.rm [])
  ·refine AWp.exit ?_
   cases hx40 _ (oij hg).symm; have hg := hq38; try dsimp only at hg
   exact k3 _ ⟨hg, Sub.rm []⟩
 ·rintro s' ⟨hg, hs⟩
  unfold idxV_j1 at hg
  refine AWp.sub hs ?_
  refine AWp.rS hV none [4] fun K k61 => ?_
  simp; repeat refine ai ?_
  refine kc [se 4 ((-1) : Int)] [] (k61 _ ?_)
  refine AWp.ret ?_
  cases hg; exact hQ _ _ (.inl rfl) rt
noncomputable def sp16_contV : Eva.Spec := specO2 fun (l : (List View)) (f : C17) => (contV l f).map fun r => enc r
theorem ok16_contV : SpecOk Tryd.prog 16 sp16_contV := by
 have hV : VOk Tryd.prog (env [(35, sp35_idxV)]) := env_ok ⟨ok35_idxV, trivial⟩
 refine SpecOk.ofO2 (Enters.of Tryd.func16 (by decide)) fun l f rr hr => ?_
 obtain ⟨r, hg, rfl⟩ := mpj hr; clear hr
 refine PureCon.ofN hV Tryd.func16 rfl Tryd.ntmps16 fun R hR w0 I0 Q hQ => ?_
 unfold contV at hg
 refine AWp.rS hV none [0, 1] fun K k1 => ?_
 simp; repeat refine ai ?_
 refine kc [se 0 l, se 1 f] [] (k1 _ ?_)
 obtain ⟨x2, h3, hg⟩ := bnd_some hg
 refine AWp.rS hV none [4] fun K k4 => ?_
 simp [sp35_idxV, h3]; repeat refine ai ?_
 refine kd [se 4 (decide (0 ≤ x2))] [] (by first | rfl | (simp [sp35_idxV, h3] <;> grind)) (k4 _ ?_)
 refine AWp.ret ?_
 cases hg; exact hQ _ _ (.inl rfl) rt
noncomputable def sp35_idxF : Eva.Spec := specO2 fun (l : (List View)) (f : C19) => (idxF l f).map fun r => enc r
theorem ok35_idxF : SpecOk Tryd.prog 35 sp35_idxF := by
 have hV : VOk Tryd.prog (env [(19, sp19_noFit)]) := env_ok ⟨ok19_noFit, trivial⟩
 refine SpecOk.ofO2 (Enters.of Tryd.func35 (by decide)) fun l f rr hr => ?_
 obtain ⟨r, hg, rfl⟩ := mpj hr; clear hr
 refine PureCon.ofN hV Tryd.func35 rfl Tryd.ntmps35 fun R hR w0 I0 Q hQ => ?_
 unfold idxF at hg
 refine AWp.rS hV none [0, 1] fun K k1 => ?_
 simp; repeat refine ai ?_
 refine kc [se 0 l, se 1 f] [] (k1 _ ?_)
 refine AWp.seqJ (fun s' => idxF_j1 = some r ∧ Sub s' ⟨[], []⟩) (fun _ k3 => ?_) ?_
 ·refine AWp.rS hV none [0, 1, 7, 8] fun K k4 => ?_
  simp; repeat refine ai ?_
  refine kc [se 0 l, se 1 f, se 7 ((l.length : Int) : Int), se 8 (0 : Int)] [] (k4 _ ?_)
  refine AWp.block ?_
  obtain ⟨o36, hl37, hq38⟩ := bnd_some hg; clear hg
  refine AWp.loopO (fun (z2u8 : Int) => ⟨[se 0 l, se 1 f, se 7 ((l.length : Int) : Int), se 8 z2u8], []⟩) (idxF_s5 l f) 0 hl37 ?_ fun z2u8 w41 _ hg hx40 k5 => ?_
  ·exact Sub.rm []
  unfold idxF_s5 at hg; try dsimp only at hg
  show AWp _ _ _ _ _ ⟨[se 0 l, se 1 f, se 7 ((l.length : Int) : Int), se 8 z2u8], []⟩ _
  refine AWp.rS hV none [0, 1, 7, 8, 9] fun K k42 => ?_
  simp; repeat refine ai ?_
  refine kc [se 0 l, se 1 f, se 7 ((l.length : Int) : Int), se 8 z2u8, se 9 (decide (z2u8 < (l.length : Int)))] [] (k42 _ ?_)
  refine AWp.seqG fun _ k43 => ?_
  refine AWp.cnd hg rfl ?_ ?_ <;> (clear hg; intro h44 hg)
  ·refine AWp.skip ?_
   refine k43 _ ?_
   refine AWp.seqJ (fun s' => idxF_j6 z2u8 = some w41 ∧ Sub s' ⟨[se 0 l, se 1 f, se 7 ((l.length : Int) : Int), se 8 z2u8], []⟩) (fun _ k46 => ?_) ?_
   ·refine AWp.block ?_
    refine AWp.rS hV none [0, 1, 5, 7, 8] fun K k47 => ?_
    simp; repeat refine ai ?_
    refine kc [se 0 l, se 1 f, se 5 z2u8, se 7 ((l.length : Int) : Int), se 8 z2u8] [] (k47 _ ?_)
    obtain ⟨x48, h49, hg⟩ := bnd_some hg
    obtain ⟨h49a, h49b, h49f⟩ := at_e h49; have h49g := h49f; try simp at h49g
    obtain ⟨x50, h51, hg⟩ := bnd_some hg
    refine AWp.rS hV none [0, 1, 5, 7, 8, 16] fun K k52 => ?_
    simp [sp19_noFit, h49f, h49g, h51]; repeat refine ai ?_
    refine kd [se 0 l, se 1 f, se 5 z2u8, se 7 ((l.length : Int) : Int), se 8 z2u8, se 16 x50] [] (by first | rfl | (simp [sp19_noFit, h49f, h49g, h51] <;> grind)) (k52 _ ?_)
    refine AWp.cnd hg rfl ?_ ?_ <;> (clear hg; intro h53 hg)
    ·refine AWp.rS hV none [4] fun K k54 => ?_
     simp; repeat refine ai ?_
     refine kc [se 4 z2u8] [] (k54 _ ?_)
     refine AWp.ret ?_
     cases hx40 _ (oij hg).symm; have hg := hq38; try dsimp only at hg
     cases hg; exact hQ _ _ (.inl rfl) rt
    ·refine AWp.skip ?_
     exact k46 _ ⟨hg, Sub.rm []⟩
   ·rintro s' ⟨hg, hs⟩
    unfold idxF_j6 at hg
    refine AWp.sub hs ?_
    obtain ⟨g56, hg⟩ := grd_some hg
    unfold inI at g56
    refine AWp.regF hV none [0, 1, 7, 8] fun K k57 => ?_
    simp; repeat refine ai ?_
    refine kc [se 0 l, se 1 f, se 7 ((l.length : Int) : Int), se 8 ((z2u8 + 1) : Int)] [] (k57 _ ?_)
    exact k5 _ _ (oij hg).symm (Sub.rm [])
  ·refine AWp.exit ?_
   cases hx40 _ (oij hg).symm; have hg := hq38; try dsimp only at hg
   exact k3 _ ⟨hg, Sub.rm []⟩
 ·rintro s' ⟨hg, hs⟩
  unfold idxF_j1 at hg
  refine AWp.sub hs ?_
  refine AWp.rS hV none [4] fun K k61 => ?_
  simp; repeat refine ai ?_
  refine kc [se 4 ((-1) : Int)] [] (k61 _ ?_)
  refine AWp.ret ?_
  cases hg; exact hQ _ _ (.inl rfl) rt
noncomputable def sp16_contF : Eva.Spec := specO2 fun (l : (List View)) (f : C19) => (contF l f).map fun r => enc r
theorem ok16_contF : SpecOk Tryd.prog 16 sp16_contF := by
 have hV : VOk Tryd.prog (env [(35, sp35_idxF)]) := env_ok ⟨ok35_idxF, trivial⟩
 refine SpecOk.ofO2 (Enters.of Tryd.func16 (by decide)) fun l f rr hr => ?_
 obtain ⟨r, hg, rfl⟩ := mpj hr; clear hr
 refine PureCon.ofN hV Tryd.func16 rfl Tryd.ntmps16 fun R hR w0 I0 Q hQ => ?_
 unfold contF at hg
 refine AWp.rS hV none [0, 1] fun K k1 => ?_
 simp; repeat refine ai ?_
 refine kc [se 0 l, se 1 f] [] (k1 _ ?_)
 obtain ⟨x2, h3, hg⟩ := bnd_some hg
 refine AWp.rS hV none [4] fun K k4 => ?_
 simp [sp35_idxF, h3]; repeat refine ai ?_
 refine kd [se 4 (decide (0 ≤ x2))] [] (by first | rfl | (simp [sp35_idxF, h3] <;> grind)) (k4 _ ?_)
 refine AWp.ret ?_
 cases hg; exact hQ _ _ (.inl rfl) rt
end
end Go.Proofs.YtjfkfkjkbgiciaaDoor
namespace Go.Proofs.YtjfkfkjkbgiciaaDoor
open Go Go.Eva Enc
noncomputable def pVoices_j21 (z17u23 : Int) (y164u4 : (List (Int × Bool))) : Option (((List (Int × Bool)) × Int) ⊕ (((List (Int × Bool))))) :=
  grd (inI (z17u23 + 1)) (some (.inl (y164u4, (z17u23 + 1))))
noncomputable def pVoices_s20 (x128 : Measure) : ((List (Int × Bool)) × Int) → Option (((List (Int × Bool)) × Int) ⊕ (((List (Int × Bool))))) := fun (z17u4, z17u23) =>
  ifb (decide (z17u23 < (x128.notes.length : Int))) (bnd (at? x128.notes z17u23) fun x166 =>
  pVoices_j21 z17u23 (mput z17u4 x166.voice true))
  (some (.inr z17u4))
noncomputable def pVoices_j16 (z2u16 : Int) (y126u4 : (List (Int × Bool))) : Option (((List (Int × Bool)) × Int) ⊕ (((List (Int × Bool))))) :=
  grd (inI (z2u16 + 1)) (some (.inl (y126u4, (z2u16 + 1))))
noncomputable def pVoices_s15 (v : View) : ((List (Int × Bool)) × Int) → Option (((List (Int × Bool)) × Int) ⊕ (((List (Int × Bool))))) := fun (z2u4, z2u16) =>
  ifb (decide (z2u16 < (v.measures.length : Int))) (bnd (at? v.measures z2u16) fun x128 =>
  bnd (loopO (pVoices_s20 x128) (z2u4, 0)) fun q173u4 =>
  pVoices_j16 z2u16 q173u4)
  (some (.inr z2u4))
noncomputable def pVoices_j1 (y9u4 : (List (Int × Bool))) : Option ((List Int) × Int) :=
  grd ((∀ x ∈ mkeys (mdel y9u4 0), inI x) ∧ (mdel y9u4 0).length ≤ 1000000000) (some ((sortI (mkeys (mdel y9u4 0))), 0))
noncomputable def pVoices (v : View) : Option ((List Int) × Int) :=
  bnd (isView v) fun x3 =>
  ifb (!x3) (some ([], 1))
  (bnd (loopO (pVoices_s15 v) ([], 0)) fun q177u4 =>
  pVoices_j1 q177u4)
end Go.Proofs.YtjfkfkjkbgiciaaDoor
namespace Go.Proofs.YtjfkfkjkbgiciaaDoor
open Go Go.Eva Enc
set_option maxRecDepth 4000
attribute [local instance] rndX
attribute [local congr] AWp.congrS
attribute [local simp] evalSeq opRes guardPc evalOp evT Eva.get startT strip putT Eva.after constT typed obAll holds dstOk R.ok R.bad ofD binD unD pickT subL subP Op.operands Call.operands toD toD1 argsD argsD1 callD callT typedAll cfind quietT quietT1 spec0 spec1 spec2 spec3 enc_int enc_bool enc_str enc_fn enc_list dec_int dec_bool dec_str dec_fn dec_list size_int size_str map_dec_enc map_dec_comp cellsT D.cells T.oneT D.one mkT dataT zeroT unD1 setAt loadAs loadEl storeAs fieldP fieldV sizeE intOfT indexP appendT lenT sliceT elemSize arith lfsOk lfOk isAggD mkD fillT placeS TD.agg env restr List.map keyIdx mapTy lookT mapPutT mapDelT mapOf indexS convT evalPure range1 range2 range3 range4 range5 range6 range7 range8 enc_intk size_intk dec_intk eta_intk keysInt_nil keyIdx_E keysInt_E isE_iff put_E del_E get_E getok_E mkeys_E mkeys_E' mkeys_enc specO0 specO1 specO2 specO3 specO4 opD skips gone unbox cloT subO clearT makeT enc_bx dec_bx size_bx selS cloIs List.contains_cons List.contains_nil elAt_zero enc_Rat dec_Rat size_Rat eta_Rat beqL_Rat beqR_Rat enc_Pitch dec_Pitch size_Pitch eta_Pitch beqL_Pitch beqR_Pitch enc_Written dec_Written size_Written eta_Written beqL_Written beqR_Written enc_Measure dec_Measure size_Measure eta_Measure enc_View dec_View size_View eta_View enc_Fraction dec_Fraction size_Fraction eta_Fraction beqL_Fraction beqR_Fraction dat0 len_natTab eqT4 eqT34 eqT36 eqT38 eqT114 te1 te2 te3 te4 te5 te6 te7 te8 te9 te10 te11 te12 te13 te14 te15 te16 te17 te18 te19 te21 te22 te23 te24 te25 te26 te27 te28 te30 te31 te32 te33 te34 te35 te36 te37 te38 te39 te40 te41 te42 te43 te45 te46 te47 te48 te49 te50 te51 te52 te53 te55 te56 te57 te58 te59 te60 te61 te62 te63 te64 te65 te66 te67 te68 te69 te70 te71 te72 te73 te74 te75 te76 te77 te79 te80 te81 te82 te83 te84 te85 te86 te87 te88 te89 te90 te91 te92 te93 te94 te95 te96 te97 te98 te99 te100 te101 te102 te104 te105 te106 te108 te109 te110 te111 te112 te113 te114 te115 te116 te117 te118 te119 te120 te121 te122 te123 te124 te125 te126 te127 te128 te129 te130 te131 te133 te134 te135 te136 te137 te138 te139 te140 te141 te142 te143 te144 te145 te146 te147 te148 te149 te150
section
attribute [local simp] enc_C36 dec_C36 size_C36 eta_C36 enc_C39 dec_C39 size_C39 eta_C39 enc_C28 dec_C28 size_C28 eta_C28 enc_C52_28 dec_C52_28 size_C52_28 eta_C52_28 enc_C29 dec_C29 size_C29 eta_C29 enc_C55_29 dec_C55_29 size_C55_29 eta_C55_29 enc_C33 dec_C33 size_C33 eta_C33 enc_C34 dec_C34 size_C34 eta_C34 enc_C56 dec_C56 size_C56 eta_C56 enc_C30 dec_C30 size_C30 eta_C30 enc_C52_30 dec_C52_30 size_C52_30 eta_C52_30 enc_C55_34 dec_C55_34 size_C55_34 eta_C55_34 enc_C17 dec_C17 size_C17 eta_C17 enc_C19 dec_C19 size_C19 eta_C19 envD fDel cloneR delR Low AO.lows T.lows T.low1 AO.isFrame okKeys_E
noncomputable def sp9 : Eva.Spec := specO1 fun (v : View) => (pVoices v).map fun r => .tup [enc r.1, enc r.2]
theorem ok9 : SpecOk Tryd.prog 9 sp9 := by
 have hV : VOk Tryd.prog (env [(18, sp18), (26, sp26), (25, sp25)]) := env_ok ⟨ok18, ok26, ok25, trivial⟩
 refine SpecOk.ofO1 (Enters.of Tryd.func9 (by decide)) fun v rr hr => ?_
 obtain ⟨r, hg, rfl⟩ := mpj hr; clear hr
 refine PureCon.ofN hV Tryd.func9 rfl Tryd.ntmps9 fun R hR w0 I0 Q hQ => ?_
 unfold pVoices at hg
 refine AWp.rS hV none [1] fun K k1 => ?_
 simp; repeat refine ai ?_
 refine kc [(1, .ptr 0 0)] [.w 27 v] (k1 _ ?_)
 refine AWp.seqG fun _ k2 => ?_
 obtain ⟨x3, h4, hg⟩ := bnd_some hg
 refine AWp.rS hV none [1, 11] fun K k5 => ?_
 simp [sp18, h4]; repeat refine ai ?_
 refine kd [(1, .ptr 0 0), se 11 (!x3)] [.w 27 v] (by first | rfl | (simp [sp18, h4] <;> grind)) (k5 _ ?_)
 refine AWp.cnd hg rfl ?_ ?_ <;> (clear hg; intro h6 hg)
 ·refine AWp.rS hV none [2, 3] fun K k7 => ?_
  simp; repeat refine ai ?_
  refine kc [(2, .nils 1), se 3 (1 : Int)] [.w 27 v] (k7 _ ?_)
  refine AWp.ret ?_
  cases hg; exact hQ _ _ (.inl rfl) rt
 ·refine AWp.skip ?_
  refine k2 _ ?_
  refine AWp.rS hV none [1, 4] fun K k8 => ?_
  simp; repeat refine ai ?_
  refine kc [(1, .ptr 0 0), (4, .map 1)] [.w 27 v, .map (([] : (List (Int × Bool))).map kE) (([] : (List (Int × Bool))).map vE)] (k8 _ ?_)
  refine AWp.seqJ (fun s' => ∃ y9u4 : (List (Int × Bool)), pVoices_j1 y9u4 = some r ∧ Sub s' ⟨[(4, .map 0)], [.map ((y9u4 : (List (Int × Bool))).map kE) ((y9u4 : (List (Int × Bool))).map vE)]⟩) (fun _ k10 => ?_) ?_
  ·refine AWp.rS hV none [4, 14, 15, 16] fun K k11 => ?_
   simp; repeat refine ai ?_
   refine kc [(4, .map 1), se 14 v.measures, se 15 ((v.measures.length : Int) : Int), se 16 (0 : Int)] [.w 27 v, .map (([] : (List (Int × Bool))).map kE) (([] : (List (Int × Bool))).map vE)] (k11 _ ?_)
   refine AWp.block ?_
   obtain ⟨o117, hl118, hq119⟩ := bnd_some hg; clear hg
   refine AWp.loopO (fun ((z2u4, z2u16) : (List (Int × Bool)) × Int) => ⟨[(4, .map 0), se 14 v.measures, se 15 ((v.measures.length : Int) : Int), se 16 z2u16], [.map ((z2u4 : (List (Int × Bool))).map kE) ((z2u4 : (List (Int × Bool))).map vE)]⟩) (pVoices_s15 v) ([], 0) hl118 ?_ fun z120 w122 _ hg hx121 k12 => ?_
   ·exact Sub.rm [1]
   obtain ⟨z2u4, z2u16⟩ := z120
   unfold pVoices_s15 at hg; try dsimp only at hg
   show AWp _ _ _ _ _ ⟨[(4, .map 0), se 14 v.measures, se 15 ((v.measures.length : Int) : Int), se 16 z2u16], [.map ((z2u4 : (List (Int × Bool))).map kE) ((z2u4 : (List (Int × Bool))).map vE)]⟩ _
   refine AWp.rS hV none [4, 14, 15, 16, 17] fun K k123 => ?_
   simp; repeat refine ai ?_
   refine kc [(4, .map 0), se 14 v.measures, se 15 ((v.measures.length : Int) : Int), se 16 z2u16, se 17 (decide (z2u16 < (v.measures.length : Int)))] [.map ((z2u4 : (List (Int × Bool))).map kE) ((z2u4 : (List (Int × Bool))).map vE)] (k123 _ ?_)
   refine AWp.seqG fun _ k124 => ?_
   refine AWp.cnd hg rfl ?_ ?_ <;> (clear hg; intro h125 hg)
   ·refine AWp.skip ?_
    refine k124 _ ?_
    refine AWp.seqJ (fun s' => ∃ y126u4 : (List (Int × Bool)), pVoices_j16 z2u16 y126u4 = some w122 ∧ Sub s' ⟨[(4, .map 0), se 14 v.measures, se 15 ((v.measures.length : Int) : Int), se 16 z2u16], [.map ((y126u4 : (List (Int × Bool))).map kE) ((y126u4 : (List (Int × Bool))).map vE)]⟩) (fun _ k127 => ?_) ?_
    ·refine AWp.block ?_
     obtain ⟨x128, h129, hg⟩ := bnd_some hg
     obtain ⟨h129a, h129b, h129f⟩ := at_e h129; have h129g := h129f; try simp at h129g
     refine AWp.rS hV none [4, 6, 14, 15, 16] fun K k130 => ?_
     simp [h129f, h129g]; repeat refine ai ?_
     refine kd [(4, .map 0), (6, .ptr 1 0), se 14 v.measures, se 15 ((v.measures.length : Int) : Int), se 16 z2u16] [.map ((z2u4 : (List (Int × Bool))).map kE) ((z2u4 : (List (Int × Bool))).map vE), .w 42 x128] (by first | rfl | (simp [h129f, h129g] <;> grind)) (k130 _ ?_)
     refine AWp.rS hV none [4, 14, 15, 16, 21, 22, 23] fun K k131 => ?_
     simp; repeat refine ai ?_
     refine kc [(4, .map 0), se 14 v.measures, se 15 ((v.measures.length : Int) : Int), se 16 z2u16, se 21 x128.notes, se 22 ((x128.notes.length : Int) : Int), se 23 (0 : Int)] [.map ((z2u4 : (List (Int × Bool))).map kE) ((z2u4 : (List (Int × Bool))).map vE), .w 42 x128] (k131 _ ?_)
     refine AWp.block ?_
     obtain ⟨o155, hl156, hq157⟩ := bnd_some hg; clear hg
     refine AWp.loopO (fun ((z17u4, z17u23) : (List (Int × Bool)) × Int) => ⟨[(4, .map 0), se 14 v.measures, se 15 ((v.measures.length : Int) : Int), se 16 z2u16, se 21 x128.notes, se 22 ((x128.notes.length : Int) : Int), se 23 z17u23], [.map ((z17u4 : (List (Int × Bool))).map kE) ((z17u4 : (List (Int × Bool))).map vE)]⟩) (pVoices_s20 x128) (z2u4, 0) hl156 ?_ fun z158 w160 _ hg hx159 k132 => ?_
     ·exact Sub.rm [0]
     obtain ⟨z17u4, z17u23⟩ := z158
     unfold pVoices_s20 at hg; try dsimp only at hg
     show AWp _ _ _ _ _ ⟨[(4, .map 0), se 14 v.measures, se 15 ((v.measures.length : Int) : Int), se 16 z2u16, se 21 x128.notes, se 22 ((x128.notes.length : Int) : Int), se 23 z17u23], [.map ((z17u4 : (List (Int × Bool))).map kE) ((z17u4 : (List (Int × Bool))).map vE)]⟩ _
     refine AWp.rS hV none [4, 14, 15, 16, 21, 22, 23, 24] fun K k161 => ?_
     simp; repeat refine ai ?_
     refine kc [(4, .map 0), se 14 v.measures, se 15 ((v.measures.length : Int) : Int), se 16 z2u16, se 21 x128.notes, se 22 ((x128.notes.length : Int) : Int), se 23 z17u23, se 24 (decide (z17u23 < (x128.notes.length : Int)))] [.map ((z17u4 : (List (Int × Bool))).map kE) ((z17u4 : (List (Int × Bool))).map vE)] (k161 _ ?_)
     refine AWp.seqG fun _ k162 => ?_
     refine AWp.cnd hg rfl ?_ ?_ <;> (clear hg; intro h163 hg)
     ·refine AWp.skip ?_
      refine k162 _ ?_
      refine AWp.seqJ (fun s' => ∃ y164u4 : (List (Int × Bool)), pVoices_j21 z17u23 y164u4 = some w160 ∧ Sub s' ⟨[(4, .map 0), se 14 v.measures, se 15 ((v.measures.length : Int) : Int), se 16 z2u16, se 21 x128.notes, se 22 ((x128.notes.length : Int) : Int), se 23 z17u23], [.map ((y164u4 : (List (Int × Bool))).map kE) ((y164u4 : (List (Int × Bool))).map vE)]⟩) (fun _ k165 => ?_) ?_
      ·refine AWp.block ?_
       obtain ⟨x166, h167, hg⟩ := bnd_some hg
       obtain ⟨h167a, h167b, h167f⟩ := at_e h167; have h167g := h167f; try simp at h167g
       refine AWp.rS hV none [4, 8, 14, 15, 16, 21, 22, 23] fun K k168 => ?_
       simp [h167f, h167g]; repeat refine ai ?_
       refine kd [(4, .map 0), (8, .ptr 1 0), se 14 v.measures, se 15 ((v.measures.length : Int) : Int), se 16 z2u16, se 21 x128.notes, se 22 ((x128.notes.length : Int) : Int), se 23 z17u23] [.map ((z17u4 : (List (Int × Bool))).map kE) ((z17u4 : (List (Int × Bool))).map vE), .w 38 x166] (by first | rfl | (simp [h167f, h167g] <;> grind)) (k168 _ ?_)
       refine AWp.regF hV none [4, 14, 15, 16, 21, 22, 23] fun K k169 => ?_
       simp; repeat refine ai ?_
       refine kc [(4, .map 0), se 14 v.measures, se 15 ((v.measures.length : Int) : Int), se 16 z2u16, se 21 x128.notes, se 22 ((x128.notes.length : Int) : Int), se 23 z17u23] [.map (((mput z17u4 x166.voice true) : (List (Int × Bool))).map kE) (((mput z17u4 x166.voice true) : (List (Int × Bool))).map vE), .w 38 x166] (k169 _ ?_)
       exact k165 _ ⟨_, hg, Sub.rm [0]⟩
      ·rintro s' ⟨y164u4, hg, hs⟩
       unfold pVoices_j21 at hg
       refine AWp.sub hs ?_
       obtain ⟨g170, hg⟩ := grd_some hg
       unfold inI at g170
       refine AWp.regF hV none [4, 14, 15, 16, 21, 22, 23] fun K k171 => ?_
       simp; repeat refine ai ?_
       refine kc [(4, .map 0), se 14 v.measures, se 15 ((v.measures.length : Int) : Int), se 16 z2u16, se 21 x128.notes, se 22 ((x128.notes.length : Int) : Int), se 23 ((z17u23 + 1) : Int)] [.map ((y164u4 : (List (Int × Bool))).map kE) ((y164u4 : (List (Int × Bool))).map vE)] (k171 _ ?_)
       exact k132 _ _ (oij hg).symm (Sub.rm [0])
     ·refine AWp.exit ?_
      cases hx159 _ (oij hg).symm; have hg := hq157; try dsimp only at hg
      exact k127 _ ⟨_, hg, Sub.rm [0]⟩
    ·rintro s' ⟨y126u4, hg, hs⟩
     unfold pVoices_j16 at hg
     refine AWp.sub hs ?_
     obtain ⟨g174, hg⟩ := grd_some hg
     unfold inI at g174
     refine AWp.regF hV none [4, 14, 15, 16] fun K k175 => ?_
     simp; repeat refine ai ?_
     refine kc [(4, .map 0), se 14 v.measures, se 15 ((v.measures.length : Int) : Int), se 16 ((z2u16 + 1) : Int)] [.map ((y126u4 : (List (Int × Bool))).map kE) ((y126u4 : (List (Int × Bool))).map vE)] (k175 _ ?_)
     exact k12 _ _ (oij hg).symm (Sub.rm [0])
   ·refine AWp.exit ?_
    cases hx121 _ (oij hg).symm; have hg := hq119; try dsimp only at hg
    exact k10 _ ⟨_, hg, Sub.rm [0]⟩
  ·rintro s' ⟨y9u4, hg, hs⟩
   unfold pVoices_j1 at hg
   refine AWp.sub hs ?_
   refine AWp.rS hV none [4] fun K k178 => ?_
   simp; repeat refine ai ?_
   refine kc [(4, .map 0)] [.map (((mdel y9u4 0) : (List (Int × Bool))).map kE) (((mdel y9u4 0) : (List (Int × Bool))).map vE)] (k178 _ ?_)
   obtain ⟨g179, hg⟩ := grd_some hg
   refine AWp.rS hV none [2, 3] fun K k180 => ?_
   simp [sp26, sp25]; repeat refine ai ?_
   refine kd [se 2 ((sortI (mkeys (mdel y9u4 0))) : (List Int)), se 3 (0 : Int)] [.fmap (((mdel y9u4 0) : (List (Int × Bool))).map kE) (((mdel y9u4 0) : (List (Int × Bool))).map vE)] (by first | rfl | (simp [sp26, sp25] <;> grind)) (k180 _ ?_)
   refine AWp.ret ?_
   cases hg; exact hQ _ _ (.inl rfl) rt
end
end Go.Proofs.YtjfkfkjkbgiciaaDoor
namespace Go.Proofs.YtjfkfkjkbgiciaaDoor
open Go Go.Eva Enc
noncomputable def pAssign_r2 (desks : Int) (x3 : Int) : Option Bool :=
  (ifb (!decide (x3 = 0)) (some true) (ifb (decide (desks < 1)) (some true) (some (decide (40 < desks)))))
noncomputable def pAssign_j8 (z4u35 : Int) (y72u8 : (List Int)) : Option (((List Int) × Int) ⊕ (((List Int)))) :=
  grd (inI (z4u35 + 1)) (some (.inl (y72u8, (z4u35 + 1))))
noncomputable def pAssign_s7 (desks : Int) (x2 : (List Int)) : ((List Int) × Int) → Option (((List Int) × Int) ⊕ (((List Int)))) := fun (z4u8, z4u35) =>
  ifb (decide (z4u35 < ((List.replicate desks.toNat 0).length : Int))) (ifb (decide (0 < (x2.length : Int))) (grd (inI (z4u35 * (x2.length : Int))) (grd (desks ≠ 0) (grd (inI (Int.tdiv (z4u35 * (x2.length : Int)) desks)) (bnd (at? x2 (Int.tdiv (z4u35 * (x2.length : Int)) desks)) fun x80 =>
  bnd (at? z4u8 z4u35) fun x82 =>
  pAssign_j8 z4u35 (z4u8.set z4u35.toNat x80)))))
  (pAssign_j8 z4u35 z4u8))
  (some (.inr z4u8))
noncomputable def pAssign_j3 (y23u8 : (List Int)) : Option ((List Int) × Int) :=
  some (y23u8, 0)
noncomputable def pAssign_j1 (desks : Int) (x2 : (List Int)) : Option ((List Int) × Int) :=
  grd (0 ≤ desks ∧ desks * 8 ≤ 140737488355328 ∧ desks ≤ 9223372036854775807) (bnd (loopO (pAssign_s7 desks x2) ((List.replicate desks.toNat 0), 0)) fun q88u8 =>
  pAssign_j3 q88u8)
noncomputable def pAssign (v : View) (desks : Int) : Option ((List Int) × Int) :=
  bnd (pVoices v) fun (x2, x3) =>
  bnd (pAssign_r2 desks x3) fun y8u15 =>
  ifb y8u15 (some ([], 1))
  (ifb (decide (desks < (x2.length : Int))) (some ([], 6))
  (pAssign_j1 desks x2))
end Go.Proofs.YtjfkfkjkbgiciaaDoor
namespace Go.Proofs.YtjfkfkjkbgiciaaDoor
open Go Go.Eva Enc
set_option maxRecDepth 4000
attribute [local instance] rndX
attribute [local congr] AWp.congrS
attribute [local simp] evalSeq opRes guardPc evalOp evT Eva.get startT strip putT Eva.after constT typed obAll holds dstOk R.ok R.bad ofD binD unD pickT subL subP Op.operands Call.operands toD toD1 argsD argsD1 callD callT typedAll cfind quietT quietT1 spec0 spec1 spec2 spec3 enc_int enc_bool enc_str enc_fn enc_list dec_int dec_bool dec_str dec_fn dec_list size_int size_str map_dec_enc map_dec_comp cellsT D.cells T.oneT D.one mkT dataT zeroT unD1 setAt loadAs loadEl storeAs fieldP fieldV sizeE intOfT indexP appendT lenT sliceT elemSize arith lfsOk lfOk isAggD mkD fillT placeS TD.agg env restr List.map keyIdx mapTy lookT mapPutT mapDelT mapOf indexS convT evalPure range1 range2 range3 range4 range5 range6 range7 range8 enc_intk size_intk dec_intk eta_intk keysInt_nil keyIdx_E keysInt_E isE_iff put_E del_E get_E getok_E mkeys_E mkeys_E' mkeys_enc specO0 specO1 specO2 specO3 specO4 opD skips gone unbox cloT subO clearT makeT enc_bx dec_bx size_bx selS cloIs List.contains_cons List.contains_nil elAt_zero enc_Rat dec_Rat size_Rat eta_Rat beqL_Rat beqR_Rat enc_Pitch dec_Pitch size_Pitch eta_Pitch beqL_Pitch beqR_Pitch enc_Written dec_Written size_Written eta_Written beqL_Written beqR_Written enc_Measure dec_Measure size_Measure eta_Measure enc_View dec_View size_View eta_View enc_Fraction dec_Fraction size_Fraction eta_Fraction beqL_Fraction beqR_Fraction dat0 len_natTab eqT4 eqT34 eqT36 eqT38 eqT114 te1 te2 te3 te4 te5 te6 te7 te8 te9 te10 te11 te12 te13 te14 te15 te16 te17 te18 te19 te21 te22 te23 te24 te25 te26 te27 te28 te30 te31 te32 te33 te34 te35 te36 te37 te38 te39 te40 te41 te42 te43 te45 te46 te47 te48 te49 te50 te51 te52 te53 te55 te56 te57 te58 te59 te60 te61 te62 te63 te64 te65 te66 te67 te68 te69 te70 te71 te72 te73 te74 te75 te76 te77 te79 te80 te81 te82 te83 te84 te85 te86 te87 te88 te89 te90 te91 te92 te93 te94 te95 te96 te97 te98 te99 te100 te101 te102 te104 te105 te106 te108 te109 te110 te111 te112 te113 te114 te115 te116 te117 te118 te119 te120 te121 te122 te123 te124 te125 te126 te127 te128 te129 te130 te131 te133 te134 te135 te136 te137 te138 te139 te140 te141 te142 te143 te144 te145 te146 te147 te148 te149 te150
section
attribute [local simp] enc_C36 dec_C36 size_C36 eta_C36 enc_C39 dec_C39 size_C39 eta_C39 enc_C28 dec_C28 size_C28 eta_C28 enc_C52_28 dec_C52_28 size_C52_28 eta_C52_28 enc_C29 dec_C29 size_C29 eta_C29 enc_C55_29 dec_C55_29 size_C55_29 eta_C55_29 enc_C33 dec_C33 size_C33 eta_C33 enc_C34 dec_C34 size_C34 eta_C34 enc_C56 dec_C56 size_C56 eta_C56 enc_C30 dec_C30 size_C30 eta_C30 enc_C52_30 dec_C52_30 size_C52_30 eta_C52_30 enc_C55_34 dec_C55_34 size_C55_34 eta_C55_34 enc_C17 dec_C17 size_C17 eta_C17 enc_C19 dec_C19 size_C19 eta_C19 envD fDel cloneR delR Low AO.lows T.lows T.low1 AO.isFrame
noncomputable def sp10 : Eva.Spec := specO2 fun (v : View) (desks : Int) => (pAssign v desks).map fun r => .tup [enc r.1, enc r.2]
theorem ok10 : SpecOk Tryd.prog 10 sp10 := by
 have hV : VOk Tryd.prog (env [(9, sp9)]) := env_ok ⟨ok9, trivial⟩
 refine SpecOk.ofO2 (Enters.of Tryd.func10 (by decide)) fun v desks rr hr => ?_
 obtain ⟨r, hg, rfl⟩ := mpj hr; clear hr
 refine PureCon.ofN hV Tryd.func10 rfl Tryd.ntmps10 fun R hR w0 I0 Q hQ => ?_
 unfold pAssign at hg
 refine AWp.rS hV none [1, 2] fun K k1 => ?_
 simp; repeat refine ai ?_
 refine kc [se 1 desks, (2, .ptr 0 0)] [.w 27 v] (k1 _ ?_)
 obtain ⟨⟨x2, x3⟩, h4, hg⟩ := bnd_some hg; try dsimp only at hg
 refine AWp.rS hV none [1, 6, 7] fun K k5 => ?_
 simp [sp9, h4]; repeat refine ai ?_
 refine kd [se 1 desks, se 6 x2, se 7 x3] [.w 27 v] (by first | rfl | (simp [sp9, h4] <;> grind)) (k5 _ ?_)
 refine AWp.seqJ (fun s' => pAssign_j1 desks x2 = some r ∧ Sub s' ⟨[se 1 desks, se 6 x2], []⟩) (fun _ k7 => ?_) ?_
 ·refine AWp.block ?_
  obtain ⟨y8u15, hx9, hg⟩ := bnd_some hg
  unfold pAssign_r2 at hx9
  refine AWp.seqJ (fun s' => Sub s' ⟨[se 1 desks, se 6 x2, se 15 y8u15], []⟩) (fun _ k10 => ?_) ?_
  ·rcases ifb_o hx9 with ⟨c11, hx9⟩ | ⟨c11, hx9⟩
   ·have c11g := c11; try simp at c11g
    refine AWp.regF hV (some [19, 20, 23, 24]) [1, 6, 15] fun K k12 => ?_
    simp [c11, c11g]; repeat refine ai ?_
    cases hx9; exact k12 _ (k10 _ (Sub.rm []))
   ·have c11g := c11; try simp at c11g
    rcases ifb_o hx9 with ⟨c13, hx9⟩ | ⟨c13, hx9⟩
    ·have c13g := c13; try simp at c13g
     refine AWp.regF hV (some [23, 24]) [1, 6, 15] fun K k14 => ?_
     simp [c11, c11g, c13, c13g]; repeat refine ai ?_
     cases hx9; exact k14 _ (k10 _ (Sub.rm []))
    ·have c13g := c13; try simp at c13g
     refine AWp.regF hV (some []) [1, 6, 15] fun K k15 => ?_
     simp [c11, c11g, c13, c13g]; repeat refine ai ?_
     cases hx9; exact k15 _ (k10 _ (Sub.rm []))
  ·intro s' hs
   refine AWp.sub hs ?_
   clear hs s'
   refine AWp.cnd hg rfl ?_ ?_ <;> (clear hg; intro h16 hg)
   ·refine AWp.rS hV none [4, 5] fun K k17 => ?_
    simp; repeat refine ai ?_
    refine kc [(4, .nils 1), se 5 (1 : Int)] [] (k17 _ ?_)
    refine AWp.ret ?_
    cases hg; exact hQ _ _ (.inl rfl) rt
   ·refine AWp.rS hV none [1, 6, 26] fun K k18 => ?_
    simp; repeat refine ai ?_
    refine kc [se 1 desks, se 6 x2, se 26 (decide (desks < (x2.length : Int)))] [] (k18 _ ?_)
    refine AWp.cnd hg rfl ?_ ?_ <;> (clear hg; intro h19 hg)
    ·refine AWp.rS hV none [4, 5] fun K k20 => ?_
     simp; repeat refine ai ?_
     refine kc [(4, .nils 1), se 5 (6 : Int)] [] (k20 _ ?_)
     refine AWp.ret ?_
     cases hg; exact hQ _ _ (.inl rfl) rt
    ·refine AWp.skip ?_
     exact k7 _ ⟨hg, Sub.rm []⟩
 ·rintro s' ⟨hg, hs⟩
  unfold pAssign_j1 at hg
  refine AWp.sub hs ?_
  obtain ⟨g21, hg⟩ := grd_some hg
  refine AWp.rS hV none [1, 6, 8] fun K k22 => ?_
  simp; repeat refine ai ?_
  refine kc [se 1 desks, se 6 x2, (8, .row 0)] [.ro 3 1 ((List.replicate desks.toNat 0) : List Int)] (k22 _ ?_)
  refine AWp.seqJ (fun s' => ∃ y23u8 : (List Int), pAssign_j3 y23u8 = some r ∧ Sub s' ⟨[(8, .row 0)], [.ro 3 1 y23u8]⟩) (fun _ k24 => ?_) ?_
  ·refine AWp.rS hV none [1, 6, 8, 34, 35] fun K k25 => ?_
   simp; repeat refine ai ?_
   refine kc [se 1 desks, se 6 x2, (8, .row 0), se 34 (((List.replicate desks.toNat 0).length : Int) : Int), se 35 (0 : Int)] [.ro 3 1 ((List.replicate desks.toNat 0) : List Int)] (k25 _ ?_)
   refine AWp.block ?_
   obtain ⟨o63, hl64, hq65⟩ := bnd_some hg; clear hg
   refine AWp.loopO (fun ((z4u8, z4u35) : (List Int) × Int) => ⟨[se 1 desks, se 6 x2, (8, .row 0), se 34 (((List.replicate desks.toNat 0).length : Int) : Int), se 35 z4u35], [.ro 3 1 z4u8]⟩) (pAssign_s7 desks x2) ((List.replicate desks.toNat 0), 0) hl64 ?_ fun z66 w68 _ hg hx67 k26 => ?_
   ·exact Sub.rm [0]
   obtain ⟨z4u8, z4u35⟩ := z66
   unfold pAssign_s7 at hg; try dsimp only at hg
   show AWp _ _ _ _ _ ⟨[se 1 desks, se 6 x2, (8, .row 0), se 34 (((List.replicate desks.toNat 0).length : Int) : Int), se 35 z4u35], [.ro 3 1 z4u8]⟩ _
   refine AWp.rS hV none [1, 6, 8, 34, 35, 36] fun K k69 => ?_
   simp; repeat refine ai ?_
   refine kc [se 1 desks, se 6 x2, (8, .row 0), se 34 (((List.replicate desks.toNat 0).length : Int) : Int), se 35 z4u35, se 36 (decide (z4u35 < ((List.replicate desks.toNat 0).length : Int)))] [.ro 3 1 z4u8] (k69 _ ?_)
   refine AWp.seqG fun _ k70 => ?_
   refine AWp.cnd hg rfl ?_ ?_ <;> (clear hg; intro h71 hg)
   ·refine AWp.skip ?_
    refine k70 _ ?_
    refine AWp.seqJ (fun s' => ∃ y72u8 : (List Int), pAssign_j8 z4u35 y72u8 = some w68 ∧ Sub s' ⟨[se 1 desks, se 6 x2, (8, .row 0), se 34 (((List.replicate desks.toNat 0).length : Int) : Int), se 35 z4u35], [.ro 3 1 y72u8]⟩) (fun _ k73 => ?_) ?_
    ·refine AWp.block ?_
     refine AWp.rS hV none [1, 6, 8, 9, 34, 35] fun K k74 => ?_
     simp; repeat refine ai ?_
     refine kc [se 1 desks, se 6 x2, (8, .row 0), se 9 z4u35, se 34 (((List.replicate desks.toNat 0).length : Int) : Int), se 35 z4u35] [.ro 3 1 z4u8] (k74 _ ?_)
     refine AWp.rS hV none [1, 6, 8, 9, 34, 35, 40] fun K k75 => ?_
     simp; repeat refine ai ?_
     refine kc [se 1 desks, se 6 x2, (8, .row 0), se 9 z4u35, se 34 (((List.replicate desks.toNat 0).length : Int) : Int), se 35 z4u35, se 40 (decide (0 < (x2.length : Int)))] [.ro 3 1 z4u8] (k75 _ ?_)
     refine AWp.cnd hg rfl ?_ ?_ <;> (clear hg; intro h76 hg)
     ·obtain ⟨g77, hg⟩ := grd_some hg
      unfold inI at g77
      obtain ⟨g78, hg⟩ := grd_some hg
      obtain ⟨g79, hg⟩ := grd_some hg
      unfold inI at g79
      obtain ⟨x80, h81, hg⟩ := bnd_some hg
      obtain ⟨h81a, h81b, h81f⟩ := at_e h81; have h81g := h81f; try simp at h81g
      obtain ⟨x82, h83, hg⟩ := bnd_some hg
      obtain ⟨h83a, h83b, h83f⟩ := at_e h83; have h83g := h83f; try simp at h83g
      refine AWp.regF hV none [1, 6, 8, 34, 35] fun K k84 => ?_
      simp [h81f, h81g, h83f, h83g]; repeat refine ai ?_
      refine kd [se 1 desks, se 6 x2, (8, .row 0), se 34 (((List.replicate desks.toNat 0).length : Int) : Int), se 35 z4u35] [.ro 3 1 ((z4u8.set z4u35.toNat x80) : List Int)] (by first | rfl | (simp [h81f, h81g, h83f, h83g] <;> grind)) (k84 _ ?_)
      exact k73 _ ⟨_, hg, Sub.rm [0]⟩
     ·refine AWp.skip ?_
      exact k73 _ ⟨_, hg, Sub.rm [0]⟩
    ·rintro s' ⟨y72u8, hg, hs⟩
     unfold pAssign_j8 at hg
     refine AWp.sub hs ?_
     obtain ⟨g85, hg⟩ := grd_some hg
     unfold inI at g85
     refine AWp.regF hV none [1, 6, 8, 34, 35] fun K k86 => ?_
     simp; repeat refine ai ?_
     refine kc [se 1 desks, se 6 x2, (8, .row 0), se 34 (((List.replicate desks.toNat 0).length : Int) : Int), se 35 ((z4u35 + 1) : Int)] [.ro 3 1 y72u8] (k86 _ ?_)
     exact k26 _ _ (oij hg).symm (Sub.rm [0])
   ·refine AWp.exit ?_
    cases hx67 _ (oij hg).symm; have hg := hq65; try dsimp only at hg
    exact k24 _ ⟨_, hg, Sub.rm [0]⟩
  ·rintro s' ⟨y23u8, hg, hs⟩
   unfold pAssign_j3 at hg
   refine AWp.sub hs ?_
   refine AWp.rS hV none [4, 5] fun K k89 => ?_
   simp; repeat refine ai ?_
   refine kc [(4, .row 0), se 5 (0 : Int)] [.ro 3 1 y23u8] (k89 _ ?_)
   refine AWp.ret ?_
   cases hg; exact hQ _ _ (.inl rfl) rt
end
section
open Go.RowKit
abbrev GW := {w : Written // noteOk w}
instance : Inhabited GW := ⟨⟨⟨1, 0, 0, ⟨0, 1⟩, ⟨1, 1⟩, ⟨0, 0, 4⟩⟩, by decide⟩⟩
def orderG (a b : GW) : Int := orderW a.1 b.1
theorem ltOf_order (a b : GW) : Go.Proofs.ltOf orderG a b = decide (Lex a.1 b.1) := by
  unfold Go.Proofs.ltOf orderG
  simp only [order_lex a.2 b.2]
theorem swo_order : Go.Sort.SWO (Go.Proofs.ltOf orderG) where
  irrefl x := by rw [ltOf_order]; simp [lex_irrefl]
  trans x y z h1 h2 := by rw [ltOf_order] at *; simp only [decide_eq_true_eq] at *; exact lex_trans h1 h2
  ntrans x y z h1 h2 := by rw [ltOf_order] at *; simp only [decide_eq_false_iff_not] at *; exact lex_ntrans h1 h2
def sortG (d : Array GW) : Array GW := Go.Sort.pdq (Go.Proofs.ltOf orderG) d 0 d.size (Go.Lib.bitLen d.size) true true
theorem sortG_perm (d : Array GW) : Go.Sort.PermIn 0 d.size d (sortG d) ∧ Go.Sort.SortedIn (Go.Proofs.ltOf orderG) 0 d.size (sortG d) :=
  Go.Sort.pdq_sorts (Go.Proofs.ltOf orderG) swo_order d 0 d.size (Go.Lib.bitLen d.size) true true (Nat.zero_le _) (Nat.le_refl _) (Or.inl rfl)
def vencG (e : GW) : List Value := [.int .i64 e.1.id, .int .i64 e.1.voice, .int .i64 e.1.ossia, .int .i64 e.1.start.n, .int .i64 e.1.start.d, .int .i64 e.1.length.n, .int .i64 e.1.length.d, .int .i64 e.1.pitch.step, .int .i64 e.1.pitch.alter, .int .i64 e.1.pitch.octave]
theorem vencG_rd (I : Imm) (x : GW) (j : Nat) (u : Value) (y : D) (hu : (vencG x)[j]? = some u) (hy : (enc x.1).cells[j]? = some y) : Rd I u y := by
  rw [enc_Written] at hy
  simp only [D.cells] at hy
  unfold vencG at hu
  rcases j with _|_|_|_|_|_|_|_|_|_|j
  all_goals (simp at hu hy; try (subst hu; subst hy; constructor))
theorem vencG_dr (I : Imm) (x : GW) (j : Nat) (u : Value) (y : D) (hy : (enc x.1).cells[j]? = some y) (hr : Rd I u y) : (vencG x)[j]? = some u := by
  rw [enc_Written] at hy
  simp only [D.cells] at hy
  unfold vencG
  rcases j with _|_|_|_|_|_|_|_|_|_|j
  all_goals (simp at hy; try (subst hy; cases hr; rfl))
theorem sortG_eq {xs : List Written} (h : ∀ x ∈ xs, noteOk x) (hn : (xs.map Written.id).Nodup) : ∃ gs : List GW, gs.map (·.1) = xs ∧ (sortG gs.toArray).toList.map (·.1) = sortW xs := by
  refine ⟨xs.pmap Subtype.mk h, by simp [List.map_pmap], ?_⟩
  generalize hg : xs.pmap Subtype.mk h = gs
  have hgx : gs.map (·.1) = xs := by rw [← hg]; simp [List.map_pmap]
  obtain ⟨h1, h2⟩ := sortG_perm gs.toArray
  have hsz := h1.1
  have hp : (sortG gs.toArray).toList.Perm gs := by
    have h3 := h1.2.2
    simp only [← hsz, Array.extract_size] at h3
    rw [hsz, Array.extract_size] at h3
    simpa using h3
  have hs : ((sortG gs.toArray).toList.map (·.1)).Pairwise fun a b => ¬ Lex b a := by
    rw [List.pairwise_map]
    refine List.pairwise_iff_getElem.2 fun i j hi hj hij => ?_
    have hi' : i < (sortG gs.toArray).size := by simpa using hi
    have hj' : j < (sortG gs.toArray).size := by simpa using hj
    have := h2 i j (Nat.zero_le _) hij (by omega)
    rw [ltOf_order, getElem!_pos (sortG gs.toArray) i hi', getElem!_pos (sortG gs.toArray) j hj'] at this
    simpa using this
  have hpm : ((sortG gs.toArray).toList.map (·.1)).Perm xs := by rw [← hgx]; exact hp.map _
  exact sorted_uniq hs (sortW_sorted xs) (hpm.trans (sortW_perm xs).symm) ((hpm.map Written.id).nodup_iff.2 hn)
theorem con48 (x y : GW) : @PureCon (@drwS ⟨True⟩) Tryd.prog 23 [enc x.1, enc y.1] (.int .i64 (orderG x y)) := by
  have h0 : sp23 [enc x.1, enc y.1] = some (.int .i64 (orderG x y), enc x.1 = enc x.1 ∧ enc y.1 = enc y.1 ∧ True) := by
    simp only [sp23, specO2, dec_enc, wCompare_eq x.2 y.2, Option.map_some, opD, Option.getD_some, Option.isSome_some]
    rfl
  exact @SpecOk.con (@drwS ⟨True⟩) _ _ _ (@ok23 ⟨True⟩) _ _ _ h0 ⟨rfl, rfl, trivial⟩
theorem fcon71 {l : List AO} {id : Nat} {xs : List Written} (ho : l[id]? = some (.row 38 10 (xs.map enc))) (hx : xs.length < 4611686018427387904) (hok : ∀ x ∈ xs, noteOk x) (hn : (xs.map Written.id).Nodup) :
    FCon Tryd.prog 41 [.row id, .d (.fn 23)] l (.d (.tup [])) (l.set id (.row 38 10 ((sortW xs).map enc))) := by
  obtain ⟨gs, hg1, hg2⟩ := sortG_eq hok hn
  have hag : ∀ (I : Imm) (x : GW), Rd I (.agg (vencG x).toArray) (enc x.1) := fun I x => by
    rw [enc_Written]
    refine .agg _ _ rfl (by simp [D.one]) fun i v d hv hd => vencG_rd I x i v d (by simpa using hv) (by rw [enc_Written]; simpa [D.cells] using hd)
  have ho' : l[id]? = some (.row 38 10 (gs.map fun x : GW => (enc x.1 : D))) := by rw [ho, ← hg1, List.map_map]; rfl
  have := sort_fcon (P := Tryd.prog) (g := 41) (cmp := 23) (S := sortG) (venc := vencG) (denc := fun x : GW => (enc x.1 : D)) (fun d => (sortG_perm d).1.1) (fun b c d w hH hb hd hsat => ?_) (fun p c fv w => ?_) (fun x => rfl) (fun x => ⟨by rw [enc_Written]; rfl, by rw [enc_Written]; simp [D.cells, D.one]⟩) vencG_rd vencG_dr ho' (by rw [← hg1] at hx; simpa using hx)
  · have e : (sortG gs.toArray).toList.map (fun x : GW => (enc x.1 : D)) = (sortW xs).map enc := by rw [← hg2, List.map_map]; rfl
    rw [e] at this
    exact this
  · have hcmp : Go.Proofs.CmpLays Tryd.prog 23 #[] vencG 10 orderG b 0 d.size w :=
      @cmpLays_of' (@drwS ⟨True⟩) _ _ trivial _ _ _ _ (fun x : GW => (enc x.1 : D)) _ con48 hag _ _ _ _ (fun mm os dk hdk => by
        obtain ⟨I, hI⟩ := hsat mm os dk hdk
        exact ⟨I, @SatI.mk (@drwS ⟨True⟩) _ _ hI.cell hI.mp hI.df hI.glob⟩)
    exact AnyQ.slices_SortFunc_eq Tryd.sortW 10 Tryd.isAgg38 Tryd.sizeOf38 vencG (fun _ => rfl) (fun x v hv => by simp [vencG] at hv; rcases hv with rfl | rfl | rfl | rfl | rfl | rfl | rfl | rfl | rfl | rfl <;> rfl) orderG swo_order 23 #[] b 0 c d w (Enters.of Tryd.func23 (by decide)) hcmp hH hb hd
  · exact AnyF.slices_SortFunc_none { Tryd.sortW with } p c fv w
end
section
variable {asg bod : Code} {tm : Tm} {mm : List (Int × Written)}
def objV (F0 F1 LP F4 : AO) (zs : List Written) : List AO := [F0, F1, .var 40 [.row 5], LP, F4, .row 38 10 (zs.map enc)]
theorem sem72 {v0 v1 : Nat → Value} {f0 f1 : Tm} {LP LB : AO} (hLP : LP = .loop 3 13 #[7] asg bod tm .ready none) (hLB : LB = .loop 3 13 #[7] asg bod tm .busy none)
    (hround : ∀ (x : Written) (zs : List Written) (it : AO) (v4 : Nat → Value) (f4 : Tm), (zs.length + 1) * 80 ≤ 140737488355328 → (∃ ks vs dn, it = AO.iter ks vs dn) → ∀ (KR : Option Code → List AO → Prop), (∀ F8, (∃ v f, F8 = AO.frame 8 v f) → KR none [.frame 0 v0 f0, .frame 1 v1 f1, .var 40 [.row 9], LP, .frame 4 v4 f4, .dead, it, .var 38 (cellsT (.d (enc x))), F8, .row 38 10 ((zs ++ [x]).map enc)]) →
      ∀ (R : Rnd) (w0 : World) (I0 : Imm) (vals : Nat → Value) (ft : Tm) (Q : Exit → St → Prop), (∀ e jump s2, jumpOf e = some jump → RetR s2 8 vals ft 3 3 13 #[7] asg bod tm jump (KR jump) → Q e s2) →
        @AWp _ R Tryd.prog w0 I0 13 asg ⟨roundT [7] [.d (enc x)] tm, objV (.frame 0 v0 f0) (.frame 1 v1 f1) LP (.frame 4 v4 f4) zs ++ [it, .var 38 (cellsT (.d (enc x))), .frame 8 vals ft]⟩ (onlyN fun s1 => ∃ s2, Eva.Sub s1 s2 ∧ s2.l[8]? = some (.frame 8 vals ft) ∧ s2.l[3]? = some LP ∧ @AWp _ R Tryd.prog w0 I0 13 bod ⟨s2.t, s2.l.set 3 LB⟩ Q))
    (hmax : mm.length * 80 ≤ 140737488355328) :
    SemC Tryd.prog 42 [.yld 3, .d (.box (.map (mm.map kE) (mm.map vE)))] [.frame 0 v0 f0, .frame 1 v1 f1, .var 40 [.nils 10], LP] fun u l' => ∃ zs v4 f4, zs.Perm (mm.map (·.2)) ∧ l' = objV (.frame 0 v0 f0) (.frame 1 v1 f1) LP (.frame 4 v4 f4) zs := by
  have hV : VOk Tryd.prog (env []) := env_ok trivial
  refine SemC.of hV (Enters.of Tryd.func42 (by decide)) Tryd.func42 rfl (by rw [Tryd.ntmps42]; simp) fun R hR w0 I0 vals ft Q hQ => ?_
  rw [Tryd.ntmps42]
  simp only [List.length_cons, List.length_nil, List.cons_append, List.nil_append] at hQ ⊢
  simp only [startTT]
  refine AWp.sub (s' := ⟨[(0, .yld 3), (1, .d (.box (.map (mm.map kE) (mm.map vE))))], objV (.frame 0 v0 f0) (.frame 1 v1 f1) LP (.frame 4 vals ft) []⟩) (Sub.adoptV (s := ⟨[(0, .yld 3), (1, .d (.box (.map (mm.map kE) (mm.map vE))))], [.frame 0 v0 f0, .frame 1 v1 f1, .var 40 [.nils 10], LP, .frame 4 vals ft]⟩) 2 0 38 10 rfl rfl) ?_
  refine AWp.rS hV none [0, 6] fun K k1 => ?_
  simp [rangeT]
  refine kcong (s' := ⟨[(0, .yld 3), (6, .ptr 6 0)], objV (.frame 0 v0 f0) (.frame 1 v1 f1) LP (.frame 4 vals ft) [] ++ [.iter (mm.map kE) (mm.map vE) []]⟩) (by first | rfl | (simp [objV]; done)) (k1 _ ?_)
  refine AWp.block ?_
  refine AWp.loopP mm (fun done zs => ⟨[(0, .yld 3), (6, .ptr 6 0)], objV (.frame 0 v0 f0) (.frame 1 v1 f1) LP (.frame 4 vals ft) zs ++ [.iter (mm.map kE) (mm.map vE) done]⟩) (fun zs e => if zs.length < mm.length then some (.inl (zs ++ [e.2]) : List Written ⊕ Unit) else none) [] (fun out => ∃ zs, out = .inl zs ∧ zs.Perm (mm.map (·.2))) ?_ (Sub.refl _) fun done zs K hend hstep => ?_
  · intro l hl
    refine ⟨.inl (l.map (·.2)), ?_, _, rfl, hl.map _⟩
    have : ∀ (l : List (Int × Written)) (zs : List Written), zs.length + l.length ≤ mm.length → iterM (fun zs e => if zs.length < mm.length then some (.inl (zs ++ [e.2]) : List Written ⊕ Unit) else none) l zs = some (.inl (zs ++ l.map (·.2))) := by
      intro l
      induction l with
      | nil => intro zs _; simp [iterM]
      | cons e l ih =>
        intro zs hz
        simp only [List.length_cons] at hz
        simp only [iterM]
        rw [if_pos (by omega)]
        simp only
        rw [ih (zs ++ [e.2]) (by simp; omega)]
        simp
    simpa using this l [] (by simp [hl.length_eq])
  refine AWp.mNext hV rfl rfl rfl rfl rfl rfl (by decide) (by decide) rfl rfl rfl rfl (fun i kd vd hk hv hi => ?_) fun hall => ?_
  · obtain ⟨⟨k, x⟩, he, rfl, rfl⟩ := kv_get hk hv
    obtain ⟨o, ho, _, hcont⟩ := hstep i _ he hi
    have hzl : zs.length < mm.length := by
      by_cases h : zs.length < mm.length
      · exact h
      · simp [h] at ho
    rw [if_pos hzl] at ho
    injection ho with ho
    subst ho
    have hcont := fun s' => hcont s' _ rfl
    dsimp only at hcont
    show AWp _ _ _ _ _ ⟨[(0, .yld 3), (6, .ptr 6 0)], objV (.frame 0 v0 f0) (.frame 1 v1 f1) LP (.frame 4 vals ft) zs ++ [.iter (mm.map kE) (mm.map vE) (done ++ [i])]⟩ _
    refine AWp.block ?_
    refine AWp.rS hV none [0, 4, 6] fun K k2 => ?_
    simp [entryT, objV, kE_pair, vE_pair, he]
    refine kcong (s' := ⟨[(0, .yld 3), (4, .ptr 7 0), (6, .ptr 6 0)], objV (.frame 0 v0 f0) (.frame 1 v1 f1) LP (.frame 4 vals ft) zs ++ [.iter (mm.map kE) (mm.map vE) (done ++ [i]), .var 38 (cellsT (.d (enc x)))]⟩) (by first | rfl | (simp [objV]; done)) (k2 _ ?_)
    refine AWp.rC hV [0, 6, 14] fun K k3 => ?_
    refine RunAt.seq hV none 2 [0, 6, 11, 12] (by decide) (by decide) fun K1 h1 => ?_
    simp [objV]
    refine kcong (s' := ⟨[(0, .yld 3), (6, .ptr 6 0), (11, .yld 3), (12, .d (enc x))], objV (.frame 0 v0 f0) (.frame 1 v1 f1) LP (.frame 4 vals ft) zs ++ [.iter (mm.map kE) (mm.map vE) (done ++ [i]), .var 38 (cellsT (.d (enc x)))]⟩) (by first | rfl | (simp [objV]; done)) (h1 _ ?_)
    refine RunAt.yld hV 3 [.d (enc x)] rfl rfl trivial (by decide) (by simp [yldOf]) (show _ = some (AO.loop 3 13 #[7] asg bod tm .ready none) by rw [← hLP]; rfl) rfl (by decide) fun KR hKR => ?_
    simp only [← hLP, ← hLB]
    refine hround x zs (.iter (mm.map kE) (mm.map vE) (done ++ [i])) vals ft ?_ ⟨_, _, _, rfl⟩ KR fun F8 ⟨v8, f8, hF8⟩ => hKR none _ (RunAt.fin hV none ?_)
    · have := Nat.mul_le_mul_right 80 (Nat.succ_le_of_lt hzl)
      exact Nat.le_trans this hmax
    subst hF8
    simp
    refine kcong (s' := ⟨[(0, .yld 3), (6, .ptr 6 0), (14, .d (.bool false))], [.frame 0 v0 f0, .frame 1 v1 f1, .var 40 [.row 9], LP, .frame 4 vals ft, .dead, .iter (mm.map kE) (mm.map vE) (done ++ [i]), .var 38 (cellsT (.d (enc x))), .frame 8 v8 f8, .row 38 10 ((zs ++ [x]).map enc)]⟩) (by first | rfl | (simp; done)) (k3 _ ?_)
    refine AWp.cond (b := false) rfl (fun h => by cases h) fun h => AWp.skip (hcont _ ?_)
    show Eva.Sub _ ⟨[(0, .yld 3), (6, .ptr 6 0)], objV (.frame 0 v0 f0) (.frame 1 v1 f1) LP (.frame 4 vals ft) (zs ++ [x]) ++ [.iter (mm.map kE) (mm.map vE) (done ++ [i])]⟩
    exact Sub.ren [0, 1, 2, 3, 4, 9, 6] (by decide) (by simp [framesOk, hLP]) (by simp [renL, AO.ren, T.ren, T.ren2, idx, objV, hLP]) (by simp [forgetsR, T.ren, T.ren2, idx])
  · obtain ⟨zs', hz, hp⟩ := hend (fun i hi => hall i (by simpa using hi))
    injection hz with hz
    subst hz
    refine hQ _ _ (.inr rfl) ⟨⟨[], objV (.frame 0 v0 f0) (.frame 1 v1 f1) LP (.frame 4 vals ft) zs⟩, ?_, trivial, rfl, zs, _, _, hp, rfl⟩
    exact Sub.ren [0, 1, 2, 3, 4, 5] (by decide) (by simp [framesOk, objV, hLP]) (by simp [renL, AO.ren, T.ren, T.ren2, idx, objV, hLP]) trivial
end
section
variable {mm : List (Int × Written)}
theorem sem85 {v0 : Nat → Value} {f0 : Tm} (hmax : mm.length * 80 ≤ 140737488355328) :
    SemC Tryd.prog 60 [.nils 10, .d (.clo 42 [.box (.map (mm.map kE) (mm.map vE))])] [.frame 0 v0 f0] fun u l' => u = .row 2 ∧ ∃ (zs : List Written) (v1 : Nat → Value) (f1 : Tm), zs.Perm (mm.map (·.2)) ∧ l' = [.frame 0 v0 f0, .frame 1 v1 f1, .row 38 10 (zs.map enc)] := by
  have hV : VOk Tryd.prog (env []) := env_ok trivial
  refine SemC.of hV (Enters.of Tryd.func60 (by decide)) Tryd.func60 rfl (by rw [Tryd.ntmps60]; simp) fun R hR w0 I0 vals ft Q hQ => ?_
  rw [Tryd.ntmps60]
  simp only [List.length_cons, List.length_nil, List.cons_append, List.nil_append] at hQ ⊢
  simp only [startTT]
  refine AWp.rS hV none [1, 2] fun K k1 => ?_
  simp
  refine kcong (s' := ⟨[(1, .d (.clo 42 [.box (.map (mm.map kE) (mm.map vE))])), (2, .ptr 2 0)], [.frame 0 v0 f0, .frame 1 vals ft, .var 40 [.nils 10]]⟩) (by first | rfl | (simp; done)) (k1 _ ?_)
  refine AWp.seqJ (fun s' => ∃ zs : List Written, zs.Perm (mm.map (·.2)) ∧ Sub s' ⟨[(2, .ptr 2 0)], [.frame 0 v0 f0, .frame 1 vals ft, .var 40 [.row 3], .row 38 10 (zs.map enc)]⟩) (fun _ k2 => ?_) ?_
  · refine AWp.rS hV none [2, 6] fun K k1 => ?_
    simp
    refine kcong (s' := ⟨[(2, .ptr 2 0), (6, .d (.clo 42 [.box (.map (mm.map kE) (mm.map vE))]))], [.frame 0 v0 f0, .frame 1 vals ft, .var 40 [.nils 10]]⟩) (by first | rfl | (simp; done)) (k1 _ ?_)
    refine AWp.block ?_
    refine AWp.rangeF hR (gf := 42) (caps := [.d (.box (.map (mm.map kE) (mm.map vE)))]) rfl fun asg bod ha hb K hK => ?_
    dsimp only [List.length_cons, List.length_nil] at hK ⊢
    refine (sem72 (LP := .loop 3 13 #[7] asg bod [(2, .ptr 2 0), (6, .d (.clo 42 [.box (.map (mm.map kE) (mm.map vE))]))] .ready none) rfl rfl ?_ hmax).mono ?_
    · rintro x zs it v4 f4 hz ⟨ks, vs, dn, hit⟩ KR hKR R w0 I0 vals8 ft8 Q hQ
      obtain ⟨LP, hLP⟩ : ∃ LP, LP = AO.loop 3 13 #[7] asg bod [(2, .ptr 2 0), (6, .d (.clo 42 [.box (.map (mm.map kE) (mm.map vE))]))] .ready none := ⟨_, rfl⟩
      obtain ⟨LB, hLB⟩ : ∃ LB, LB = AO.loop 3 13 #[7] asg bod [(2, .ptr 2 0), (6, .d (.clo 42 [.box (.map (mm.map kE) (mm.map vE))]))] .busy none := ⟨_, rfl⟩
      have hret : ∀ s2, (∃ s3, Eva.Sub s2 s3 ∧ s3.l[8]? = some (.frame 8 vals8 ft8) ∧ s3.l[3]? = some LB ∧ s3.l.set 3 LP = [.frame 0 v0 f0, .frame 1 vals ft, .var 40 [.row 9], LP, .frame 4 v4 f4, .dead, it, .var 38 (cellsT (.d (enc x))), .frame 8 vals8 ft8, .row 38 10 ((zs ++ [x]).map enc)]) → Q .normal s2 := by
        rintro s2 ⟨s3, q1, q2, q3, q4⟩
        refine hQ .normal none s2 rfl ⟨s3, q1, q2, by rw [q3, hLB], ?_⟩
        have h5 := hKR (.frame 8 vals8 ft8) ⟨_, _, rfl⟩
        simp only [Option.isNone_none, if_true]
        rw [← hLP, q4]
        rw [← hLP] at h5
        exact h5
      simp only [← hLP, ← hLB]
      clear hQ hKR hK k2
      subst ha
      subst hb
      refine AWp.regF hV none [2, 5] fun K k3 => ?_
      simp [roundT, objV]
      refine kcong (s' := ⟨[(2, .ptr 2 0), (5, .ptr 9 0)], objV (.frame 0 v0 f0) (.frame 1 vals ft) LP (.frame 4 v4 f4) zs ++ [it, .var 38 (cellsT (.d (enc x))), .frame 8 vals8 ft8, .var 38 (cellsT (.d (enc x)))]⟩) (by first | rfl | (simp [objV]; done)) (k3 _ ?_)
      refine ⟨_, Sub.refl _, rfl, rfl, ?_⟩
      show AWp _ _ _ _ _ ⟨[(2, .ptr 2 0), (5, .ptr 9 0)], [.frame 0 v0 f0, .frame 1 vals ft, .var 40 [.row 5], LB, .frame 4 v4 f4, .row 38 10 (zs.map enc), it, .var 38 (cellsT (.d (enc x))), .frame 8 vals8 ft8, .var 38 (cellsT (.d (enc x)))]⟩ _
      refine AWp.block ?_
      refine AWp.regF hV none [] fun K k4 => ?_
      simp
      refine And.intro (by omega) ?_
      refine kcong (s' := ⟨[], [.frame 0 v0 f0, .frame 1 vals ft, .var 40 [.row 10], LB, .frame 4 v4 f4, .dead, it, .var 38 (cellsT (.d (enc x))), .frame 8 vals8 ft8, .var 38 (cellsT (.d (enc x))), .row 38 10 ((zs ++ [x]).map enc)]⟩) (by first | rfl | (simp; done)) (k4 _ ?_)
      refine hret _ ⟨⟨[], [.frame 0 v0 f0, .frame 1 vals ft, .var 40 [.row 9], LB, .frame 4 v4 f4, .dead, it, .var 38 (cellsT (.d (enc x))), .frame 8 vals8 ft8, .row 38 10 ((zs ++ [x]).map enc)]⟩, ?_, rfl, rfl, rfl⟩
      exact Sub.ren [0, 1, 2, 3, 4, 5, 6, 7, 8, 10] (by decide) (by simp [framesOk, hLB, hit]) (by simp [renL, AO.ren, T.ren, T.ren2, idx, hLB, hit]) trivial
    · rintro u l' ⟨zs, v4, f4, hp, rfl⟩
      refine hK _ _ ⟨3, 13, #[7], asg, bod, _, .ready, none, rfl, by simp, ?_⟩
      refine k2 _ ⟨zs, hp, ?_⟩
      show Eva.Sub ⟨[(2, .ptr 2 0), (6, .d (.clo 42 [.box (.map (mm.map kE) (mm.map vE))]))], [.frame 0 v0 f0, .frame 1 vals ft, .var 40 [.row 5], .loop 3 13 #[7] asg bod [(2, .ptr 2 0), (6, .d (.clo 42 [.box (.map (mm.map kE) (mm.map vE))]))] .exhausted none, .frame 4 v4 f4, .row 38 10 (zs.map enc)]⟩ _
      exact Sub.ren [0, 1, 2, 5] (by decide) (by simp [framesOk]) (by simp [renL, AO.ren, T.ren, T.ren2, idx]) (by simp [forgetsR, T.ren, T.ren2, idx])
  · rintro s' ⟨zs, hp, hs⟩
    refine AWp.sub hs ?_
    refine AWp.rS hV none [4] fun K k3 => ?_
    simp
    refine kcong (s' := ⟨[(4, .row 3)], [.frame 0 v0 f0, .frame 1 vals ft, .var 40 [.row 3], .row 38 10 (zs.map enc)]⟩) (by first | rfl | simp) (k3 _ ?_)
    refine AWp.ret ?_
    refine hQ _ _ (.inl rfl) ⟨⟨[(4, .row 2)], [.frame 0 v0 f0, .frame 1 vals ft, .row 38 10 (zs.map enc)]⟩, Sub.ren [0, 1, 3] (by decide) (by simp [framesOk]) (by simp [renL, AO.ren]) (by simp [forgetsR, T.ren, T.ren2, idx]), by simp [resT], rfl, by simp [resT, tupT], zs, _, _, hp, rfl⟩
theorem sem70 (hmax : mm.length * 80 ≤ 140737488355328) :
    SemC Tryd.prog 40 [.d (.clo 42 [.box (.map (mm.map kE) (mm.map vE))])] [] fun u l' => u = .row 1 ∧ ∃ (zs : List Written) (v0 : Nat → Value) (f0 : Tm), zs.Perm (mm.map (·.2)) ∧ l' = [.frame 0 v0 f0, .row 38 10 (zs.map enc)] := by
  have hV : VOk Tryd.prog (env []) := env_ok trivial
  refine SemC.of hV (Enters.of Tryd.func40 (by decide)) Tryd.func40 rfl (by rw [Tryd.ntmps40]; simp) fun R hR w0 I0 vals ft Q hQ => ?_
  rw [Tryd.ntmps40]
  simp only [List.length_nil, List.nil_append] at hQ ⊢
  simp only [startTT]
  refine AWp.rS hV none [0] fun K k1 => ?_
  simp
  refine kcong (s' := ⟨[(0, .d (.clo 42 [.box (.map (mm.map kE) (mm.map vE))]))], [.frame 0 vals ft]⟩) (by first | rfl | simp) (k1 _ ?_)
  refine AWp.rC hV [2] fun K k1 => ?_
  refine RunAt.seq hV none 1 [3] (by decide) (by decide) fun K1 h1 => ?_
  simp
  refine kcong (s' := ⟨[(3, .d (.clo 42 [.box (.map (mm.map kE) (mm.map vE))]))], [.frame 0 vals ft]⟩) (by first | rfl | simp) (h1 _ ?_)
  refine RunAt.call hV 60 [.nils 10, .d (.clo 42 [.box (.map (mm.map kE) (mm.map vE))])] rfl rfl trivial (by decide) (by simp [cloOf]) fun K2 h2 => ?_
  refine (sem85 hmax).mono ?_
  rintro _ _ ⟨rfl, zs, v1, f1, hp, rfl⟩
  refine h2 _ _ (RunAt.fin hV none ?_)
  simp
  refine kcong (s' := ⟨[(2, .row 2)], [.frame 0 vals ft, .frame 1 v1 f1, .row 38 10 (zs.map enc)]⟩) (by first | rfl | simp) (k1 _ ?_)
  refine AWp.ret ?_
  refine hQ _ _ (.inl rfl) ⟨⟨[(2, .row 1)], [.frame 0 vals ft, .row 38 10 (zs.map enc)]⟩, Sub.ren [0, 2] (by decide) (by simp [framesOk]) (by simp [renL, AO.ren]) (by simp [forgetsR, T.ren, T.ren2, idx]), by simp [resT], rfl, by simp [resT, tupT], zs, _, _, hp, rfl⟩
end
def fSort : FEnv := fun g ts l => if g = 41 then (match ts with
  | [.row id, .d (.fn 23)] => (match l[id]? with
    | some (.row 38 10 els) => some ⟨.d (.tup []), l.set id (.row 38 10 ((sortW (els.map dec)).map enc)), (els.map (dec : D → Written)).map enc = els ∧ (∀ x ∈ els.map (dec : D → Written), noteOk x) ∧ ((els.map (dec : D → Written)).map Written.id).Nodup ∧ els.length ≤ 1000000000000⟩
    | _ => none)
  | _ => none) else none
theorem fSort_ok : FOk Tryd.prog fSort := by
  intro g ts l r hr hob
  unfold fSort at hr
  split at hr
  · rename_i hg
    subst hg
    split at hr
    · rename_i id
      split at hr
      · rename_i els ho
        cases hr
        obtain ⟨h1, h2, h3, h4⟩ := hob
        refine ⟨Enters.of Tryd.func41 (by decide), ?_⟩
        exact fcon71 (xs := els.map dec) (by rw [h1]; exact ho) (by simp; omega) h2 h3
      · cases hr
    · cases hr
  · cases hr
noncomputable def envS (l : List (FuncId × Eva.Spec)) : Env := { env l with F := fSort }
theorem envS_ok {l : List (FuncId × Eva.Spec)} (h : Specs Tryd.prog l) : VOk Tryd.prog (envS l) := ⟨(env_ok h).E, (env_ok h).C, (env_ok h).eq, fSort_ok, (env_ok h).prog⟩
theorem con46 {mm : List (Int × Written)} (hmax : mm.length * 80 ≤ 140737488355328) (hok : ∀ x ∈ mm.map (·.2), noteOk x) (hn : ((mm.map (·.2)).map Written.id).Nodup) (hlen : mm.length ≤ 1000000000000) :
    PureCon Tryd.prog 21 [.clo 42 [.box (.map (mm.map kE) (mm.map vE))], .fn 23] (enc (sortW (mm.map (·.2)))) := by
  have hV : VOk Tryd.prog (envS []) := envS_ok trivial
  refine PureCon.ofQ hV Tryd.func21 rfl (by rw [Tryd.ntmps21]; simp) fun R hR w0 I0 Q hQ => ?_
  rw [Tryd.ntmps21]
  refine AWp.rS hV none [0, 1] fun K k1 => ?_
  simp
  refine kcong (s' := ⟨[(0, .d (.clo 42 [.box (.map (mm.map kE) (mm.map vE))])), (1, .d (.fn 23))], []⟩) (by first | rfl | simp) (k1 _ ?_)
  refine AWp.rC hV [1, 5] fun K k1 => ?_
  refine RunAt.seq hV none 1 [1, 6] (by decide) (by decide) fun K1 h1 => ?_
  simp
  refine kcong (s' := ⟨[(1, .d (.fn 23)), (6, .d (.clo 42 [.box (.map (mm.map kE) (mm.map vE))]))], []⟩) (by first | rfl | simp) (h1 _ ?_)
  refine RunAt.call hV 40 [.d (.clo 42 [.box (.map (mm.map kE) (mm.map vE))])] rfl rfl trivial (by decide) (by simp [cloOf, envS]) fun K2 h2 => ?_
  refine (sem70 hmax).mono ?_
  rintro _ _ ⟨rfl, zs, v0, f0, hp, rfl⟩
  have hpz : (zs.map Written.id).Nodup := ((hp.map Written.id).nodup_iff).2 hn
  have hoz : ∀ x ∈ zs, noteOk x := fun x hx => hok x (hp.subset hx)
  have hlz : zs.length ≤ 1000000000000 := by rw [hp.length_eq]; simpa using hlen
  rw [← sortW_of_perm hp hpz] at hQ
  refine h2 _ _ (RunAt.fin hV none ?_)
  simp
  refine kcong (s' := ⟨[(1, .d (.fn 23)), (5, .row 1)], [.frame 0 v0 f0, .row 38 10 (zs.map enc)]⟩) (by first | rfl | simp) (k1 _ ?_)
  refine AWp.sub (s' := ⟨[(1, .d (.fn 23)), (5, .row 0)], [.row 38 10 (zs.map enc)]⟩) (Sub.ren [1] (by decide) (by simp [framesOk]) (by simp [renL, AO.ren]) (by simp [forgetsR, T.ren, T.ren2, idx])) ?_
  refine AWp.rS hV none [5] fun K k2 => ?_
  simp [envS, fSort]
  refine And.intro ⟨hoz, by simpa using hpz, hlz⟩ ?_
  refine kcong (s' := ⟨[(5, .row 0)], [.row 38 10 ((sortW zs).map enc)]⟩) (by first | rfl | simp) (k2 _ ?_)
  refine AWp.rS hV none [4] fun K k3 => ?_
  simp
  refine kcong (s' := ⟨[(4, .row 0)], [.row 38 10 ((sortW zs).map enc)]⟩) (by first | rfl | simp) (k3 _ ?_)
  refine AWp.ret ?_
  refine hQ _ _ (.inl rfl) ?_
  simp [retOk, resT]
def okVals (ks vs : List D) : Prop := ∃ mm : List (Int × Written), ks = mm.map kE ∧ vs = mm.map vE ∧ (∀ x ∈ mm.map (·.2), noteOk x) ∧ ((mm.map (·.2)).map Written.id).Nodup ∧ mm.length ≤ 1000000000000
noncomputable def sp21 : Eva.Spec := fun ds => match ds with
  | [.clo 42 [.box (.map ks vs)], .fn 23] => some (enc (sortW (vs.map dec)), okVals ks vs)
  | _ => none
theorem ok21 : SpecOk Tryd.prog 21 sp21 := ⟨Enters.of Tryd.func21 (by decide), fun ds r ob hs hob => by
  unfold sp21 at hs; split at hs
  · cases hs
    obtain ⟨mm, rfl, rfl, h1, h2, h3⟩ := hob
    have := con46 (mm := mm) (by omega) h1 h2 h3
    have e : (mm.map vE).map (dec : D → Written) = mm.map (·.2) := by
      rw [List.map_map]
      exact List.map_congr_left fun p _ => by simp [vE, dec_enc]
    rw [e]; exact this
  · cases hs⟩
def sp22 : Eva.Spec := fun ds => match ds with
  | [.map ks vs] => some (.clo 42 [.box (.map ks vs)], True)
  | _ => none
theorem con47 (ks vs : List D) : PureCon Tryd.prog 22 [.map ks vs] (.clo 42 [.box (.map ks vs)]) := by
  have hV : VOk Tryd.prog (env []) := env_ok trivial
  refine PureCon.ofQ hV Tryd.func22 rfl (by rw [Tryd.ntmps22]; simp) fun R hR w0 I0 Q hQ => ?_
  rw [Tryd.ntmps22]
  refine AWp.rS hV none [1] fun K k1 => ?_
  simp
  refine kcong (s' := ⟨[(1, .ptr 0 0)], [.var 53 [.d (.map ks vs)]]⟩) (by first | rfl | simp) (k1 _ ?_)
  refine AWp.sub (s' := ⟨[(1, .d (.box (.map ks vs)))], []⟩) (Sub.frz 1 0 (.map ks vs) [] rfl rfl (by simp [D.cells, D.one]) (by decide) (by decide) rfl rfl trivial) ?_
  refine AWp.rS hV none [2] fun K k1 => ?_
  simp
  refine kcong (s' := ⟨[(2, .d (.clo 42 [.box (.map ks vs)]))], []⟩) (by first | rfl | simp) (k1 _ ?_)
  refine AWp.ret ?_
  refine hQ _ _ (.inl rfl) ?_
  simp [retOk, resT]
theorem ok22 : SpecOk Tryd.prog 22 sp22 := ⟨Enters.of Tryd.func22 (by decide), fun ds r ob hs hob => by
  unfold sp22 at hs; split at hs
  · cases hs; exact con47 _ _
  · cases hs⟩
def mvals {α : Type} (x : List (Int × α)) : List α := x.map (·.2)
theorem mvals_E (x : List (Int × Written)) : (x.map vE).map (dec : D → Written) = mvals x := by
  rw [List.map_map]; exact List.map_congr_left fun p _ => by simp [vE, dec_enc]
theorem mvals_E' (x : List (Int × Written)) : x.map ((dec : D → Written) ∘ vE) = mvals x := by rw [← mvals_E, List.map_map]
def okV (x : List (Int × Written)) : Prop := (∀ w ∈ mvals x, noteOk w) ∧ ((mvals x).map Written.id).Nodup ∧ x.length ≤ 1000000000000
instance (x : List (Int × Written)) : Decidable (okV x) := inferInstanceAs (Decidable (_ ∧ _ ∧ _))
theorem okV_vals {x : List (Int × Written)} (h : okV x) : okVals (x.map kE) (x.map vE) := ⟨x, rfl, rfl, h.1, h.2.1, h.2.2⟩
end Go.Proofs.YtjfkfkjkbgiciaaDoor
namespace Go.Proofs.YtjfkfkjkbgiciaaDoor
open Go Go.Eva Enc
noncomputable def pJoin_r2 (l : (List View)) : Option Bool :=
  (ifb (decide ((l.length : Int) < 1)) (some true) (ifb (decide (100 < (l.length : Int))) (some true) (bnd (contV l (⟨⟩ : C17)) fun x4 =>
  some x4)))
noncomputable def pJoin_r98 (z91u8 : (List (Int × Written))) (x859 : Written) : Option Bool :=
  (ifb (mhas z91u8 x859.id) (some (!decide ((mgetD z91u8 x859.id (⟨0, 0, 0, (⟨0, 0⟩ : Rat), (⟨0, 0⟩ : Rat), (⟨0, 0, 0⟩ : Pitch)⟩ : Written)) = x859))) (some false))
noncomputable def pJoin_j97 (z91u63 : Int) (y857u8 : (List (Int × Written))) : Option (((List (Int × Written)) × Int) ⊕ ((View × Int) ⊕ ((List (Int × Written))))) :=
  grd (inI (z91u63 + 1)) (some (.inl (y857u8, (z91u63 + 1))))
noncomputable def pJoin_s96 (x802 : Measure) : ((List (Int × Written)) × Int) → Option (((List (Int × Written)) × Int) ⊕ ((View × Int) ⊕ ((List (Int × Written))))) := fun (z91u8, z91u63) =>
  ifb (decide (z91u63 < (x802.notes.length : Int))) (bnd (at? x802.notes z91u63) fun x859 =>
  bnd (pJoin_r98 z91u8 x859) fun y864u79 =>
  ifb y864u79 (some (.inr (.inl ((⟨0, []⟩ : View), 5))))
  (pJoin_j97 z91u63 (mput z91u8 x859.id x859)))
  (some (.inr (.inr z91u8)))
noncomputable def pJoin_j90 (z70u52 : Int) (y797u8 : (List (Int × Written))) : Option (((List (Int × Written)) × Int) ⊕ ((View × Int) ⊕ ((List (Int × Written))))) :=
  grd (inI (z70u52 + 1)) (some (.inl (y797u8, (z70u52 + 1))))
noncomputable def pJoin_s89 (l : (List View)) (z4u44 : Int) : ((List (Int × Written)) × Int) → Option (((List (Int × Written)) × Int) ⊕ ((View × Int) ⊕ ((List (Int × Written))))) := fun (z70u8, z70u52) =>
  ifb (decide (z70u52 < (l.length : Int))) (bnd (at? l z70u52) fun x799 =>
  bnd (at? x799.measures z4u44) fun x802 =>
  bnd (loopO (pJoin_s96 x802) (z70u8, 0)) fun o848 =>
  match o848 with
  | .inl (q879u0, q879u1) => some (.inr (.inl (q879u0, q879u1)))
  | .inr q880u8 => pJoin_j90 z70u52 q880u8)
  (some (.inr (.inr z70u8)))
noncomputable def pJoin_j68 (z4u44 : Int) (y608u4c_1 : (List Measure)) (y608u5 : Int) : Option (((List Measure) × Int × Int) ⊕ ((View × Int) ⊕ ((List Measure) × Int))) :=
  grd (inI (z4u44 + 1)) (some (.inl (y608u4c_1, y608u5, (z4u44 + 1))))
noncomputable def pJoin_j69 (z4u4c_1 : (List Measure)) (z4u5 : Int) (z4u44 : Int) (x610 : Measure) (y614u8 : (List (Int × Written))) : Option (((List Measure) × Int × Int) ⊕ ((View × Int) ⊕ ((List Measure) × Int))) :=
  grd (okV y614u8) (grd (inI (z4u5 + ((({ x610 with notes := (sortW (mvals y614u8)) }).notes).length : Int))) (grd (((z4u4c_1 ++ [({ x610 with notes := (sortW (mvals y614u8)) })]) : List Measure).length * 56 ≤ 140737488355328) (pJoin_j68 z4u44 (z4u4c_1 ++ [({ x610 with notes := (sortW (mvals y614u8)) })]) (z4u5 + ((({ x610 with notes := (sortW (mvals y614u8)) }).notes).length : Int)))))
noncomputable def pJoin_s67 (l : (List View)) (x27 : View) : ((List Measure) × Int × Int) → Option (((List Measure) × Int × Int) ⊕ ((View × Int) ⊕ ((List Measure) × Int))) := fun (z4u4c_1, z4u5, z4u44) =>
  ifb (decide (z4u44 < (x27.measures.length : Int))) (bnd (at? x27.measures z4u44) fun x610 =>
  bnd (loopO (pJoin_s89 l z4u44) ([], 0)) fun o788 =>
  match o788 with
  | .inl (q884u0, q884u1) => some (.inr (.inl (q884u0, q884u1)))
  | .inr q885u8 => pJoin_j69 z4u4c_1 z4u5 z4u44 x610 q885u8)
  (some (.inr (.inr (z4u4c_1, z4u5))))
noncomputable def pJoin_j3 (x21 : View) (y25u4c_1 : (List Measure)) (y25u5 : Int) : Option (View × Int) :=
  ifb (decide (20000 < y25u5)) (some ((⟨0, []⟩ : View), 2))
  (some ((⟨x21.part, y25u4c_1⟩ : View), 0))
noncomputable def pJoin_j1 (l : (List View)) : Option (View × Int) :=
  bnd (at? l 0) fun x21 =>
  bnd (at? l 0) fun x27 =>
  bnd (loopO (pJoin_s67 l x27) ([], 0, 0)) fun o599 =>
  match o599 with
  | .inl (q895u0, q895u1) => some (q895u0, q895u1)
  | .inr (q896u4c_1, q896u5) => pJoin_j3 x21 q896u4c_1 q896u5
noncomputable def pJoin (l : (List View)) : Option (View × Int) :=
  bnd (pJoin_r2 l) fun y6u15 =>
  ifb y6u15 (some ((⟨0, []⟩ : View), 1))
  (bnd (contF l (⟨(⟨l⟩ : (Bx (List View)))⟩ : C19)) fun x16 =>
  ifb x16 (some ((⟨0, []⟩ : View), 6))
  (pJoin_j1 l))
end Go.Proofs.YtjfkfkjkbgiciaaDoor
namespace Go.Proofs.YtjfkfkjkbgiciaaDoor
open Go Go.Eva Enc
set_option maxRecDepth 4000
attribute [local instance] rndX
attribute [local congr] AWp.congrS
attribute [local simp] evalSeq opRes guardPc evalOp evT Eva.get startT strip putT Eva.after constT typed obAll holds dstOk R.ok R.bad ofD binD unD pickT subL subP Op.operands Call.operands toD toD1 argsD argsD1 callD callT typedAll cfind quietT quietT1 spec0 spec1 spec2 spec3 enc_int enc_bool enc_str enc_fn enc_list dec_int dec_bool dec_str dec_fn dec_list size_int size_str map_dec_enc map_dec_comp cellsT D.cells T.oneT D.one mkT dataT zeroT unD1 setAt loadAs loadEl storeAs fieldP fieldV sizeE intOfT indexP appendT lenT sliceT elemSize arith lfsOk lfOk isAggD mkD fillT placeS TD.agg env restr List.map keyIdx mapTy lookT mapPutT mapDelT mapOf indexS convT evalPure range1 range2 range3 range4 range5 range6 range7 range8 enc_intk size_intk dec_intk eta_intk keysInt_nil keyIdx_E keysInt_E isE_iff put_E del_E get_E getok_E mkeys_E mkeys_E' mkeys_enc specO0 specO1 specO2 specO3 specO4 opD skips gone unbox cloT subO clearT makeT enc_bx dec_bx size_bx selS cloIs List.contains_cons List.contains_nil elAt_zero enc_Rat dec_Rat size_Rat eta_Rat beqL_Rat beqR_Rat enc_Pitch dec_Pitch size_Pitch eta_Pitch beqL_Pitch beqR_Pitch enc_Written dec_Written size_Written eta_Written beqL_Written beqR_Written enc_Measure dec_Measure size_Measure eta_Measure enc_View dec_View size_View eta_View enc_Fraction dec_Fraction size_Fraction eta_Fraction beqL_Fraction beqR_Fraction dat0 len_natTab eqT4 eqT34 eqT36 eqT38 eqT114 te1 te2 te3 te4 te5 te6 te7 te8 te9 te10 te11 te12 te13 te14 te15 te16 te17 te18 te19 te21 te22 te23 te24 te25 te26 te27 te28 te30 te31 te32 te33 te34 te35 te36 te37 te38 te39 te40 te41 te42 te43 te45 te46 te47 te48 te49 te50 te51 te52 te53 te55 te56 te57 te58 te59 te60 te61 te62 te63 te64 te65 te66 te67 te68 te69 te70 te71 te72 te73 te74 te75 te76 te77 te79 te80 te81 te82 te83 te84 te85 te86 te87 te88 te89 te90 te91 te92 te93 te94 te95 te96 te97 te98 te99 te100 te101 te102 te104 te105 te106 te108 te109 te110 te111 te112 te113 te114 te115 te116 te117 te118 te119 te120 te121 te122 te123 te124 te125 te126 te127 te128 te129 te130 te131 te133 te134 te135 te136 te137 te138 te139 te140 te141 te142 te143 te144 te145 te146 te147 te148 te149 te150
section
attribute [local simp] enc_C36 dec_C36 size_C36 eta_C36 enc_C39 dec_C39 size_C39 eta_C39 enc_C28 dec_C28 size_C28 eta_C28 enc_C52_28 dec_C52_28 size_C52_28 eta_C52_28 enc_C29 dec_C29 size_C29 eta_C29 enc_C55_29 dec_C55_29 size_C55_29 eta_C55_29 enc_C33 dec_C33 size_C33 eta_C33 enc_C34 dec_C34 size_C34 eta_C34 enc_C56 dec_C56 size_C56 eta_C56 enc_C30 dec_C30 size_C30 eta_C30 enc_C52_30 dec_C52_30 size_C52_30 eta_C52_30 enc_C55_34 dec_C55_34 size_C55_34 eta_C55_34 enc_C17 dec_C17 size_C17 eta_C17 enc_C19 dec_C19 size_C19 eta_C19 envD fDel cloneR delR Low AO.lows T.lows T.low1 AO.isFrame mvals_E mvals_E'
noncomputable def sp6 : Eva.Spec := specO1 fun (l : (List View)) => (pJoin l).map fun r => .tup [enc r.1, enc r.2]
theorem ok6 : SpecOk Tryd.prog 6 sp6 := by
 have hV : VOk Tryd.prog (env [(22, sp22), (21, sp21), (16, (selS 1 17 sp16_contV sp16_contF))]) := env_ok ⟨ok22, ok21, (SpecOk.sel ok16_contV ok16_contF), trivial⟩
 refine SpecOk.ofO1 (Enters.of Tryd.func6 (by decide)) fun l rr hr => ?_
 obtain ⟨r, hg, rfl⟩ := mpj hr; clear hr
 refine PureCon.ofN hV Tryd.func6 rfl Tryd.ntmps6 fun R hR w0 I0 Q hQ => ?_
 unfold pJoin at hg
 refine AWp.rS hV none [1, 2] fun K k1 => ?_
 simp; repeat refine ai ?_
 refine kc [(1, .ptr 0 0), (2, .ptr 1 0)] [.w 22 l, .var 27 [.d (enc (0 : Int)), .nils 5]] (k1 _ ?_)
 refine AWp.seqJ (fun s' => pJoin_j1 l = some r ∧ Sub s' ⟨[se 1 ((⟨l⟩ : (Bx (List View))) : (Bx (List View))), (2, .ptr 0 0)], [.var 27 [.d (enc (0 : Int)), .nils 5]]⟩) (fun _ k3 => ?_) ?_
 ·refine AWp.block ?_
  obtain ⟨y6u15, hx7, hg⟩ := bnd_some hg
  unfold pJoin_r2 at hx7
  refine AWp.seqJ (fun s' => Sub s' ⟨[(1, .ptr 0 0), (2, .ptr 1 0), se 15 y6u15], [.w 22 l, .var 27 [.d (enc (0 : Int)), .nils 5]]⟩) (fun _ k8 => ?_) ?_
  ·rcases ifb_o hx7 with ⟨c9, hx7⟩ | ⟨c9, hx7⟩
   ·have c9g := c9; try simp at c9g
    refine AWp.regF hV (some [20, 21, 22, 25, 26]) [1, 2, 15] fun K k10 => ?_
    simp [sp16_contV, c9, c9g]; repeat refine ai ?_
    cases hx7; exact k10 _ (k8 _ (Sub.rm [0, 1]))
   ·have c9g := c9; try simp at c9g
    rcases ifb_o hx7 with ⟨c11, hx7⟩ | ⟨c11, hx7⟩
    ·have c11g := c11; try simp at c11g
     refine AWp.regF hV (some [25, 26]) [1, 2, 15] fun K k12 => ?_
     simp [sp16_contV, c9, c9g, c11, c11g]; repeat refine ai ?_
     cases hx7; exact k12 _ (k8 _ (Sub.rm [0, 1]))
    ·have c11g := c11; try simp at c11g
     obtain ⟨x4, h5, hx7⟩ := bnd_some hx7
     have h5g := h5; try simp at h5g
     refine AWp.regF hV (some []) [1, 2, 15] fun K k13 => ?_
     simp [sp16_contV, c9, c9g, c11, c11g, h5, h5g]; repeat refine ai ?_
     cases hx7; exact k13 _ (k8 _ (Sub.rm [0, 1]))
  ·intro s' hs
   refine AWp.sub hs ?_
   clear hs s'
   refine AWp.cnd hg rfl ?_ ?_ <;> (clear hg; intro h14 hg)
   ·refine AWp.rS hV none [2, 3] fun K k15 => ?_
    simp; repeat refine ai ?_
    refine kc [(2, .ptr 1 0), se 3 (1 : Int)] [.w 22 l, .var 27 [.d (enc (0 : Int)), .nils 5]] (k15 _ ?_)
    refine AWp.ret ?_
    cases hg; exact hQ _ _ (.inl rfl) rt
   ·refine AWp.sub (s' := ⟨[se 1 ((⟨l⟩ : (Bx (List View))) : (Bx (List View))), (2, .ptr 0 0), se 15 y6u15], [.var 27 [.d (enc (0 : Int)), .nils 5]]⟩) (Sub.fz 1 0 l [1]) ?_
    obtain ⟨x16, h17, hg⟩ := bnd_some hg
    have h17g := h17; try simp at h17g
    refine AWp.rS hV none [1, 2, 29] fun K k18 => ?_
    simp [sp16_contF, h17, h17g]; repeat refine ai ?_
    refine kd [se 1 ((⟨l⟩ : (Bx (List View))) : (Bx (List View))), (2, .ptr 0 0), se 29 x16] [.var 27 [.d (enc (0 : Int)), .nils 5]] (by first | rfl | (simp [sp16_contF, h17, h17g] <;> grind)) (k18 _ ?_)
    refine AWp.cnd hg rfl ?_ ?_ <;> (clear hg; intro h19 hg)
    ·refine AWp.rS hV none [2, 3] fun K k20 => ?_
     simp; repeat refine ai ?_
     refine kc [(2, .ptr 0 0), se 3 (6 : Int)] [.var 27 [.d (enc (0 : Int)), .nils 5]] (k20 _ ?_)
     refine AWp.ret ?_
     cases hg; exact hQ _ _ (.inl rfl) rt
    ·refine AWp.skip ?_
     exact k3 _ ⟨hg, Sub.rm [0]⟩
 ·rintro s' ⟨hg, hs⟩
  unfold pJoin_j1 at hg
  refine AWp.sub hs ?_
  obtain ⟨x21, h22, hg⟩ := bnd_some hg
  obtain ⟨h22a, h22b, h22f⟩ := at_e h22; have h22g := h22f; try simp at h22g
  refine AWp.rS hV none [1, 2, 4] fun K k23 => ?_
  simp [h22f, h22g]; repeat refine ai ?_
  refine kd [se 1 ((⟨l⟩ : (Bx (List View))) : (Bx (List View))), (2, .ptr 0 0), (4, .ptr 1 0)] [.var 27 [.d (enc (0 : Int)), .nils 5], .var 27 [.d (enc (x21.part : Int)), .nils 5]] (by first | rfl | (simp [h22f, h22g] <;> grind)) (k23 _ ?_)
  refine AWp.rS hV none [1, 2, 4, 5] fun K k24 => ?_
  simp; repeat refine ai ?_
  refine kc [se 1 ((⟨l⟩ : (Bx (List View))) : (Bx (List View))), (2, .ptr 0 0), (4, .ptr 1 0), se 5 (0 : Int)] [.var 27 [.d (enc (0 : Int)), .nils 5], .var 27 [.d (enc (x21.part : Int)), .nils 5]] (k24 _ ?_)
  refine AWp.seqJ (fun s' => ∃ y25u4c_1 : (List Measure), ∃ y25u5 : Int, pJoin_j3 x21 y25u4c_1 y25u5 = some r ∧ Sub s' ⟨[(2, .ptr 0 0), (4, .ptr 1 0), se 5 y25u5], [.var 27 [.d (enc (0 : Int)), .nils 5], .var 27 [.d (enc (x21.part : Int)), .row 2], .ro 42 5 y25u4c_1]⟩) (fun _ k26 => ?_) ?_
  ·obtain ⟨x27, h28, hg⟩ := bnd_some hg
   obtain ⟨h28a, h28b, h28f⟩ := at_e h28; have h28g := h28f; try simp at h28g
   refine AWp.rS hV none [1, 2, 4, 5, 42, 43, 44] fun K k29 => ?_
   simp [h28f, h28g]; repeat refine ai ?_
   refine kd [se 1 ((⟨l⟩ : (Bx (List View))) : (Bx (List View))), (2, .ptr 0 0), (4, .ptr 1 0), se 5 (0 : Int), se 42 x27.measures, se 43 ((x27.measures.length : Int) : Int), se 44 (0 : Int)] [.var 27 [.d (enc (0 : Int)), .nils 5], .var 27 [.d (enc (x21.part : Int)), .nils 5]] (by first | rfl | (simp [h28f, h28g] <;> grind)) (k29 _ ?_)
   refine AWp.block ?_
   obtain ⟨o599, hl600, hq601⟩ := bnd_some hg; clear hg
   refine AWp.loopO (fun ((z4u4c_1, z4u5, z4u44) : (List Measure) × Int × Int) => ⟨[se 1 ((⟨l⟩ : (Bx (List View))) : (Bx (List View))), (2, .ptr 0 0), (4, .ptr 1 0), se 5 z4u5, se 42 x27.measures, se 43 ((x27.measures.length : Int) : Int), se 44 z4u44], [.var 27 [.d (enc (0 : Int)), .nils 5], .var 27 [.d (enc (x21.part : Int)), .row 2], .ro 42 5 z4u4c_1]⟩) (pJoin_s67 l x27) ([], 0, 0) hl600 ?_ fun z602 w604 _ hg hx603 k30 => ?_
   ·exact Sub.trans (Sub.adoptV 1 1 42 5 rfl rfl) (Sub.rm [0, 1, 2])
   obtain ⟨z4u4c_1, z4u5, z4u44⟩ := z602
   unfold pJoin_s67 at hg; try dsimp only at hg
   show AWp _ _ _ _ _ ⟨[se 1 ((⟨l⟩ : (Bx (List View))) : (Bx (List View))), (2, .ptr 0 0), (4, .ptr 1 0), se 5 z4u5, se 42 x27.measures, se 43 ((x27.measures.length : Int) : Int), se 44 z4u44], [.var 27 [.d (enc (0 : Int)), .nils 5], .var 27 [.d (enc (x21.part : Int)), .row 2], .ro 42 5 z4u4c_1]⟩ _
   refine AWp.rS hV none [1, 2, 4, 5, 42, 43, 44, 45] fun K k605 => ?_
   simp; repeat refine ai ?_
   refine kc [se 1 ((⟨l⟩ : (Bx (List View))) : (Bx (List View))), (2, .ptr 0 0), (4, .ptr 1 0), se 5 z4u5, se 42 x27.measures, se 43 ((x27.measures.length : Int) : Int), se 44 z4u44, se 45 (decide (z4u44 < (x27.measures.length : Int)))] [.var 27 [.d (enc (0 : Int)), .nils 5], .var 27 [.d (enc (x21.part : Int)), .row 2], .ro 42 5 z4u4c_1] (k605 _ ?_)
   refine AWp.seqG fun _ k606 => ?_
   refine AWp.cnd hg rfl ?_ ?_ <;> (clear hg; intro h607 hg)
   ·refine AWp.skip ?_
    refine k606 _ ?_
    refine AWp.seqJ (fun s' => ∃ y608u4c_1 : (List Measure), ∃ y608u5 : Int, pJoin_j68 z4u44 y608u4c_1 y608u5 = some w604 ∧ Sub s' ⟨[se 1 ((⟨l⟩ : (Bx (List View))) : (Bx (List View))), (2, .ptr 0 0), (4, .ptr 1 0), se 5 y608u5, se 42 x27.measures, se 43 ((x27.measures.length : Int) : Int), se 44 z4u44], [.var 27 [.d (enc (0 : Int)), .nils 5], .var 27 [.d (enc (x21.part : Int)), .row 2], .ro 42 5 y608u4c_1]⟩) (fun _ k609 => ?_) ?_
    ·refine AWp.block ?_
     obtain ⟨x610, h611, hg⟩ := bnd_some hg
     obtain ⟨h611a, h611b, h611f⟩ := at_e h611; have h611g := h611f; try simp at h611g
     refine AWp.rS hV none [1, 2, 4, 5, 6, 7, 42, 43, 44] fun K k612 => ?_
     simp [h611f, h611g]; repeat refine ai ?_
     refine kd [se 1 ((⟨l⟩ : (Bx (List View))) : (Bx (List View))), (2, .ptr 0 0), (4, .ptr 1 0), se 5 z4u5, se 6 z4u44, (7, .ptr 3 0), se 42 x27.measures, se 43 ((x27.measures.length : Int) : Int), se 44 z4u44] [.var 27 [.d (enc (0 : Int)), .nils 5], .var 27 [.d (enc (x21.part : Int)), .row 2], .ro 42 5 z4u4c_1, .w 42 x610] (by first | rfl | (simp [h611f, h611g] <;> grind)) (k612 _ ?_)
     refine AWp.rS hV none [1, 2, 4, 5, 6, 7, 8, 42, 43, 44] fun K k613 => ?_
     simp; repeat refine ai ?_
     refine kc [se 1 ((⟨l⟩ : (Bx (List View))) : (Bx (List View))), (2, .ptr 0 0), (4, .ptr 1 0), se 5 z4u5, se 6 z4u44, (7, .ptr 3 0), (8, .map 4), se 42 x27.measures, se 43 ((x27.measures.length : Int) : Int), se 44 z4u44] [.var 27 [.d (enc (0 : Int)), .nils 5], .var 27 [.d (enc (x21.part : Int)), .row 2], .ro 42 5 z4u4c_1, .w 42 x610, .map (([] : (List (Int × Written))).map kE) (([] : (List (Int × Written))).map vE)] (k613 _ ?_)
     refine AWp.seqJ (fun s' => ∃ y614u8 : (List (Int × Written)), pJoin_j69 z4u4c_1 z4u5 z4u44 x610 y614u8 = some w604 ∧ Sub s' ⟨[se 1 ((⟨l⟩ : (Bx (List View))) : (Bx (List View))), (2, .ptr 0 0), (4, .ptr 1 0), se 5 z4u5, (7, .ptr 3 0), (8, .map 4), se 42 x27.measures, se 43 ((x27.measures.length : Int) : Int), se 44 z4u44], [.var 27 [.d (enc (0 : Int)), .nils 5], .var 27 [.d (enc (x21.part : Int)), .row 2], .ro 42 5 z4u4c_1, .w 42 x610, .map ((y614u8 : (List (Int × Written))).map kE) ((y614u8 : (List (Int × Written))).map vE)]⟩) (fun _ k615 => ?_) ?_
     ·refine AWp.rS hV none [1, 2, 4, 5, 6, 7, 8, 42, 43, 44, 50, 51, 52] fun K k616 => ?_
      simp; repeat refine ai ?_
      refine kc [se 1 ((⟨l⟩ : (Bx (List View))) : (Bx (List View))), (2, .ptr 0 0), (4, .ptr 1 0), se 5 z4u5, se 6 z4u44, (7, .ptr 3 0), (8, .map 4), se 42 x27.measures, se 43 ((x27.measures.length : Int) : Int), se 44 z4u44, se 50 l, se 51 ((l.length : Int) : Int), se 52 (0 : Int)] [.var 27 [.d (enc (0 : Int)), .nils 5], .var 27 [.d (enc (x21.part : Int)), .row 2], .ro 42 5 z4u4c_1, .w 42 x610, .map (([] : (List (Int × Written))).map kE) (([] : (List (Int × Written))).map vE)] (k616 _ ?_)
      refine AWp.block ?_
      obtain ⟨o788, hl789, hq790⟩ := bnd_some hg; clear hg
      refine AWp.loopO (fun ((z70u8, z70u52) : (List (Int × Written)) × Int) => ⟨[se 1 ((⟨l⟩ : (Bx (List View))) : (Bx (List View))), (2, .ptr 0 0), (4, .ptr 1 0), se 5 z4u5, se 6 z4u44, (7, .ptr 3 0), (8, .map 4), se 42 x27.measures, se 43 ((x27.measures.length : Int) : Int), se 44 z4u44, se 50 l, se 51 ((l.length : Int) : Int), se 52 z70u52], [.var 27 [.d (enc (0 : Int)), .nils 5], .var 27 [.d (enc (x21.part : Int)), .row 2], .ro 42 5 z4u4c_1, .w 42 x610, .map ((z70u8 : (List (Int × Written))).map kE) ((z70u8 : (List (Int × Written))).map vE)]⟩) (pJoin_s89 l z4u44) ([], 0) hl789 ?_ fun z791 w793 _ hg hx792 k617 => ?_
      ·exact Sub.rm [0, 1, 2, 3, 4]
      obtain ⟨z70u8, z70u52⟩ := z791
      unfold pJoin_s89 at hg; try dsimp only at hg
      show AWp _ _ _ _ _ ⟨[se 1 ((⟨l⟩ : (Bx (List View))) : (Bx (List View))), (2, .ptr 0 0), (4, .ptr 1 0), se 5 z4u5, se 6 z4u44, (7, .ptr 3 0), (8, .map 4), se 42 x27.measures, se 43 ((x27.measures.length : Int) : Int), se 44 z4u44, se 50 l, se 51 ((l.length : Int) : Int), se 52 z70u52], [.var 27 [.d (enc (0 : Int)), .nils 5], .var 27 [.d (enc (x21.part : Int)), .row 2], .ro 42 5 z4u4c_1, .w 42 x610, .map ((z70u8 : (List (Int × Written))).map kE) ((z70u8 : (List (Int × Written))).map vE)]⟩ _
      refine AWp.rS hV none [1, 2, 4, 5, 6, 7, 8, 42, 43, 44, 50, 51, 52, 53] fun K k794 => ?_
      simp; repeat refine ai ?_
      refine kc [se 1 ((⟨l⟩ : (Bx (List View))) : (Bx (List View))), (2, .ptr 0 0), (4, .ptr 1 0), se 5 z4u5, se 6 z4u44, (7, .ptr 3 0), (8, .map 4), se 42 x27.measures, se 43 ((x27.measures.length : Int) : Int), se 44 z4u44, se 50 l, se 51 ((l.length : Int) : Int), se 52 z70u52, se 53 (decide (z70u52 < (l.length : Int)))] [.var 27 [.d (enc (0 : Int)), .nils 5], .var 27 [.d (enc (x21.part : Int)), .row 2], .ro 42 5 z4u4c_1, .w 42 x610, .map ((z70u8 : (List (Int × Written))).map kE) ((z70u8 : (List (Int × Written))).map vE)] (k794 _ ?_)
      refine AWp.seqG fun _ k795 => ?_
      refine AWp.cnd hg rfl ?_ ?_ <;> (clear hg; intro h796 hg)
      ·refine AWp.skip ?_
       refine k795 _ ?_
       refine AWp.seqJ (fun s' => ∃ y797u8 : (List (Int × Written)), pJoin_j90 z70u52 y797u8 = some w793 ∧ Sub s' ⟨[se 1 ((⟨l⟩ : (Bx (List View))) : (Bx (List View))), (2, .ptr 0 0), (4, .ptr 1 0), se 5 z4u5, se 6 z4u44, (7, .ptr 3 0), (8, .map 4), se 42 x27.measures, se 43 ((x27.measures.length : Int) : Int), se 44 z4u44, se 50 l, se 51 ((l.length : Int) : Int), se 52 z70u52], [.var 27 [.d (enc (0 : Int)), .nils 5], .var 27 [.d (enc (x21.part : Int)), .row 2], .ro 42 5 z4u4c_1, .w 42 x610, .map ((y797u8 : (List (Int × Written))).map kE) ((y797u8 : (List (Int × Written))).map vE)]⟩) (fun _ k798 => ?_) ?_
       ·refine AWp.block ?_
        obtain ⟨x799, h800, hg⟩ := bnd_some hg
        obtain ⟨h800a, h800b, h800f⟩ := at_e h800; have h800g := h800f; try simp at h800g
        refine AWp.rS hV none [1, 2, 4, 5, 6, 7, 8, 10, 42, 43, 44, 50, 51, 52] fun K k801 => ?_
        simp [h800f, h800g]; repeat refine ai ?_
        refine kd [se 1 ((⟨l⟩ : (Bx (List View))) : (Bx (List View))), (2, .ptr 0 0), (4, .ptr 1 0), se 5 z4u5, se 6 z4u44, (7, .ptr 3 0), (8, .map 4), (10, .ptr 5 0), se 42 x27.measures, se 43 ((x27.measures.length : Int) : Int), se 44 z4u44, se 50 l, se 51 ((l.length : Int) : Int), se 52 z70u52] [.var 27 [.d (enc (0 : Int)), .nils 5], .var 27 [.d (enc (x21.part : Int)), .row 2], .ro 42 5 z4u4c_1, .w 42 x610, .map ((z70u8 : (List (Int × Written))).map kE) ((z70u8 : (List (Int × Written))).map vE), .w 27 x799] (by first | rfl | (simp [h800f, h800g] <;> grind)) (k801 _ ?_)
        obtain ⟨x802, h803, hg⟩ := bnd_some hg
        obtain ⟨h803a, h803b, h803f⟩ := at_e h803; have h803g := h803f; try simp at h803g
        refine AWp.rS hV none [1, 2, 4, 5, 6, 7, 8, 42, 43, 44, 50, 51, 52, 61, 62, 63] fun K k804 => ?_
        simp [h803f, h803g]; repeat refine ai ?_
        refine kd [se 1 ((⟨l⟩ : (Bx (List View))) : (Bx (List View))), (2, .ptr 0 0), (4, .ptr 1 0), se 5 z4u5, se 6 z4u44, (7, .ptr 3 0), (8, .map 4), se 42 x27.measures, se 43 ((x27.measures.length : Int) : Int), se 44 z4u44, se 50 l, se 51 ((l.length : Int) : Int), se 52 z70u52, se 61 x802.notes, se 62 ((x802.notes.length : Int) : Int), se 63 (0 : Int)] [.var 27 [.d (enc (0 : Int)), .nils 5], .var 27 [.d (enc (x21.part : Int)), .row 2], .ro 42 5 z4u4c_1, .w 42 x610, .map ((z70u8 : (List (Int × Written))).map kE) ((z70u8 : (List (Int × Written))).map vE), .w 27 x799] (by first | rfl | (simp [h803f, h803g] <;> grind)) (k804 _ ?_)
        refine AWp.block ?_
        obtain ⟨o848, hl849, hq850⟩ := bnd_some hg; clear hg
        refine AWp.loopO (fun ((z91u8, z91u63) : (List (Int × Written)) × Int) => ⟨[se 1 ((⟨l⟩ : (Bx (List View))) : (Bx (List View))), (2, .ptr 0 0), (4, .ptr 1 0), se 5 z4u5, se 6 z4u44, (7, .ptr 3 0), (8, .map 4), se 42 x27.measures, se 43 ((x27.measures.length : Int) : Int), se 44 z4u44, se 50 l, se 51 ((l.length : Int) : Int), se 52 z70u52, se 61 x802.notes, se 62 ((x802.notes.length : Int) : Int), se 63 z91u63], [.var 27 [.d (enc (0 : Int)), .nils 5], .var 27 [.d (enc (x21.part : Int)), .row 2], .ro 42 5 z4u4c_1, .w 42 x610, .map ((z91u8 : (List (Int × Written))).map kE) ((z91u8 : (List (Int × Written))).map vE)]⟩) (pJoin_s96 x802) (z70u8, 0) hl849 ?_ fun z851 w853 _ hg hx852 k805 => ?_
        ·exact Sub.rm [0, 1, 2, 3, 4]
        obtain ⟨z91u8, z91u63⟩ := z851
        unfold pJoin_s96 at hg; try dsimp only at hg
        show AWp _ _ _ _ _ ⟨[se 1 ((⟨l⟩ : (Bx (List View))) : (Bx (List View))), (2, .ptr 0 0), (4, .ptr 1 0), se 5 z4u5, se 6 z4u44, (7, .ptr 3 0), (8, .map 4), se 42 x27.measures, se 43 ((x27.measures.length : Int) : Int), se 44 z4u44, se 50 l, se 51 ((l.length : Int) : Int), se 52 z70u52, se 61 x802.notes, se 62 ((x802.notes.length : Int) : Int), se 63 z91u63], [.var 27 [.d (enc (0 : Int)), .nils 5], .var 27 [.d (enc (x21.part : Int)), .row 2], .ro 42 5 z4u4c_1, .w 42 x610, .map ((z91u8 : (List (Int × Written))).map kE) ((z91u8 : (List (Int × Written))).map vE)]⟩ _
        refine AWp.rS hV none [1, 2, 4, 5, 6, 7, 8, 42, 43, 44, 50, 51, 52, 61, 62, 63, 64] fun K k854 => ?_
        simp; repeat refine ai ?_
        refine kc [se 1 ((⟨l⟩ : (Bx (List View))) : (Bx (List View))), (2, .ptr 0 0), (4, .ptr 1 0), se 5 z4u5, se 6 z4u44, (7, .ptr 3 0), (8, .map 4), se 42 x27.measures, se 43 ((x27.measures.length : Int) : Int), se 44 z4u44, se 50 l, se 51 ((l.length : Int) : Int), se 52 z70u52, se 61 x802.notes, se 62 ((x802.notes.length : Int) : Int), se 63 z91u63, se 64 (decide (z91u63 < (x802.notes.length : Int)))] [.var 27 [.d (enc (0 : Int)), .nils 5], .var 27 [.d (enc (x21.part : Int)), .row 2], .ro 42 5 z4u4c_1, .w 42 x610, .map ((z91u8 : (List (Int × Written))).map kE) ((z91u8 : (List (Int × Written))).map vE)] (k854 _ ?_)
        refine AWp.seqG fun _ k855 => ?_
        refine AWp.cnd hg rfl ?_ ?_ <;> (clear hg; intro h856 hg)
        ·refine AWp.skip ?_
         refine k855 _ ?_
         refine AWp.seqJ (fun s' => ∃ y857u8 : (List (Int × Written)), pJoin_j97 z91u63 y857u8 = some w853 ∧ Sub s' ⟨[se 1 ((⟨l⟩ : (Bx (List View))) : (Bx (List View))), (2, .ptr 0 0), (4, .ptr 1 0), se 5 z4u5, se 6 z4u44, (7, .ptr 3 0), (8, .map 4), se 42 x27.measures, se 43 ((x27.measures.length : Int) : Int), se 44 z4u44, se 50 l, se 51 ((l.length : Int) : Int), se 52 z70u52, se 61 x802.notes, se 62 ((x802.notes.length : Int) : Int), se 63 z91u63], [.var 27 [.d (enc (0 : Int)), .nils 5], .var 27 [.d (enc (x21.part : Int)), .row 2], .ro 42 5 z4u4c_1, .w 42 x610, .map ((y857u8 : (List (Int × Written))).map kE) ((y857u8 : (List (Int × Written))).map vE)]⟩) (fun _ k858 => ?_) ?_
         ·refine AWp.block ?_
          obtain ⟨x859, h860, hg⟩ := bnd_some hg
          obtain ⟨h860a, h860b, h860f⟩ := at_e h860; have h860g := h860f; try simp at h860g
          refine AWp.rS hV none [1, 2, 4, 5, 6, 7, 8, 12, 42, 43, 44, 50, 51, 52, 61, 62, 63] fun K k861 => ?_
          simp [h860f, h860g]; repeat refine ai ?_
          refine kd [se 1 ((⟨l⟩ : (Bx (List View))) : (Bx (List View))), (2, .ptr 0 0), (4, .ptr 1 0), se 5 z4u5, se 6 z4u44, (7, .ptr 3 0), (8, .map 4), (12, .ptr 5 0), se 42 x27.measures, se 43 ((x27.measures.length : Int) : Int), se 44 z4u44, se 50 l, se 51 ((l.length : Int) : Int), se 52 z70u52, se 61 x802.notes, se 62 ((x802.notes.length : Int) : Int), se 63 z91u63] [.var 27 [.d (enc (0 : Int)), .nils 5], .var 27 [.d (enc (x21.part : Int)), .row 2], .ro 42 5 z4u4c_1, .w 42 x610, .map ((z91u8 : (List (Int × Written))).map kE) ((z91u8 : (List (Int × Written))).map vE), .w 38 x859] (by first | rfl | (simp [h860f, h860g] <;> grind)) (k861 _ ?_)
          refine AWp.seqG fun _ k862 => ?_
          refine AWp.rS hV none [1, 2, 4, 5, 6, 7, 8, 12, 13, 14, 42, 43, 44, 50, 51, 52, 61, 62, 63] fun K k863 => ?_
          simp; repeat refine ai ?_
          refine kc [se 1 ((⟨l⟩ : (Bx (List View))) : (Bx (List View))), (2, .ptr 0 0), (4, .ptr 1 0), se 5 z4u5, se 6 z4u44, (7, .ptr 3 0), (8, .map 4), (12, .ptr 5 0), (13, .ptr 6 0), se 14 ((mhas z91u8 x859.id) : Bool), se 42 x27.measures, se 43 ((x27.measures.length : Int) : Int), se 44 z4u44, se 50 l, se 51 ((l.length : Int) : Int), se 52 z70u52, se 61 x802.notes, se 62 ((x802.notes.length : Int) : Int), se 63 z91u63] [.var 27 [.d (enc (0 : Int)), .nils 5], .var 27 [.d (enc (x21.part : Int)), .row 2], .ro 42 5 z4u4c_1, .w 42 x610, .map ((z91u8 : (List (Int × Written))).map kE) ((z91u8 : (List (Int × Written))).map vE), .w 38 x859, .w 38 ((mgetD z91u8 x859.id (⟨0, 0, 0, (⟨0, 0⟩ : Rat), (⟨0, 0⟩ : Rat), (⟨0, 0, 0⟩ : Pitch)⟩ : Written)) : Written)] (k863 _ ?_)
          obtain ⟨y864u79, hx865, hg⟩ := bnd_some hg
          unfold pJoin_r98 at hx865
          refine AWp.seqJ (fun s' => Sub s' ⟨[se 1 ((⟨l⟩ : (Bx (List View))) : (Bx (List View))), (2, .ptr 0 0), (4, .ptr 1 0), se 5 z4u5, se 6 z4u44, (7, .ptr 3 0), (8, .map 4), (12, .ptr 5 0), se 42 x27.measures, se 43 ((x27.measures.length : Int) : Int), se 44 z4u44, se 50 l, se 51 ((l.length : Int) : Int), se 52 z70u52, se 61 x802.notes, se 62 ((x802.notes.length : Int) : Int), se 63 z91u63, se 79 y864u79], [.var 27 [.d (enc (0 : Int)), .nils 5], .var 27 [.d (enc (x21.part : Int)), .row 2], .ro 42 5 z4u4c_1, .w 42 x610, .map ((z91u8 : (List (Int × Written))).map kE) ((z91u8 : (List (Int × Written))).map vE), .w 38 x859]⟩) (fun _ k866 => ?_) ?_
          ·rcases ifb_o hx865 with ⟨c867, hx865⟩ | ⟨c867, hx865⟩
           ·have c867g := c867; try simp at c867g
            refine AWp.regF hV (some []) [1, 2, 4, 5, 6, 7, 8, 12, 42, 43, 44, 50, 51, 52, 61, 62, 63, 79] fun K k868 => ?_
            simp [c867, c867g]; repeat refine ai ?_
            cases hx865; exact k868 _ (k866 _ (Sub.rm [0, 1, 2, 3, 4, 5]))
           ·have c867g := c867; try simp at c867g
            refine AWp.regF hV (some [76, 77, 78]) [1, 2, 4, 5, 6, 7, 8, 12, 42, 43, 44, 50, 51, 52, 61, 62, 63, 79] fun K k869 => ?_
            simp [c867, c867g]; repeat refine ai ?_
            cases hx865; exact k869 _ (k866 _ (Sub.rm [0, 1, 2, 3, 4, 5]))
          ·intro s' hs
           refine AWp.sub hs ?_
           clear hs s'
           refine AWp.cnd hg rfl ?_ ?_ <;> (clear hg; intro h870 hg)
           ·refine AWp.rS hV none [2, 3] fun K k871 => ?_
            simp; repeat refine ai ?_
            refine kc [(2, .ptr 0 0), se 3 (5 : Int)] [.var 27 [.d (enc (0 : Int)), .nils 5], .var 27 [.d (enc (x21.part : Int)), .row 2], .ro 42 5 z4u4c_1, .w 42 x610, .map ((z91u8 : (List (Int × Written))).map kE) ((z91u8 : (List (Int × Written))).map vE), .w 38 x859] (k871 _ ?_)
            refine AWp.ret ?_
            cases hx852 _ (oij hg).symm; have hg := hq850; try dsimp only at hg
            cases hx792 _ (oij hg).symm; have hg := hq790; try dsimp only at hg
            cases hx603 _ (oij hg).symm; have hg := hq601; try dsimp only at hg
            cases hg; exact hQ _ _ (.inl rfl) rt
           ·refine AWp.skip ?_
            refine k862 _ ?_
            refine AWp.regF hV none [1, 2, 4, 5, 6, 7, 8, 42, 43, 44, 50, 51, 52, 61, 62, 63] fun K k875 => ?_
            simp; repeat refine ai ?_
            refine kc [se 1 ((⟨l⟩ : (Bx (List View))) : (Bx (List View))), (2, .ptr 0 0), (4, .ptr 1 0), se 5 z4u5, se 6 z4u44, (7, .ptr 3 0), (8, .map 4), se 42 x27.measures, se 43 ((x27.measures.length : Int) : Int), se 44 z4u44, se 50 l, se 51 ((l.length : Int) : Int), se 52 z70u52, se 61 x802.notes, se 62 ((x802.notes.length : Int) : Int), se 63 z91u63] [.var 27 [.d (enc (0 : Int)), .nils 5], .var 27 [.d (enc (x21.part : Int)), .row 2], .ro 42 5 z4u4c_1, .w 42 x610, .map (((mput z91u8 x859.id x859) : (List (Int × Written))).map kE) (((mput z91u8 x859.id x859) : (List (Int × Written))).map vE), .w 38 x859] (k875 _ ?_)
            exact k858 _ ⟨_, hg, Sub.rm [0, 1, 2, 3, 4]⟩
         ·rintro s' ⟨y857u8, hg, hs⟩
          unfold pJoin_j97 at hg
          refine AWp.sub hs ?_
          obtain ⟨g876, hg⟩ := grd_some hg
          unfold inI at g876
          refine AWp.regF hV none [1, 2, 4, 5, 6, 7, 8, 42, 43, 44, 50, 51, 52, 61, 62, 63] fun K k877 => ?_
          simp; repeat refine ai ?_
          refine kc [se 1 ((⟨l⟩ : (Bx (List View))) : (Bx (List View))), (2, .ptr 0 0), (4, .ptr 1 0), se 5 z4u5, se 6 z4u44, (7, .ptr 3 0), (8, .map 4), se 42 x27.measures, se 43 ((x27.measures.length : Int) : Int), se 44 z4u44, se 50 l, se 51 ((l.length : Int) : Int), se 52 z70u52, se 61 x802.notes, se 62 ((x802.notes.length : Int) : Int), se 63 ((z91u63 + 1) : Int)] [.var 27 [.d (enc (0 : Int)), .nils 5], .var 27 [.d (enc (x21.part : Int)), .row 2], .ro 42 5 z4u4c_1, .w 42 x610, .map ((y857u8 : (List (Int × Written))).map kE) ((y857u8 : (List (Int × Written))).map vE)] (k877 _ ?_)
          exact k805 _ _ (oij hg).symm (Sub.rm [0, 1, 2, 3, 4])
        ·refine AWp.exit ?_
         cases hx852 _ (oij hg).symm; have hg := hq850; try dsimp only at hg
         exact k798 _ ⟨_, hg, Sub.rm [0, 1, 2, 3, 4]⟩
       ·rintro s' ⟨y797u8, hg, hs⟩
        unfold pJoin_j90 at hg
        refine AWp.sub hs ?_
        obtain ⟨g881, hg⟩ := grd_some hg
        unfold inI at g881
        refine AWp.regF hV none [1, 2, 4, 5, 6, 7, 8, 42, 43, 44, 50, 51, 52] fun K k882 => ?_
        simp; repeat refine ai ?_
        refine kc [se 1 ((⟨l⟩ : (Bx (List View))) : (Bx (List View))), (2, .ptr 0 0), (4, .ptr 1 0), se 5 z4u5, se 6 z4u44, (7, .ptr 3 0), (8, .map 4), se 42 x27.measures, se 43 ((x27.measures.length : Int) : Int), se 44 z4u44, se 50 l, se 51 ((l.length : Int) : Int), se 52 ((z70u52 + 1) : Int)] [.var 27 [.d (enc (0 : Int)), .nils 5], .var 27 [.d (enc (x21.part : Int)), .row 2], .ro 42 5 z4u4c_1, .w 42 x610, .map ((y797u8 : (List (Int × Written))).map kE) ((y797u8 : (List (Int × Written))).map vE)] (k882 _ ?_)
        exact k617 _ _ (oij hg).symm (Sub.rm [0, 1, 2, 3, 4])
      ·refine AWp.exit ?_
       cases hx792 _ (oij hg).symm; have hg := hq790; try dsimp only at hg
       exact k615 _ ⟨_, hg, Sub.rm [0, 1, 2, 3, 4]⟩
     ·rintro s' ⟨y614u8, hg, hs⟩
      unfold pJoin_j69 at hg
      refine AWp.sub hs ?_
      obtain ⟨g886, hg⟩ := grd_some hg
      have g886f := okV_vals g886
      refine AWp.rS hV none [1, 2, 4, 5, 7, 42, 43, 44] fun K k887 => ?_
      simp [sp22, sp21, g886f]; repeat refine ai ?_
      refine kd [se 1 ((⟨l⟩ : (Bx (List View))) : (Bx (List View))), (2, .ptr 0 0), (4, .ptr 1 0), se 5 z4u5, (7, .ptr 3 0), se 42 x27.measures, se 43 ((x27.measures.length : Int) : Int), se 44 z4u44] [.var 27 [.d (enc (0 : Int)), .nils 5], .var 27 [.d (enc (x21.part : Int)), .row 2], .ro 42 5 z4u4c_1, .w 42 (({ x610 with notes := (sortW (mvals y614u8)) }) : Measure), .fmap ((y614u8 : (List (Int × Written))).map kE) ((y614u8 : (List (Int × Written))).map vE)] (by first | rfl | (simp [sp22, sp21, g886f] <;> grind)) (k887 _ ?_)
      obtain ⟨g888, hg⟩ := grd_some hg
      unfold inI at g888
      refine AWp.rS hV none [1, 2, 4, 5, 7, 42, 43, 44] fun K k889 => ?_
      simp; repeat refine ai ?_
      refine kc [se 1 ((⟨l⟩ : (Bx (List View))) : (Bx (List View))), (2, .ptr 0 0), (4, .ptr 1 0), se 5 ((z4u5 + ((({ x610 with notes := (sortW (mvals y614u8)) }).notes).length : Int)) : Int), (7, .ptr 3 0), se 42 x27.measures, se 43 ((x27.measures.length : Int) : Int), se 44 z4u44] [.var 27 [.d (enc (0 : Int)), .nils 5], .var 27 [.d (enc (x21.part : Int)), .row 2], .ro 42 5 z4u4c_1, .w 42 (({ x610 with notes := (sortW (mvals y614u8)) }) : Measure), .fmap ((y614u8 : (List (Int × Written))).map kE) ((y614u8 : (List (Int × Written))).map vE)] (k889 _ ?_)
      obtain ⟨g890, hg⟩ := grd_some hg
      refine AWp.regF hV none [1, 2, 4, 5, 42, 43, 44] fun K k891 => ?_
      simp; repeat refine ai ?_
      refine kc [se 1 ((⟨l⟩ : (Bx (List View))) : (Bx (List View))), (2, .ptr 0 0), (4, .ptr 1 0), se 5 ((z4u5 + ((({ x610 with notes := (sortW (mvals y614u8)) }).notes).length : Int)) : Int), se 42 x27.measures, se 43 ((x27.measures.length : Int) : Int), se 44 z4u44] [.var 27 [.d (enc (0 : Int)), .nils 5], .var 27 [.d (enc (x21.part : Int)), .row 5], .dead, .w 42 (({ x610 with notes := (sortW (mvals y614u8)) }) : Measure), .fmap ((y614u8 : (List (Int × Written))).map kE) ((y614u8 : (List (Int × Written))).map vE), .ro 42 5 ((z4u4c_1 ++ [({ x610 with notes := (sortW (mvals y614u8)) })]) : List Measure)] (k891 _ ?_)
      exact k609 _ ⟨_, _, hg, Sub.rm [0, 1, 5]⟩
    ·rintro s' ⟨y608u4c_1, y608u5, hg, hs⟩
     unfold pJoin_j68 at hg
     refine AWp.sub hs ?_
     obtain ⟨g892, hg⟩ := grd_some hg
     unfold inI at g892
     refine AWp.regF hV none [1, 2, 4, 5, 42, 43, 44] fun K k893 => ?_
     simp; repeat refine ai ?_
     refine kc [se 1 ((⟨l⟩ : (Bx (List View))) : (Bx (List View))), (2, .ptr 0 0), (4, .ptr 1 0), se 5 y608u5, se 42 x27.measures, se 43 ((x27.measures.length : Int) : Int), se 44 ((z4u44 + 1) : Int)] [.var 27 [.d (enc (0 : Int)), .nils 5], .var 27 [.d (enc (x21.part : Int)), .row 2], .ro 42 5 y608u4c_1] (k893 _ ?_)
     exact k30 _ _ (oij hg).symm (Sub.rm [0, 1, 2])
   ·refine AWp.exit ?_
    cases hx603 _ (oij hg).symm; have hg := hq601; try dsimp only at hg
    exact k26 _ ⟨_, _, hg, Sub.rm [0, 1, 2]⟩
  ·rintro s' ⟨y25u4c_1, y25u5, hg, hs⟩
   unfold pJoin_j3 at hg
   refine AWp.sub hs ?_
   refine AWp.seqG fun _ k897 => ?_
   refine AWp.rS hV none [2, 4, 104] fun K k898 => ?_
   simp; repeat refine ai ?_
   refine kc [(2, .ptr 0 0), (4, .ptr 1 0), se 104 (decide (20000 < y25u5))] [.var 27 [.d (enc (0 : Int)), .nils 5], .var 27 [.d (enc (x21.part : Int)), .row 2], .ro 42 5 y25u4c_1] (k898 _ ?_)
   refine AWp.cnd hg rfl ?_ ?_ <;> (clear hg; intro h899 hg)
   ·refine AWp.rS hV none [2, 3] fun K k900 => ?_
    simp; repeat refine ai ?_
    refine kc [(2, .ptr 0 0), se 3 (2 : Int)] [.var 27 [.d (enc (0 : Int)), .nils 5], .var 27 [.d (enc (x21.part : Int)), .row 2], .ro 42 5 y25u4c_1] (k900 _ ?_)
    refine AWp.ret ?_
    cases hg; exact hQ _ _ (.inl rfl) rt
   ·refine AWp.skip ?_
    refine k897 _ ?_
    refine AWp.rS hV none [2, 3] fun K k901 => ?_
    simp; repeat refine ai ?_
    refine kc [(2, .ptr 0 0), se 3 (0 : Int)] [.var 27 [.d (enc (x21.part : Int)), .row 2], .var 27 [.d (enc (x21.part : Int)), .row 2], .ro 42 5 y25u4c_1] (k901 _ ?_)
    refine AWp.ret ?_
    cases hg; exact hQ _ _ (.inl rfl) rt
end
end Go.Proofs.YtjfkfkjkbgiciaaDoor
namespace Go.Proofs.YtjfkfkjkbgiciaaDoor
open Go Go.Eva Enc
noncomputable def written (id : Int) (voice : Int) (ossia : Int) : Option Written :=
  some (⟨id, voice, ossia, (⟨0, 1⟩ : Rat), (⟨1, 1⟩ : Rat), (⟨0, 0, 4⟩ : Pitch)⟩ : Written)
noncomputable def fewL_r9 (z2u7 : Int) (x57 : View) : Option Bool :=
  (ifb (decide (6 < z2u7)) (some true) (bnd (r14Few x57) fun x60 =>
  some (!x60)))
noncomputable def fewL_j8 (z2u7 : Int) : Option ((Int) ⊕ ((Bool) ⊕ (Unit))) :=
  grd (inI (z2u7 + 1)) (some (.inl (z2u7 + 1)))
noncomputable def fewL_s7 (l : (List View)) : Int → Option ((Int) ⊕ ((Bool) ⊕ (Unit))) := fun (z2u7 : Int) =>
  ifb (decide (z2u7 < (l.length : Int))) (bnd (at? l z2u7) fun x57 =>
  bnd (fewL_r9 z2u7 x57) fun y62u18 =>
  ifb y62u18 (some (.inr (.inl false)))
  (fewL_j8 z2u7))
  (some (.inr (.inr ())))
noncomputable def fewL_j1 : Option Bool :=
  some true
noncomputable def fewL (l : (List View)) : Option Bool :=
  bnd (loopO (fewL_s7 l) 0) fun o46 =>
  match o46 with
  | .inl q74u0 => some q74u0
  | .inr () => fewL_j1
noncomputable def usable_r1 (v : View) : Option Bool :=
  (bnd (r14Few v) fun x2 =>
  ifb x2 (bnd (r18Valid v) fun x4 =>
  some x4) (some false))
noncomputable def usable (v : View) : Option Bool :=
  bnd (usable_r1 v) fun y6u2 =>
  some y6u2
noncomputable def headP_r1 (x14 : Int) (x18 : Int) (x22 : Int) (x26 : Int) (x30 : Int) (x34 : Int) (x38 : Int) (x42 : Int) (x46 : Int) (x50 : Int) : Option Bool :=
  (ifb (decide (x14 = 0)) (ifb (decide (x18 = 0)) (ifb (decide (x22 = 6)) (ifb (decide (x26 = 0)) (ifb (decide (x30 = 0)) (ifb (decide (x34 = 0)) (ifb (decide (x38 = 0)) (ifb (decide (x42 = 0)) (ifb (decide (x46 = 1)) (some (decide (x50 = 1))) (some false)) (some false)) (some false)) (some false)) (some false)) (some false)) (some false)) (some false)) (some false))
noncomputable def headP_r2 (x25 : View) (x29 : View) (x33 : View) (y53u22 : Bool) : Option Bool :=
  (ifb (!y53u22) (some true) (ifb (!decide ((x25.measures.length : Int) = 2)) (some true) (ifb (!decide ((x29.measures.length : Int) = 2)) (some true) (some (!decide ((x33.measures.length : Int) = 2))))))
noncomputable def headP_r3 (x13 : (List Int)) (x17 : (List Int)) (x25 : View) : Option Bool :=
  (bnd (r18SameInts x13 ([2, 5])) fun x88 =>
  ifb x88 (bnd (r18SameInts x17 ([2, 2, 2, 5, 5])) fun x90 =>
  ifb x90 (bnd (at? x25.measures 0) fun x92 =>
  bnd (written 1 0 0) fun x94 =>
  bnd (written 3 5 0) fun x96 =>
  bnd (r14SameWritten x92.notes ([x94, x96])) fun x98 =>
  some x98) (some false)) (some false))
noncomputable def headP_r4 (x2 : Written) (x4 : Written) (x6 : Written) (x8 : Written) (x10 : Written) (x29 : View) (x33 : View) (x41 : View) (y100u22 : Bool) : Option Bool :=
  (ifb y100u22 (bnd (at? x29.measures 1) fun x108 =>
  bnd (written 4 0 0) fun x110 =>
  bnd (r14SameWritten x108.notes ([x110])) fun x112 =>
  ifb x112 (bnd (at? x33.measures 1) fun x114 =>
  bnd (written 5 0 4) fun x116 =>
  bnd (r14SameWritten x114.notes ([x116])) fun x118 =>
  ifb x118 (bnd (r14Same x41 (⟨1, [(⟨1, 0, (⟨0, 0⟩ : Rat), [x2, x4, x6]⟩ : Measure), (⟨2, 0, (⟨0, 0⟩ : Rat), [x8, x10]⟩ : Measure)]⟩ : View)) fun x120 =>
  some x120) (some false)) (some false)) (some false))
noncomputable def headP : Option Bool :=
  bnd (written 1 0 0) fun x2 =>
  bnd (written 2 2 0) fun x4 =>
  bnd (written 3 5 0) fun x6 =>
  bnd (written 4 0 0) fun x8 =>
  bnd (written 5 0 4) fun x10 =>
  bnd (pVoices (⟨1, [(⟨1, 0, (⟨0, 0⟩ : Rat), [x2, x4, x6]⟩ : Measure), (⟨2, 0, (⟨0, 0⟩ : Rat), [x8, x10]⟩ : Measure)]⟩ : View)) fun (x13, x14) =>
  bnd (pAssign (⟨1, [(⟨1, 0, (⟨0, 0⟩ : Rat), [x2, x4, x6]⟩ : Measure), (⟨2, 0, (⟨0, 0⟩ : Rat), [x8, x10]⟩ : Measure)]⟩ : View) 5) fun (x17, x18) =>
  bnd (pAssign (⟨1, [(⟨1, 0, (⟨0, 0⟩ : Rat), [x2, x4, x6]⟩ : Measure), (⟨2, 0, (⟨0, 0⟩ : Rat), [x8, x10]⟩ : Measure)]⟩ : View) 1) fun (x21, x22) =>
  bnd (pDesk (⟨1, [(⟨1, 0, (⟨0, 0⟩ : Rat), [x2, x4, x6]⟩ : Measure), (⟨2, 0, (⟨0, 0⟩ : Rat), [x8, x10]⟩ : Measure)]⟩ : View) 5) fun (x25, x26) =>
  bnd (pOssia (⟨1, [(⟨1, 0, (⟨0, 0⟩ : Rat), [x2, x4, x6]⟩ : Measure), (⟨2, 0, (⟨0, 0⟩ : Rat), [x8, x10]⟩ : Measure)]⟩ : View) ([])) fun (x29, x30) =>
  bnd (pOssia (⟨1, [(⟨1, 0, (⟨0, 0⟩ : Rat), [x2, x4, x6]⟩ : Measure), (⟨2, 0, (⟨0, 0⟩ : Rat), [x8, x10]⟩ : Measure)]⟩ : View) ([4])) fun (x33, x34) =>
  bnd (pDesk (⟨1, [(⟨1, 0, (⟨0, 0⟩ : Rat), [x2, x4, x6]⟩ : Measure), (⟨2, 0, (⟨0, 0⟩ : Rat), [x8, x10]⟩ : Measure)]⟩ : View) 2) fun (x37, x38) =>
  bnd (pJoin ([x25, x37])) fun (x41, x42) =>
  bnd (pJoin ([])) fun (x45, x46) =>
  bnd (pOssia (⟨1, [(⟨1, 0, (⟨0, 0⟩ : Rat), [x2, x4, x6]⟩ : Measure), (⟨2, 0, (⟨0, 0⟩ : Rat), [x8, x10]⟩ : Measure)]⟩ : View) ([21])) fun (x49, x50) =>
  bnd (headP_r1 x14 x18 x22 x26 x30 x34 x38 x42 x46 x50) fun y53u22 =>
  bnd (headP_r2 x25 x29 x33 y53u22) fun y76u144 =>
  ifb y76u144 (some false)
  (bnd (headP_r3 x13 x17 x25) fun y100u22 =>
  bnd (headP_r4 x2 x4 x6 x8 x10 x29 x33 x41 y100u22) fun y122u0 =>
  some y122u0)
end Go.Proofs.YtjfkfkjkbgiciaaDoor
namespace Go.Proofs.YtjfkfkjkbgiciaaDoor
open Go Go.Eva Enc
set_option maxRecDepth 4000
attribute [local instance] rndX
attribute [local congr] AWp.congrS
attribute [local simp] evalSeq opRes guardPc evalOp evT Eva.get startT strip putT Eva.after constT typed obAll holds dstOk R.ok R.bad ofD binD unD pickT subL subP Op.operands Call.operands toD toD1 argsD argsD1 callD callT typedAll cfind quietT quietT1 spec0 spec1 spec2 spec3 enc_int enc_bool enc_str enc_fn enc_list dec_int dec_bool dec_str dec_fn dec_list size_int size_str map_dec_enc map_dec_comp cellsT D.cells T.oneT D.one mkT dataT zeroT unD1 setAt loadAs loadEl storeAs fieldP fieldV sizeE intOfT indexP appendT lenT sliceT elemSize arith lfsOk lfOk isAggD mkD fillT placeS TD.agg env restr List.map keyIdx mapTy lookT mapPutT mapDelT mapOf indexS convT evalPure range1 range2 range3 range4 range5 range6 range7 range8 enc_intk size_intk dec_intk eta_intk keysInt_nil keyIdx_E keysInt_E isE_iff put_E del_E get_E getok_E mkeys_E mkeys_E' mkeys_enc specO0 specO1 specO2 specO3 specO4 opD skips gone unbox cloT subO clearT makeT enc_bx dec_bx size_bx selS cloIs List.contains_cons List.contains_nil elAt_zero enc_Rat dec_Rat size_Rat eta_Rat beqL_Rat beqR_Rat enc_Pitch dec_Pitch size_Pitch eta_Pitch beqL_Pitch beqR_Pitch enc_Written dec_Written size_Written eta_Written beqL_Written beqR_Written enc_Measure dec_Measure size_Measure eta_Measure enc_View dec_View size_View eta_View enc_Fraction dec_Fraction size_Fraction eta_Fraction beqL_Fraction beqR_Fraction dat0 len_natTab eqT4 eqT34 eqT36 eqT38 eqT114 te1 te2 te3 te4 te5 te6 te7 te8 te9 te10 te11 te12 te13 te14 te15 te16 te17 te18 te19 te21 te22 te23 te24 te25 te26 te27 te28 te30 te31 te32 te33 te34 te35 te36 te37 te38 te39 te40 te41 te42 te43 te45 te46 te47 te48 te49 te50 te51 te52 te53 te55 te56 te57 te58 te59 te60 te61 te62 te63 te64 te65 te66 te67 te68 te69 te70 te71 te72 te73 te74 te75 te76 te77 te79 te80 te81 te82 te83 te84 te85 te86 te87 te88 te89 te90 te91 te92 te93 te94 te95 te96 te97 te98 te99 te100 te101 te102 te104 te105 te106 te108 te109 te110 te111 te112 te113 te114 te115 te116 te117 te118 te119 te120 te121 te122 te123 te124 te125 te126 te127 te128 te129 te130 te131 te133 te134 te135 te136 te137 te138 te139 te140 te141 te142 te143 te144 te145 te146 te147 te148 te149 te150
section
attribute [local simp] enc_C36 dec_C36 size_C36 eta_C36 enc_C39 dec_C39 size_C39 eta_C39 enc_C28 dec_C28 size_C28 eta_C28 enc_C52_28 dec_C52_28 size_C52_28 eta_C52_28 enc_C29 dec_C29 size_C29 eta_C29 enc_C55_29 dec_C55_29 size_C55_29 eta_C55_29 enc_C33 dec_C33 size_C33 eta_C33 enc_C34 dec_C34 size_C34 eta_C34 enc_C56 dec_C56 size_C56 eta_C56 enc_C30 dec_C30 size_C30 eta_C30 enc_C52_30 dec_C52_30 size_C52_30 eta_C52_30 enc_C55_34 dec_C55_34 size_C55_34 eta_C55_34 enc_C17 dec_C17 size_C17 eta_C17 enc_C19 dec_C19 size_C19 eta_C19 envD fDel cloneR delR Low AO.lows T.lows T.low1 AO.isFrame
noncomputable def sp8 : Eva.Spec := specO3 fun (id : Int) (voice : Int) (ossia : Int) => (written id voice ossia).map fun r => enc r
theorem ok8 : SpecOk Tryd.prog 8 sp8 := by
 have hV : VOk Tryd.prog (env []) := env_ok trivial
 refine SpecOk.ofO3 (Enters.of Tryd.func8 (by decide)) fun id voice ossia rr hr => ?_
 obtain ⟨r, hg, rfl⟩ := mpj hr; clear hr
 refine PureCon.ofN hV Tryd.func8 rfl Tryd.ntmps8 fun R hR w0 I0 Q hQ => ?_
 unfold written at hg
 refine AWp.rS hV none [0, 1, 2, 6] fun K k1 => ?_
 simp; repeat refine ai ?_
 refine kc [se 0 id, se 1 voice, se 2 ossia, (6, .ptr 0 0)] [.w 38 ((⟨0, 0, 0, (⟨0, 0⟩ : Rat), (⟨0, 0⟩ : Rat), (⟨0, 0, 0⟩ : Pitch)⟩ : Written) : Written)] (k1 _ ?_)
 refine AWp.rS hV none [6] fun K k2 => ?_
 simp; repeat refine ai ?_
 refine kc [(6, .ptr 0 0)] [.w 38 ((⟨id, voice, ossia, (⟨0, 1⟩ : Rat), (⟨1, 1⟩ : Rat), (⟨0, 0, 4⟩ : Pitch)⟩ : Written) : Written)] (k2 _ ?_)
 refine AWp.ret ?_
 cases hg; exact hQ _ _ (.inl rfl) rt
noncomputable def sp5 : Eva.Spec := specO1 fun (l : (List View)) => (fewL l).map fun r => enc r
theorem ok5 : SpecOk Tryd.prog 5 sp5 := by
 have hV : VOk Tryd.prog (env [(15, sp15)]) := env_ok ⟨ok15, trivial⟩
 refine SpecOk.ofO1 (Enters.of Tryd.func5 (by decide)) fun l rr hr => ?_
 obtain ⟨r, hg, rfl⟩ := mpj hr; clear hr
 refine PureCon.ofN hV Tryd.func5 rfl Tryd.ntmps5 fun R hR w0 I0 Q hQ => ?_
 unfold fewL at hg
 refine AWp.rS hV none [0] fun K k1 => ?_
 simp; repeat refine ai ?_
 refine kc [se 0 l] [] (k1 _ ?_)
 refine AWp.seqJ (fun s' => fewL_j1 = some r ∧ Sub s' ⟨[], []⟩) (fun _ k3 => ?_) ?_
 ·refine AWp.rS hV none [5, 6, 7] fun K k4 => ?_
  simp; repeat refine ai ?_
  refine kc [se 5 l, se 6 ((l.length : Int) : Int), se 7 (0 : Int)] [] (k4 _ ?_)
  refine AWp.block ?_
  obtain ⟨o46, hl47, hq48⟩ := bnd_some hg; clear hg
  refine AWp.loopO (fun (z2u7 : Int) => ⟨[se 5 l, se 6 ((l.length : Int) : Int), se 7 z2u7], []⟩) (fewL_s7 l) 0 hl47 ?_ fun z2u7 w51 _ hg hx50 k5 => ?_
  ·exact Sub.rm []
  unfold fewL_s7 at hg; try dsimp only at hg
  show AWp _ _ _ _ _ ⟨[se 5 l, se 6 ((l.length : Int) : Int), se 7 z2u7], []⟩ _
  refine AWp.rS hV none [5, 6, 7, 8] fun K k52 => ?_
  simp; repeat refine ai ?_
  refine kc [se 5 l, se 6 ((l.length : Int) : Int), se 7 z2u7, se 8 (decide (z2u7 < (l.length : Int)))] [] (k52 _ ?_)
  refine AWp.seqG fun _ k53 => ?_
  refine AWp.cnd hg rfl ?_ ?_ <;> (clear hg; intro h54 hg)
  ·refine AWp.skip ?_
   refine k53 _ ?_
   refine AWp.seqJ (fun s' => fewL_j8 z2u7 = some w51 ∧ Sub s' ⟨[se 5 l, se 6 ((l.length : Int) : Int), se 7 z2u7], []⟩) (fun _ k56 => ?_) ?_
   ·refine AWp.block ?_
    obtain ⟨x57, h58, hg⟩ := bnd_some hg
    obtain ⟨h58a, h58b, h58f⟩ := at_e h58; have h58g := h58f; try simp at h58g
    refine AWp.rS hV none [3, 4, 5, 6, 7] fun K k59 => ?_
    simp [h58f, h58g]; repeat refine ai ?_
    refine kd [se 3 z2u7, (4, .ptr 0 0), se 5 l, se 6 ((l.length : Int) : Int), se 7 z2u7] [.w 27 x57] (by first | rfl | (simp [h58f, h58g] <;> grind)) (k59 _ ?_)
    obtain ⟨y62u18, hx63, hg⟩ := bnd_some hg
    unfold fewL_r9 at hx63
    refine AWp.seqJ (fun s' => Sub s' ⟨[se 5 l, se 6 ((l.length : Int) : Int), se 7 z2u7, se 18 y62u18], []⟩) (fun _ k64 => ?_) ?_
    ·rcases ifb_o hx63 with ⟨c65, hx63⟩ | ⟨c65, hx63⟩
     ·have c65g := c65; try simp at c65g
      refine AWp.regF hV (some [15, 16, 17]) [5, 6, 7, 18] fun K k66 => ?_
      simp [sp15, c65, c65g]; repeat refine ai ?_
      cases hx63; exact k66 _ (k64 _ (Sub.rm []))
     ·have c65g := c65; try simp at c65g
      obtain ⟨x60, h61, hx63⟩ := bnd_some hx63
      refine AWp.regF hV (some []) [5, 6, 7, 18] fun K k67 => ?_
      simp [sp15, c65, c65g, h61]; repeat refine ai ?_
      cases hx63; exact k67 _ (k64 _ (Sub.rm []))
    ·intro s' hs
     refine AWp.sub hs ?_
     clear hs s'
     refine AWp.cnd hg rfl ?_ ?_ <;> (clear hg; intro h68 hg)
     ·refine AWp.rS hV none [2] fun K k69 => ?_
      simp; repeat refine ai ?_
      refine kc [se 2 false] [] (k69 _ ?_)
      refine AWp.ret ?_
      cases hx50 _ (oij hg).symm; have hg := hq48; try dsimp only at hg
      cases hg; exact hQ _ _ (.inl rfl) rt
     ·refine AWp.skip ?_
      exact k56 _ ⟨hg, Sub.rm []⟩
   ·rintro s' ⟨hg, hs⟩
    unfold fewL_j8 at hg
    refine AWp.sub hs ?_
    obtain ⟨g71, hg⟩ := grd_some hg
    unfold inI at g71
    refine AWp.regF hV none [5, 6, 7] fun K k72 => ?_
    simp; repeat refine ai ?_
    refine kc [se 5 l, se 6 ((l.length : Int) : Int), se 7 ((z2u7 + 1) : Int)] [] (k72 _ ?_)
    exact k5 _ _ (oij hg).symm (Sub.rm [])
  ·refine AWp.exit ?_
   cases hx50 _ (oij hg).symm; have hg := hq48; try dsimp only at hg
   exact k3 _ ⟨hg, Sub.rm []⟩
 ·rintro s' ⟨hg, hs⟩
  unfold fewL_j1 at hg
  refine AWp.sub hs ?_
  refine AWp.rS hV none [2] fun K k76 => ?_
  simp; repeat refine ai ?_
  refine kc [se 2 true] [] (k76 _ ?_)
  refine AWp.ret ?_
  cases hg; exact hQ _ _ (.inl rfl) rt
noncomputable def sp4 : Eva.Spec := specO0 (headP.map fun r => enc r)
end
end Go.Proofs.YtjfkfkjkbgiciaaDoor
