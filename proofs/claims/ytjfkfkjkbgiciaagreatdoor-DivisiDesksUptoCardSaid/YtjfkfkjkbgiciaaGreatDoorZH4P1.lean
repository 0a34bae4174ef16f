/-
  What this law needs besides, part 1 of 1.
-/
import Derived.Test.YtjfkfkjkbgiciaaGreatDoorX9
set_option linter.all false
set_option linter.unnecessarySimpa false
set_option linter.deprecated false
set_option linter.unusedVariables false
set_option linter.unusedSimpArgs false
set_option linter.unusedSectionVars false
namespace Go.Proofs.YtjfkfkjkbgiciaaGreatDoor
open Go Go.Eva Enc
noncomputable def lawDesks_r1 (x14 : Int) (x18 : Int) : Option Bool :=
  (ifb (!decide (x14 = 0)) (some true) (some (!decide (x18 = 0))))
noncomputable def lawDesks_r2 (desks : (IntK .u8)) (x2 : Bool) (x13 : (List Int)) (x14 : Int) (x17 : (List Int)) (x18 : Int) : Option Bool :=
  (ifb x2 (ifb (decide (x14 = 0)) (ifb (decide (x18 = 6)) (ifb (decide ((1 + (Int.tmod (IntKind.wrap .i64 desks.n) 40)) < (x13.length : Int))) (some (decide ((x17.length : Int) = 0))) (some false)) (some false)) (some false)) (some false))
noncomputable def lawDesks_r11 (x17 : (List Int)) (z4u5 : Bool) (z4u67 : Int) (x98 : Int) : Option Bool :=
  (ifb z4u5 (ifb (decide (z4u67 = 0)) (some true) (grd (inI (z4u67 - 1)) (bnd (at? x17 (z4u67 - 1)) fun x102 =>
  some (decide (x102 ≤ x98))))) (some false))
noncomputable def lawDesks_j10 (z4u67 : Int) (y96u5 : Bool) (y96u11 : (List (Int × Int))) : Option ((Bool × (List (Int × Int)) × Int) ⊕ ((Bool × (List (Int × Int))))) :=
  grd (inI (z4u67 + 1)) (some (.inl (y96u5, y96u11, (z4u67 + 1))))
noncomputable def lawDesks_s9 (x17 : (List Int)) : (Bool × (List (Int × Int)) × Int) → Option ((Bool × (List (Int × Int)) × Int) ⊕ ((Bool × (List (Int × Int))))) := fun (z4u5, z4u11, z4u67) =>
  ifb (decide (z4u67 < (x17.length : Int))) (bnd (at? x17 z4u67) fun x98 =>
  bnd (lawDesks_r11 x17 z4u5 z4u67 x98) fun y104u5 =>
  grd (inI ((mgetD z4u11 x98 0) + 1)) (lawDesks_j10 z4u67 y104u5 (mput z4u11 x98 ((mgetD z4u11 x98 0) + 1))))
  (some (.inr (z4u5, z4u11)))
noncomputable def lawDesks_r12 (desks : (IntK .u8)) (x17 : (List Int)) (y42u5 : Bool) (y42u11 : (List (Int × Int))) : Option Bool :=
  (ifb y42u5 (ifb (decide ((x17.length : Int) = (1 + (Int.tmod (IntKind.wrap .i64 desks.n) 40)))) (some (decide ((mgetD y42u11 0 0) = (1 + (Int.tmod (IntKind.wrap .i64 desks.n) 40))))) (some false)) (some false))
noncomputable def lawDesks_r42 (y42u11 : (List (Int × Int))) (x296 : Int) (z35u5 : Bool) (x350 : Int) : Option Bool :=
  (ifb z35u5 (ifb (decide (0 < (mgetD y42u11 x296 0))) (grd (inI ((mgetD y42u11 x350 0) + 1)) (some (decide ((mgetD y42u11 x296 0) ≤ ((mgetD y42u11 x350 0) + 1))))) (some false)) (some false))
noncomputable def lawDesks_j41 (z35u115 : Int) (y348u5 : Bool) : Option ((Bool × Int) ⊕ ((Bool))) :=
  grd (inI (z35u115 + 1)) (some (.inl (y348u5, (z35u115 + 1))))
noncomputable def lawDesks_s40 (x13 : (List Int)) (y42u11 : (List (Int × Int))) (x296 : Int) : (Bool × Int) → Option ((Bool × Int) ⊕ ((Bool))) := fun (z35u5, z35u115) =>
  ifb (decide (z35u115 < (x13.length : Int))) (bnd (at? x13 z35u115) fun x350 =>
  bnd (lawDesks_r42 y42u11 x296 z35u5 x350) fun y354u5 =>
  lawDesks_j41 z35u115 y354u5)
  (some (.inr z35u5))
noncomputable def lawDesks_j34 (z14u109 : Int) (y294u5 : Bool) : Option ((Bool × Int) ⊕ ((Bool))) :=
  grd (inI (z14u109 + 1)) (some (.inl (y294u5, (z14u109 + 1))))
noncomputable def lawDesks_s33 (x13 : (List Int)) (y42u11 : (List (Int × Int))) : (Bool × Int) → Option ((Bool × Int) ⊕ ((Bool))) := fun (z14u5, z14u109) =>
  ifb (decide (z14u109 < (x13.length : Int))) (bnd (at? x13 z14u109) fun x296 =>
  bnd (loopO (lawDesks_s40 x13 y42u11 x296) (z14u5, 0)) fun q365u5 =>
  lawDesks_j34 z14u109 q365u5)
  (some (.inr z14u5))
noncomputable def lawDesks_r43 (desks : (IntK .u8)) (x13 : (List Int)) (x17 : (List Int)) (y42u11 : (List (Int × Int))) (y129u5 : Bool) : Option Bool :=
  (ifb y129u5 (ifb (decide ((x17.length : Int) = (1 + (Int.tmod (IntKind.wrap .i64 desks.n) 40)))) (ifb (decide ((y42u11.length : Int) = (x13.length : Int))) (some (decide ((x13.length : Int) ≤ (1 + (Int.tmod (IntKind.wrap .i64 desks.n) 40))))) (some false)) (some false)) (some false))
noncomputable def lawDesks_j13 (desks : (IntK .u8)) (x13 : (List Int)) (x17 : (List Int)) (y42u11 : (List (Int × Int))) (y129u5 : Bool) : Option Bool :=
  bnd (lawDesks_r43 desks x13 x17 y42u11 y129u5) fun y370u4 =>
  some y370u4
noncomputable def lawDesks_j3 (desks : (IntK .u8)) (x13 : (List Int)) (x17 : (List Int)) (y42u5 : Bool) (y42u11 : (List (Int × Int))) : Option Bool :=
  ifb (decide ((x13.length : Int) = 0)) (bnd (lawDesks_r12 desks x17 y42u5 y42u11) fun y121u4 =>
  some y121u4)
  (bnd (loopO (lawDesks_s33 x13 y42u11) (y42u5, 0)) fun q369u5 =>
  lawDesks_j13 desks x13 x17 y42u11 q369u5)
noncomputable def lawDesks (v : View) (desks : (IntK .u8)) : Option Bool :=
  bnd (headP) fun x2 =>
  bnd (usable v) fun x6 =>
  ifb (!x6) (some x2)
  (grd (inI (1 + (Int.tmod (IntKind.wrap .i64 desks.n) 40))) (bnd (pVoices v) fun (x13, x14) =>
  bnd (pAssign v (1 + (Int.tmod (IntKind.wrap .i64 desks.n) 40))) fun (x17, x18) =>
  bnd (lawDesks_r1 x14 x18) fun y22u43 =>
  ifb y22u43 (bnd (lawDesks_r2 desks x2 x13 x14 x17 x18) fun y29u4 =>
  some y29u4)
  (bnd (loopO (lawDesks_s9 x17) (x2, [], 0)) fun o87 =>
  match o87 with
  | (q117u5, q117u11) => lawDesks_j3 desks x13 x17 q117u5 q117u11)))
end Go.Proofs.YtjfkfkjkbgiciaaGreatDoor
namespace Go.Proofs.YtjfkfkjkbgiciaaGreatDoor
open Go Go.Eva Enc
set_option maxRecDepth 4000
attribute [local instance] rndX
attribute [local congr] AWp.congrS
attribute [local simp] evalSeq opRes guardPc evalOp evT Eva.get startT strip putT Eva.after constT typed obAll holds dstOk R.ok R.bad ofD binD unD pickT subL subP Op.operands Call.operands toD toD1 argsD argsD1 callD callT typedAll cfind quietT quietT1 spec0 spec1 spec2 spec3 enc_int enc_bool enc_str enc_fn enc_list dec_int dec_bool dec_str dec_fn dec_list size_int size_str map_dec_enc map_dec_comp cellsT D.cells T.oneT D.one mkT dataT zeroT unD1 setAt loadAs loadEl storeAs fieldP fieldV sizeE intOfT indexP appendT lenT sliceT elemSize arith lfsOk lfOk isAggD mkD fillT placeS TD.agg env restr List.map keyIdx mapTy lookT mapPutT mapDelT mapOf indexS convT evalPure range1 range2 range3 range4 range5 range6 range7 range8 enc_intk size_intk dec_intk eta_intk keysInt_nil keyIdx_E keysInt_E isE_iff put_E del_E get_E getok_E mkeys_E mkeys_E' mkeys_enc specO0 specO1 specO2 specO3 specO4 opD skips gone unbox cloT subO clearT makeT enc_bx dec_bx size_bx selS cloIs List.contains_cons List.contains_nil elAt_zero enc_Rat dec_Rat size_Rat eta_Rat beqL_Rat beqR_Rat enc_Pitch dec_Pitch size_Pitch eta_Pitch beqL_Pitch beqR_Pitch enc_Written dec_Written size_Written eta_Written beqL_Written beqR_Written enc_Measure dec_Measure size_Measure eta_Measure enc_View dec_View size_View eta_View enc_Fraction dec_Fraction size_Fraction eta_Fraction beqL_Fraction beqR_Fraction dat0 len_natTab eqT4 eqT44 eqT49 eqT51 eqT130 te1 te2 te3 te4 te5 te6 te7 te8 te9 te10 te11 te12 te13 te14 te15 te16 te17 te18 te19 te21 te22 te23 te24 te25 te26 te27 te28 te29 te30 te32 te33 te34 te36 te37 te38 te39 te40 te41 te42 te43 te44 te45 te46 te47 te48 te49 te50 te51 te52 te53 te54 te55 te56 te57 te58 te59 te60 te61 te62 te63 te64 te65 te66 te67 te68 te69 te70 te71 te72 te73 te75 te76 te77 te78 te79 te81 te82 te83 te84 te85 te86 te87 te88 te89 te90 te91 te92 te93 te94 te95 te96 te97 te99 te100 te101 te102 te103 te104 te105 te106 te107 te108 te109 te110 te111 te112 te113 te115 te116 te117 te119 te120 te121 te122 te123 te124 te125 te126 te127 te128 te129 te130 te131 te132 te133 te134 te135 te136 te137 te138 te139 te140 te141 te142 te144 te145 te146 te147 te148 te149 te150 te151 te152 te153 te154 te155 te156 te157 te158 te159 te160 te161
section
attribute [local simp] enc_C51 dec_C51 size_C51 eta_C51 enc_C69 dec_C69 size_C69 eta_C69 enc_C33 dec_C33 size_C33 eta_C33 enc_C60_33 dec_C60_33 size_C60_33 eta_C60_33 enc_C34 dec_C34 size_C34 eta_C34 enc_C63_34 dec_C63_34 size_C63_34 eta_C63_34 enc_C39 dec_C39 size_C39 eta_C39 enc_C40 dec_C40 size_C40 eta_C40 enc_C65 dec_C65 size_C65 eta_C65 enc_C36 dec_C36 size_C36 eta_C36 enc_C60_36 dec_C60_36 size_C60_36 eta_C60_36 enc_C63_40 dec_C63_40 size_C63_40 eta_C63_40 enc_C43 dec_C43 size_C43 eta_C43 enc_C44 dec_C44 size_C44 eta_C44 envD fDel cloneR delR Low AO.lows T.lows T.low1 AO.isFrame
noncomputable def sp4 : Eva.Spec := specO2 fun (v : View) (desks : (IntK .u8)) => (lawDesks v desks).map fun r => enc r
set_option maxHeartbeats 4000000 in
theorem ok4 : SpecOk Tryz.prog 4 sp4 := by
 have hV : VOk Tryz.prog (env [(7, sp7), (22, sp22), (10, sp10), (13, sp13)]) := env_ok ⟨ok7, ok22, ok10, ok13, trivial⟩
 refine SpecOk.ofO2 (Enters.of Tryz.func4 (by decide)) fun v desks rr hr => ?_
 obtain ⟨r, hg, rfl⟩ := mpj hr; clear hr
 refine PureCon.ofN hV Tryz.func4 rfl Tryz.ntmps4 fun R hR w0 I0 Q hQ => ?_
 unfold lawDesks at hg
 refine AWp.rS hV none [1, 2] fun K k1 => ?_
 simp; repeat refine ai ?_
 refine kc [se 1 desks, (2, .ptr 0 0)] [.w 24 v] (k1 _ ?_)
 obtain ⟨x2, h3, hg⟩ := bnd_some hg
 refine AWp.rS hV none [1, 2, 5] fun K k4 => ?_
 simp [sp7, h3]; repeat refine ai ?_
 refine kd [se 1 desks, (2, .ptr 0 0), se 5 x2] [.w 24 v] (by first | rfl | (simp [sp7, h3] <;> grind)) (k4 _ ?_)
 refine AWp.seqG fun _ k5 => ?_
 obtain ⟨x6, h7, hg⟩ := bnd_some hg
 refine AWp.rS hV none [1, 2, 5, 21] fun K k8 => ?_
 simp [sp22, h7]; repeat refine ai ?_
 refine kd [se 1 desks, (2, .ptr 0 0), se 5 x2, se 21 (!x6)] [.w 24 v] (by first | rfl | (simp [sp22, h7] <;> grind)) (k8 _ ?_)
 refine AWp.cnd hg rfl ?_ ?_ <;> (clear hg; intro h9 hg)
 ·refine AWp.rS hV none [4] fun K k10 => ?_
  simp; repeat refine ai ?_
  refine kc [se 4 x2] [.w 24 v] (k10 _ ?_)
  refine AWp.ret ?_
  cases hg; exact hQ _ _ (.inl rfl) rt
 ·refine AWp.skip ?_
  refine k5 _ ?_
  obtain ⟨g11, hg⟩ := grd_some hg
  unfold inI at g11
  refine AWp.rS hV none [2, 5, 6] fun K k12 => ?_
  simp; repeat refine ai ?_
  refine kc [(2, .ptr 0 0), se 5 x2, se 6 ((1 + (Int.tmod (IntKind.wrap .i64 desks.n) 40)) : Int)] [.w 24 v] (k12 _ ?_)
  obtain ⟨⟨x13, x14⟩, h15, hg⟩ := bnd_some hg; try dsimp only at hg
  refine AWp.rS hV none [2, 5, 6, 7, 8] fun K k16 => ?_
  simp [sp10, h15]; repeat refine ai ?_
  refine kd [(2, .ptr 0 0), se 5 x2, se 6 ((1 + (Int.tmod (IntKind.wrap .i64 desks.n) 40)) : Int), se 7 x13, se 8 x14] [.w 24 v] (by first | rfl | (simp [sp10, h15] <;> grind)) (k16 _ ?_)
  obtain ⟨⟨x17, x18⟩, h19, hg⟩ := bnd_some hg; try dsimp only at hg
  have h19g := h19; try simp at h19g
  refine AWp.rS hV none [5, 6, 7, 8, 9, 10] fun K k20 => ?_
  simp [sp13, h19, h19g]; repeat refine ai ?_
  refine kd [se 5 x2, se 6 ((1 + (Int.tmod (IntKind.wrap .i64 desks.n) 40)) : Int), se 7 x13, se 8 x14, se 9 x17, se 10 x18] [.w 24 v] (by first | rfl | (simp [sp13, h19, h19g] <;> grind)) (k20 _ ?_)
  refine AWp.seqG fun _ k21 => ?_
  obtain ⟨y22u43, hx23, hg⟩ := bnd_some hg
  unfold lawDesks_r1 at hx23
  refine AWp.seqJ (fun s' => Sub s' ⟨[se 5 x2, se 6 ((1 + (Int.tmod (IntKind.wrap .i64 desks.n) 40)) : Int), se 7 x13, se 8 x14, se 9 x17, se 10 x18, se 43 y22u43], []⟩) (fun _ k24 => ?_) ?_
  ·rcases ifb_o hx23 with ⟨c25, hx23⟩ | ⟨c25, hx23⟩
   ·have c25g := c25; try simp at c25g
    refine AWp.regF hV (some [41, 42]) [5, 6, 7, 8, 9, 10, 43] fun K k26 => ?_
    simp [c25, c25g]; repeat refine ai ?_
    cases hx23; exact k26 _ (k24 _ (Sub.rm []))
   ·have c25g := c25; try simp at c25g
    refine AWp.regF hV (some []) [5, 6, 7, 8, 9, 10, 43] fun K k27 => ?_
    simp [c25, c25g]; repeat refine ai ?_
    cases hx23; exact k27 _ (k24 _ (Sub.rm []))
  ·intro s' hs
   refine AWp.sub hs ?_
   clear hs s'
   refine AWp.cnd hg rfl ?_ ?_ <;> (clear hg; intro h28 hg)
   ·obtain ⟨y29u4, hx30, hg⟩ := bnd_some hg
    unfold lawDesks_r2 at hx30
    refine AWp.seqJ (fun s' => Sub s' ⟨[se 4 y29u4], []⟩) (fun _ k31 => ?_) ?_
    ·rcases ifb_o hx30 with ⟨c32, hx30⟩ | ⟨c32, hx30⟩
     ·rcases ifb_o hx30 with ⟨c33, hx30⟩ | ⟨c33, hx30⟩
      ·have c33g := c33; try simp at c33g
       rcases ifb_o hx30 with ⟨c34, hx30⟩ | ⟨c34, hx30⟩
       ·have c34g := c34; try simp at c34g
        rcases ifb_o hx30 with ⟨c35, hx30⟩ | ⟨c35, hx30⟩
        ·have c35g := c35; try simp at c35g
         refine AWp.regF hV (some []) [4] fun K k36 => ?_
         simp [c32, c33, c33g, c34, c34g, c35, c35g]; repeat refine ai ?_
         cases hx30; exact k36 _ (k31 _ (Sub.rm []))
        ·have c35g := c35; try simp at c35g
         refine AWp.regF hV (some [60, 61, 62]) [4] fun K k37 => ?_
         simp [c32, c33, c33g, c34, c34g, c35, c35g]; repeat refine ai ?_
         cases hx30; exact k37 _ (k31 _ (Sub.rm []))
       ·have c34g := c34; try simp at c34g
        refine AWp.regF hV (some [54, 55, 56, 57, 60, 61, 62]) [4] fun K k38 => ?_
        simp [c32, c33, c33g, c34, c34g]; repeat refine ai ?_
        cases hx30; exact k38 _ (k31 _ (Sub.rm []))
      ·have c33g := c33; try simp at c33g
       refine AWp.regF hV (some [50, 51, 54, 55, 56, 57, 60, 61, 62]) [4] fun K k39 => ?_
       simp [c32, c33, c33g]; repeat refine ai ?_
       cases hx30; exact k39 _ (k31 _ (Sub.rm []))
     ·refine AWp.regF hV (some [46, 47, 50, 51, 54, 55, 56, 57, 60, 61, 62]) [4] fun K k40 => ?_
      simp [c32]; repeat refine ai ?_
      cases hx30; exact k40 _ (k31 _ (Sub.rm []))
    ·intro s' hs
     refine AWp.sub hs ?_
     clear hs s'
     refine AWp.ret ?_
     cases hg; exact hQ _ _ (.inl rfl) rt
   ·refine AWp.skip ?_
    refine k21 _ ?_
    refine AWp.rS hV none [5, 6, 7, 9, 11] fun K k41 => ?_
    simp; repeat refine ai ?_
    refine kc [se 5 x2, se 6 ((1 + (Int.tmod (IntKind.wrap .i64 desks.n) 40)) : Int), se 7 x13, se 9 x17, (11, .map 0)] [.map (([] : (List (Int × Int))).map kE) (([] : (List (Int × Int))).map vE)] (k41 _ ?_)
    refine AWp.seqJ (fun s' => ∃ y42u5 : Bool, ∃ y42u11 : (List (Int × Int)), lawDesks_j3 desks x13 x17 y42u5 y42u11 = some r ∧ Sub s' ⟨[se 5 y42u5, se 6 ((1 + (Int.tmod (IntKind.wrap .i64 desks.n) 40)) : Int), se 7 x13, se 9 x17, (11, .map 0)], [.map ((y42u11 : (List (Int × Int))).map kE) ((y42u11 : (List (Int × Int))).map vE)]⟩) (fun _ k43 => ?_) ?_
    ·refine AWp.rS hV none [5, 6, 7, 9, 11, 65, 66, 67] fun K k44 => ?_
     simp; repeat refine ai ?_
     refine kc [se 5 x2, se 6 ((1 + (Int.tmod (IntKind.wrap .i64 desks.n) 40)) : Int), se 7 x13, se 9 x17, (11, .map 0), se 65 x17, se 66 ((x17.length : Int) : Int), se 67 (0 : Int)] [.map (([] : (List (Int × Int))).map kE) (([] : (List (Int × Int))).map vE)] (k44 _ ?_)
     refine AWp.block ?_
     obtain ⟨o87, hl88, hq89⟩ := bnd_some hg; clear hg
     refine AWp.loopO (fun ((z4u5, z4u11, z4u67) : Bool × (List (Int × Int)) × Int) => ⟨[se 5 z4u5, se 6 ((1 + (Int.tmod (IntKind.wrap .i64 desks.n) 40)) : Int), se 7 x13, se 9 x17, (11, .map 0), se 65 x17, se 66 ((x17.length : Int) : Int), se 67 z4u67], [.map ((z4u11 : (List (Int × Int))).map kE) ((z4u11 : (List (Int × Int))).map vE)]⟩) (lawDesks_s9 x17) (x2, [], 0) hl88 ?_ fun z90 w92 _ hg hx91 k45 => ?_
     ·exact Sub.rm [0]
     obtain ⟨z4u5, z4u11, z4u67⟩ := z90
     unfold lawDesks_s9 at hg; try dsimp only at hg
     show AWp _ _ _ _ _ ⟨[se 5 z4u5, se 6 ((1 + (Int.tmod (IntKind.wrap .i64 desks.n) 40)) : Int), se 7 x13, se 9 x17, (11, .map 0), se 65 x17, se 66 ((x17.length : Int) : Int), se 67 z4u67], [.map ((z4u11 : (List (Int × Int))).map kE) ((z4u11 : (List (Int × Int))).map vE)]⟩ _
     refine AWp.rS hV none [5, 6, 7, 9, 11, 65, 66, 67, 68] fun K k93 => ?_
     simp; repeat refine ai ?_
     refine kc [se 5 z4u5, se 6 ((1 + (Int.tmod (IntKind.wrap .i64 desks.n) 40)) : Int), se 7 x13, se 9 x17, (11, .map 0), se 65 x17, se 66 ((x17.length : Int) : Int), se 67 z4u67, se 68 (decide (z4u67 < (x17.length : Int)))] [.map ((z4u11 : (List (Int × Int))).map kE) ((z4u11 : (List (Int × Int))).map vE)] (k93 _ ?_)
     refine AWp.seqG fun _ k94 => ?_
     refine AWp.cnd hg rfl ?_ ?_ <;> (clear hg; intro h95 hg)
     ·refine AWp.skip ?_
      refine k94 _ ?_
      refine AWp.seqJ (fun s' => ∃ y96u5 : Bool, ∃ y96u11 : (List (Int × Int)), lawDesks_j10 z4u67 y96u5 y96u11 = some w92 ∧ Sub s' ⟨[se 5 y96u5, se 6 ((1 + (Int.tmod (IntKind.wrap .i64 desks.n) 40)) : Int), se 7 x13, se 9 x17, (11, .map 0), se 65 x17, se 66 ((x17.length : Int) : Int), se 67 z4u67], [.map ((y96u11 : (List (Int × Int))).map kE) ((y96u11 : (List (Int × Int))).map vE)]⟩) (fun _ k97 => ?_) ?_
      ·refine AWp.block ?_
       obtain ⟨x98, h99, hg⟩ := bnd_some hg
       obtain ⟨h99a, h99b, h99f⟩ := at_e h99; have h99g := h99f; try simp at h99g
       refine AWp.rS hV none [5, 6, 7, 9, 11, 12, 13, 65, 66, 67] fun K k100 => ?_
       simp [h99f, h99g]; repeat refine ai ?_
       refine kd [se 5 z4u5, se 6 ((1 + (Int.tmod (IntKind.wrap .i64 desks.n) 40)) : Int), se 7 x13, se 9 x17, (11, .map 0), se 12 z4u67, se 13 x98, se 65 x17, se 66 ((x17.length : Int) : Int), se 67 z4u67] [.map ((z4u11 : (List (Int × Int))).map kE) ((z4u11 : (List (Int × Int))).map vE)] (by first | rfl | (simp [h99f, h99g] <;> grind)) (k100 _ ?_)
       obtain ⟨y104u5, hx105, hg⟩ := bnd_some hg
       unfold lawDesks_r11 at hx105
       refine AWp.seqJ (fun s' => Sub s' ⟨[se 5 y104u5, se 6 ((1 + (Int.tmod (IntKind.wrap .i64 desks.n) 40)) : Int), se 7 x13, se 9 x17, (11, .map 0), se 13 x98, se 65 x17, se 66 ((x17.length : Int) : Int), se 67 z4u67], [.map ((z4u11 : (List (Int × Int))).map kE) ((z4u11 : (List (Int × Int))).map vE)]⟩) (fun _ k106 => ?_) ?_
       ·rcases ifb_o hx105 with ⟨c107, hx105⟩ | ⟨c107, hx105⟩
        ·rcases ifb_o hx105 with ⟨c108, hx105⟩ | ⟨c108, hx105⟩
         ·have c108g := c108; try simp at c108g
          refine AWp.regF hV (some [77, 78, 79, 80, 81, 82, 83]) [5, 6, 7, 9, 11, 13, 65, 66, 67] fun K k109 => ?_
          simp [c107, c108, c108g]; repeat refine ai ?_
          cases hx105; exact k109 _ (k106 _ (Sub.rm [0]))
         ·have c108g := c108; try simp at c108g
          obtain ⟨g101, hx105⟩ := grd_some hx105
          unfold inI at g101
          obtain ⟨x102, h103, hx105⟩ := bnd_some hx105
          obtain ⟨h103a, h103b, h103f⟩ := at_e h103; have h103g := h103f; try simp at h103g
          refine AWp.regF hV (some []) [5, 6, 7, 9, 11, 13, 65, 66, 67] fun K k110 => ?_
          simp [c107, c108, c108g, h103f, h103g]; repeat refine ai ?_
          cases hx105; exact k110 _ (k106 _ (Sub.rm [0]))
        ·refine AWp.regF hV (some [74, 75, 76, 77, 78, 79, 80, 81, 82, 83, 84]) [5, 6, 7, 9, 11, 13, 65, 66, 67] fun K k111 => ?_
         simp [c107]; repeat refine ai ?_
         cases hx105; exact k111 _ (k106 _ (Sub.rm [0]))
       ·intro s' hs
        refine AWp.sub hs ?_
        clear hs s'
        obtain ⟨g112, hg⟩ := grd_some hg
        unfold inI at g112
        refine AWp.regF hV none [5, 6, 7, 9, 11, 65, 66, 67] fun K k113 => ?_
        simp; repeat refine ai ?_
        refine kc [se 5 y104u5, se 6 ((1 + (Int.tmod (IntKind.wrap .i64 desks.n) 40)) : Int), se 7 x13, se 9 x17, (11, .map 0), se 65 x17, se 66 ((x17.length : Int) : Int), se 67 z4u67] [.map (((mput z4u11 x98 ((mgetD z4u11 x98 0) + 1)) : (List (Int × Int))).map kE) (((mput z4u11 x98 ((mgetD z4u11 x98 0) + 1)) : (List (Int × Int))).map vE)] (k113 _ ?_)
        exact k97 _ ⟨_, _, hg, Sub.rm [0]⟩
      ·rintro s' ⟨y96u5, y96u11, hg, hs⟩
       unfold lawDesks_j10 at hg
       refine AWp.sub hs ?_
       obtain ⟨g114, hg⟩ := grd_some hg
       unfold inI at g114
       refine AWp.regF hV none [5, 6, 7, 9, 11, 65, 66, 67] fun K k115 => ?_
       simp; repeat refine ai ?_
       refine kc [se 5 y96u5, se 6 ((1 + (Int.tmod (IntKind.wrap .i64 desks.n) 40)) : Int), se 7 x13, se 9 x17, (11, .map 0), se 65 x17, se 66 ((x17.length : Int) : Int), se 67 ((z4u67 + 1) : Int)] [.map ((y96u11 : (List (Int × Int))).map kE) ((y96u11 : (List (Int × Int))).map vE)] (k115 _ ?_)
       exact k45 _ _ (oij hg).symm (Sub.rm [0])
     ·refine AWp.exit ?_
      cases hx91 _ (oij hg).symm; have hg := hq89; try dsimp only at hg
      exact k43 _ ⟨_, _, hg, Sub.rm [0]⟩
    ·rintro s' ⟨y42u5, y42u11, hg, hs⟩
     unfold lawDesks_j3 at hg
     refine AWp.sub hs ?_
     refine AWp.seqG fun _ k118 => ?_
     refine AWp.rS hV none [5, 6, 7, 9, 11, 93] fun K k119 => ?_
     simp; repeat refine ai ?_
     refine kc [se 5 y42u5, se 6 ((1 + (Int.tmod (IntKind.wrap .i64 desks.n) 40)) : Int), se 7 x13, se 9 x17, (11, .map 0), se 93 (decide ((x13.length : Int) = 0))] [.map ((y42u11 : (List (Int × Int))).map kE) ((y42u11 : (List (Int × Int))).map vE)] (k119 _ ?_)
     refine AWp.cnd hg rfl ?_ ?_ <;> (clear hg; intro h120 hg)
     ·obtain ⟨y121u4, hx122, hg⟩ := bnd_some hg
      unfold lawDesks_r12 at hx122
      refine AWp.seqJ (fun s' => Sub s' ⟨[se 4 y121u4], []⟩) (fun _ k123 => ?_) ?_
      ·rcases ifb_o hx122 with ⟨c124, hx122⟩ | ⟨c124, hx122⟩
       ·rcases ifb_o hx122 with ⟨c125, hx122⟩ | ⟨c125, hx122⟩
        ·have c125g := eq_true (of_decide_eq_true c125)
         refine AWp.regF hV (some []) [4] fun K k126 => ?_
         simp [c124, c125, c125g]; repeat refine ai ?_
         cases hx122; exact k126 _ (k123 _ (Sub.rm []))
        ·have c125g := c125; try simp at c125g
         refine AWp.regF hV (some [102, 103, 104, 105]) [4] fun K k127 => ?_
         simp [c124, c125, c125g]; repeat refine ai ?_
         cases hx122; exact k127 _ (k123 _ (Sub.rm []))
       ·refine AWp.regF hV (some [96, 97, 98, 99, 102, 103, 104, 105]) [4] fun K k128 => ?_
        simp [c124]; repeat refine ai ?_
        cases hx122; exact k128 _ (k123 _ (Sub.rm []))
      ·intro s' hs
       refine AWp.sub hs ?_
       clear hs s'
       refine AWp.ret ?_
       cases hg; exact hQ _ _ (.inl rfl) rt
     ·refine AWp.skip ?_
      refine k118 _ ?_
      refine AWp.seqJ (fun s' => ∃ y129u5 : Bool, lawDesks_j13 desks x13 x17 y42u11 y129u5 = some r ∧ Sub s' ⟨[se 5 y129u5, se 6 ((1 + (Int.tmod (IntKind.wrap .i64 desks.n) 40)) : Int), se 7 x13, se 9 x17, (11, .map 0)], [.map ((y42u11 : (List (Int × Int))).map kE) ((y42u11 : (List (Int × Int))).map vE)]⟩) (fun _ k130 => ?_) ?_
      ·refine AWp.rS hV none [5, 6, 7, 9, 11, 107, 108, 109] fun K k131 => ?_
       simp; repeat refine ai ?_
       refine kc [se 5 y42u5, se 6 ((1 + (Int.tmod (IntKind.wrap .i64 desks.n) 40)) : Int), se 7 x13, se 9 x17, (11, .map 0), se 107 x13, se 108 ((x13.length : Int) : Int), se 109 (0 : Int)] [.map ((y42u11 : (List (Int × Int))).map kE) ((y42u11 : (List (Int × Int))).map vE)] (k131 _ ?_)
       refine AWp.block ?_
       obtain ⟨o285, hl286, hq287⟩ := bnd_some hg; clear hg
       refine AWp.loopO (fun ((z14u5, z14u109) : Bool × Int) => ⟨[se 5 z14u5, se 6 ((1 + (Int.tmod (IntKind.wrap .i64 desks.n) 40)) : Int), se 7 x13, se 9 x17, (11, .map 0), se 107 x13, se 108 ((x13.length : Int) : Int), se 109 z14u109], [.map ((y42u11 : (List (Int × Int))).map kE) ((y42u11 : (List (Int × Int))).map vE)]⟩) (lawDesks_s33 x13 y42u11) (y42u5, 0) hl286 ?_ fun z288 w290 _ hg hx289 k132 => ?_
       ·exact Sub.rm [0]
       obtain ⟨z14u5, z14u109⟩ := z288
       unfold lawDesks_s33 at hg; try dsimp only at hg
       show AWp _ _ _ _ _ ⟨[se 5 z14u5, se 6 ((1 + (Int.tmod (IntKind.wrap .i64 desks.n) 40)) : Int), se 7 x13, se 9 x17, (11, .map 0), se 107 x13, se 108 ((x13.length : Int) : Int), se 109 z14u109], [.map ((y42u11 : (List (Int × Int))).map kE) ((y42u11 : (List (Int × Int))).map vE)]⟩ _
       refine AWp.rS hV none [5, 6, 7, 9, 11, 107, 108, 109, 110] fun K k291 => ?_
       simp; repeat refine ai ?_
       refine kc [se 5 z14u5, se 6 ((1 + (Int.tmod (IntKind.wrap .i64 desks.n) 40)) : Int), se 7 x13, se 9 x17, (11, .map 0), se 107 x13, se 108 ((x13.length : Int) : Int), se 109 z14u109, se 110 (decide (z14u109 < (x13.length : Int)))] [.map ((y42u11 : (List (Int × Int))).map kE) ((y42u11 : (List (Int × Int))).map vE)] (k291 _ ?_)
       refine AWp.seqG fun _ k292 => ?_
       refine AWp.cnd hg rfl ?_ ?_ <;> (clear hg; intro h293 hg)
       ·refine AWp.skip ?_
        refine k292 _ ?_
        refine AWp.seqJ (fun s' => ∃ y294u5 : Bool, lawDesks_j34 z14u109 y294u5 = some w290 ∧ Sub s' ⟨[se 5 y294u5, se 6 ((1 + (Int.tmod (IntKind.wrap .i64 desks.n) 40)) : Int), se 7 x13, se 9 x17, (11, .map 0), se 107 x13, se 108 ((x13.length : Int) : Int), se 109 z14u109], [.map ((y42u11 : (List (Int × Int))).map kE) ((y42u11 : (List (Int × Int))).map vE)]⟩) (fun _ k295 => ?_) ?_
        ·refine AWp.block ?_
         obtain ⟨x296, h297, hg⟩ := bnd_some hg
         obtain ⟨h297a, h297b, h297f⟩ := at_e h297; have h297g := h297f; try simp at h297g
         refine AWp.rS hV none [5, 6, 7, 9, 11, 15, 107, 108, 109] fun K k298 => ?_
         simp [h297f, h297g]; repeat refine ai ?_
         refine kd [se 5 z14u5, se 6 ((1 + (Int.tmod (IntKind.wrap .i64 desks.n) 40)) : Int), se 7 x13, se 9 x17, (11, .map 0), se 15 x296, se 107 x13, se 108 ((x13.length : Int) : Int), se 109 z14u109] [.map ((y42u11 : (List (Int × Int))).map kE) ((y42u11 : (List (Int × Int))).map vE)] (by first | rfl | (simp [h297f, h297g] <;> grind)) (k298 _ ?_)
         refine AWp.rS hV none [5, 6, 7, 9, 11, 15, 107, 108, 109, 113, 114, 115] fun K k299 => ?_
         simp; repeat refine ai ?_
         refine kc [se 5 z14u5, se 6 ((1 + (Int.tmod (IntKind.wrap .i64 desks.n) 40)) : Int), se 7 x13, se 9 x17, (11, .map 0), se 15 x296, se 107 x13, se 108 ((x13.length : Int) : Int), se 109 z14u109, se 113 x13, se 114 ((x13.length : Int) : Int), se 115 (0 : Int)] [.map ((y42u11 : (List (Int × Int))).map kE) ((y42u11 : (List (Int × Int))).map vE)] (k299 _ ?_)
         refine AWp.block ?_
         obtain ⟨o339, hl340, hq341⟩ := bnd_some hg; clear hg
         refine AWp.loopO (fun ((z35u5, z35u115) : Bool × Int) => ⟨[se 5 z35u5, se 6 ((1 + (Int.tmod (IntKind.wrap .i64 desks.n) 40)) : Int), se 7 x13, se 9 x17, (11, .map 0), se 15 x296, se 107 x13, se 108 ((x13.length : Int) : Int), se 109 z14u109, se 113 x13, se 114 ((x13.length : Int) : Int), se 115 z35u115], [.map ((y42u11 : (List (Int × Int))).map kE) ((y42u11 : (List (Int × Int))).map vE)]⟩) (lawDesks_s40 x13 y42u11 x296) (z14u5, 0) hl340 ?_ fun z342 w344 _ hg hx343 k300 => ?_
         ·exact Sub.rm [0]
         obtain ⟨z35u5, z35u115⟩ := z342
         unfold lawDesks_s40 at hg; try dsimp only at hg
         show AWp _ _ _ _ _ ⟨[se 5 z35u5, se 6 ((1 + (Int.tmod (IntKind.wrap .i64 desks.n) 40)) : Int), se 7 x13, se 9 x17, (11, .map 0), se 15 x296, se 107 x13, se 108 ((x13.length : Int) : Int), se 109 z14u109, se 113 x13, se 114 ((x13.length : Int) : Int), se 115 z35u115], [.map ((y42u11 : (List (Int × Int))).map kE) ((y42u11 : (List (Int × Int))).map vE)]⟩ _
         refine AWp.rS hV none [5, 6, 7, 9, 11, 15, 107, 108, 109, 113, 114, 115, 116] fun K k345 => ?_
         simp; repeat refine ai ?_
         refine kc [se 5 z35u5, se 6 ((1 + (Int.tmod (IntKind.wrap .i64 desks.n) 40)) : Int), se 7 x13, se 9 x17, (11, .map 0), se 15 x296, se 107 x13, se 108 ((x13.length : Int) : Int), se 109 z14u109, se 113 x13, se 114 ((x13.length : Int) : Int), se 115 z35u115, se 116 (decide (z35u115 < (x13.length : Int)))] [.map ((y42u11 : (List (Int × Int))).map kE) ((y42u11 : (List (Int × Int))).map vE)] (k345 _ ?_)
         refine AWp.seqG fun _ k346 => ?_
         refine AWp.cnd hg rfl ?_ ?_ <;> (clear hg; intro h347 hg)
         ·refine AWp.skip ?_
          refine k346 _ ?_
          refine AWp.seqJ (fun s' => ∃ y348u5 : Bool, lawDesks_j41 z35u115 y348u5 = some w344 ∧ Sub s' ⟨[se 5 y348u5, se 6 ((1 + (Int.tmod (IntKind.wrap .i64 desks.n) 40)) : Int), se 7 x13, se 9 x17, (11, .map 0), se 15 x296, se 107 x13, se 108 ((x13.length : Int) : Int), se 109 z14u109, se 113 x13, se 114 ((x13.length : Int) : Int), se 115 z35u115], [.map ((y42u11 : (List (Int × Int))).map kE) ((y42u11 : (List (Int × Int))).map vE)]⟩) (fun _ k349 => ?_) ?_
          ·refine AWp.block ?_
           obtain ⟨x350, h351, hg⟩ := bnd_some hg
           obtain ⟨h351a, h351b, h351f⟩ := at_e h351; have h351g := h351f; try simp at h351g
           refine AWp.rS hV none [5, 6, 7, 9, 11, 15, 17, 107, 108, 109, 113, 114, 115] fun K k352 => ?_
           simp [h351f, h351g]; repeat refine ai ?_
           refine kd [se 5 z35u5, se 6 ((1 + (Int.tmod (IntKind.wrap .i64 desks.n) 40)) : Int), se 7 x13, se 9 x17, (11, .map 0), se 15 x296, se 17 x350, se 107 x13, se 108 ((x13.length : Int) : Int), se 109 z14u109, se 113 x13, se 114 ((x13.length : Int) : Int), se 115 z35u115] [.map ((y42u11 : (List (Int × Int))).map kE) ((y42u11 : (List (Int × Int))).map vE)] (by first | rfl | (simp [h351f, h351g] <;> grind)) (k352 _ ?_)
           obtain ⟨y354u5, hx355, hg⟩ := bnd_some hg
           unfold lawDesks_r42 at hx355
           refine AWp.mid (t := ⟨[se 5 y354u5, se 6 ((1 + (Int.tmod (IntKind.wrap .i64 desks.n) 40)) : Int), se 7 x13, se 9 x17, (11, .map 0), se 15 x296, se 107 x13, se 108 ((x13.length : Int) : Int), se 109 z14u109, se 113 x13, se 114 ((x13.length : Int) : Int), se 115 z35u115], [.map ((y42u11 : (List (Int × Int))).map kE) ((y42u11 : (List (Int × Int))).map vE)]⟩) (fun _ k356 => ?_) ?_
           ·rcases ifb_o hx355 with ⟨c357, hx355⟩ | ⟨c357, hx355⟩
            ·rcases ifb_o hx355 with ⟨c358, hx355⟩ | ⟨c358, hx355⟩
             ·have c358g := c358; try simp at c358g
              obtain ⟨g353, hx355⟩ := grd_some hx355
              unfold inI at g353
              refine AWp.regF hV (some []) [5, 6, 7, 9, 11, 15, 107, 108, 109, 113, 114, 115] fun K k359 => ?_
              simp [c357, c358, c358g]; repeat refine ai ?_
              cases hx355; exact k359 _ (k356 _ (Sub.rm [0]))
             ·have c358g := c358; try simp at c358g
              refine AWp.regF hV (some [127, 128, 129, 130, 131, 132, 133, 134]) [5, 6, 7, 9, 11, 15, 107, 108, 109, 113, 114, 115] fun K k360 => ?_
              simp [c357, c358, c358g]; repeat refine ai ?_
              cases hx355; exact k360 _ (k356 _ (Sub.rm [0]))
            ·refine AWp.regF hV (some [121, 122, 123, 124, 127, 128, 129, 130, 131, 132, 133, 134]) [5, 6, 7, 9, 11, 15, 107, 108, 109, 113, 114, 115] fun K k361 => ?_
             simp [c357]; repeat refine ai ?_
             cases hx355; exact k361 _ (k356 _ (Sub.rm [0]))
           ·exact k349 _ ⟨_, hg, Sub.rm [0]⟩
          ·rintro s' ⟨y348u5, hg, hs⟩
           unfold lawDesks_j41 at hg
           refine AWp.sub hs ?_
           obtain ⟨g362, hg⟩ := grd_some hg
           unfold inI at g362
           refine AWp.regF hV none [5, 6, 7, 9, 11, 15, 107, 108, 109, 113, 114, 115] fun K k363 => ?_
           simp; repeat refine ai ?_
           refine kc [se 5 y348u5, se 6 ((1 + (Int.tmod (IntKind.wrap .i64 desks.n) 40)) : Int), se 7 x13, se 9 x17, (11, .map 0), se 15 x296, se 107 x13, se 108 ((x13.length : Int) : Int), se 109 z14u109, se 113 x13, se 114 ((x13.length : Int) : Int), se 115 ((z35u115 + 1) : Int)] [.map ((y42u11 : (List (Int × Int))).map kE) ((y42u11 : (List (Int × Int))).map vE)] (k363 _ ?_)
           exact k300 _ _ (oij hg).symm (Sub.rm [0])
         ·refine AWp.exit ?_
          cases hx343 _ (oij hg).symm; have hg := hq341; try dsimp only at hg
          exact k295 _ ⟨_, hg, Sub.rm [0]⟩
        ·rintro s' ⟨y294u5, hg, hs⟩
         unfold lawDesks_j34 at hg
         refine AWp.sub hs ?_
         obtain ⟨g366, hg⟩ := grd_some hg
         unfold inI at g366
         refine AWp.regF hV none [5, 6, 7, 9, 11, 107, 108, 109] fun K k367 => ?_
         simp; repeat refine ai ?_
         refine kc [se 5 y294u5, se 6 ((1 + (Int.tmod (IntKind.wrap .i64 desks.n) 40)) : Int), se 7 x13, se 9 x17, (11, .map 0), se 107 x13, se 108 ((x13.length : Int) : Int), se 109 ((z14u109 + 1) : Int)] [.map ((y42u11 : (List (Int × Int))).map kE) ((y42u11 : (List (Int × Int))).map vE)] (k367 _ ?_)
         exact k132 _ _ (oij hg).symm (Sub.rm [0])
       ·refine AWp.exit ?_
        cases hx289 _ (oij hg).symm; have hg := hq287; try dsimp only at hg
        exact k130 _ ⟨_, hg, Sub.rm [0]⟩
      ·rintro s' ⟨y129u5, hg, hs⟩
       unfold lawDesks_j13 at hg
       refine AWp.sub hs ?_
       obtain ⟨y370u4, hx371, hg⟩ := bnd_some hg
       unfold lawDesks_r43 at hx371
       refine AWp.seqJ (fun s' => Sub s' ⟨[se 4 y370u4], []⟩) (fun _ k372 => ?_) ?_
       ·rcases ifb_o hx371 with ⟨c373, hx371⟩ | ⟨c373, hx371⟩
        ·rcases ifb_o hx371 with ⟨c374, hx371⟩ | ⟨c374, hx371⟩
         ·have c374g := eq_true (of_decide_eq_true c374)
          rcases ifb_o hx371 with ⟨c375, hx371⟩ | ⟨c375, hx371⟩
          ·have c375g := eq_true (of_decide_eq_true c375)
           refine AWp.regF hV (some []) [4] fun K k376 => ?_
           simp [c373, c374, c374g, c375, c375g]; repeat refine ai ?_
           cases hx371; exact k376 _ (k372 _ (Sub.rm []))
          ·have c375g := c375; try simp at c375g
           refine AWp.regF hV (some [153, 154, 155, 156]) [4] fun K k377 => ?_
           simp [c373, c374, c374g, c375, c375g]; repeat refine ai ?_
           cases hx371; exact k377 _ (k372 _ (Sub.rm []))
         ·have c374g := c374; try simp at c374g
          refine AWp.regF hV (some [146, 147, 148, 149, 150, 153, 154, 155, 156]) [4] fun K k378 => ?_
          simp [c373, c374, c374g]; repeat refine ai ?_
          cases hx371; exact k378 _ (k372 _ (Sub.rm []))
        ·refine AWp.regF hV (some [140, 141, 142, 143, 146, 147, 148, 149, 150, 153, 154, 155, 156]) [4] fun K k379 => ?_
         simp [c373]; repeat refine ai ?_
         cases hx371; exact k379 _ (k372 _ (Sub.rm []))
       ·intro s' hs
        refine AWp.sub hs ?_
        clear hs s'
        refine AWp.ret ?_
        cases hg; exact hQ _ _ (.inl rfl) rt
end
end Go.Proofs.YtjfkfkjkbgiciaaGreatDoor
namespace Go.Proofs.YtjfkfkjkbgiciaaGreatDoor
open Go Go.Eva Enc
@[reducible] def onnPZPlA : Onn := ⟨False⟩
attribute [local instance] rndX onnPZPlA
theorem usable_eq {v : View} (hv : Sm v) : usable v = some (decide (few v ∧ viewOk v)) := by
  unfold usable usable_r1
  rw [r14Few_eq hv, bnd_pure]
  by_cases h : few v
  · rw [ifb_t' (by simp [h]), r18Valid_eq hv, bnd_pure, bnd_pure]; simp [h]
  · rw [ifb_f' (by simp [h]), bnd_pure]; simp [h]
theorem chosen_bad {c : List Int} (h : chosenOk c = true) {k : Nat} (hk : k < c.length) : chBad c k = false := by
  unfold chosenOk at h
  simp only [Bool.not_eq_true', List.any_eq_false] at h
  simpa using h k (by simpa using hk)
theorem chosen_pos {c : List Int} (h : chosenOk c = true) {n : Int} (hn : n ∈ c) : 1 ≤ n ∧ n ≤ 20 := by
  obtain ⟨k, hk, rfl⟩ := List.mem_iff_getElem.1 hn
  have := chosen_bad h hk
  unfold chBad at this
  rw [getD_of (List.getElem?_eq_getElem hk)] at this
  simp at this
  omega
theorem chosen_asc {c : List Int} (h : chosenOk c = true) : ∀ (j i : Nat) (hj : j < c.length) (hi : i < j), c[i]'(by omega) < c[j] := by
  intro j
  induction j with
  | zero => intro i hj hi; omega
  | succ j ih =>
    intro i hj hi
    have hb := chosen_bad h hj
    unfold chBad at hb
    have e : j + 1 - 1 = j := rfl
    rw [getD_of (List.getElem?_eq_getElem hj), e, getD_of (List.getElem?_eq_getElem (show j < c.length by omega))] at hb
    simp at hb
    have h1 : c[j] < c[j + 1] := hb.2.2
    by_cases hij : i = j
    · subst hij; exact h1
    · have := ih i (by omega) (by omega)
      omega
theorem played_none {c : List Int} {l : List Written} (h : ∀ n ∈ c, ¬ isIn l n = true) : played c l = 0 := by
  unfold played
  rw [List.find?_eq_none.2 h]; rfl
theorem played_some {c : List Int} (hc : chosenOk c = true) {l : List Written} {o : Int} (h : o ∈ c) (ho : isIn l o = true) : played c l ∈ c ∧ isIn l (played c l) = true ∧ ∀ r ∈ c, isIn l r = true → played c l ≤ r := by
  unfold played
  cases hf : c.find? (isIn l) with
  | none => exact absurd ho (List.find?_eq_none.1 hf o h)
  | some p =>
    obtain ⟨hp, i, hi, hpi, hlt⟩ := List.find?_eq_some_iff_getElem.1 hf
    refine ⟨hpi ▸ List.getElem_mem hi, hp, fun r hr hir => ?_⟩
    obtain ⟨j, hj, rfl⟩ := List.mem_iff_getElem.1 hr
    rw [Option.getD_some]
    by_cases hji : j < i
    · have := hlt j hji
      rw [hir] at this; cases this
    · by_cases hij : i = j
      · subst hij; omega
      · have := chosen_asc hc j i hj (by omega)
        omega
theorem played_filter {c : List Int} (hc : chosenOk c = true) (l : List Written) : played c (l.filter (ossP (played c l))) = played c l := by
  by_cases h : ∃ o ∈ c, isIn l o = true
  · obtain ⟨o, h1, h2⟩ := h
    obtain ⟨h3, h4, h5⟩ := played_some hc h1 h2
    generalize played c l = p at *
    have hin : isIn (l.filter (ossP p)) p = true := by
      unfold isIn at h4 ⊢
      obtain ⟨w, hw, hp⟩ := List.any_eq_true.1 h4
      exact List.any_eq_true.2 ⟨w, List.mem_filter.2 ⟨hw, hp⟩, hp⟩
    have huniq : ∀ r, isIn (l.filter (ossP p)) r = true → r = p := by
      intro r hr
      unfold isIn at hr
      obtain ⟨w, hw, hp⟩ := List.any_eq_true.1 hr
      have := (List.mem_filter.1 hw).2
      unfold ossP at this hp
      simp at this hp; omega
    exact huniq _ (played_some hc h3 hin).2.1
  · have h0 : ∀ n ∈ c, ¬ isIn l n = true := fun n hn hi => h ⟨n, hn, hi⟩
    rw [played_none h0]
    refine played_none fun n hn hi => ?_
    unfold isIn at hi
    obtain ⟨w, hw, hp⟩ := List.any_eq_true.1 hi
    refine h0 n hn ?_
    unfold isIn
    exact List.any_eq_true.2 ⟨w, (List.mem_filter.1 hw).1, hp⟩
theorem ossM_twice {c : List Int} (hc : chosenOk c = true) (m : Measure) : ossM c (ossM c m) = ossM c m := by
  unfold ossM cutM
  dsimp only
  rw [played_filter hc, List.filter_filter]
  simp
theorem ossV_twice {c : List Int} (hc : chosenOk c = true) (v : View) : ossV c (ossV c v) = ossV c v := by
  unfold ossV
  simp only [List.map_map]
  congr 1
  exact List.map_congr_left fun m _ => ossM_twice hc m
theorem total_map (f : Measure → Measure) (hf : ∀ m, (f m).notes.length ≤ m.notes.length) (l : List Measure) : total (l.map f) ≤ total l := by
  induction l with
  | nil => simp [total]
  | cons m l ih =>
    rw [List.map_cons, total_cons, total_cons]
    have := hf m
    omega
theorem viewOk_cut {v : View} (hv : viewOk v) (f : Measure → Measure) (hf : ∀ m, ∀ w ∈ (f m).notes, w ∈ m.notes) (hl : ∀ m, (f m).notes.length ≤ m.notes.length) (p : Int) : viewOk ⟨p, v.measures.map f⟩ := by
  refine ⟨by simpa using hv.1, ?_, fun m hm w hw => ?_⟩
  · have := total_map f hl v.measures
    have := hv.2.1
    dsimp only; omega
  · obtain ⟨x, hx, rfl⟩ := List.mem_map.1 hm
    exact hv.2.2 x hx w (hf x w hw)
theorem viewOk_oss {v : View} (hv : viewOk v) (c : List Int) : viewOk (ossV c v) := viewOk_cut hv _ (fun m w hw => (List.mem_filter.1 hw).1) (fun m => List.length_filter_le _ _) _
theorem viewOk_desk {v : View} (hv : viewOk v) (n : Int) : viewOk (deskV n v) := viewOk_cut hv _ (fun m w hw => (List.mem_filter.1 hw).1) (fun m => List.length_filter_le _ _) _
def lo1 (c : List Int) (z : Int) (w : Written) : Int := c.foldl (fun z n => if w.ossia = n ∧ (z = 0 ∨ n < z) then n else z) z
theorem lo1_eq (w : Written) : ∀ (c : List Int) (z : Int), lo1 c z w = if w.ossia ∈ c then (if z = 0 ∨ w.ossia < z then w.ossia else z) else z
  | [], z => by simp [lo1]
  | n :: c, z => by
    have e : lo1 (n :: c) z w = lo1 c (if w.ossia = n ∧ (z = 0 ∨ n < z) then n else z) w := rfl
    rw [e, lo1_eq w c]
    by_cases h : w.ossia = n
    · subst h
      rw [if_pos (show w.ossia ∈ w.ossia :: c by simp)]
      by_cases h2 : z = 0 ∨ w.ossia < z
      · have et : (if w.ossia = w.ossia ∧ (z = 0 ∨ w.ossia < z) then w.ossia else z) = w.ossia := if_pos ⟨rfl, h2⟩
        rw [et, if_pos h2]
        split
        · split <;> rfl
        · rfl
      · have et : (if w.ossia = w.ossia ∧ (z = 0 ∨ w.ossia < z) then w.ossia else z) = z := if_neg (fun h => h2 h.2)
        rw [et, if_neg h2]
        simp [h2]
    · have h3 : w.ossia ∈ n :: c ↔ w.ossia ∈ c := by simp [h]
      have et : (if w.ossia = n ∧ (z = 0 ∨ n < z) then n else z) = z := if_neg (fun h' => h h'.1)
      rw [et]
      by_cases h4 : w.ossia ∈ c
      · rw [if_pos h4, if_pos (h3.2 h4)]
      · rw [if_neg h4, if_neg (fun h' => h4 (h3.1 h'))]
theorem lo_fold {c : List Int} (hc : ∀ n ∈ c, 1 ≤ n) : ∀ (l : List Written) (z : Int), 0 ≤ z → (l.foldl (lo1 c) z = z ∨ (l.foldl (lo1 c) z ∈ c ∧ isIn l (l.foldl (lo1 c) z) = true)) ∧ (∀ o ∈ c, isIn l o = true → l.foldl (lo1 c) z ≠ 0 ∧ l.foldl (lo1 c) z ≤ o) ∧ (z ≠ 0 → l.foldl (lo1 c) z ≠ 0 ∧ l.foldl (lo1 c) z ≤ z)
  | [], z, _ => by simp [isIn]
  | w :: l, z, hz => by
    rw [List.foldl_cons]
    have e := lo1_eq w c z
    have hz' : 0 ≤ lo1 c z w := by
      rw [e]; split
      · rename_i h
        have := hc _ h
        split <;> omega
      · exact hz
    obtain ⟨h1, h2, h3⟩ := lo_fold hc l (lo1 c z w) hz'
    have hin : ∀ o, isIn (w :: l) o = true ↔ w.ossia = o ∨ isIn l o = true := by
      intro o; unfold isIn ossP; simp
    generalize l.foldl (lo1 c) (lo1 c z w) = r at *
    by_cases hw : w.ossia ∈ c
    · have hp := hc _ hw
      rw [if_pos hw] at e
      by_cases h0 : z = 0 ∨ w.ossia < z
      · rw [if_pos h0] at e
        rw [e] at h1 h3
        have h3' := h3 (by omega)
        refine ⟨?_, fun o ho hio => ?_, fun hz0 => by omega⟩
        · rcases h1 with h1 | ⟨h1, h4⟩
          · right; rw [h1]; exact ⟨hw, (hin _).2 (.inl rfl)⟩
          · right; exact ⟨h1, (hin _).2 (.inr h4)⟩
        · rcases (hin o).1 hio with h | h
          · omega
          · exact h2 o ho h
      · rw [if_neg h0] at e
        rw [e] at h1 h3
        refine ⟨?_, fun o ho hio => ?_, fun hz0 => h3 hz0⟩
        · rcases h1 with h1 | ⟨h1, h4⟩
          · exact .inl h1
          · right; exact ⟨h1, (hin _).2 (.inr h4)⟩
        · rcases (hin o).1 hio with h | h
          · have := h3 (by omega); omega
          · exact h2 o ho h
    · rw [if_neg hw] at e
      rw [e] at h1 h3
      refine ⟨?_, fun o ho hio => ?_, fun hz0 => h3 hz0⟩
      · rcases h1 with h1 | ⟨h1, h4⟩
        · exact .inl h1
        · right; exact ⟨h1, (hin _).2 (.inr h4)⟩
      · rcases (hin o).1 hio with h | h
        · rw [h] at hw; exact absurd ho hw
        · exact h2 o ho h
theorem lo_played {c : List Int} (hc : chosenOk c = true) (l : List Written) : l.foldl (lo1 c) 0 = played c l := by
  obtain ⟨h1, h2, _⟩ := lo_fold (fun n hn => (chosen_pos hc hn).1) l 0 (by omega)
  by_cases h : ∃ o ∈ c, isIn l o = true
  · obtain ⟨o, g1, g2⟩ := h
    obtain ⟨g3, g4, g5⟩ := played_some hc g1 g2
    have g6 := h2 _ g3 g4
    rcases h1 with h1 | ⟨h1, h4⟩
    · omega
    · have := g5 _ h1 h4
      omega
  · rw [played_none fun n hn hi => h ⟨n, hn, hi⟩]
    rcases h1 with h1 | ⟨h1, h4⟩
    · exact h1
    · exact absurd ⟨_, h1, h4⟩ h
theorem filter_take {α : Type} (p : α → Bool) {l : List α} {k : Nat} {x : α} (hx : l[k]? = some x) : (l.take (k + 1)).filter p = if p x = true then (l.take k).filter p ++ [x] else (l.take k).filter p := by
  rw [List.take_succ, hx]
  simp only [Option.toList_some, List.filter_append]
  by_cases h : p x = true
  · simp [h]
  · simp [h]
theorem filter_at {α : Type} (p : α → Bool) {l : List α} {k : Nat} {x : α} (hx : l[k]? = some x) (hp : p x = true) : (l.filter p)[((l.take k).filter p).length]? = some x := by
  have h : l.filter p = (l.take k).filter p ++ (l.drop k).filter p := by rw [← List.filter_append, List.take_append_drop]
  have hk := lt_of_get hx
  have hx' : l[k] = x := by rw [List.getElem?_eq_getElem hk] at hx; exact Option.some.inj hx
  rw [h, List.getElem?_append_right (Nat.le_refl _), Nat.sub_self, List.drop_eq_getElem_cons hk, hx', List.filter_cons, if_pos hp]
  rfl
end Go.Proofs.YtjfkfkjkbgiciaaGreatDoor
namespace Go.Proofs.YtjfkfkjkbgiciaaGreatDoor
open Go Go.Eva Enc
@[reducible] def onnPZPlC : Onn := ⟨False⟩
attribute [local instance] rndX onnPZPlC
theorem mget_put {α : Type} (n : Int) (v : α) (k : Int) (z : α) : ∀ (m : List (Int × α)), mgetD (mput m n v) k z = if k = n then v else mgetD m k z
  | [] => by
    rw [mput_nil, mgetD_cons]
  | (a, b) :: m => by
    have ih := mget_put n v k z m
    rw [mput_cons]
    by_cases h : n = a
    · subst h
      rw [if_pos rfl, mgetD_cons, mgetD_cons]
      by_cases hk : k = n
      · simp [hk]
      · simp [hk]
    · rw [if_neg h, mgetD_cons, mgetD_cons, ih]
      by_cases hk : k = a
      · subst hk
        have : ¬ k = n := fun e => h e.symm
        simp [this]
      · simp [hk]
def cnt1 (m : List (Int × Int)) (a : Int) : List (Int × Int) := mput m a (mgetD m a 0 + 1)
def cntM (l : List Int) : List (Int × Int) := l.foldl cnt1 []
theorem cnt_get0 (a : Int) : ∀ (l : List Int) (m : List (Int × Int)), mgetD (l.foldl cnt1 m) a 0 = mgetD m a 0 + (l.count a : Int)
  | [], m => by simp
  | b :: l, m => by
    rw [List.foldl_cons, cnt_get0 a l, List.count_cons]
    unfold cnt1
    rw [mget_put]
    by_cases h : a = b
    · subst h; simp; omega
    · have : ¬ (b == a) = true := by simpa using fun e => h e.symm
      simp [h, this]
theorem cnt_get (a : Int) (l : List Int) : mgetD (cntM l) a 0 = (l.count a : Int) := by
  unfold cntM
  rw [cnt_get0]
  have : mgetD ([] : List (Int × Int)) a 0 = 0 := rfl
  omega
theorem cnt_keys0 : ∀ (l : List Int) (m : List (Int × Int)), (mkeys m).Nodup → (mkeys (l.foldl cnt1 m)).Nodup ∧ ∀ k, k ∈ mkeys (l.foldl cnt1 m) ↔ k ∈ mkeys m ∨ k ∈ l
  | [], m, h => ⟨h, fun k => by simp⟩
  | b :: l, m, h => by
    obtain ⟨h1, h2⟩ := keys_mput b (mgetD m b 0 + 1) m h
    obtain ⟨h3, h4⟩ := cnt_keys0 l (cnt1 m b) h1
    rw [List.foldl_cons]
    refine ⟨h3, fun k => ?_⟩
    rw [h4 k, show cnt1 m b = mput m b (mgetD m b 0 + 1) from rfl, h2 k, List.mem_cons]
    constructor
    · rintro ((h | h) | h)
      · exact .inr (.inl h)
      · exact .inl h
      · exact .inr (.inr h)
    · rintro (h | h | h)
      · exact .inl (.inr h)
      · exact .inl (.inl h)
      · exact .inr h
theorem cntM_snoc (l : List Int) (a : Int) : cntM (l ++ [a]) = cnt1 (cntM l) a := by unfold cntM; rw [List.foldl_append]; rfl
def cntD (D L i : Nat) : Nat := ((List.range D).filter fun k => decide (k * L / D = i)).length
theorem cntD_all : ∀ D ∈ List.range 41, ∀ L ∈ List.range 10, 1 ≤ L → L ≤ D → ∀ i ∈ List.range L, D / L ≤ cntD D L i ∧ cntD D L i ≤ D / L + 1 := by decide +kernel
theorem cntD_eq {D L i : Nat} (hD : D ≤ 40) (hL : L ≤ 9) (h1 : 1 ≤ L) (h2 : L ≤ D) (hi : i < L) : 1 ≤ cntD D L i ∧ D / L ≤ cntD D L i ∧ cntD D L i ≤ D / L + 1 := by
  obtain ⟨h3, h4⟩ := cntD_all D (List.mem_range.2 (by omega)) L (List.mem_range.2 (by omega)) h1 h2 i (List.mem_range.2 hi)
  have : 1 ≤ D / L := (Nat.one_le_div_iff (by omega)).2 h2
  omega
theorem vList_asc (v : View) : (vList v).Pairwise (· < ·) := List.Pairwise.sublist List.filter_sublist (by decide)
theorem asg_get {x : List Int} {N k : Nat} (hk : k < N) (hx : 0 < x.length) : ∃ h : k * x.length / N < x.length, asg x N k = x[k * x.length / N] := by
  have hlt : k * x.length / N < x.length := by
    rw [Nat.div_lt_iff_lt_mul (by omega), Nat.mul_comm]
    exact Nat.mul_lt_mul_of_pos_left hk hx
  refine ⟨hlt, ?_⟩
  unfold asg
  rw [if_pos hx, List.getD_eq_getElem?_getD, List.getElem?_eq_getElem hlt]
  rfl
theorem asg_mono {x : List Int} (ha : x.Pairwise (· < ·)) {N k : Nat} (hk : k + 1 < N) : asg x N k ≤ asg x N (k + 1) := by
  by_cases hx : 0 < x.length
  · obtain ⟨h1, e1⟩ := asg_get (x := x) (show k < N by omega) hx
    obtain ⟨h2, e2⟩ := asg_get (x := x) hk hx
    rw [e1, e2]
    have hle : k * x.length / N ≤ (k + 1) * x.length / N := Nat.div_le_div_right (Nat.mul_le_mul_right _ (by omega))
    generalize k * x.length / N = i at *
    generalize (k + 1) * x.length / N = j at *
    by_cases hij : i = j
    · subst hij; omega
    · have := List.pairwise_iff_getElem.1 ha i j h1 h2 (by omega)
      omega
  · simp [asg, hx]
theorem asg_count {x : List Int} (ha : x.Pairwise (· < ·)) {N i : Nat} (hi : i < x.length) : (asgL x N).count x[i] = cntD N x.length i := by
  unfold asgL cntD
  rw [List.count, List.countP_map, List.countP_eq_length_filter]
  congr 1
  refine List.filter_congr fun k hk => ?_
  rw [List.mem_range] at hk
  obtain ⟨h1, e1⟩ := asg_get (x := x) hk (by omega)
  simp only [Function.comp_apply]
  rw [e1]
  generalize k * x.length / N = j at *
  rw [Bool.eq_iff_iff]
  simp only [beq_iff_eq, decide_eq_true_eq]
  constructor
  · intro h
    refine Classical.byContradiction fun hn => ?_
    by_cases hlt : j < i
    · have := List.pairwise_iff_getElem.1 ha j i h1 hi hlt
      omega
    · have := List.pairwise_iff_getElem.1 ha i j hi h1 (by omega)
      omega
  · rintro rfl; rfl
theorem asg_cnt {x : List Int} (ha : x.Pairwise (· < ·)) {N : Nat} (hN : N ≤ 40) (h9 : x.length ≤ 9) (hle : x.length ≤ N) {a : Int} (h : a ∈ x) : 1 ≤ (asgL x N).count a ∧ N / x.length ≤ (asgL x N).count a ∧ (asgL x N).count a ≤ N / x.length + 1 := by
  obtain ⟨i, hi, rfl⟩ := List.mem_iff_getElem.1 h
  rw [asg_count ha hi]
  exact cntD_eq hN h9 (by omega) hle hi
theorem asgL_mem {x : List Int} {N : Nat} (hx : 0 < x.length) {a : Int} (h : a ∈ asgL x N) : a ∈ x := by
  unfold asgL at h
  obtain ⟨k, hk, rfl⟩ := List.mem_map.1 h
  rw [List.mem_range] at hk
  obtain ⟨h1, e1⟩ := asg_get (x := x) hk hx
  rw [e1]; exact List.getElem_mem h1
theorem cntM_len {x : List Int} (ha : x.Pairwise (· < ·)) {N : Nat} (hN : N ≤ 40) (h9 : x.length ≤ 9) (hle : x.length ≤ N) (hx : 0 < x.length) : (cntM (asgL x N)).length = x.length := by
  obtain ⟨h1, h2⟩ := cnt_keys0 (asgL x N) [] (by simp [mkeys])
  have hnd : x.Nodup := ha.imp fun h => by omega
  have : (mkeys (cntM (asgL x N))).Perm x := perm_of_mem h1 hnd fun k => by
    unfold cntM
    rw [h2 k]
    constructor
    · rintro (h | h)
      · cases h
      · exact asgL_mem hx h
    · intro h
      right
      have := (asg_cnt ha hN h9 hle h).1
      exact List.count_pos_iff.1 (by omega)
  have := this.length_eq
  simpa [mkeys] using this
theorem desk_rng {n : Int} (h0 : 0 ≤ n) (h1 : n ≤ 255) : ∃ N : Nat, 1 + Int.tmod (IntKind.wrap .i64 n) 40 = (N : Int) ∧ 1 ≤ N ∧ N ≤ 40 := by
  have e : IntKind.wrap .i64 n = n := by simp [IntKind.wrap, IntKind.bits, IntKind.signed]; omega
  rw [e]
  have h2 : Int.tmod n 40 = n % 40 := Int.tmod_eq_emod_of_nonneg h0
  rw [h2]
  refine ⟨(1 + n % 40).toNat, by omega, by omega, by omega⟩
end Go.Proofs.YtjfkfkjkbgiciaaGreatDoor
namespace Go.Proofs.YtjfkfkjkbgiciaaGreatDoor
open Go Go.Eva Enc
@[reducible] def onnPZPlD : Onn := ⟨False⟩
attribute [local instance] rndX onnPZPlD
theorem lawDesks_eq {v : View} {d : IntK .u8} (hv : Sm v) (h0 : 0 ≤ d.n) (h1 : d.n ≤ 255) : lawDesks v d = some true := by
  obtain ⟨N, hN, hN1, hN40⟩ := desk_rng h0 h1
  unfold lawDesks
  rw [headP_eq, bnd_pure, usable_eq hv, bnd_pure, hN]
  by_cases hu : few v ∧ viewOk v
  rotate_left
  · rw [ifb_t' (by simp only [Bool.not_eq_true', decide_eq_false_iff_not]; exact hu)]
  rw [ifb_f' (by simp [hu]), grdI (by omega), pVoices_eq hv, if_pos hu.2, bnd_pure]
  dsimp only
  rw [pAssign_eq hv, if_pos ⟨hu.2, by omega, by omega⟩, bnd_pure]
  have h9 := vList_len v
  have hasc := vList_asc v
  generalize vList v = x at h9 hasc ⊢
  by_cases hlt : (N : Int) < x.length
  · rw [if_pos hlt]
    dsimp only
    unfold lawDesks_r1
    rw [ifb_f' (by simp), bnd_pure, ifb_t' (by simp)]
    unfold lawDesks_r2
    rw [hN, ifb_t' rfl, ifb_t' (by simp), ifb_t' (by simp), ifb_t' (by simp [hlt]), bnd_pure]
    simp
  rw [if_neg hlt]
  dsimp only
  rw [Int.toNat_natCast]
  unfold lawDesks_r1
  rw [ifb_f' (by simp), bnd_pure, ifb_f' (by simp)]
  have hlen : (asgL x N).length = N := by simp [asgL]
  have hget : ∀ k, k < N → (asgL x N)[k]? = some (asg x N k) := by
    intro k hk
    unfold asgL
    rw [List.getElem?_map, List.getElem?_range hk]; rfl
  have hloop : loopO (lawDesks_s9 (asgL x N)) (true, [], 0) = some (true, cntM (asgL x N)) := by
    have := loop_fold (σ := Bool × List (Int × Int)) (st := fun z k => (z.1, z.2, k)) (step := lawDesks_s9 (asgL x N)) (l := asgL x N) (fun z a => .inl (z.1, cnt1 z.2 a)) (fun _ => (true, cntM (asgL x N))) (fun k z => z.1 = true ∧ z.2 = cntM ((asgL x N).take k)) (fun k a z ha hz => by
      have hk := lt_of_get ha
      rw [hlen] at hk
      obtain ⟨z1, z2⟩ := z
      obtain ⟨rfl, rfl⟩ := hz
      have hcount : ((asgL x N).take k).count a ≤ k := Nat.le_trans List.count_le_length (by rw [List.length_take]; omega)
      unfold lawDesks_s9 lawDesks_j10 lawDesks_r11
      dsimp only
      rw [ifb_t' (by simp [hlen]; omega), bnd_eq (at_eq ha), ifb_t' rfl]
      have e : ifb (decide ((k : Int) = 0)) (some true) (grd (inI ((k : Int) - 1)) (bnd (at? (asgL x N) ((k : Int) - 1)) fun x103 => some (decide (x103 ≤ a)))) = some true := by
        by_cases h : k = 0
        · rw [ifb_t' (by simp [h])]
        · obtain ⟨j, rfl⟩ : ∃ j, k = j + 1 := ⟨k - 1, by omega⟩
          have ej : ((j + 1 : Nat) : Int) - 1 = (j : Int) := by omega
          have hm := asg_mono hasc hk
          rw [hget _ hk] at ha
          injection ha with ha
          rw [ifb_f' (decide_eq_false (by omega)), grdI (by omega), ej, bnd_eq (at_eq (hget j (by omega)))]
          rw [ha] at hm
          simp [hm]
      rw [e, bnd_pure, cnt_get, grdI (by omega), grdI (by omega)]
      unfold cnt1
      rw [cnt_get]
      rfl) (fun k a z z' ha hz hf => by
      injection hf with hf
      subst hf
      refine ⟨hz.1, ?_⟩
      dsimp only
      rw [List.take_succ, ha, hz.2]
      exact (cntM_snoc _ _).symm) (fun z hz => by
      obtain ⟨z1, z2⟩ := z
      obtain ⟨rfl, rfl⟩ := hz
      unfold lawDesks_s9
      dsimp only
      rw [ifb_f' (by simp [hlen]), List.take_length]) (true, []) ⟨rfl, by simp [cntM]⟩
    rw [this, foldS_inl (fun (z : Bool × List (Int × Int)) (a : Int) => (z.1, cnt1 z.2 a)) _ _ (fun _ _ _ => rfl)]
  rw [hloop, bnd_pure]
  dsimp only
  unfold lawDesks_j3
  by_cases hx : x.length = 0
  · rw [ifb_t' (by simp [hx])]
    unfold lawDesks_r12
    have hc : (asgL x N).count 0 = N := by
      have hall : asgL x N = List.replicate N 0 := by
        refine List.ext_getElem? fun k => ?_
        by_cases hk : k < N
        · rw [hget k hk, List.getElem?_replicate, if_pos hk]
          unfold asg; rw [if_neg (by omega)]
        · rw [List.getElem?_eq_none (by rw [hlen]; omega), List.getElem?_eq_none (by simp; omega)]
      rw [hall, List.count_replicate_self]
    rw [hN, hlen, cnt_get, hc, ifb_t' rfl, ifb_t' (by simp), bnd_pure]
    simp
  rw [ifb_f' (by simp; intro h; exact hx (by rw [h]; rfl))]
  have hpair : ∀ a ∈ x, ∀ b ∈ x, 0 < ((asgL x N).count a : Int) ∧ ((asgL x N).count a : Int) ≤ ((asgL x N).count b : Int) + 1 ∧ ((asgL x N).count b : Int) ≤ N := by
    intro a ha b hb
    obtain ⟨g1, g2, g3⟩ := asg_cnt hasc hN40 h9 (by omega) ha
    obtain ⟨g4, g5, g6⟩ := asg_cnt hasc hN40 h9 (by omega) hb
    have : (asgL x N).count b ≤ (asgL x N).length := List.count_le_length
    omega
  have hl33 : loopO (lawDesks_s33 x (cntM (asgL x N))) (true, 0) = some true := by
    rw [loop_fold (σ := Bool) (st := fun z k => (z, k)) (step := lawDesks_s33 x (cntM (asgL x N))) (l := x) (fun z _ => .inl z) (fun _ => true) (fun _ z => z = true) (fun k a z ha hz => by
      have hk := lt_of_get ha
      subst hz
      unfold lawDesks_s33 lawDesks_j34
      dsimp only
      rw [ifb_t' (by simpa using hk), bnd_eq (at_eq ha), loop_fold (σ := Bool) (st := fun z k => (z, k)) (step := lawDesks_s40 x (cntM (asgL x N)) a) (l := x) (fun z _ => .inl z) (fun _ => true) (fun _ z => z = true) (fun j b z hb hz => by
        have hj := lt_of_get hb
        subst hz
        obtain ⟨g1, g2, g3⟩ := hpair a (List.mem_of_getElem? ha) b (List.mem_of_getElem? hb)
        unfold lawDesks_s40 lawDesks_j41 lawDesks_r42
        dsimp only
        rw [ifb_t' (by simpa using hj), bnd_eq (at_eq hb), cnt_get, cnt_get, ifb_t' rfl, ifb_t' (decide_eq_true g1), grdI (by omega), bnd_pure, grdI (by omega), decide_eq_true g2]
        rfl) (fun j b z z' hb hz hf => by injection hf with hf; subst hf; exact hz) (fun z hz => by
        subst hz; unfold lawDesks_s40; dsimp only; rw [ifb_f' (by simp)]) true rfl, foldS_inl (fun (z : Bool) (a : Int) => z) _ _ (fun _ _ _ => rfl), bnd_pure, grdI (by omega)]
      rfl) (fun k a z z' ha hz hf => by injection hf with hf; subst hf; exact hz) (fun z hz => by
      subst hz; unfold lawDesks_s33; dsimp only; rw [ifb_f' (by simp)]) true rfl, foldS_inl (fun (z : Bool) (a : Int) => z) _ _ (fun _ _ _ => rfl)]
  rw [hl33, bnd_pure]
  unfold lawDesks_j13 lawDesks_r43
  rw [hN, hlen, cntM_len hasc hN40 h9 (by omega) (by omega), ifb_t' rfl, ifb_t' (by simp), ifb_t' (by simp), bnd_pure, decide_eq_true (by omega)]
end Go.Proofs.YtjfkfkjkbgiciaaGreatDoor
