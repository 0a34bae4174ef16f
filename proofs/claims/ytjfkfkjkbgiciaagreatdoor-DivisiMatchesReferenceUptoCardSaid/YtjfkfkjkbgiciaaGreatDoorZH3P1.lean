/-
  What this law needs besides, part 1 of 1.
-/
import Derived.Test.YtjfkfkjkbgiciaaGreatDoorX9
set_option linter.all false
set_option linter.unnecessarySimpa false
set_option linter.deprecated false
set_option linter.unusedVariables false
set_option linter.unusedSimpArgs false
set_option linter.unusedSectionVars false
namespace Go.Proofs.YtjfkfkjkbgiciaaGreatDoor
open Go Go.Eva Enc
set_option maxRecDepth 4000
attribute [local instance] rndX
attribute [local congr] AWp.congrS
attribute [local simp] evalSeq opRes guardPc evalOp evT Eva.get startT strip putT Eva.after constT typed obAll holds dstOk R.ok R.bad ofD binD unD pickT subL subP Op.operands Call.operands toD toD1 argsD argsD1 callD callT typedAll cfind quietT quietT1 spec0 spec1 spec2 spec3 enc_int enc_bool enc_str enc_fn enc_list dec_int dec_bool dec_str dec_fn dec_list size_int size_str map_dec_enc map_dec_comp cellsT D.cells T.oneT D.one mkT dataT zeroT unD1 setAt loadAs loadEl storeAs fieldP fieldV sizeE intOfT indexP appendT lenT sliceT elemSize arith lfsOk lfOk isAggD mkD fillT placeS TD.agg env restr List.map keyIdx mapTy lookT mapPutT mapDelT mapOf indexS convT evalPure range1 range2 range3 range4 range5 range6 range7 range8 enc_intk size_intk dec_intk eta_intk keysInt_nil keyIdx_E keysInt_E isE_iff put_E del_E get_E getok_E mkeys_E mkeys_E' mkeys_enc specO0 specO1 specO2 specO3 specO4 opD skips gone unbox cloT subO clearT makeT enc_bx dec_bx size_bx selS cloIs List.contains_cons List.contains_nil elAt_zero enc_Rat dec_Rat size_Rat eta_Rat beqL_Rat beqR_Rat enc_Pitch dec_Pitch size_Pitch eta_Pitch beqL_Pitch beqR_Pitch enc_Written dec_Written size_Written eta_Written beqL_Written beqR_Written enc_Measure dec_Measure size_Measure eta_Measure enc_View dec_View size_View eta_View enc_Fraction dec_Fraction size_Fraction eta_Fraction beqL_Fraction beqR_Fraction dat0 len_natTab eqT4 eqT44 eqT49 eqT51 eqT130 te1 te2 te3 te4 te5 te6 te7 te8 te9 te10 te11 te12 te13 te14 te15 te16 te17 te18 te19 te21 te22 te23 te24 te25 te26 te27 te28 te29 te30 te32 te33 te34 te36 te37 te38 te39 te40 te41 te42 te43 te44 te45 te46 te47 te48 te49 te50 te51 te52 te53 te54 te55 te56 te57 te58 te59 te60 te61 te62 te63 te64 te65 te66 te67 te68 te69 te70 te71 te72 te73 te75 te76 te77 te78 te79 te81 te82 te83 te84 te85 te86 te87 te88 te89 te90 te91 te92 te93 te94 te95 te96 te97 te99 te100 te101 te102 te103 te104 te105 te106 te107 te108 te109 te110 te111 te112 te113 te115 te116 te117 te119 te120 te121 te122 te123 te124 te125 te126 te127 te128 te129 te130 te131 te132 te133 te134 te135 te136 te137 te138 te139 te140 te141 te142 te144 te145 te146 te147 te148 te149 te150 te151 te152 te153 te154 te155 te156 te157 te158 te159 te160 te161
section
attribute [local simp] enc_C51 dec_C51 size_C51 eta_C51 enc_C69 dec_C69 size_C69 eta_C69 enc_C33 dec_C33 size_C33 eta_C33 enc_C60_33 dec_C60_33 size_C60_33 eta_C60_33 enc_C34 dec_C34 size_C34 eta_C34 enc_C63_34 dec_C63_34 size_C63_34 eta_C63_34 enc_C39 dec_C39 size_C39 eta_C39 enc_C40 dec_C40 size_C40 eta_C40 enc_C65 dec_C65 size_C65 eta_C65 enc_C36 dec_C36 size_C36 eta_C36 enc_C60_36 dec_C60_36 size_C60_36 eta_C60_36 enc_C63_40 dec_C63_40 size_C63_40 eta_C63_40 enc_C43 dec_C43 size_C43 eta_C43 enc_C44 dec_C44 size_C44 eta_C44 envD fDel cloneR delR Low AO.lows T.lows T.low1 AO.isFrame
noncomputable def sp3 : Eva.Spec := specO4 fun (v : View) (l : (List View)) (n : Int) (chosen : (List Int)) => (lawMatches v l n chosen).map fun r => enc r
set_option maxHeartbeats 4000000 in
theorem ok3 : SpecOk Tryz.prog 3 sp3 := by
 have hV : VOk Tryz.prog (env [(7, sp7), (8, sp8), (9, sp9), (10, sp10), (11, sp11), (12, sp12), (13, sp13), (14, sp14), (15, sp15), (16, sp16), (17, sp17), (18, sp18), (19, sp19), (20, sp20), (21, sp21)]) := env_ok ⟨ok7, ok8, ok9, ok10, ok11, ok12, ok13, ok14, ok15, ok16, ok17, ok18, ok19, ok20, ok21, trivial⟩
 refine SpecOk.ofO4 (Enters.of Tryz.func3 (by decide)) fun v l n chosen rr hr => ?_
 obtain ⟨r, hg, rfl⟩ := mpj hr; clear hr
 refine PureCon.ofN hV Tryz.func3 rfl Tryz.ntmps3 fun R hR w0 I0 Q hQ => ?_
 unfold lawMatches at hg
 refine AWp.rS hV none [1, 2, 3, 4] fun K k1 => ?_
 simp; repeat refine ai ?_
 refine kc [se 1 l, se 2 n, se 3 chosen, (4, .ptr 0 0)] [.w 24 v] (k1 _ ?_)
 obtain ⟨x2, h3, hg⟩ := bnd_some hg
 refine AWp.rS hV none [1, 2, 3, 4, 9] fun K k4 => ?_
 simp [sp7, h3]; repeat refine ai ?_
 refine kd [se 1 l, se 2 n, se 3 chosen, (4, .ptr 0 0), se 9 x2] [.w 24 v] (by first | rfl | (simp [sp7, h3] <;> grind)) (k4 _ ?_)
 refine AWp.seqG fun _ k5 => ?_
 obtain ⟨y10u29, hx11, hg⟩ := bnd_some hg
 unfold lawMatches_r1 at hx11
 refine AWp.seqJ (fun s' => Sub s' ⟨[se 1 l, se 2 n, se 3 chosen, (4, .ptr 0 0), se 9 x2, se 29 y10u29], [.w 24 v]⟩) (fun _ k12 => ?_) ?_
 ·obtain ⟨x6, h7, hx11⟩ := bnd_some hx11
  rcases ifb_o hx11 with ⟨c13, hx11⟩ | ⟨c13, hx11⟩
  ·have c13g := c13; try simp at c13g
   refine AWp.regF hV (some [21, 22, 23, 26, 27, 28]) [1, 2, 3, 4, 9, 29] fun K k14 => ?_
   simp [sp8, sp9, h7, c13, c13g]; repeat refine ai ?_
   cases hx11; exact k14 _ (k12 _ (Sub.rm [0]))
  ·have c13g := c13; try simp at c13g
   obtain ⟨x8, h9, hx11⟩ := bnd_some hx11
   rcases ifb_o hx11 with ⟨c15, hx11⟩ | ⟨c15, hx11⟩
   ·have c15g := c15; try simp at c15g
    refine AWp.regF hV (some [26, 27, 28]) [1, 2, 3, 4, 9, 29] fun K k16 => ?_
    simp [sp8, sp9, h7, c13, c13g, h9, c15, c15g]; repeat refine ai ?_
    cases hx11; exact k16 _ (k12 _ (Sub.rm [0]))
   ·have c15g := c15; try simp at c15g
    refine AWp.regF hV (some []) [1, 2, 3, 4, 9, 29] fun K k17 => ?_
    simp [sp8, sp9, h7, c13, c13g, h9, c15, c15g]; repeat refine ai ?_
    cases hx11; exact k17 _ (k12 _ (Sub.rm [0]))
 ·intro s' hs
  refine AWp.sub hs ?_
  clear hs s'
  refine AWp.cnd hg rfl ?_ ?_ <;> (clear hg; intro h18 hg)
  ·refine AWp.rS hV none [8] fun K k19 => ?_
   simp; repeat refine ai ?_
   refine kc [se 8 x2] [.w 24 v] (k19 _ ?_)
   refine AWp.ret ?_
   cases hg; exact hQ _ _ (.inl rfl) rt
  ·refine AWp.skip ?_
   refine k5 _ ?_
   obtain ⟨⟨x20, x21⟩, h22, hg⟩ := bnd_some hg; try dsimp only at hg
   refine AWp.rS hV none [1, 2, 3, 4, 9, 10, 11] fun K k23 => ?_
   simp [sp10, h22]; repeat refine ai ?_
   refine kd [se 1 l, se 2 n, se 3 chosen, (4, .ptr 0 0), se 9 x2, se 10 x20, se 11 x21] [.w 24 v] (by first | rfl | (simp [sp10, h22] <;> grind)) (k23 _ ?_)
   obtain ⟨⟨x24, x25⟩, h26, hg⟩ := bnd_some hg; try dsimp only at hg
   refine AWp.rS hV none [1, 2, 3, 4, 9, 10, 11, 12, 13] fun K k27 => ?_
   simp [sp11, h26]; repeat refine ai ?_
   refine kd [se 1 l, se 2 n, se 3 chosen, (4, .ptr 0 0), se 9 x2, se 10 x20, se 11 x21, se 12 x24, se 13 x25] [.w 24 v] (by first | rfl | (simp [sp11, h26] <;> grind)) (k27 _ ?_)
   obtain ⟨y30u9, hx31, hg⟩ := bnd_some hg
   unfold lawMatches_r2 at hx31
   refine AWp.seqJ (fun s' => Sub s' ⟨[se 1 l, se 2 n, se 3 chosen, (4, .ptr 0 0), se 9 y30u9], [.w 24 v]⟩) (fun _ k32 => ?_) ?_
   ·rcases ifb_o hx31 with ⟨c33, hx31⟩ | ⟨c33, hx31⟩
    ·obtain ⟨x28, h29, hx31⟩ := bnd_some hx31
     rcases ifb_o hx31 with ⟨c34, hx31⟩ | ⟨c34, hx31⟩
     ·refine AWp.regF hV (some []) [1, 2, 3, 4, 9] fun K k35 => ?_
      simp [sp12, c33, h29, c34]; repeat refine ai ?_
      cases hx31; exact k35 _ (k32 _ (Sub.rm [0]))
     ·refine AWp.regF hV (some [48, 49, 50]) [1, 2, 3, 4, 9] fun K k36 => ?_
      simp [sp12, c33, h29, c34]; repeat refine ai ?_
      cases hx31; exact k36 _ (k32 _ (Sub.rm [0]))
    ·refine AWp.regF hV (some [43, 44, 45, 48, 49, 50]) [1, 2, 3, 4, 9] fun K k37 => ?_
     simp [sp12, c33]; repeat refine ai ?_
     cases hx31; exact k37 _ (k32 _ (Sub.rm [0]))
   ·intro s' hs
    refine AWp.sub hs ?_
    clear hs s'
    obtain ⟨⟨x38, x39⟩, h40, hg⟩ := bnd_some hg; try dsimp only at hg
    refine AWp.rS hV none [1, 2, 3, 4, 9, 10, 11] fun K k41 => ?_
    simp [sp13, h40]; repeat refine ai ?_
    refine kd [se 1 l, se 2 n, se 3 chosen, (4, .ptr 0 0), se 9 y30u9, se 10 x38, se 11 x39] [.w 24 v] (by first | rfl | (simp [sp13, h40] <;> grind)) (k41 _ ?_)
    obtain ⟨⟨x42, x43⟩, h44, hg⟩ := bnd_some hg; try dsimp only at hg
    refine AWp.rS hV none [1, 2, 3, 4, 9, 10, 11, 12, 13] fun K k45 => ?_
    simp [sp14, h44]; repeat refine ai ?_
    refine kd [se 1 l, se 2 n, se 3 chosen, (4, .ptr 0 0), se 9 y30u9, se 10 x38, se 11 x39, se 12 x42, se 13 x43] [.w 24 v] (by first | rfl | (simp [sp14, h44] <;> grind)) (k45 _ ?_)
    obtain ⟨y48u9, hx49, hg⟩ := bnd_some hg
    unfold lawMatches_r3 at hx49
    refine AWp.seqJ (fun s' => Sub s' ⟨[se 1 l, se 2 n, se 3 chosen, (4, .ptr 0 0), se 9 y48u9], [.w 24 v]⟩) (fun _ k50 => ?_) ?_
    ·rcases ifb_o hx49 with ⟨c51, hx49⟩ | ⟨c51, hx49⟩
     ·obtain ⟨x46, h47, hx49⟩ := bnd_some hx49
      rcases ifb_o hx49 with ⟨c52, hx49⟩ | ⟨c52, hx49⟩
      ·refine AWp.regF hV (some []) [1, 2, 3, 4, 9] fun K k53 => ?_
       simp [sp12, c51, h47, c52]; repeat refine ai ?_
       cases hx49; exact k53 _ (k50 _ (Sub.rm [0]))
      ·refine AWp.regF hV (some [71, 72, 73]) [1, 2, 3, 4, 9] fun K k54 => ?_
       simp [sp12, c51, h47, c52]; repeat refine ai ?_
       cases hx49; exact k54 _ (k50 _ (Sub.rm [0]))
     ·refine AWp.regF hV (some [66, 67, 68, 71, 72, 73]) [1, 2, 3, 4, 9] fun K k55 => ?_
      simp [sp12, c51]; repeat refine ai ?_
      cases hx49; exact k55 _ (k50 _ (Sub.rm [0]))
    ·intro s' hs
     refine AWp.sub hs ?_
     clear hs s'
     obtain ⟨⟨x56, x57⟩, h58, hg⟩ := bnd_some hg; try dsimp only at hg
     refine AWp.rS hV none [1, 2, 3, 4, 9, 11, 14] fun K k59 => ?_
     simp [sp15, h58]; repeat refine ai ?_
     refine kd [se 1 l, se 2 n, se 3 chosen, (4, .ptr 0 0), se 9 y48u9, se 11 x57, (14, .ptr 1 0)] [.w 24 v, .w 24 x56] (by first | rfl | (simp [sp15, h58] <;> grind)) (k59 _ ?_)
     obtain ⟨⟨x60, x61⟩, h62, hg⟩ := bnd_some hg; try dsimp only at hg
     refine AWp.rS hV none [1, 3, 4, 9, 11, 13, 14, 15] fun K k63 => ?_
     simp [sp16, h62]; repeat refine ai ?_
     refine kd [se 1 l, se 3 chosen, (4, .ptr 0 0), se 9 y48u9, se 11 x57, se 13 x61, (14, .ptr 1 0), (15, .ptr 2 0)] [.w 24 v, .w 24 x56, .w 24 x60] (by first | rfl | (simp [sp16, h62] <;> grind)) (k63 _ ?_)
     obtain ⟨y66u9, hx67, hg⟩ := bnd_some hg
     unfold lawMatches_r4 at hx67
     refine AWp.seqJ (fun s' => Sub s' ⟨[se 1 l, se 3 chosen, (4, .ptr 0 0), se 9 y66u9, (14, .ptr 1 0), (15, .ptr 2 0)], [.w 24 v, .w 24 x56, .w 24 x60]⟩) (fun _ k68 => ?_) ?_
     ·rcases ifb_o hx67 with ⟨c69, hx67⟩ | ⟨c69, hx67⟩
      ·obtain ⟨x64, h65, hx67⟩ := bnd_some hx67
       rcases ifb_o hx67 with ⟨c70, hx67⟩ | ⟨c70, hx67⟩
       ·refine AWp.regF hV (some []) [1, 3, 4, 9, 14, 15] fun K k71 => ?_
        simp [sp17, c69, h65, c70]; repeat refine ai ?_
        cases hx67; exact k71 _ (k68 _ (Sub.rm [0, 1, 2]))
       ·refine AWp.regF hV (some [94, 95, 96]) [1, 3, 4, 9, 14, 15] fun K k72 => ?_
        simp [sp17, c69, h65, c70]; repeat refine ai ?_
        cases hx67; exact k72 _ (k68 _ (Sub.rm [0, 1, 2]))
      ·refine AWp.regF hV (some [89, 90, 91, 94, 95, 96]) [1, 3, 4, 9, 14, 15] fun K k73 => ?_
       simp [sp17, c69]; repeat refine ai ?_
       cases hx67; exact k73 _ (k68 _ (Sub.rm [0, 1, 2]))
     ·intro s' hs
      refine AWp.sub hs ?_
      clear hs s'
      obtain ⟨⟨x74, x75⟩, h76, hg⟩ := bnd_some hg; try dsimp only at hg
      refine AWp.rS hV none [1, 3, 4, 9, 11, 14, 15] fun K k77 => ?_
      simp [sp18, h76]; repeat refine ai ?_
      refine kd [se 1 l, se 3 chosen, (4, .ptr 0 0), se 9 y66u9, se 11 x75, (14, .ptr 1 0), (15, .ptr 2 0)] [.w 24 v, .w 24 x74, .w 24 x60] (by first | rfl | (simp [sp18, h76] <;> grind)) (k77 _ ?_)
      obtain ⟨⟨x78, x79⟩, h80, hg⟩ := bnd_some hg; try dsimp only at hg
      refine AWp.rS hV none [1, 9, 11, 13, 14, 15] fun K k81 => ?_
      simp [sp19, h80]; repeat refine ai ?_
      refine kd [se 1 l, se 9 y66u9, se 11 x75, se 13 x79, (14, .ptr 1 0), (15, .ptr 2 0)] [.w 24 v, .w 24 x74, .w 24 x78] (by first | rfl | (simp [sp19, h80] <;> grind)) (k81 _ ?_)
      obtain ⟨y84u9, hx85, hg⟩ := bnd_some hg
      unfold lawMatches_r5 at hx85
      refine AWp.seqJ (fun s' => Sub s' ⟨[se 1 l, se 9 y84u9, (14, .ptr 0 0), (15, .ptr 1 0)], [.w 24 x74, .w 24 x78]⟩) (fun _ k86 => ?_) ?_
      ·rcases ifb_o hx85 with ⟨c87, hx85⟩ | ⟨c87, hx85⟩
       ·obtain ⟨x82, h83, hx85⟩ := bnd_some hx85
        rcases ifb_o hx85 with ⟨c88, hx85⟩ | ⟨c88, hx85⟩
        ·refine AWp.regF hV (some []) [1, 9, 14, 15] fun K k89 => ?_
         simp [sp17, c87, h83, c88]; repeat refine ai ?_
         cases hx85; exact k89 _ (k86 _ (Sub.rm [1, 2]))
        ·refine AWp.regF hV (some [117, 118, 119]) [1, 9, 14, 15] fun K k90 => ?_
         simp [sp17, c87, h83, c88]; repeat refine ai ?_
         cases hx85; exact k90 _ (k86 _ (Sub.rm [1, 2]))
       ·refine AWp.regF hV (some [112, 113, 114, 117, 118, 119]) [1, 9, 14, 15] fun K k91 => ?_
        simp [sp17, c87]; repeat refine ai ?_
        cases hx85; exact k91 _ (k86 _ (Sub.rm [1, 2]))
      ·intro s' hs
       refine AWp.sub hs ?_
       clear hs s'
       obtain ⟨⟨x92, x93⟩, h94, hg⟩ := bnd_some hg; try dsimp only at hg
       refine AWp.rS hV none [1, 9, 11, 14, 15] fun K k95 => ?_
       simp [sp20, h94]; repeat refine ai ?_
       refine kd [se 1 l, se 9 y84u9, se 11 x93, (14, .ptr 0 0), (15, .ptr 1 0)] [.w 24 x92, .w 24 x78] (by first | rfl | (simp [sp20, h94] <;> grind)) (k95 _ ?_)
       obtain ⟨⟨x96, x97⟩, h98, hg⟩ := bnd_some hg; try dsimp only at hg
       refine AWp.rS hV none [9, 11, 13, 14, 15] fun K k99 => ?_
       simp [sp21, h98]; repeat refine ai ?_
       refine kd [se 9 y84u9, se 11 x93, se 13 x97, (14, .ptr 0 0), (15, .ptr 1 0)] [.w 24 x92, .w 24 x96] (by first | rfl | (simp [sp21, h98] <;> grind)) (k99 _ ?_)
       obtain ⟨y102u8, hx103, hg⟩ := bnd_some hg
       unfold lawMatches_r6 at hx103
       refine AWp.seqJ (fun s' => Sub s' ⟨[se 8 y102u8], []⟩) (fun _ k104 => ?_) ?_
       ·rcases ifb_o hx103 with ⟨c105, hx103⟩ | ⟨c105, hx103⟩
        ·obtain ⟨x100, h101, hx103⟩ := bnd_some hx103
         rcases ifb_o hx103 with ⟨c106, hx103⟩ | ⟨c106, hx103⟩
         ·refine AWp.regF hV (some []) [8] fun K k107 => ?_
          simp [sp17, c105, h101, c106]; repeat refine ai ?_
          cases hx103; exact k107 _ (k104 _ (Sub.rm []))
         ·refine AWp.regF hV (some [138, 139, 140]) [8] fun K k108 => ?_
          simp [sp17, c105, h101, c106]; repeat refine ai ?_
          cases hx103; exact k108 _ (k104 _ (Sub.rm []))
        ·refine AWp.regF hV (some [133, 134, 135, 138, 139, 140]) [8] fun K k109 => ?_
         simp [sp17, c105]; repeat refine ai ?_
         cases hx103; exact k109 _ (k104 _ (Sub.rm []))
       ·intro s' hs
        refine AWp.sub hs ?_
        clear hs s'
        refine AWp.ret ?_
        cases hg; exact hQ _ _ (.inl rfl) rt
end
end Go.Proofs.YtjfkfkjkbgiciaaGreatDoor
