/-
  The evaluator, the printed walks and the plain laws, part 8 of 8.
-/
import Derived.Test.YtjfkfkjkbgiciaaDoorX7
set_option linter.all false
set_option linter.unnecessarySimpa false
set_option linter.deprecated false
set_option linter.unusedVariables false
set_option linter.unusedSimpArgs false
set_option linter.unusedSectionVars false
namespace Go.Proofs.YtjfkfkjkbgiciaaDoor
open Go Go.Eva Enc
set_option maxRecDepth 4000
attribute [local instance] rndX
attribute [local congr] AWp.congrS
attribute [local simp] evalSeq opRes guardPc evalOp evT Eva.get startT strip putT Eva.after constT typed obAll holds dstOk R.ok R.bad ofD binD unD pickT subL subP Op.operands Call.operands toD toD1 argsD argsD1 callD callT typedAll cfind quietT quietT1 spec0 spec1 spec2 spec3 enc_int enc_bool enc_str enc_fn enc_list dec_int dec_bool dec_str dec_fn dec_list size_int size_str map_dec_enc map_dec_comp cellsT D.cells T.oneT D.one mkT dataT zeroT unD1 setAt loadAs loadEl storeAs fieldP fieldV sizeE intOfT indexP appendT lenT sliceT elemSize arith lfsOk lfOk isAggD mkD fillT placeS TD.agg env restr List.map keyIdx mapTy lookT mapPutT mapDelT mapOf indexS convT evalPure range1 range2 range3 range4 range5 range6 range7 range8 enc_intk size_intk dec_intk eta_intk keysInt_nil keyIdx_E keysInt_E isE_iff put_E del_E get_E getok_E mkeys_E mkeys_E' mkeys_enc specO0 specO1 specO2 specO3 specO4 opD skips gone unbox cloT subO clearT makeT enc_bx dec_bx size_bx selS cloIs List.contains_cons List.contains_nil elAt_zero enc_Rat dec_Rat size_Rat eta_Rat beqL_Rat beqR_Rat enc_Pitch dec_Pitch size_Pitch eta_Pitch beqL_Pitch beqR_Pitch enc_Written dec_Written size_Written eta_Written beqL_Written beqR_Written enc_Measure dec_Measure size_Measure eta_Measure enc_View dec_View size_View eta_View enc_Fraction dec_Fraction size_Fraction eta_Fraction beqL_Fraction beqR_Fraction dat0 len_natTab eqT4 eqT34 eqT36 eqT38 eqT114 te1 te2 te3 te4 te5 te6 te7 te8 te9 te10 te11 te12 te13 te14 te15 te16 te17 te18 te19 te21 te22 te23 te24 te25 te26 te27 te28 te30 te31 te32 te33 te34 te35 te36 te37 te38 te39 te40 te41 te42 te43 te45 te46 te47 te48 te49 te50 te51 te52 te53 te55 te56 te57 te58 te59 te60 te61 te62 te63 te64 te65 te66 te67 te68 te69 te70 te71 te72 te73 te74 te75 te76 te77 te79 te80 te81 te82 te83 te84 te85 te86 te87 te88 te89 te90 te91 te92 te93 te94 te95 te96 te97 te98 te99 te100 te101 te102 te104 te105 te106 te108 te109 te110 te111 te112 te113 te114 te115 te116 te117 te118 te119 te120 te121 te122 te123 te124 te125 te126 te127 te128 te129 te130 te131 te133 te134 te135 te136 te137 te138 te139 te140 te141 te142 te143 te144 te145 te146 te147 te148 te149 te150
section
attribute [local simp] enc_C36 dec_C36 size_C36 eta_C36 enc_C39 dec_C39 size_C39 eta_C39 enc_C28 dec_C28 size_C28 eta_C28 enc_C52_28 dec_C52_28 size_C52_28 eta_C52_28 enc_C29 dec_C29 size_C29 eta_C29 enc_C55_29 dec_C55_29 size_C55_29 eta_C55_29 enc_C33 dec_C33 size_C33 eta_C33 enc_C34 dec_C34 size_C34 eta_C34 enc_C56 dec_C56 size_C56 eta_C56 enc_C30 dec_C30 size_C30 eta_C30 enc_C52_30 dec_C52_30 size_C52_30 eta_C52_30 enc_C55_34 dec_C55_34 size_C55_34 eta_C55_34 enc_C17 dec_C17 size_C17 eta_C17 enc_C19 dec_C19 size_C19 eta_C19 envD fDel cloneR delR Low AO.lows T.lows T.low1 AO.isFrame
set_option maxHeartbeats 4000000 in
theorem ok4 : SpecOk Tryd.prog 4 sp4 := by
 have hV : VOk Tryd.prog (env [(8, sp8), (9, sp9), (10, sp10), (11, sp11), (12, sp12), (6, sp6), (13, sp13), (14, sp14), (7, sp7)]) := env_ok ⟨ok8, ok9, ok10, ok11, ok12, ok6, ok13, ok14, ok7, trivial⟩
 refine SpecOk.ofO0 (Enters.of Tryd.func4 (by decide)) fun rr hr => ?_
 obtain ⟨r, hg, rfl⟩ := mpj hr; clear hr
 refine PureCon.ofN hV Tryd.func4 rfl Tryd.ntmps4 fun R hR w0 I0 Q hQ => ?_
 unfold headP at hg
 refine AWp.rS hV none [] fun K k1 => ?_
 simp; repeat refine ai ?_
 refine kc [] [] (k1 _ ?_)
 obtain ⟨x2, h3, hg⟩ := bnd_some hg
 have h3g := h3; try simp at h3g
 obtain ⟨x4, h5, hg⟩ := bnd_some hg
 have h5g := h5; try simp at h5g
 obtain ⟨x6, h7, hg⟩ := bnd_some hg
 have h7g := h7; try simp at h7g
 obtain ⟨x8, h9, hg⟩ := bnd_some hg
 have h9g := h9; try simp at h9g
 obtain ⟨x10, h11, hg⟩ := bnd_some hg
 have h11g := h11; try simp at h11g
 refine AWp.rS hV none [1] fun K k12 => ?_
 simp [sp8, h3, h3g, h5, h5g, h7, h7g, h9, h9g, h11, h11g]; repeat refine ai ?_
 refine kd [(1, .ptr 0 0)] [.w 27 ((⟨1, [(⟨1, 0, (⟨0, 0⟩ : Rat), [x2, x4, x6]⟩ : Measure), (⟨2, 0, (⟨0, 0⟩ : Rat), [x8, x10]⟩ : Measure)]⟩ : View) : View)] (by first | rfl | (simp [sp8, h3, h3g, h5, h5g, h7, h7g, h9, h9g, h11, h11g] <;> grind)) (k12 _ ?_)
 obtain ⟨⟨x13, x14⟩, h15, hg⟩ := bnd_some hg; try dsimp only at hg
 have h15g := h15; try simp at h15g
 refine AWp.rS hV none [1, 2, 3] fun K k16 => ?_
 simp [sp9, h15, h15g]; repeat refine ai ?_
 refine kd [(1, .ptr 0 0), se 2 x13, se 3 x14] [.w 27 ((⟨1, [(⟨1, 0, (⟨0, 0⟩ : Rat), [x2, x4, x6]⟩ : Measure), (⟨2, 0, (⟨0, 0⟩ : Rat), [x8, x10]⟩ : Measure)]⟩ : View) : View)] (by first | rfl | (simp [sp9, h15, h15g] <;> grind)) (k16 _ ?_)
 obtain ⟨⟨x17, x18⟩, h19, hg⟩ := bnd_some hg; try dsimp only at hg
 have h19g := h19; try simp at h19g
 refine AWp.rS hV none [1, 2, 3, 4, 5] fun K k20 => ?_
 simp [sp10, h19, h19g]; repeat refine ai ?_
 refine kd [(1, .ptr 0 0), se 2 x13, se 3 x14, se 4 x17, se 5 x18] [.w 27 ((⟨1, [(⟨1, 0, (⟨0, 0⟩ : Rat), [x2, x4, x6]⟩ : Measure), (⟨2, 0, (⟨0, 0⟩ : Rat), [x8, x10]⟩ : Measure)]⟩ : View) : View)] (by first | rfl | (simp [sp10, h19, h19g] <;> grind)) (k20 _ ?_)
 obtain ⟨⟨x21, x22⟩, h23, hg⟩ := bnd_some hg; try dsimp only at hg
 have h23g := h23; try simp at h23g
 refine AWp.rS hV none [1, 2, 3, 4, 5, 7] fun K k24 => ?_
 simp [sp10, h23, h23g]; repeat refine ai ?_
 refine kd [(1, .ptr 0 0), se 2 x13, se 3 x14, se 4 x17, se 5 x18, se 7 x22] [.w 27 ((⟨1, [(⟨1, 0, (⟨0, 0⟩ : Rat), [x2, x4, x6]⟩ : Measure), (⟨2, 0, (⟨0, 0⟩ : Rat), [x8, x10]⟩ : Measure)]⟩ : View) : View)] (by first | rfl | (simp [sp10, h23, h23g] <;> grind)) (k24 _ ?_)
 obtain ⟨⟨x25, x26⟩, h27, hg⟩ := bnd_some hg; try dsimp only at hg
 have h27g := h27; try simp at h27g
 refine AWp.rS hV none [1, 2, 3, 4, 5, 7, 8, 9] fun K k28 => ?_
 simp [sp11, h27, h27g]; repeat refine ai ?_
 refine kd [(1, .ptr 0 0), se 2 x13, se 3 x14, se 4 x17, se 5 x18, se 7 x22, (8, .ptr 1 0), se 9 x26] [.w 27 ((⟨1, [(⟨1, 0, (⟨0, 0⟩ : Rat), [x2, x4, x6]⟩ : Measure), (⟨2, 0, (⟨0, 0⟩ : Rat), [x8, x10]⟩ : Measure)]⟩ : View) : View), .w 27 x25] (by first | rfl | (simp [sp11, h27, h27g] <;> grind)) (k28 _ ?_)
 obtain ⟨⟨x29, x30⟩, h31, hg⟩ := bnd_some hg; try dsimp only at hg
 have h31g := h31; try simp at h31g
 refine AWp.rS hV none [1, 2, 3, 4, 5, 7, 8, 9, 10, 11] fun K k32 => ?_
 simp [sp12, h31, h31g]; repeat refine ai ?_
 refine kd [(1, .ptr 0 0), se 2 x13, se 3 x14, se 4 x17, se 5 x18, se 7 x22, (8, .ptr 1 0), se 9 x26, (10, .ptr 2 0), se 11 x30] [.w 27 ((⟨1, [(⟨1, 0, (⟨0, 0⟩ : Rat), [x2, x4, x6]⟩ : Measure), (⟨2, 0, (⟨0, 0⟩ : Rat), [x8, x10]⟩ : Measure)]⟩ : View) : View), .w 27 x25, .w 27 x29] (by first | rfl | (simp [sp12, h31, h31g] <;> grind)) (k32 _ ?_)
 obtain ⟨⟨x33, x34⟩, h35, hg⟩ := bnd_some hg; try dsimp only at hg
 have h35g := h35; try simp at h35g
 refine AWp.rS hV none [1, 2, 3, 4, 5, 7, 8, 9, 10, 11, 12, 13] fun K k36 => ?_
 simp [sp12, h35, h35g]; repeat refine ai ?_
 refine kd [(1, .ptr 0 0), se 2 x13, se 3 x14, se 4 x17, se 5 x18, se 7 x22, (8, .ptr 1 0), se 9 x26, (10, .ptr 2 0), se 11 x30, (12, .ptr 3 0), se 13 x34] [.w 27 ((⟨1, [(⟨1, 0, (⟨0, 0⟩ : Rat), [x2, x4, x6]⟩ : Measure), (⟨2, 0, (⟨0, 0⟩ : Rat), [x8, x10]⟩ : Measure)]⟩ : View) : View), .w 27 x25, .w 27 x29, .w 27 x33] (by first | rfl | (simp [sp12, h35, h35g] <;> grind)) (k36 _ ?_)
 obtain ⟨⟨x37, x38⟩, h39, hg⟩ := bnd_some hg; try dsimp only at hg
 have h39g := h39; try simp at h39g
 refine AWp.rS hV none [1, 2, 3, 4, 5, 7, 8, 9, 10, 11, 12, 13, 14, 15] fun K k40 => ?_
 simp [sp11, h39, h39g]; repeat refine ai ?_
 refine kd [(1, .ptr 0 0), se 2 x13, se 3 x14, se 4 x17, se 5 x18, se 7 x22, (8, .ptr 1 0), se 9 x26, (10, .ptr 2 0), se 11 x30, (12, .ptr 3 0), se 13 x34, (14, .ptr 4 0), se 15 x38] [.w 27 ((⟨1, [(⟨1, 0, (⟨0, 0⟩ : Rat), [x2, x4, x6]⟩ : Measure), (⟨2, 0, (⟨0, 0⟩ : Rat), [x8, x10]⟩ : Measure)]⟩ : View) : View), .w 27 x25, .w 27 x29, .w 27 x33, .w 27 x37] (by first | rfl | (simp [sp11, h39, h39g] <;> grind)) (k40 _ ?_)
 obtain ⟨⟨x41, x42⟩, h43, hg⟩ := bnd_some hg; try dsimp only at hg
 have h43g := h43; try simp at h43g
 refine AWp.rS hV none [1, 2, 3, 4, 5, 7, 8, 9, 10, 11, 12, 13, 15, 16, 17] fun K k44 => ?_
 simp [sp6, h43, h43g]; repeat refine ai ?_
 refine kd [(1, .ptr 0 0), se 2 x13, se 3 x14, se 4 x17, se 5 x18, se 7 x22, (8, .ptr 1 0), se 9 x26, (10, .ptr 2 0), se 11 x30, (12, .ptr 3 0), se 13 x34, se 15 x38, (16, .ptr 5 0), se 17 x42] [.w 27 ((⟨1, [(⟨1, 0, (⟨0, 0⟩ : Rat), [x2, x4, x6]⟩ : Measure), (⟨2, 0, (⟨0, 0⟩ : Rat), [x8, x10]⟩ : Measure)]⟩ : View) : View), .w 27 x25, .w 27 x29, .w 27 x33, .w 27 x37, .w 27 x41] (by first | rfl | (simp [sp6, h43, h43g] <;> grind)) (k44 _ ?_)
 obtain ⟨⟨x45, x46⟩, h47, hg⟩ := bnd_some hg; try dsimp only at hg
 have h47g := h47; try simp at h47g
 refine AWp.rS hV none [1, 2, 3, 4, 5, 7, 8, 9, 10, 11, 12, 13, 15, 16, 17, 19] fun K k48 => ?_
 simp [sp6, h47, h47g]; repeat refine ai ?_
 refine kd [(1, .ptr 0 0), se 2 x13, se 3 x14, se 4 x17, se 5 x18, se 7 x22, (8, .ptr 1 0), se 9 x26, (10, .ptr 2 0), se 11 x30, (12, .ptr 3 0), se 13 x34, se 15 x38, (16, .ptr 5 0), se 17 x42, se 19 x46] [.w 27 ((⟨1, [(⟨1, 0, (⟨0, 0⟩ : Rat), [x2, x4, x6]⟩ : Measure), (⟨2, 0, (⟨0, 0⟩ : Rat), [x8, x10]⟩ : Measure)]⟩ : View) : View), .w 27 x25, .w 27 x29, .w 27 x33, .w 27 x37, .w 27 x41, .w 27 x45] (by first | rfl | (simp [sp6, h47, h47g] <;> grind)) (k48 _ ?_)
 obtain ⟨⟨x49, x50⟩, h51, hg⟩ := bnd_some hg; try dsimp only at hg
 have h51g := h51; try simp at h51g
 refine AWp.rS hV none [1, 2, 3, 4, 5, 7, 8, 9, 10, 11, 12, 13, 15, 16, 17, 19, 21] fun K k52 => ?_
 simp [sp12, h51, h51g]; repeat refine ai ?_
 refine kd [(1, .ptr 0 0), se 2 x13, se 3 x14, se 4 x17, se 5 x18, se 7 x22, (8, .ptr 1 0), se 9 x26, (10, .ptr 2 0), se 11 x30, (12, .ptr 3 0), se 13 x34, se 15 x38, (16, .ptr 5 0), se 17 x42, se 19 x46, se 21 x50] [.w 27 ((⟨1, [(⟨1, 0, (⟨0, 0⟩ : Rat), [x2, x4, x6]⟩ : Measure), (⟨2, 0, (⟨0, 0⟩ : Rat), [x8, x10]⟩ : Measure)]⟩ : View) : View), .w 27 x25, .w 27 x29, .w 27 x33, .w 27 x37, .w 27 x41, .w 27 x45, .w 27 x49] (by first | rfl | (simp [sp12, h51, h51g] <;> grind)) (k52 _ ?_)
 obtain ⟨y53u22, hx54, hg⟩ := bnd_some hg
 unfold headP_r1 at hx54
 refine AWp.seqJ (fun s' => Sub s' ⟨[(1, .ptr 0 0), se 2 x13, se 4 x17, (8, .ptr 1 0), (10, .ptr 2 0), (12, .ptr 3 0), (16, .ptr 4 0), se 22 y53u22], [.w 27 ((⟨1, [(⟨1, 0, (⟨0, 0⟩ : Rat), [x2, x4, x6]⟩ : Measure), (⟨2, 0, (⟨0, 0⟩ : Rat), [x8, x10]⟩ : Measure)]⟩ : View) : View), .w 27 x25, .w 27 x29, .w 27 x33, .w 27 x41]⟩) (fun _ k55 => ?_) ?_
 ·rcases ifb_o hx54 with ⟨c56, hx54⟩ | ⟨c56, hx54⟩
  ·have c56g := c56; try simp at c56g
   rcases ifb_o hx54 with ⟨c57, hx54⟩ | ⟨c57, hx54⟩
   ·have c57g := c57; try simp at c57g
    rcases ifb_o hx54 with ⟨c58, hx54⟩ | ⟨c58, hx54⟩
    ·have c58g := c58; try simp at c58g
     rcases ifb_o hx54 with ⟨c59, hx54⟩ | ⟨c59, hx54⟩
     ·have c59g := c59; try simp at c59g
      rcases ifb_o hx54 with ⟨c60, hx54⟩ | ⟨c60, hx54⟩
      ·have c60g := c60; try simp at c60g
       rcases ifb_o hx54 with ⟨c61, hx54⟩ | ⟨c61, hx54⟩
       ·have c61g := c61; try simp at c61g
        rcases ifb_o hx54 with ⟨c62, hx54⟩ | ⟨c62, hx54⟩
        ·have c62g := c62; try simp at c62g
         rcases ifb_o hx54 with ⟨c63, hx54⟩ | ⟨c63, hx54⟩
         ·have c63g := c63; try simp at c63g
          rcases ifb_o hx54 with ⟨c64, hx54⟩ | ⟨c64, hx54⟩
          ·have c64g := c64; try simp at c64g
           refine AWp.regF hV (some []) [1, 2, 4, 8, 10, 12, 16, 22] fun K k65 => ?_
           simp [c56, c56g, c57, c57g, c58, c58g, c59, c59g, c60, c60g, c61, c61g, c62, c62g, c63, c63g, c64, c64g]; repeat refine ai ?_
           cases hx54; exact k65 _ (k55 _ (Sub.rm [0, 1, 2, 3, 5]))
          ·have c64g := c64; try simp at c64g
           refine AWp.regF hV (some [122, 123]) [1, 2, 4, 8, 10, 12, 16, 22] fun K k66 => ?_
           simp [c56, c56g, c57, c57g, c58, c58g, c59, c59g, c60, c60g, c61, c61g, c62, c62g, c63, c63g, c64, c64g]; repeat refine ai ?_
           cases hx54; exact k66 _ (k55 _ (Sub.rm [0, 1, 2, 3, 5]))
         ·have c63g := c63; try simp at c63g
          refine AWp.regF hV (some [118, 119, 122, 123]) [1, 2, 4, 8, 10, 12, 16, 22] fun K k67 => ?_
          simp [c56, c56g, c57, c57g, c58, c58g, c59, c59g, c60, c60g, c61, c61g, c62, c62g, c63, c63g]; repeat refine ai ?_
          cases hx54; exact k67 _ (k55 _ (Sub.rm [0, 1, 2, 3, 5]))
        ·have c62g := c62; try simp at c62g
         refine AWp.regF hV (some [114, 115, 118, 119, 122, 123]) [1, 2, 4, 8, 10, 12, 16, 22] fun K k68 => ?_
         simp [c56, c56g, c57, c57g, c58, c58g, c59, c59g, c60, c60g, c61, c61g, c62, c62g]; repeat refine ai ?_
         cases hx54; exact k68 _ (k55 _ (Sub.rm [0, 1, 2, 3, 5]))
       ·have c61g := c61; try simp at c61g
        refine AWp.regF hV (some [110, 111, 114, 115, 118, 119, 122, 123]) [1, 2, 4, 8, 10, 12, 16, 22] fun K k69 => ?_
        simp [c56, c56g, c57, c57g, c58, c58g, c59, c59g, c60, c60g, c61, c61g]; repeat refine ai ?_
        cases hx54; exact k69 _ (k55 _ (Sub.rm [0, 1, 2, 3, 5]))
      ·have c60g := c60; try simp at c60g
       refine AWp.regF hV (some [106, 107, 110, 111, 114, 115, 118, 119, 122, 123]) [1, 2, 4, 8, 10, 12, 16, 22] fun K k70 => ?_
       simp [c56, c56g, c57, c57g, c58, c58g, c59, c59g, c60, c60g]; repeat refine ai ?_
       cases hx54; exact k70 _ (k55 _ (Sub.rm [0, 1, 2, 3, 5]))
     ·have c59g := c59; try simp at c59g
      refine AWp.regF hV (some [102, 103, 106, 107, 110, 111, 114, 115, 118, 119, 122, 123]) [1, 2, 4, 8, 10, 12, 16, 22] fun K k71 => ?_
      simp [c56, c56g, c57, c57g, c58, c58g, c59, c59g]; repeat refine ai ?_
      cases hx54; exact k71 _ (k55 _ (Sub.rm [0, 1, 2, 3, 5]))
    ·have c58g := c58; try simp at c58g
     refine AWp.regF hV (some [98, 99, 102, 103, 106, 107, 110, 111, 114, 115, 118, 119, 122, 123]) [1, 2, 4, 8, 10, 12, 16, 22] fun K k72 => ?_
     simp [c56, c56g, c57, c57g, c58, c58g]; repeat refine ai ?_
     cases hx54; exact k72 _ (k55 _ (Sub.rm [0, 1, 2, 3, 5]))
   ·have c57g := c57; try simp at c57g
    refine AWp.regF hV (some [94, 95, 98, 99, 102, 103, 106, 107, 110, 111, 114, 115, 118, 119, 122, 123]) [1, 2, 4, 8, 10, 12, 16, 22] fun K k73 => ?_
    simp [c56, c56g, c57, c57g]; repeat refine ai ?_
    cases hx54; exact k73 _ (k55 _ (Sub.rm [0, 1, 2, 3, 5]))
  ·have c56g := c56; try simp at c56g
   refine AWp.regF hV (some [90, 91, 94, 95, 98, 99, 102, 103, 106, 107, 110, 111, 114, 115, 118, 119, 122, 123]) [1, 2, 4, 8, 10, 12, 16, 22] fun K k74 => ?_
   simp [c56, c56g]; repeat refine ai ?_
   cases hx54; exact k74 _ (k55 _ (Sub.rm [0, 1, 2, 3, 5]))
 ·intro s' hs
  refine AWp.sub hs ?_
  clear hs s'
  refine AWp.seqG fun _ k75 => ?_
  obtain ⟨y76u144, hx77, hg⟩ := bnd_some hg
  unfold headP_r2 at hx77
  refine AWp.seqJ (fun s' => Sub s' ⟨[(1, .ptr 0 0), se 2 x13, se 4 x17, (8, .ptr 1 0), (10, .ptr 2 0), (12, .ptr 3 0), (16, .ptr 4 0), se 144 y76u144], [.w 27 ((⟨1, [(⟨1, 0, (⟨0, 0⟩ : Rat), [x2, x4, x6]⟩ : Measure), (⟨2, 0, (⟨0, 0⟩ : Rat), [x8, x10]⟩ : Measure)]⟩ : View) : View), .w 27 x25, .w 27 x29, .w 27 x33, .w 27 x41]⟩) (fun _ k78 => ?_) ?_
  ·rcases ifb_o hx77 with ⟨c79, hx77⟩ | ⟨c79, hx77⟩
   ·have c79g := c79; try simp at c79g
    refine AWp.regF hV (some [128, 129, 130, 131, 134, 135, 136, 137, 140, 141, 142, 143]) [1, 2, 4, 8, 10, 12, 16, 144] fun K k80 => ?_
    simp [c79, c79g]; repeat refine ai ?_
    cases hx77; exact k80 _ (k78 _ (Sub.rm [0, 1, 2, 3, 4]))
   ·have c79g := c79; try simp at c79g
    rcases ifb_o hx77 with ⟨c81, hx77⟩ | ⟨c81, hx77⟩
    ·have c81g := c81; try simp at c81g
     refine AWp.regF hV (some [134, 135, 136, 137, 140, 141, 142, 143]) [1, 2, 4, 8, 10, 12, 16, 144] fun K k82 => ?_
     simp [c79, c79g, c81, c81g]; repeat refine ai ?_
     cases hx77; exact k82 _ (k78 _ (Sub.rm [0, 1, 2, 3, 4]))
    ·have c81g := c81; try simp at c81g
     rcases ifb_o hx77 with ⟨c83, hx77⟩ | ⟨c83, hx77⟩
     ·have c83g := c83; try simp at c83g
      refine AWp.regF hV (some [140, 141, 142, 143]) [1, 2, 4, 8, 10, 12, 16, 144] fun K k84 => ?_
      simp [c79, c79g, c81, c81g, c83, c83g]; repeat refine ai ?_
      cases hx77; exact k84 _ (k78 _ (Sub.rm [0, 1, 2, 3, 4]))
     ·have c83g := c83; try simp at c83g
      refine AWp.regF hV (some []) [1, 2, 4, 8, 10, 12, 16, 144] fun K k85 => ?_
      simp [c79, c79g, c81, c81g, c83, c83g]; repeat refine ai ?_
      cases hx77; exact k85 _ (k78 _ (Sub.rm [0, 1, 2, 3, 4]))
  ·intro s' hs
   refine AWp.sub hs ?_
   clear hs s'
   refine AWp.cnd hg rfl ?_ ?_ <;> (clear hg; intro h86 hg)
   ·refine AWp.rS hV none [0] fun K k87 => ?_
    simp; repeat refine ai ?_
    refine kc [se 0 false] [.w 27 ((⟨1, [(⟨1, 0, (⟨0, 0⟩ : Rat), [x2, x4, x6]⟩ : Measure), (⟨2, 0, (⟨0, 0⟩ : Rat), [x8, x10]⟩ : Measure)]⟩ : View) : View), .w 27 x25, .w 27 x29, .w 27 x33, .w 27 x41] (k87 _ ?_)
    refine AWp.ret ?_
    cases hg; exact hQ _ _ (.inl rfl) rt
   ·refine AWp.skip ?_
    refine k75 _ ?_
    obtain ⟨y100u22, hx101, hg⟩ := bnd_some hg
    unfold headP_r3 at hx101
    refine AWp.seqJ (fun s' => Sub s' ⟨[(1, .ptr 0 0), (10, .ptr 1 0), (12, .ptr 2 0), (16, .ptr 3 0), se 22 y100u22], [.w 27 ((⟨1, [(⟨1, 0, (⟨0, 0⟩ : Rat), [x2, x4, x6]⟩ : Measure), (⟨2, 0, (⟨0, 0⟩ : Rat), [x8, x10]⟩ : Measure)]⟩ : View) : View), .w 27 x29, .w 27 x33, .w 27 x41]⟩) (fun _ k102 => ?_) ?_
    ·obtain ⟨x88, h89, hx101⟩ := bnd_some hx101
     have h89g := h89; try simp at h89g
     rcases ifb_o hx101 with ⟨c103, hx101⟩ | ⟨c103, hx101⟩
     ·obtain ⟨x90, h91, hx101⟩ := bnd_some hx101
      have h91g := h91; try simp at h91g
      rcases ifb_o hx101 with ⟨c104, hx101⟩ | ⟨c104, hx101⟩
      ·obtain ⟨x92, h93, hx101⟩ := bnd_some hx101
       obtain ⟨h93a, h93b, h93f⟩ := at_e h93; have h93g := h93f; try simp at h93g
       obtain ⟨x94, h95, hx101⟩ := bnd_some hx101
       have h95g := h95; try simp at h95g
       obtain ⟨x96, h97, hx101⟩ := bnd_some hx101
       have h97g := h97; try simp at h97g
       obtain ⟨x98, h99, hx101⟩ := bnd_some hx101
       have h99g := h99; try simp at h99g
       refine AWp.regDFF hV mixed (some []) 17 [] [1, 10, 12, 16, 22] (by decide) fun K k105 => ?_
       simp [sp13, sp8, sp14, h89, h89g, c103, h91, h91g, c104, h93f, h93g, h95, h95g, h97, h97g, h99, h99g]; repeat refine ai ?_
       cases hx101; exact k105 _ (k102 _ (Sub.rm [0, 2, 3, 4]))
      ·refine AWp.regDFF hV mixed (some [154, 155, 156, 157, 158, 159, 160, 161, 162]) 17 [] [1, 10, 12, 16, 22] (by decide) fun K k106 => ?_
       simp [sp13, sp8, sp14, h89, h89g, c103, h91, h91g, c104]; repeat refine ai ?_
       cases hx101; exact k106 _ (k102 _ (Sub.rm [0, 2, 3, 4]))
     ·refine AWp.regDFF hV mixed (some [149, 150, 151, 154, 155, 156, 157, 158, 159, 160, 161, 162]) 17 [] [1, 10, 12, 16, 22] (by decide) fun K k107 => ?_
      simp [sp13, sp8, sp14, h89, h89g, c103]; repeat refine ai ?_
      cases hx101; exact k107 _ (k102 _ (Sub.rm [0, 2, 3, 4]))
    ·intro s' hs
     refine AWp.sub hs ?_
     clear hs s'
     obtain ⟨y122u0, hx123, hg⟩ := bnd_some hg
     unfold headP_r4 at hx123
     refine AWp.seqJ (fun s' => Sub s' ⟨[se 0 y122u0], []⟩) (fun _ k124 => ?_) ?_
     ·rcases ifb_o hx123 with ⟨c125, hx123⟩ | ⟨c125, hx123⟩
      ·obtain ⟨x108, h109, hx123⟩ := bnd_some hx123
       obtain ⟨h109a, h109b, h109f⟩ := at_e h109; have h109g := h109f; try simp at h109g
       obtain ⟨x110, h111, hx123⟩ := bnd_some hx123
       have h111g := h111; try simp at h111g
       obtain ⟨x112, h113, hx123⟩ := bnd_some hx123
       have h113g := h113; try simp at h113g
       rcases ifb_o hx123 with ⟨c126, hx123⟩ | ⟨c126, hx123⟩
       ·obtain ⟨x114, h115, hx123⟩ := bnd_some hx123
        obtain ⟨h115a, h115b, h115f⟩ := at_e h115; have h115g := h115f; try simp at h115g
        obtain ⟨x116, h117, hx123⟩ := bnd_some hx123
        have h117g := h117; try simp at h117g
        obtain ⟨x118, h119, hx123⟩ := bnd_some hx123
        have h119g := h119; try simp at h119g
        rcases ifb_o hx123 with ⟨c127, hx123⟩ | ⟨c127, hx123⟩
        ·obtain ⟨x120, h121, hx123⟩ := bnd_some hx123
         have h121g := h121; try simp at h121g
         refine AWp.regDFF hV mixed (some []) 24 [] [0] (by decide) fun K k128 => ?_
         simp [sp8, sp14, sp7, c125, h109f, h109g, h111, h111g, h113, h113g, c126, h115f, h115g, h117, h117g, h119, h119g, c127, h121, h121g]; repeat refine ai ?_
         cases hx123; exact k128 _ (k124 _ (Sub.rm []))
        ·refine AWp.regDFF hV mixed (some [186, 187, 188]) 24 [] [0] (by decide) fun K k129 => ?_
         simp [sp8, sp14, sp7, c125, h109f, h109g, h111, h111g, h113, h113g, c126, h115f, h115g, h117, h117g, h119, h119g, c127]; repeat refine ai ?_
         cases hx123; exact k129 _ (k124 _ (Sub.rm []))
       ·refine AWp.regDFF hV mixed (some [176, 177, 178, 179, 180, 181, 182, 183, 186, 187, 188]) 24 [] [0] (by decide) fun K k130 => ?_
        simp [sp8, sp14, sp7, c125, h109f, h109g, h111, h111g, h113, h113g, c126]; repeat refine ai ?_
        cases hx123; exact k130 _ (k124 _ (Sub.rm []))
      ·refine AWp.regDFF hV mixed (some [166, 167, 168, 169, 170, 171, 172, 173, 176, 177, 178, 179, 180, 181, 182, 183, 186, 187, 188]) 24 [] [0] (by decide) fun K k131 => ?_
       simp [sp8, sp14, sp7, c125]; repeat refine ai ?_
       cases hx123; exact k131 _ (k124 _ (Sub.rm []))
     ·intro s' hs
      refine AWp.sub hs ?_
      clear hs s'
      refine AWp.ret ?_
      cases hg; exact hQ _ _ (.inl rfl) rt
end
end Go.Proofs.YtjfkfkjkbgiciaaDoor
namespace Go.Proofs.YtjfkfkjkbgiciaaDoor
open Go Go.Eva Enc
noncomputable def lawJoins_r1 (l : (List View)) : Option Bool :=
  (ifb (decide ((l.length : Int) = 0)) (some true) (bnd (fewL l) fun x6 =>
  some (!x6)))
noncomputable def lawJoins_j7 (z3u31 : Int) (y62u8 : (List View)) : Option (((List View) × Int) ⊕ (((List View)))) :=
  grd (inI (z3u31 + 1)) (some (.inl (y62u8, (z3u31 + 1))))
noncomputable def lawJoins_s6 (l : (List View)) : ((List View) × Int) → Option (((List View) × Int) ⊕ (((List View)))) := fun (z3u8, z3u31) =>
  ifb (decide (z3u31 < (l.length : Int))) (grd (inI ((l.length : Int) - 1)) (grd (inI (((l.length : Int) - 1) - z3u31)) (bnd (at? l (((l.length : Int) - 1) - z3u31)) fun x67 =>
  grd (((z3u8 ++ [x67]) : List View).length * 32 ≤ 140737488355328) (lawJoins_j7 z3u31 (z3u8 ++ [x67])))))
  (some (.inr z3u8))
noncomputable def lawJoins_r8 (x16 : View) (x17 : Int) (x75 : View) (x76 : Int) : Option Bool :=
  (ifb (!decide (x17 = x76)) (some true) (bnd (r14Same x16 x75) fun x80 =>
  some (!x80)))
noncomputable def lawJoins_r9 (x2 : Bool) (x16 : View) (x97 : View) (x98 : Int) : Option Bool :=
  (ifb x2 (ifb (decide (x98 = 0)) (bnd (r14Same x16 x97) fun x101 =>
  some x101) (some false)) (some false))
noncomputable def lawJoins_j2 (l : (List View)) (which : (IntK .u8)) (x2 : Bool) (x16 : View) (x17 : Int) (y21u8 : (List View)) : Option Bool :=
  bnd (pJoin y21u8) fun (x75, x76) =>
  bnd (lawJoins_r8 x16 x17 x75 x76) fun y82u59 =>
  ifb y82u59 (some false)
  (ifb (!decide (x17 = 0)) (some x2)
  (grd ((l.length : Int) ≠ 0) (bnd (at? l (Int.tmod (IntKind.wrap .i64 which.n) (l.length : Int))) fun x95 =>
  bnd (pJoin ([x16, x95])) fun (x97, x98) =>
  bnd (lawJoins_r9 x2 x16 x97 x98) fun y103u4 =>
  some y103u4)))
noncomputable def lawJoins (l : (List View)) (which : (IntK .u8)) : Option Bool :=
  bnd (headP) fun x2 =>
  bnd (lawJoins_r1 l) fun y8u22 =>
  ifb y8u22 (some x2)
  (bnd (pJoin l) fun (x16, x17) =>
  bnd (loopO (lawJoins_s6 l) ([], 0)) fun q74u8 =>
  lawJoins_j2 l which x2 x16 x17 q74u8)
end Go.Proofs.YtjfkfkjkbgiciaaDoor
namespace Go.Proofs.YtjfkfkjkbgiciaaDoor
open Go Go.Eva Enc
set_option maxRecDepth 4000
attribute [local instance] rndX
attribute [local congr] AWp.congrS
attribute [local simp] evalSeq opRes guardPc evalOp evT Eva.get startT strip putT Eva.after constT typed obAll holds dstOk R.ok R.bad ofD binD unD pickT subL subP Op.operands Call.operands toD toD1 argsD argsD1 callD callT typedAll cfind quietT quietT1 spec0 spec1 spec2 spec3 enc_int enc_bool enc_str enc_fn enc_list dec_int dec_bool dec_str dec_fn dec_list size_int size_str map_dec_enc map_dec_comp cellsT D.cells T.oneT D.one mkT dataT zeroT unD1 setAt loadAs loadEl storeAs fieldP fieldV sizeE intOfT indexP appendT lenT sliceT elemSize arith lfsOk lfOk isAggD mkD fillT placeS TD.agg env restr List.map keyIdx mapTy lookT mapPutT mapDelT mapOf indexS convT evalPure range1 range2 range3 range4 range5 range6 range7 range8 enc_intk size_intk dec_intk eta_intk keysInt_nil keyIdx_E keysInt_E isE_iff put_E del_E get_E getok_E mkeys_E mkeys_E' mkeys_enc specO0 specO1 specO2 specO3 specO4 opD skips gone unbox cloT subO clearT makeT enc_bx dec_bx size_bx selS cloIs List.contains_cons List.contains_nil elAt_zero enc_Rat dec_Rat size_Rat eta_Rat beqL_Rat beqR_Rat enc_Pitch dec_Pitch size_Pitch eta_Pitch beqL_Pitch beqR_Pitch enc_Written dec_Written size_Written eta_Written beqL_Written beqR_Written enc_Measure dec_Measure size_Measure eta_Measure enc_View dec_View size_View eta_View enc_Fraction dec_Fraction size_Fraction eta_Fraction beqL_Fraction beqR_Fraction dat0 len_natTab eqT4 eqT34 eqT36 eqT38 eqT114 te1 te2 te3 te4 te5 te6 te7 te8 te9 te10 te11 te12 te13 te14 te15 te16 te17 te18 te19 te21 te22 te23 te24 te25 te26 te27 te28 te30 te31 te32 te33 te34 te35 te36 te37 te38 te39 te40 te41 te42 te43 te45 te46 te47 te48 te49 te50 te51 te52 te53 te55 te56 te57 te58 te59 te60 te61 te62 te63 te64 te65 te66 te67 te68 te69 te70 te71 te72 te73 te74 te75 te76 te77 te79 te80 te81 te82 te83 te84 te85 te86 te87 te88 te89 te90 te91 te92 te93 te94 te95 te96 te97 te98 te99 te100 te101 te102 te104 te105 te106 te108 te109 te110 te111 te112 te113 te114 te115 te116 te117 te118 te119 te120 te121 te122 te123 te124 te125 te126 te127 te128 te129 te130 te131 te133 te134 te135 te136 te137 te138 te139 te140 te141 te142 te143 te144 te145 te146 te147 te148 te149 te150
section
attribute [local simp] enc_C36 dec_C36 size_C36 eta_C36 enc_C39 dec_C39 size_C39 eta_C39 enc_C28 dec_C28 size_C28 eta_C28 enc_C52_28 dec_C52_28 size_C52_28 eta_C52_28 enc_C29 dec_C29 size_C29 eta_C29 enc_C55_29 dec_C55_29 size_C55_29 eta_C55_29 enc_C33 dec_C33 size_C33 eta_C33 enc_C34 dec_C34 size_C34 eta_C34 enc_C56 dec_C56 size_C56 eta_C56 enc_C30 dec_C30 size_C30 eta_C30 enc_C52_30 dec_C52_30 size_C52_30 eta_C52_30 enc_C55_34 dec_C55_34 size_C55_34 eta_C55_34 enc_C17 dec_C17 size_C17 eta_C17 enc_C19 dec_C19 size_C19 eta_C19 envD fDel cloneR delR Low AO.lows T.lows T.low1 AO.isFrame
noncomputable def sp3 : Eva.Spec := specO2 fun (l : (List View)) (which : (IntK .u8)) => (lawJoins l which).map fun r => enc r
set_option maxHeartbeats 4000000 in
theorem ok3 : SpecOk Tryd.prog 3 sp3 := by
 have hV : VOk Tryd.prog (env [(4, sp4), (5, sp5), (6, sp6), (7, sp7)]) := env_ok ⟨ok4, ok5, ok6, ok7, trivial⟩
 refine SpecOk.ofO2 (Enters.of Tryd.func3 (by decide)) fun l which rr hr => ?_
 obtain ⟨r, hg, rfl⟩ := mpj hr; clear hr
 refine PureCon.ofN hV Tryd.func3 rfl Tryd.ntmps3 fun R hR w0 I0 Q hQ => ?_
 unfold lawJoins at hg
 refine AWp.rS hV none [0, 1] fun K k1 => ?_
 simp; repeat refine ai ?_
 refine kc [se 0 l, se 1 which] [] (k1 _ ?_)
 obtain ⟨x2, h3, hg⟩ := bnd_some hg
 refine AWp.rS hV none [0, 1, 5] fun K k4 => ?_
 simp [sp4, h3]; repeat refine ai ?_
 refine kd [se 0 l, se 1 which, se 5 x2] [] (by first | rfl | (simp [sp4, h3] <;> grind)) (k4 _ ?_)
 refine AWp.seqG fun _ k5 => ?_
 obtain ⟨y8u22, hx9, hg⟩ := bnd_some hg
 unfold lawJoins_r1 at hx9
 refine AWp.seqJ (fun s' => Sub s' ⟨[se 0 l, se 1 which, se 5 x2, se 22 y8u22], []⟩) (fun _ k10 => ?_) ?_
 ·rcases ifb_o hx9 with ⟨c11, hx9⟩ | ⟨c11, hx9⟩
  ·have c11g := c11; try simp at c11g
   refine AWp.regF hV (some [19, 20, 21]) [0, 1, 5, 22] fun K k12 => ?_
   simp [sp5, c11, c11g]; repeat refine ai ?_
   cases hx9; exact k12 _ (k10 _ (Sub.rm []))
  ·have c11g := c11; try simp at c11g
   obtain ⟨x6, h7, hx9⟩ := bnd_some hx9
   refine AWp.regF hV (some []) [0, 1, 5, 22] fun K k13 => ?_
   simp [sp5, c11, c11g, h7]; repeat refine ai ?_
   cases hx9; exact k13 _ (k10 _ (Sub.rm []))
 ·intro s' hs
  refine AWp.sub hs ?_
  clear hs s'
  refine AWp.cnd hg rfl ?_ ?_ <;> (clear hg; intro h14 hg)
  ·refine AWp.rS hV none [4] fun K k15 => ?_
   simp; repeat refine ai ?_
   refine kc [se 4 x2] [] (k15 _ ?_)
   refine AWp.ret ?_
   cases hg; exact hQ _ _ (.inl rfl) rt
  ·refine AWp.skip ?_
   refine k5 _ ?_
   obtain ⟨⟨x16, x17⟩, h18, hg⟩ := bnd_some hg; try dsimp only at hg
   refine AWp.rS hV none [0, 1, 5, 6, 7] fun K k19 => ?_
   simp [sp6, h18]; repeat refine ai ?_
   refine kd [se 0 l, se 1 which, se 5 x2, (6, .ptr 0 0), se 7 x17] [.w 27 x16] (by first | rfl | (simp [sp6, h18] <;> grind)) (k19 _ ?_)
   refine AWp.rS hV none [0, 1, 5, 6, 7, 8] fun K k20 => ?_
   simp; repeat refine ai ?_
   refine kc [se 0 l, se 1 which, se 5 x2, (6, .ptr 0 0), se 7 x17, (8, .nils 2)] [.w 27 x16] (k20 _ ?_)
   refine AWp.seqJ (fun s' => ∃ y21u8 : (List View), lawJoins_j2 l which x2 x16 x17 y21u8 = some r ∧ Sub s' ⟨[se 0 l, se 1 which, se 5 x2, (6, .ptr 0 0), se 7 x17, (8, .row 1)], [.w 27 x16, .ro 27 2 y21u8]⟩) (fun _ k22 => ?_) ?_
   ·refine AWp.rS hV none [0, 1, 5, 6, 7, 8, 30, 31] fun K k23 => ?_
    simp; repeat refine ai ?_
    refine kc [se 0 l, se 1 which, se 5 x2, (6, .ptr 0 0), se 7 x17, (8, .nils 2), se 30 ((l.length : Int) : Int), se 31 (0 : Int)] [.w 27 x16] (k23 _ ?_)
    refine AWp.block ?_
    obtain ⟨o53, hl54, hq55⟩ := bnd_some hg; clear hg
    refine AWp.loopO (fun ((z3u8, z3u31) : (List View) × Int) => ⟨[se 0 l, se 1 which, se 5 x2, (6, .ptr 0 0), se 7 x17, (8, .row 1), se 30 ((l.length : Int) : Int), se 31 z3u31], [.w 27 x16, .ro 27 2 z3u8]⟩) (lawJoins_s6 l) ([], 0) hl54 ?_ fun z56 w58 _ hg hx57 k24 => ?_
    ·exact Sub.trans (Sub.adopt 8 27 2 rfl) (Sub.rm [0, 1])
    obtain ⟨z3u8, z3u31⟩ := z56
    unfold lawJoins_s6 at hg; try dsimp only at hg
    show AWp _ _ _ _ _ ⟨[se 0 l, se 1 which, se 5 x2, (6, .ptr 0 0), se 7 x17, (8, .row 1), se 30 ((l.length : Int) : Int), se 31 z3u31], [.w 27 x16, .ro 27 2 z3u8]⟩ _
    refine AWp.rS hV none [0, 1, 5, 6, 7, 8, 30, 31, 32] fun K k59 => ?_
    simp; repeat refine ai ?_
    refine kc [se 0 l, se 1 which, se 5 x2, (6, .ptr 0 0), se 7 x17, (8, .row 1), se 30 ((l.length : Int) : Int), se 31 z3u31, se 32 (decide (z3u31 < (l.length : Int)))] [.w 27 x16, .ro 27 2 z3u8] (k59 _ ?_)
    refine AWp.seqG fun _ k60 => ?_
    refine AWp.cnd hg rfl ?_ ?_ <;> (clear hg; intro h61 hg)
    ·refine AWp.skip ?_
     refine k60 _ ?_
     refine AWp.seqJ (fun s' => ∃ y62u8 : (List View), lawJoins_j7 z3u31 y62u8 = some w58 ∧ Sub s' ⟨[se 0 l, se 1 which, se 5 x2, (6, .ptr 0 0), se 7 x17, (8, .row 1), se 30 ((l.length : Int) : Int), se 31 z3u31], [.w 27 x16, .ro 27 2 y62u8]⟩) (fun _ k63 => ?_) ?_
     ·refine AWp.block ?_
      refine AWp.rS hV none [0, 1, 5, 6, 7, 8, 9, 30, 31] fun K k64 => ?_
      simp; repeat refine ai ?_
      refine kc [se 0 l, se 1 which, se 5 x2, (6, .ptr 0 0), se 7 x17, (8, .row 1), se 9 z3u31, se 30 ((l.length : Int) : Int), se 31 z3u31] [.w 27 x16, .ro 27 2 z3u8] (k64 _ ?_)
      obtain ⟨g65, hg⟩ := grd_some hg
      unfold inI at g65
      obtain ⟨g66, hg⟩ := grd_some hg
      unfold inI at g66
      obtain ⟨x67, h68, hg⟩ := bnd_some hg
      obtain ⟨h68a, h68b, h68f⟩ := at_e h68; have h68g := h68f; try simp at h68g
      obtain ⟨g69, hg⟩ := grd_some hg
      refine AWp.regF hV none [0, 1, 5, 6, 7, 8, 30, 31] fun K k70 => ?_
      simp [h68f, h68g]; repeat refine ai ?_
      refine kd [se 0 l, se 1 which, se 5 x2, (6, .ptr 0 0), se 7 x17, (8, .row 2), se 30 ((l.length : Int) : Int), se 31 z3u31] [.w 27 x16, .dead, .ro 27 2 ((z3u8 ++ [x67]) : List View)] (by first | rfl | (simp [h68f, h68g] <;> grind)) (k70 _ ?_)
      exact k63 _ ⟨_, hg, Sub.rm [0, 2]⟩
     ·rintro s' ⟨y62u8, hg, hs⟩
      unfold lawJoins_j7 at hg
      refine AWp.sub hs ?_
      obtain ⟨g71, hg⟩ := grd_some hg
      unfold inI at g71
      refine AWp.regF hV none [0, 1, 5, 6, 7, 8, 30, 31] fun K k72 => ?_
      simp; repeat refine ai ?_
      refine kc [se 0 l, se 1 which, se 5 x2, (6, .ptr 0 0), se 7 x17, (8, .row 1), se 30 ((l.length : Int) : Int), se 31 ((z3u31 + 1) : Int)] [.w 27 x16, .ro 27 2 y62u8] (k72 _ ?_)
      exact k24 _ _ (oij hg).symm (Sub.rm [0, 1])
    ·refine AWp.exit ?_
     cases hx57 _ (oij hg).symm; have hg := hq55; try dsimp only at hg
     exact k22 _ ⟨_, hg, Sub.rm [0, 1]⟩
   ·rintro s' ⟨y21u8, hg, hs⟩
    unfold lawJoins_j2 at hg
    refine AWp.sub hs ?_
    obtain ⟨⟨x75, x76⟩, h77, hg⟩ := bnd_some hg; try dsimp only at hg
    refine AWp.rS hV none [0, 1, 5, 6, 7, 10, 11] fun K k78 => ?_
    simp [sp6, h77]; repeat refine ai ?_
    refine kd [se 0 l, se 1 which, se 5 x2, (6, .ptr 0 0), se 7 x17, (10, .ptr 2 0), se 11 x76] [.w 27 x16, .fro 27 2 y21u8, .w 27 x75] (by first | rfl | (simp [sp6, h77] <;> grind)) (k78 _ ?_)
    refine AWp.seqG fun _ k79 => ?_
    obtain ⟨y82u59, hx83, hg⟩ := bnd_some hg
    unfold lawJoins_r8 at hx83
    refine AWp.seqJ (fun s' => Sub s' ⟨[se 0 l, se 1 which, se 5 x2, (6, .ptr 0 0), se 7 x17, se 59 y82u59], [.w 27 x16]⟩) (fun _ k84 => ?_) ?_
    ·rcases ifb_o hx83 with ⟨c85, hx83⟩ | ⟨c85, hx83⟩
     ·have c85g := c85; try simp at c85g
      refine AWp.regF hV (some [55, 56, 57, 58]) [0, 1, 5, 6, 7, 59] fun K k86 => ?_
      simp [sp7, c85, c85g]; repeat refine ai ?_
      cases hx83; exact k86 _ (k84 _ (Sub.rm [0]))
     ·have c85g := nd_f c85
      obtain ⟨x80, h81, hx83⟩ := bnd_some hx83
      refine AWp.regF hV (some []) [0, 1, 5, 6, 7, 59] fun K k87 => ?_
      simp [sp7, c85, c85g, h81]; repeat refine ai ?_
      cases hx83; exact k87 _ (k84 _ (Sub.rm [0]))
    ·intro s' hs
     refine AWp.sub hs ?_
     clear hs s'
     refine AWp.cnd hg rfl ?_ ?_ <;> (clear hg; intro h88 hg)
     ·refine AWp.rS hV none [4] fun K k89 => ?_
      simp; repeat refine ai ?_
      refine kc [se 4 false] [.w 27 x16] (k89 _ ?_)
      refine AWp.ret ?_
      cases hg; exact hQ _ _ (.inl rfl) rt
     ·refine AWp.skip ?_
      refine k79 _ ?_
      refine AWp.seqG fun _ k90 => ?_
      refine AWp.rS hV none [0, 1, 5, 6, 61] fun K k91 => ?_
      simp; repeat refine ai ?_
      refine kc [se 0 l, se 1 which, se 5 x2, (6, .ptr 0 0), se 61 (!decide (x17 = 0))] [.w 27 x16] (k91 _ ?_)
      refine AWp.cnd hg rfl ?_ ?_ <;> (clear hg; intro h92 hg)
      ·refine AWp.rS hV none [4] fun K k93 => ?_
       simp; repeat refine ai ?_
       refine kc [se 4 x2] [.w 27 x16] (k93 _ ?_)
       refine AWp.ret ?_
       cases hg; exact hQ _ _ (.inl rfl) rt
      ·refine AWp.skip ?_
       refine k90 _ ?_
       obtain ⟨g94, hg⟩ := grd_some hg
       obtain ⟨x95, h96, hg⟩ := bnd_some hg
       obtain ⟨h96a, h96b, h96f⟩ := at_e h96; have h96g := h96f; try simp at h96g
       obtain ⟨⟨x97, x98⟩, h99, hg⟩ := bnd_some hg; try dsimp only at hg
       have h99g := h99; try simp at h99g
       refine AWp.rDF hV mixed none 15 [13] [5, 6, 12, 13] (by decide) fun K k100 => ?_
       simp [sp6, h96f, h96g, h99, h99g]; repeat refine ai ?_
       refine kd [se 5 x2, (6, .ptr 0 0), (12, .ptr 1 0), se 13 x98] [.w 27 x16, .w 27 x97] (by first | rfl | (simp [sp6, h96f, h96g, h99, h99g] <;> grind)) (k100 _ ?_)
       obtain ⟨y103u4, hx104, hg⟩ := bnd_some hg
       unfold lawJoins_r9 at hx104
       refine AWp.seqJ (fun s' => Sub s' ⟨[se 4 y103u4], []⟩) (fun _ k105 => ?_) ?_
       ·rcases ifb_o hx104 with ⟨c106, hx104⟩ | ⟨c106, hx104⟩
        ·rcases ifb_o hx104 with ⟨c107, hx104⟩ | ⟨c107, hx104⟩
         ·have c107g := c107; try simp at c107g
          obtain ⟨x101, h102, hx104⟩ := bnd_some hx104
          refine AWp.regF hV (some []) [4] fun K k108 => ?_
          simp [sp7, c106, c107, c107g, h102]; repeat refine ai ?_
          cases hx104; exact k108 _ (k105 _ (Sub.rm []))
         ·have c107g := c107; try simp at c107g
          refine AWp.regF hV (some [83, 84, 85]) [4] fun K k109 => ?_
          simp [sp7, c106, c107, c107g]; repeat refine ai ?_
          cases hx104; exact k109 _ (k105 _ (Sub.rm []))
        ·refine AWp.regF hV (some [79, 80, 83, 84, 85]) [4] fun K k110 => ?_
         simp [sp7, c106]; repeat refine ai ?_
         cases hx104; exact k110 _ (k105 _ (Sub.rm []))
       ·intro s' hs
        refine AWp.sub hs ?_
        clear hs s'
        refine AWp.ret ?_
        cases hg; exact hQ _ _ (.inl rfl) rt
end
end Go.Proofs.YtjfkfkjkbgiciaaDoor
namespace Go.Proofs.YtjfkfkjkbgiciaaDoor
open Go Go.Eva Enc
@[reducible] def onnPZPl2 : Onn := ⟨False⟩
attribute [local instance] rndX onnPZPl2
theorem loop_idx {α : Type} {step : Int → Option (Int ⊕ (Int ⊕ Unit))} {l : List α} (p : α → Bool)
    (h : ∀ (k : Nat) x, l[k]? = some x → step (k : Int) = some (if p x = true then .inr (.inl (k : Int)) else .inl ((k + 1 : Nat) : Int))) (hend : step (l.length : Int) = some (.inr (.inr ()))) :
    loopO step 0 = some (match l.findIdx? p with | some i => .inl (i : Int) | none => .inr ()) := by
  have := loop_fold (σ := Nat) (st := fun _ k => k) (step := step) (l := l) (fun z x => if p x = true then .inr (.inl (z : Int)) else .inl (z + 1)) (fun _ => .inr ()) (fun k z => z = k) (fun k x z hx hz => by
    subst hz; rw [h z x hx]; split <;> rename_i hp <;> simp [hp]) (fun k x z z' _ hz hf => by
    split at hf
    · cases hf
    · injection hf with hf; omega) (fun z _ => hend) 0 rfl
  rw [this]
  congr 1
  clear this h hend
  have key : ∀ (l : List α) (z : Nat), foldS (fun (z : Nat) x => if p x = true then .inr (.inl (z : Int)) else .inl (z + 1)) (fun _ => (.inr () : Int ⊕ Unit)) l z = match l.findIdx? p with | some i => .inl ((z + i : Nat) : Int) | none => .inr () := by
    intro l
    induction l with
    | nil => intro z; simp [foldS]
    | cons x l ih =>
      intro z
      simp only [foldS, List.findIdx?_cons]
      by_cases hp : p x = true
      · simp [hp]
      · simp only [hp, if_false, Bool.false_eq_true]
        rw [ih]
        cases l.findIdx? p <;> simp <;> omega
  simpa using key l 0
theorem idx_any {α : Type} (l : List α) (p : α → Bool) {r : Option Int} (h : r = match l.findIdx? p with | some i => some (i : Int) | none => some (-1)) : (bnd r fun x => some (decide (0 ≤ x))) = some (l.any p) := by
  subst h
  have : (l.findIdx? p).isSome = l.any p := List.findIdx?_isSome
  cases hf : l.findIdx? p with
  | none => rw [hf] at this; simp [bnd_pure, ← this]
  | some i => rw [hf] at this; simp [bnd_pure, ← this]
theorem noNote_eq (w : Written) : noNote w = some (!decide (noteOk w)) := by
  unfold noNote; rw [isNote_eq, bnd_pure]
theorem contN_eq {l : List Written} (hl : l.length ≤ 1048576) (f : C36) : contN l f = some (l.any fun w => !decide (noteOk w)) := by
  unfold contN
  refine idx_any l _ ?_
  unfold idxN
  rw [loop_idx (fun w => !decide (noteOk w)) (fun k x hx => by
    have hk := lt_of_get hx
    unfold idxN_s5 idxN_j6
    rw [ifb_t' (by simpa using hk), bnd_eq (at_eq hx), noNote_eq, bnd_pure]
    by_cases h : noteOk x
    · rw [ifb_f' (by simp [h]), grdI (by omega)]; simp [h]
    · rw [ifb_t' (by simp [h])]; simp [h]) (by unfold idxN_s5; rw [ifb_f' (by simp)]), bnd_pure]
  cases l.findIdx? _ <;> rfl
def notesOk (l : List Measure) : Prop := ∀ m ∈ l, ∀ w ∈ m.notes, noteOk w
instance (l : List Measure) : Decidable (notesOk l) := inferInstanceAs (Decidable (∀ m ∈ l, ∀ w ∈ m.notes, noteOk w))
def viewOk (v : View) : Prop := v.measures.length ≤ 4000 ∧ total v.measures ≤ 20000 ∧ notesOk v.measures
instance (v : View) : Decidable (viewOk v) := inferInstanceAs (Decidable (_ ∧ _ ∧ _))
theorem foldS_notes (l : List Measure) (z : Int) : foldS (fun (z : Int) (m : Measure) => if (m.notes.any fun w => !decide (noteOk w)) = true then (.inr (.inl false) : Int ⊕ (Bool ⊕ Int)) else .inl (z + (m.notes.length : Int))) (fun z => .inr z) l z = if notesOk l then .inr (z + total l) else .inl false := by
  induction l generalizing z with
  | nil => simp [foldS, notesOk, total]
  | cons m l ih =>
    simp only [foldS]
    by_cases hm : (m.notes.any fun w => !decide (noteOk w)) = true
    · have : ¬ notesOk (m :: l) := by
        intro h
        obtain ⟨w, hw, hn⟩ := List.any_eq_true.1 hm
        have := h m (by simp) w hw
        simp [this] at hn
      rw [if_pos hm, if_neg this]
    · have hm' : ∀ w ∈ m.notes, noteOk w := fun w hw => by
        refine Classical.byContradiction fun hn => hm (List.any_eq_true.2 ⟨w, hw, by simp [hn]⟩)
      rw [if_neg hm]
      simp only [ih, total_cons]
      have : notesOk (m :: l) ↔ notesOk l := by
        unfold notesOk; simp; exact fun _ => hm'
      by_cases hn : notesOk l
      · rw [if_pos hn, if_pos (this.2 hn)]; congr 1; omega
      · rw [if_neg hn, if_neg (fun h => hn (this.1 h))]
theorem isView_eq {v : View} (hv : Sm v) : isView v = some (decide (viewOk v)) := by
  unfold isView
  have := loop_fold (σ := Int) (st := fun z k => (z, k)) (step := isView_s5 v) (l := v.measures) (fun (z : Int) (m : Measure) => if (m.notes.any fun w => !decide (noteOk w)) = true then .inr (.inl false) else .inl (z + (m.notes.length : Int))) (fun z => .inr z) (fun k z => 0 ≤ z ∧ z ≤ k * 1048576) (fun k x z hx hi => by
      have hk := lt_of_get hx
      have hm := hv.2 x (List.mem_of_getElem? hx)
      have hl := hv.1
      unfold isView_s5 isView_j6
      dsimp only
      rw [ifb_t' (by simpa using hk), bnd_eq (at_eq hx), grdI (by omega), contN_eq hm, bnd_pure]
      by_cases h : (x.notes.any fun w => !decide (noteOk w)) = true
      · rw [ifb_t' h, if_pos h]
      · rw [ifb_f' (by simpa using h), if_neg h, grdI (by omega)]; rfl) (fun k x z z' hx hi hz => by
      have hm := hv.2 x (List.mem_of_getElem? hx)
      split at hz
      · cases hz
      · injection hz with hz; omega) (fun z hi => by
      unfold isView_s5
      dsimp only
      rw [ifb_f' (by simp)]) 0 ⟨by omega, by omega⟩
  rw [this, bnd_pure, foldS_notes]
  unfold viewOk
  by_cases hn : notesOk v.measures
  · rw [if_pos hn]
    simp only [isView_j1, isView_r7]
    by_cases h : v.measures.length ≤ 4000
    · rw [ifb_t' (by simp; omega), bnd_pure]; simp [h, hn]
    · rw [ifb_f' (by simp; omega), bnd_pure]; simp [h]
  · rw [if_neg hn]; simp [hn]
theorem r06gcd_eq (a b : Int) : r06gcd a b = some (pgcd a b) := by
  unfold r06gcd r06gcd_j1
  have key : ∀ (k : Nat) (a b : Int), b.natAbs ≤ k → loopO r06gcd_s3 (a, b) = some (pgcd a b) := by
    intro k
    induction k with
    | zero =>
      intro a b hb
      have : b = 0 := by omega
      subst this
      rw [pgcd_zero]
      exact loopO_inr (by unfold r06gcd_s3; dsimp only; rw [ifb_f' (by simp)])
    | succ k ih =>
      intro a b hb
      by_cases h : b = 0
      · subst h
        rw [pgcd_zero]
        exact loopO_inr (by unfold r06gcd_s3; dsimp only; rw [ifb_f' (by simp)])
      · rw [pgcd_step h, loopO_inl (show r06gcd_s3 (a, b) = some (.inl (b, a.tmod b)) by unfold r06gcd_s3; dsimp only; rw [ifb_t' (by simp [h]), grd_eq h])]
        refine ih b _ ?_
        have : (a.tmod b).natAbs < b.natAbs := by rw [Int.natAbs_tmod]; exact Nat.mod_lt _ (by omega)
        omega
  rw [key _ a b (Nat.le_refl _), bnd_pure]
theorem dvd_le {d : Int} (h1 : 1 ≤ d) (h2 : Int.tmod 1680 d = 0) : d ≤ 1680 := by
  have := Int.tmod_add_mul_tdiv 1680 d
  rw [h2] at this
  refine Classical.byContradiction fun h => ?_
  have hq : Int.tdiv 1680 d = 0 := Int.tdiv_eq_zero_of_lt (by omega) (by omega)
  rw [hq] at this; omega
theorem r06Ticks_eq (q : Rat) : r06Ticks q = some (if startOk q then q.n * Int.tdiv 1680 q.d else -1) := by
  unfold r06Ticks r06Ticks_r1
  by_cases h1 : q.d < 1
  · have : ¬ startOk q := fun h => by have := h.1.1; omega
    rw [ifb_t' (by simp [h1]), bnd_pure, ifb_t' rfl, if_neg this]
  have hd : q.d ≠ 0 := by omega
  rw [ifb_f' (by simp [h1]), grd_eq hd]
  by_cases h2 : Int.tmod 1680 q.d = 0
  · rw [ifb_f' (by simp [h2])]
    by_cases h3 : q.n < 0
    · have : ¬ startOk q := fun h => by have := h.2.1; omega
      rw [ifb_t' (by simp [h3]), bnd_pure, ifb_t' rfl, if_neg this]
    rw [ifb_f' (by simp [h3])]
    by_cases h4 : 1000000000 < q.n
    · have : ¬ startOk q := fun h => by have := h.1.2.2.2.1; omega
      rw [ifb_t' (by simp [h4]), bnd_pure, ifb_t' rfl, if_neg this]
    rw [ifb_f' (by simp [h4]), r06gcd_eq, pgcd_eq _ _ _ (Nat.le_refl _) (by omega) (by omega), bnd_pure, bnd_pure]
    have hdl := dvd_le (by omega) h2
    by_cases h5 : Int.gcd q.n q.d = 1
    · have : startOk q := ⟨⟨by omega, by omega, by omega, by omega, h5⟩, by omega, h2⟩
      obtain ⟨e1, e2⟩ := start_dk this
      have hk : 0 ≤ Int.tdiv 1680 q.d ∧ Int.tdiv 1680 q.d ≤ 1680 := by
        have b1 : 0 ≤ Int.tdiv 1680 q.d := Int.tdiv_nonneg (by omega) (by omega)
        have b2 : (Int.tdiv 1680 q.d).natAbs ≤ 1680 := by rw [Int.natAbs_tdiv]; exact Nat.div_le_self _ _
        omega
      have hp : 0 ≤ q.n * Int.tdiv 1680 q.d ∧ q.n * Int.tdiv 1680 q.d ≤ 1000000000 * 1680 := ⟨Int.mul_nonneg (by omega) hk.1, Int.mul_le_mul (by omega) hk.2 hk.1 (by omega)⟩
      rw [ifb_f' (by simp [h5]), grd_eq hd, grdI (by omega), grdI (by omega), if_pos this]
    · have : ¬ startOk q := fun h => h5 h.1.2.2.2.2
      rw [ifb_t' (by simp; omega), if_neg this]
  · have : ¬ startOk q := fun h => h2 h.2.2
    rw [ifb_t' (by simp [h2]), bnd_pure, ifb_t' rfl, if_neg this]
theorem r06Duration_eq (q : Rat) : r06Duration q = some (decide (startOk q)) := by
  unfold r06Duration
  rw [r06Ticks_eq, bnd_pure]
  congr 1
  by_cases h : startOk q
  · obtain ⟨e1, e2⟩ := start_dk h
    have b1 : 0 ≤ Int.tdiv 1680 q.d := Int.tdiv_nonneg (by omega) (by omega)
    have := Int.mul_nonneg h.2.1 b1
    simp [h, this]
  · simp [h]
theorem r02in_eq (n lo hi : Int) : r02in n lo hi = some (decide (lo ≤ n ∧ n ≤ hi)) := by
  unfold r02in r02in_r1
  simp only [ifb_eq, decide_eq_true_eq]
  by_cases h : lo ≤ n <;> simp [h, bnd_pure]
theorem r18in_eq (n lo hi : Int) : r18in n lo hi = some (decide (lo ≤ n ∧ n ≤ hi)) := by
  unfold r18in r18in_r1
  simp only [ifb_eq, decide_eq_true_eq]
  by_cases h : lo ≤ n <;> simp [h, bnd_pure]
theorem r02Valid_eq (p : Pitch) : r02Valid p = some (decide (pitchOk p)) := by
  unfold r02Valid r02Valid_r1 pitchOk
  simp only [r02in_eq, bnd_pure, ifb_eq, decide_eq_true_eq]
  by_cases h1 : 0 ≤ p.step ∧ p.step ≤ 6
  · by_cases h2 : -4 ≤ p.alter ∧ p.alter ≤ 4
    · simp [h1, h2, bnd_pure]
    · rw [if_pos h1, if_neg h2, bnd_pure]
      simp only [h1, h2, false_and, and_false, and_true, true_and, decide_false]
  · rw [if_neg h1, bnd_pure]
    simp only [h1, false_and, decide_false]
theorem r18note {m : Measure} {k : Nat} {w : Written} (h : m.notes[k]? = some w) : r18Valid_r30 m (k : Int) = some (!decide (noteOk w)) := by
  unfold r18Valid_r30
  rw [bnd_eq (at_eq h)]
  simp only [r18in_eq, r06Duration_eq, r02Valid_eq, bnd_pure, ifb_eq]
  unfold noteOk
  by_cases h1 : 0 ≤ w.voice ∧ w.voice ≤ 9
  · by_cases h2 : 0 ≤ w.ossia ∧ w.ossia ≤ 20
    · by_cases h3 : startOk w.start <;> simp [h1, h2, h3]
    · simp [h1, h2]
  · simp [h1]
theorem foldS_valid (l : List Measure) (z : Int) (hz : 0 ≤ z) : foldS (fun (z : Int) (m : Measure) => if 20000 < z + (m.notes.length : Int) then (.inr (.inl false) : Int ⊕ (Bool ⊕ Unit)) else if (m.notes.any fun w => !decide (noteOk w)) = true then .inr (.inl false) else .inl (z + (m.notes.length : Int))) (fun _ => .inr ()) l z = if (z + total l ≤ 20000 ∨ l = []) ∧ notesOk l then .inr () else .inl false := by
  induction l generalizing z with
  | nil => simp [foldS, notesOk]
  | cons m l ih =>
    have ht := total_nonneg l
    simp only [foldS, total_cons]
    by_cases h1 : 20000 < z + (m.notes.length : Int)
    · rw [if_pos h1, if_neg (fun h => by rcases h.1 with h | h; omega; cases h)]
    rw [if_neg h1]
    by_cases hm : (m.notes.any fun w => !decide (noteOk w)) = true
    · have : ¬ notesOk (m :: l) := by
        intro h
        obtain ⟨w, hw, hn⟩ := List.any_eq_true.1 hm
        have := h m (by simp) w hw
        simp [this] at hn
      rw [if_pos hm, if_neg (fun h => this h.2)]
    · have hm' : ∀ w ∈ m.notes, noteOk w := fun w hw => by
        refine Classical.byContradiction fun hn => hm (List.any_eq_true.2 ⟨w, hw, by simp [hn]⟩)
      rw [if_neg hm]
      simp only
      rw [ih _ (by omega)]
      have e1 : notesOk (m :: l) ↔ notesOk l := by
        unfold notesOk; simp; exact fun _ => hm'
      have e2 : (z + (m.notes.length : Int) + total l ≤ 20000 ∨ l = []) ↔ (z + ((m.notes.length : Int) + total l) ≤ 20000 ∨ m :: l = []) := by
        constructor
        · rintro (h | h)
          · left; omega
          · subst h; left; simp [total]; omega
        · rintro (h | h)
          · left; omega
          · cases h
      by_cases hc : (z + (m.notes.length : Int) + total l ≤ 20000 ∨ l = []) ∧ notesOk l
      · rw [if_pos hc, if_pos ⟨e2.1 hc.1, e1.2 hc.2⟩]
      · rw [if_neg hc, if_neg fun h => hc ⟨e2.2 h.1, e1.1 h.2⟩]
theorem r18Valid_eq {v : View} (hv : Sm v) : r18Valid v = some (decide (viewOk v)) := by
  unfold r18Valid
  by_cases h0 : v.measures.length ≤ 4000
  · rw [ifb_f' (by simp; omega)]
    have := loop_fold (σ := Int) (st := fun z k => (z, k)) (step := r18Valid_s21 v) (l := v.measures) (fun (z : Int) (m : Measure) => if 20000 < z + (m.notes.length : Int) then .inr (.inl false) else if (m.notes.any fun w => !decide (noteOk w)) = true then .inr (.inl false) else .inl (z + (m.notes.length : Int))) (fun _ => .inr ()) (fun k z => 0 ≤ z ∧ z ≤ k * 1048576) (fun k x z hx hi => by
        have hk := lt_of_get hx
        have hm := hv.2 x (List.mem_of_getElem? hx)
        unfold r18Valid_s21 r18Valid_j22
        dsimp only
        rw [ifb_t' (by simpa using hk), bnd_eq (at_eq hx), grdI (by omega)]
        by_cases h1 : 20000 < z + (x.notes.length : Int)
        · rw [ifb_t' (by simpa using h1), if_pos h1]
        · rw [ifb_f' (by simpa using h1), if_neg h1, loop_any (fun w => !decide (noteOk w)) false (fun j w hw => by
            have hj := lt_of_get hw
            unfold r18Valid_s28 r18Valid_j29
            rw [ifb_t' (by simpa using hj), r18note hw, bnd_pure]
            by_cases hn : noteOk w
            · rw [ifb_f' (by simp [hn]), grdI (by omega)]; simp [hn]
            · rw [ifb_t' (by simp [hn])]; simp [hn]) (by unfold r18Valid_s28; rw [ifb_f' (by simp)]), bnd_pure]
          by_cases h2 : (x.notes.any fun w => !decide (noteOk w)) = true
          · rw [if_pos h2, if_pos h2]
          · rw [if_neg h2, if_neg h2]
            dsimp only
            rw [grdI (by omega)]; rfl) (fun k x z z' hx hi hz => by
        have hm := hv.2 x (List.mem_of_getElem? hx)
        split at hz
        · cases hz
        · split at hz
          · cases hz
          · injection hz with hz; omega) (fun z hi => by
        unfold r18Valid_s21
        dsimp only
        rw [ifb_f' (by simp)]) 0 ⟨by omega, by omega⟩
    rw [this, bnd_pure, foldS_valid _ _ (Int.le_refl _)]
    have e : ((0 + total v.measures ≤ 20000 ∨ v.measures = []) ∧ notesOk v.measures) ↔ viewOk v := by
      unfold viewOk
      constructor
      · rintro ⟨h1 | h1, h2⟩
        · exact ⟨h0, by omega, h2⟩
        · exact ⟨h0, by rw [h1]; simp [total], h2⟩
      · rintro ⟨_, h1, h2⟩; exact ⟨.inl (by omega), h2⟩
    by_cases hc : viewOk v
    · rw [if_pos (e.2 hc)]; simp [hc, r18Valid_j1]
    · rw [if_neg fun h => hc (e.1 h)]; simp [hc]
  · rw [ifb_t' (by simp; omega)]
    have : ¬ viewOk v := fun h => h0 h.1
    simp [this]
end Go.Proofs.YtjfkfkjkbgiciaaDoor
namespace Go.Proofs.YtjfkfkjkbgiciaaDoor
open Go Go.Eva Enc
@[reducible] def onnPZPl3 : Onn := ⟨False⟩
attribute [local instance] rndX onnPZPl3
theorem foldl_app {α β : Type} (g : α → β) (l : List α) (acc : List β) : l.foldl (fun acc x => acc ++ [g x]) acc = acc ++ l.map g := by
  induction l generalizing acc with
  | nil => simp
  | cons x l ih => rw [List.foldl_cons, ih]; simp
theorem foldl_filt {α : Type} (p : α → Bool) (l : List α) (acc : List α) : l.foldl (fun acc x => if p x = true then acc ++ [x] else acc) acc = acc ++ l.filter p := by
  induction l generalizing acc with
  | nil => simp
  | cons x l ih =>
    rw [List.foldl_cons, ih, List.filter_cons]
    by_cases h : p x = true <;> simp [h]
theorem loop_map {α β ρ : Type} {step : List β × Int → Option ((List β × Int) ⊕ ρ)} {l : List α} (g : α → β) (fin : List β → ρ)
    (h : ∀ (k : Nat) x z, l[k]? = some x → z.length = k → step (z, (k : Int)) = some (.inl (z ++ [g x], ((k + 1 : Nat) : Int)))) (hend : ∀ z, step (z, (l.length : Int)) = some (.inr (fin z))) :
    loopO step ([], 0) = some (fin (l.map g)) := by
  have := loop_fold (σ := List β) (st := fun z k => (z, k)) (step := step) (l := l) (fun z x => .inl (z ++ [g x])) fin (fun k z => z.length = k) (fun k x z hx hz => h k x z hx hz) (fun k x z z' _ hz hf => by
    injection hf with hf; subst hf; simp [hz]) (fun z _ => hend z) [] rfl
  rw [this, foldS_inl (fun (z : List β) (x : α) => z ++ [g x]) _ _ (fun _ _ _ => rfl), foldl_app]; simp
theorem loop_filter {α ρ : Type} {step : List α × Int → Option ((List α × Int) ⊕ ρ)} {l : List α} (p : α → Bool) (fin : List α → ρ)
    (h : ∀ (k : Nat) x z, l[k]? = some x → z.length ≤ k → step (z, (k : Int)) = some (.inl (if p x = true then z ++ [x] else z, ((k + 1 : Nat) : Int)))) (hend : ∀ z, step (z, (l.length : Int)) = some (.inr (fin z))) :
    loopO step ([], 0) = some (fin (l.filter p)) := by
  have := loop_fold (σ := List α) (st := fun z k => (z, k)) (step := step) (l := l) (fun z x => .inl (if p x = true then z ++ [x] else z)) fin (fun k z => z.length ≤ k) (fun k x z hx hz => h k x z hx hz) (fun k x z z' _ hz hf => by
    injection hf with hf; subst hf
    by_cases hp : p x = true
    · rw [if_pos hp]; simp; omega
    · rw [if_neg hp]; omega) (fun z _ => hend z) [] (Nat.le_refl _)
  rw [this, foldS_inl (fun (z : List α) (x : α) => if p x = true then z ++ [x] else z) _ _ (fun _ _ _ => rfl), foldl_filt]; simp
theorem delO_eq {α : Type} {p : α → Option Bool} {b : α → Bool} {xs : List α} (h : ∀ x ∈ xs, p x = some (b x)) : delO p xs = some (xs.filter fun x => !b x) := by
  unfold delO
  rw [if_pos (List.all_eq_true.2 fun x hx => by rw [h x hx]; rfl)]
  congr 1
  exact List.filter_congr fun x hx => by rw [h x hx]; rfl
def cutM (p : Written → Bool) (m : Measure) : Measure := ⟨m.bar, m.key, m.length, m.notes.filter p⟩
def deskP (n : Int) (w : Written) : Bool := decide (w.voice = 0) || decide (w.voice = n)
def deskV (n : Int) (v : View) : View := ⟨v.part, v.measures.map (cutM (deskP n))⟩
theorem desk11_eq (w : Written) (n : Bx Int) : desk11 w n = some (deskP n.v w) := by
  unfold desk11 desk11_r1 deskP
  by_cases h : w.voice = 0
  · rw [ifb_t' (by simp [h]), bnd_pure]; simp [h]
  · rw [ifb_f' (by simp [h]), bnd_pure]; simp [h]
theorem kept1D_eq {m : Measure} (hm : m.notes.length ≤ 1048576) (n : Int) : kept1D m ⟨⟨⟨n⟩⟩⟩ = some (cutM (deskP n) m) := by
  unfold kept1D desk1
  rw [bnd_pure, grd_eq (by omega), grd_eq (by omega)]
  rw [delO_eq (b := fun w => !(deskP n w)) (fun x _ => by unfold keepD; rw [desk11_eq, bnd_pure]), bnd_pure]
  unfold cutM
  simp
theorem keptD_eq {v : View} (hv : Sm v) (n : Int) : keptD v ⟨⟨n⟩⟩ = some (deskV n v) := by
  unfold keptD eachD
  have hl := hv.1
  rw [loop_map (l := v.measures) (cutM (deskP n)) (fun z => z) (fun k x z hx hz => by
    have hk := lt_of_get hx
    unfold eachD_s5 eachD_j6
    dsimp only
    rw [ifb_t' (by simpa using hk), bnd_eq (at_eq hx), kept1D_eq (hv.2 x (List.mem_of_getElem? hx)), bnd_pure, grd_eq (by simp [hz]; omega), grdI (by omega)]
    rfl) (fun z => by unfold eachD_s5; dsimp only; rw [ifb_f' (by simp)])]
  rfl
theorem pDesk_eq {v : View} (hv : Sm v) (n : Int) : pDesk v n = some (if viewOk v ∧ 0 ≤ n ∧ n ≤ 9 then (deskV n v, 0) else (⟨0, []⟩, 1)) := by
  unfold pDesk pDesk_r1
  rw [isView_eq hv, bnd_pure]
  by_cases h1 : viewOk v
  · rw [ifb_f' (by simp [h1])]
    by_cases h2 : n < 0
    · rw [ifb_t' (by simp [h2]), bnd_pure, ifb_t' rfl, if_neg (by omega)]
    · rw [ifb_f' (by simp [h2]), bnd_pure]
      by_cases h3 : 9 < n
      · rw [ifb_t' (by simp [h3]), if_neg (by omega)]
      · rw [ifb_f' (by simp [h3]), keptD_eq hv, bnd_pure, if_pos ⟨h1, by omega, by omega⟩]
  · rw [ifb_t' (by simp [h1]), bnd_pure, ifb_t' rfl, if_neg (fun h => h1 h.1)]
theorem r18Desk_eq {v : View} (hv : Sm v) (n : Int) : r18Desk v n = some (if viewOk v ∧ 0 ≤ n ∧ n ≤ 9 then (deskV n v, 0) else (⟨0, []⟩, 1)) := by
  unfold r18Desk r18Desk_r1
  have hl := hv.1
  rw [r18Valid_eq hv, bnd_pure]
  by_cases h1 : viewOk v
  · rw [ifb_f' (by simp [h1]), r18in_eq, bnd_pure, bnd_pure]
    by_cases h2 : 0 ≤ n ∧ n ≤ 9
    · rw [ifb_f' (by simp [h2]), if_pos ⟨h1, h2⟩, loop_map (l := v.measures) (cutM (deskP n)) (fun z => z) (fun k x z hx hz => by
        have hk := lt_of_get hx
        have hm := hv.2 x (List.mem_of_getElem? hx)
        unfold r18Desk_s24 r18Desk_j26 r18Desk_j25
        dsimp only
        rw [ifb_t' (by simpa using hk), bnd_eq (at_eq hx), loop_filter (l := x.notes) (deskP n) (fun z => z) (fun j w y hw hy => by
          have hj := lt_of_get hw
          unfold r18Desk_s32 r18Desk_r34 r18Desk_j33
          dsimp only
          rw [ifb_t' (by simpa using hj), bnd_eq (at_eq hw)]
          have e : ifb (decide (w.voice = 0)) (some true) (some (decide (w.voice = n))) = some (deskP n w) := by
            unfold deskP
            by_cases h : w.voice = 0
            · rw [ifb_t' (by simp [h])]; simp [h]
            · rw [ifb_f' (by simp [h])]; simp [h]
          rw [e, bnd_pure]
          by_cases hp : deskP n w = true
          · rw [ifb_t' hp, bnd_eq (at_eq hw), grd_eq (by simp; omega), grdI (by omega), if_pos hp]; rfl
          · rw [ifb_f' (by simpa using hp), grdI (by omega), if_neg hp]; rfl) (fun y => by unfold r18Desk_s32; dsimp only; rw [ifb_f' (by simp)]), bnd_pure, grd_eq (by simp [hz]; omega), grdI (by omega)]
        rfl) (fun z => by unfold r18Desk_s24; dsimp only; rw [ifb_f' (by simp)])]
      rfl
    · rw [ifb_t' (by simp; omega), if_neg (fun h => h2 h.2)]
  · rw [ifb_t' (by simp [h1]), bnd_pure, ifb_t' rfl, if_neg (fun h => h1 h.1)]
end Go.Proofs.YtjfkfkjkbgiciaaDoor
namespace Go.Proofs.YtjfkfkjkbgiciaaDoor
open Go Go.Eva Enc
@[reducible] def onnPZMap : Onn := ⟨False⟩
attribute [local instance] rndX onnPZMap
section
variable {α : Type}
theorem midx_cons (n : Int) (p : Int × α) (m : List (Int × α)) : midx n (p :: m) = if n = p.1 then some 0 else (midx n m).map (· + 1) := by
  unfold midx
  rw [List.findIdx?_cons]
  by_cases h : n = p.1 <;> simp [h]
theorem mput_nil (n : Int) (v : α) : mput [] n v = [(n, v)] := rfl
theorem mput_cons (n : Int) (v : α) (p : Int × α) (m : List (Int × α)) : mput (p :: m) n v = if n = p.1 then (n, v) :: m else p :: mput m n v := by
  unfold mput
  rw [midx_cons]
  by_cases h : n = p.1
  · rw [if_pos h, if_pos h]; rfl
  · rw [if_neg h, if_neg h]
    cases midx n m <;> simp
theorem mdel_nil (n : Int) : mdel ([] : List (Int × α)) n = [] := rfl
theorem mdel_cons (n : Int) (p : Int × α) (m : List (Int × α)) : mdel (p :: m) n = if n = p.1 then m else p :: mdel m n := by
  unfold mdel
  rw [midx_cons]
  by_cases h : n = p.1
  · rw [if_pos h, if_pos h]; rfl
  · rw [if_neg h, if_neg h]
    cases midx n m <;> simp
theorem mgetD_cons (n : Int) (z : α) (p : Int × α) (m : List (Int × α)) : mgetD (p :: m) n z = if n = p.1 then p.2 else mgetD m n z := by
  unfold mgetD
  rw [midx_cons]
  by_cases h : n = p.1
  · rw [if_pos h, if_pos h]; rfl
  · rw [if_neg h, if_neg h]
    cases midx n m <;> simp
theorem mem_mput (n : Int) (v : α) : ∀ (m : List (Int × α)) (hn : (mkeys m).Nodup) (k : Int) (u : α), (k, u) ∈ mput m n v ↔ (k = n ∧ u = v) ∨ (k ≠ n ∧ (k, u) ∈ m)
  | [], _, k, u => by simp [mput_nil]
  | (a, b) :: m, hn, k, u => by
    simp only [mkeys, List.map_cons, List.nodup_cons] at hn
    have ih := mem_mput n v m hn.2 k u
    have hb : ∀ u, (a, u) ∈ m → False := fun u hu => hn.1 (List.mem_map.2 ⟨_, hu, rfl⟩)
    rw [mput_cons]
    by_cases h : n = a
    · subst h
      simp only [if_true, List.mem_cons, Prod.mk.injEq]
      constructor
      · rintro (h1 | h1)
        · exact .inl h1
        · exact .inr ⟨fun e => hb u (e ▸ h1), .inr h1⟩
      · rintro (h1 | ⟨h1, h2 | h2⟩)
        · exact .inl h1
        · exact absurd h2.1 h1
        · exact .inr h2
    · simp only [if_neg h, List.mem_cons, Prod.mk.injEq, ih]
      constructor
      · rintro (h1 | h1 | h1)
        · exact .inr ⟨by rw [h1.1]; exact Ne.symm h, .inl h1⟩
        · exact .inl h1
        · exact .inr ⟨h1.1, .inr h1.2⟩
      · rintro (h1 | ⟨h1, h2 | h2⟩)
        · exact .inr (.inl h1)
        · exact .inl h2
        · exact .inr (.inr ⟨h1, h2⟩)
theorem keys_mput (n : Int) (v : α) : ∀ (m : List (Int × α)), (mkeys m).Nodup → (mkeys (mput m n v)).Nodup ∧ ∀ k, k ∈ mkeys (mput m n v) ↔ k = n ∨ k ∈ mkeys m
  | [], _ => by simp [mput_nil, mkeys]
  | (a, b) :: m, hn => by
    have hn' := hn
    simp only [mkeys, List.map_cons, List.nodup_cons] at hn
    obtain ⟨h1, h2⟩ := keys_mput n v m hn.2
    rw [mput_cons]
    by_cases h : n = a
    · subst h
      simp only [if_true]
      refine ⟨by simpa [mkeys] using hn', fun k => by simp [mkeys]⟩
    · simp only [if_neg h]
      refine ⟨?_, fun k => ?_⟩
      · simp only [mkeys, List.map_cons, List.nodup_cons]
        refine ⟨fun hm => ?_, h1⟩
        rcases (h2 a).1 hm with h3 | h3
        · exact h h3.symm
        · exact hn.1 h3
      · simp only [mkeys, List.map_cons, List.mem_cons]
        have := h2 k
        simp only [mkeys] at this
        rw [this]
        constructor
        · rintro (h3 | h3 | h3)
          · exact .inr (.inl h3)
          · exact .inl h3
          · exact .inr (.inr h3)
        · rintro (h3 | h3 | h3)
          · exact .inr (.inl h3)
          · exact .inl h3
          · exact .inr (.inr h3)
theorem mdel_sub (n : Int) : ∀ (m : List (Int × α)), (mdel m n).Sublist m
  | [] => by simp [mdel_nil]
  | p :: m => by
    rw [mdel_cons]
    split
    · exact List.sublist_cons_self _ _
    · exact (mdel_sub n m).cons_cons p
theorem mem_mdel (n : Int) : ∀ (m : List (Int × α)) (hn : (mkeys m).Nodup) (k : Int) (u : α), (k, u) ∈ mdel m n ↔ k ≠ n ∧ (k, u) ∈ m
  | [], _, k, u => by simp [mdel_nil]
  | (a, b) :: m, hn, k, u => by
    simp only [mkeys, List.map_cons, List.nodup_cons] at hn
    have ih := mem_mdel n m hn.2 k u
    have hb : ∀ u, (a, u) ∈ m → False := fun u hu => hn.1 (List.mem_map.2 ⟨_, hu, rfl⟩)
    rw [mdel_cons]
    by_cases h : n = a
    · subst h
      simp only [if_true, List.mem_cons, Prod.mk.injEq]
      constructor
      · exact fun h1 => ⟨fun e => hb u (e ▸ h1), .inr h1⟩
      · rintro ⟨h1, h2 | h2⟩
        · exact absurd h2.1 h1
        · exact h2
    · simp only [if_neg h, List.mem_cons, Prod.mk.injEq, ih]
      constructor
      · rintro (h1 | h1)
        · exact ⟨by rw [h1.1]; exact Ne.symm h, .inl h1⟩
        · exact ⟨h1.1, .inr h1.2⟩
      · rintro ⟨h1, h2 | h2⟩
        · exact .inl h2
        · exact .inr ⟨h1, h2⟩
theorem mgetD_mem (z : α) : ∀ (m : List (Int × α)) (hn : (mkeys m).Nodup) (k : Int) (u : α), (k, u) ∈ m → mgetD m k z = u
  | [], _, k, u, h => by cases h
  | (a, b) :: m, hn, k, u, h => by
    simp only [mkeys, List.map_cons, List.nodup_cons] at hn
    rw [mgetD_cons]
    rcases List.mem_cons.1 h with h1 | h1
    · cases h1; simp
    · have : k ≠ a := fun e => hn.1 (List.mem_map.2 ⟨_, h1, e⟩)
      rw [if_neg this]
      exact mgetD_mem z m hn.2 k u h1
end
theorem mhas_iff {α : Type} (n : Int) : ∀ (m : List (Int × α)), mhas m n = true ↔ n ∈ mkeys m
  | [] => by simp [mhas, midx, mkeys]
  | p :: m => by
    have ih := mhas_iff n m
    simp only [mhas, midx_cons, mkeys, List.map_cons, List.mem_cons] at ih ⊢
    by_cases h : n = p.1
    · simp [h]
    · simp only [h, if_false, false_or, Option.isSome_map]; exact ih
theorem mput_new {α : Type} {m : List (Int × α)} {n : Int} (v : α) (h : n ∉ mkeys m) : mput m n v = m ++ [(n, v)] := by
  have : midx n m = none := by
    have := mt (mhas_iff n m).1 h
    unfold mhas at this
    cases hx : midx n m with
    | none => rfl
    | some j => rw [hx] at this; simp at this
  simp [mput, this]
end Go.Proofs.YtjfkfkjkbgiciaaDoor
namespace Go.Proofs.YtjfkfkjkbgiciaaDoor
open Go Go.Eva Enc
@[reducible] def onnPZPl5 : Onn := ⟨False⟩
attribute [local instance] rndX onnPZPl5
theorem loop_foldl {α σ ρ : Type} {step : σ × Int → Option ((σ × Int) ⊕ ρ)} {l : List α} (g : σ → α → σ) (fin : σ → ρ)
    (h : ∀ (k : Nat) x z, l[k]? = some x → step (z, (k : Int)) = some (.inl (g z x, ((k + 1 : Nat) : Int)))) (hend : ∀ z, step (z, (l.length : Int)) = some (.inr (fin z))) (z0 : σ) :
    loopO step (z0, 0) = some (fin (l.foldl g z0)) := by
  have := loop_fold (σ := σ) (st := fun z k => (z, k)) (step := step) (l := l) (fun z x => .inl (g z x)) fin (fun _ _ => True) (fun k x z hx _ => h k x z hx) (fun _ _ _ _ _ _ _ => trivial) (fun z _ => hend z) z0 trivial
  rw [this, foldS_inl g _ _ (fun _ _ _ => rfl)]
def hasV (v : View) (n : Int) : Bool := v.measures.any fun m => m.notes.any fun w => decide (w.voice = n)
def vList (v : View) : List Int := ([1, 2, 3, 4, 5, 6, 7, 8, 9] : List Int).filter (hasV v)
theorem r18has_eq {v : View} (hv : Sm v) (n : Int) : r18has v n = some (hasV v n) := by
  unfold r18has
  have hl := hv.1
  rw [loop_any (l := v.measures) (fun m => m.notes.any fun w => decide (w.voice = n)) true (fun k m hm => by
    have hk := lt_of_get hm
    have hq := hv.2 m (List.mem_of_getElem? hm)
    unfold r18has_s15
    rw [ifb_t' (by simpa using hk), loop_any (l := m.notes) (fun w => decide (w.voice = n)) true (fun j w hw => by
      have hj := lt_of_get hw
      unfold r18has_s20 r18has_j21
      rw [bnd_eq (at_eq hm), ifb_t' (by simpa using hj), bnd_eq (at_eq hm), bnd_eq (at_eq hw)]
      by_cases h : w.voice = n
      · rw [ifb_t' (by simp [h])]; simp [h]
      · rw [ifb_f' (by simp [h]), grdI (by omega)]; simp [h]) (by unfold r18has_s20; rw [bnd_eq (at_eq hm), ifb_f' (by simp)]), bnd_pure]
    by_cases h : (m.notes.any fun w => decide (w.voice = n)) = true
    · rw [if_pos h, if_pos h]
    · rw [if_neg h, if_neg h]
      unfold r18has_j16
      dsimp only
      rw [grdI (by omega)]; rfl) (by unfold r18has_s15; rw [ifb_f' (by simp)]), bnd_pure]
  unfold hasV
  by_cases h : (v.measures.any fun m => m.notes.any fun w => decide (w.voice = n)) = true
  · rw [if_pos h, h]
  · rw [if_neg h]
    simp only [r18has_j1]
    simp only [Bool.not_eq_true] at h
    rw [h]
theorem r18voices_eq {v : View} (hv : Sm v) : r18voices v = some (vList v) := by
  unfold r18voices r18voices_j1
  have hl : ∀ (k : Nat) (x : Int), ([1, 2, 3, 4, 5, 6, 7, 8, 9] : List Int)[k]? = some x → x = (k : Int) + 1 ∧ k < 9 := by
    intro k x h
    have hk := lt_of_get h
    simp only [List.length_cons, List.length_nil] at hk
    have : k = 0 ∨ k = 1 ∨ k = 2 ∨ k = 3 ∨ k = 4 ∨ k = 5 ∨ k = 6 ∨ k = 7 ∨ k = 8 := by omega
    rcases this with rfl | rfl | rfl | rfl | rfl | rfl | rfl | rfl | rfl <;> (injection h with h; subst h; decide)
  have := loop_fold (σ := List Int) (st := fun z k => (z, k + 1)) (step := r18voices_s5 v) (l := [1, 2, 3, 4, 5, 6, 7, 8, 9]) (fun z x => .inl (if hasV v x = true then z ++ [x] else z)) (fun z => z) (fun k z => z.length ≤ k) (fun k x z hx hz => by
    obtain ⟨rfl, hk⟩ := hl k x hx
    unfold r18voices_s5 r18voices_j6
    dsimp only
    rw [ifb_t' (by simp; omega), r18has_eq hv, bnd_pure]
    by_cases h : hasV v ((k : Int) + 1) = true
    · rw [ifb_t' h, grd_eq (by simp; omega), grdI (by omega), if_pos h]; rfl
    · rw [ifb_f' (by simpa using h), grdI (by omega), if_neg h]; rfl) (fun k x z z' hx hz hf => by
    injection hf with hf; subst hf
    by_cases h : hasV v x = true
    · rw [if_pos h]; simp; omega
    · rw [if_neg h]; omega) (fun z _ => by unfold r18voices_s5; dsimp only; rw [ifb_f' (by simp)]) [] (Nat.le_refl _)
  have e0 : ((0 : Int) + 1) = 1 := rfl
  simp only [e0] at this
  rw [this, foldS_inl (fun (z : List Int) (x : Int) => if hasV v x = true then z ++ [x] else z) _ _ (fun _ _ _ => rfl), foldl_filt, bnd_pure]
  simp [vList]
theorem r18Voices_eq {v : View} (hv : Sm v) : r18Voices v = some (if viewOk v then (vList v, 0) else ([], 1)) := by
  unfold r18Voices
  rw [r18Valid_eq hv, bnd_pure]
  by_cases h : viewOk v
  · rw [ifb_f' (by simp [h]), r18voices_eq hv, bnd_pure, if_pos h]
  · rw [ifb_t' (by simp [h]), if_neg h]
def mV1 (z : List (Int × Bool)) (w : Written) : List (Int × Bool) := mput z w.voice true
def mVs (v : View) : List (Int × Bool) := v.measures.foldl (fun z m => m.notes.foldl mV1 z) []
theorem mV1_keys : ∀ (l : List Written) (z : List (Int × Bool)), (mkeys z).Nodup → (mkeys (l.foldl mV1 z)).Nodup ∧ ∀ k, k ∈ mkeys (l.foldl mV1 z) ↔ k ∈ mkeys z ∨ ∃ w ∈ l, w.voice = k
  | [], z, h => ⟨h, fun k => by simp⟩
  | w :: l, z, h => by
    obtain ⟨h1, h2⟩ := keys_mput w.voice true z h
    obtain ⟨h3, h4⟩ := mV1_keys l (mV1 z w) h1
    rw [List.foldl_cons]
    refine ⟨h3, fun k => ?_⟩
    rw [h4 k, show mV1 z w = mput z w.voice true from rfl, h2 k]
    constructor
    · rintro ((rfl | h) | ⟨u, hu, rfl⟩)
      · exact .inr ⟨w, by simp, rfl⟩
      · exact .inl h
      · exact .inr ⟨u, by simp [hu], rfl⟩
    · rintro (h | ⟨u, hu, rfl⟩)
      · exact .inl (.inr h)
      · rcases List.mem_cons.1 hu with rfl | hu
        · exact .inl (.inl rfl)
        · exact .inr ⟨u, hu, rfl⟩
theorem mVs_keys0 : ∀ (l : List Measure) (z : List (Int × Bool)), (mkeys z).Nodup → (mkeys (l.foldl (fun z m => m.notes.foldl mV1 z) z)).Nodup ∧ ∀ k, k ∈ mkeys (l.foldl (fun z m => m.notes.foldl mV1 z) z) ↔ k ∈ mkeys z ∨ ∃ m ∈ l, ∃ w ∈ m.notes, w.voice = k
  | [], z, h => ⟨h, fun k => by simp⟩
  | m :: l, z, h => by
    obtain ⟨h1, h2⟩ := mV1_keys m.notes z h
    obtain ⟨h3, h4⟩ := mVs_keys0 l _ h1
    rw [List.foldl_cons]
    refine ⟨h3, fun k => ?_⟩
    rw [h4 k, h2 k]
    constructor
    · rintro ((h | h) | ⟨u, hu, h⟩)
      · exact .inl h
      · exact .inr ⟨m, by simp, h⟩
      · exact .inr ⟨u, by simp [hu], h⟩
    · rintro (h | ⟨u, hu, h⟩)
      · exact .inl (.inl h)
      · rcases List.mem_cons.1 hu with rfl | hu
        · exact .inl (.inr h)
        · exact .inr ⟨u, hu, h⟩
theorem mVs_keys (v : View) : (mkeys (mVs v)).Nodup ∧ ∀ k, k ∈ mkeys (mVs v) ↔ hasV v k = true := by
  obtain ⟨h1, h2⟩ := mVs_keys0 v.measures [] (by simp [mkeys])
  refine ⟨h1, fun k => ?_⟩
  rw [show mVs v = v.measures.foldl (fun z m => m.notes.foldl mV1 z) [] from rfl, h2 k]
  simp [mkeys, hasV]
theorem perm_of_mem {l m : List Int} (hl : l.Nodup) (hm : m.Nodup) (h : ∀ k, k ∈ l ↔ k ∈ m) : l.Perm m := (List.perm_ext_iff_of_nodup hl hm).2 fun k => h k
theorem sortI_of_sorted {l : List Int} (h : l.Pairwise fun a b => a ≤ b) : sortI l = l := by
  unfold sortI
  exact List.mergeSort_of_pairwise (h.imp fun h => by simpa [leI] using h)
theorem mdel_mem {v : View} (k : Int) : k ∈ mkeys (mdel (mVs v) 0) ↔ k ≠ 0 ∧ hasV v k = true := by
  have hk := mVs_keys v
  unfold mkeys
  rw [List.mem_map]
  constructor
  · rintro ⟨⟨a, b⟩, h1, rfl⟩
    obtain ⟨h2, h3⟩ := (mem_mdel 0 _ hk.1 a b).1 h1
    exact ⟨h2, (hk.2 a).1 (List.mem_map.2 ⟨_, h3, rfl⟩)⟩
  · rintro ⟨h1, h2⟩
    obtain ⟨⟨a, b⟩, h3, rfl⟩ := List.mem_map.1 ((hk.2 k).2 h2)
    exact ⟨(a, b), (mem_mdel 0 _ hk.1 a b).2 ⟨h1, h3⟩, rfl⟩
theorem hasV_rng {v : View} (hv : viewOk v) {k : Int} (h : hasV v k = true) : 0 ≤ k ∧ k ≤ 9 := by
  unfold hasV at h
  obtain ⟨m, hm, h⟩ := List.any_eq_true.1 h
  obtain ⟨w, hw, h⟩ := List.any_eq_true.1 h
  have := (hv.2.2 m hm w hw).1
  simp at h
  omega
theorem mdel_perm {v : View} (hv : viewOk v) : (mkeys (mdel (mVs v) 0)).Perm (vList v) := by
  refine perm_of_mem ?_ ?_ fun k => ?_
  · exact (mVs_keys v).1.sublist ((mdel_sub 0 _).map _)
  · exact List.Pairwise.sublist List.filter_sublist (by decide)
  · rw [mdel_mem]
    unfold vList
    rw [List.mem_filter]
    constructor
    · rintro ⟨h1, h2⟩
      have := hasV_rng hv h2
      refine ⟨?_, h2⟩
      have : k = 1 ∨ k = 2 ∨ k = 3 ∨ k = 4 ∨ k = 5 ∨ k = 6 ∨ k = 7 ∨ k = 8 ∨ k = 9 := by omega
      rcases this with rfl | rfl | rfl | rfl | rfl | rfl | rfl | rfl | rfl <;> decide
    · rintro ⟨h1, h2⟩
      refine ⟨?_, h2⟩
      rintro rfl
      exact absurd h1 (by decide)
theorem vList_len (v : View) : (vList v).length ≤ 9 := List.length_filter_le _ _
theorem pVoices_eq {v : View} (hv : Sm v) : pVoices v = some (if viewOk v then (vList v, 0) else ([], 1)) := by
  unfold pVoices
  have hl := hv.1
  rw [isView_eq hv, bnd_pure]
  by_cases h : viewOk v
  · rw [ifb_f' (by simp [h]), loop_foldl (l := v.measures) (fun z m => m.notes.foldl mV1 z) (fun z => z) (fun k m z hm => by
      have hk := lt_of_get hm
      have hq := hv.2 m (List.mem_of_getElem? hm)
      unfold pVoices_s15 pVoices_j16
      dsimp only
      rw [ifb_t' (by simpa using hk), bnd_eq (at_eq hm), loop_foldl (l := m.notes) mV1 (fun z => z) (fun j w y hw => by
        have hj := lt_of_get hw
        unfold pVoices_s20 pVoices_j21
        dsimp only
        rw [ifb_t' (by simpa using hj), bnd_eq (at_eq hw), grdI (by omega)]; rfl) (fun y => by unfold pVoices_s20; dsimp only; rw [ifb_f' (by simp)]), bnd_pure, grdI (by omega)]
      rfl) (fun z => by unfold pVoices_s15; dsimp only; rw [ifb_f' (by simp)]), bnd_pure, if_pos h]
    unfold pVoices_j1
    change grd ((∀ x ∈ mkeys (mdel (mVs v) 0), inI x) ∧ (mdel (mVs v) 0).length ≤ 1000000000) (some (sortI (mkeys (mdel (mVs v) 0)), 0)) = _
    have hp := mdel_perm h
    have hlen : (mdel (mVs v) 0).length ≤ 9 := by
      have := hp.length_eq
      have h9 := vList_len v
      simp only [mkeys, List.length_map] at this
      omega
    rw [grd_eq ⟨fun x hx => by
      have := hasV_rng h ((mdel_mem x).1 hx).2
      unfold inI; omega, by omega⟩, sortI_perm hp, sortI_of_sorted]
    exact List.Pairwise.sublist List.filter_sublist (by decide)
  · rw [ifb_t' (by simp [h]), if_neg h]
def asg (x : List Int) (n : Nat) (k : Nat) : Int := if 0 < x.length then x.getD (k * x.length / n) 0 else 0
def asgL (x : List Int) (n : Nat) : List Int := (List.range n).map (asg x n)
theorem asg_at {x : List Int} {n k : Nat} (hk : k < n) (hx : 0 < x.length) : at? x (Int.tdiv ((k : Int) * (x.length : Int)) (n : Int)) = some (asg x n k) ∧ ∃ j : Nat, Int.tdiv ((k : Int) * (x.length : Int)) (n : Int) = (j : Int) ∧ j < x.length := by
  have e : Int.tdiv ((k : Int) * (x.length : Int)) (n : Int) = ((k * x.length / n : Nat) : Int) := by
    rw [Int.tdiv_eq_ediv_of_nonneg (by exact Int.mul_nonneg (by omega) (by omega))]
    norm_cast
  have hlt : k * x.length / n < x.length := by
    rw [Nat.div_lt_iff_lt_mul (by omega), Nat.mul_comm]
    exact Nat.mul_lt_mul_of_pos_left hk hx
  have hg : x[k * x.length / n]? = some x[k * x.length / n] := List.getElem?_eq_getElem hlt
  refine ⟨?_, _, e, hlt⟩
  rw [e, at_eq hg]
  unfold asg
  rw [if_pos hx]
  simp [List.getD, hg]
theorem pAssign_eq {v : View} (hv : Sm v) (n : Int) : pAssign v n = some (if viewOk v ∧ 1 ≤ n ∧ n ≤ 40 then (if n < (vList v).length then ([], 6) else (asgL (vList v) n.toNat, 0)) else ([], 1)) := by
  unfold pAssign pAssign_r2
  rw [pVoices_eq hv, bnd_pure]
  by_cases h : viewOk v
  · rw [if_pos h]
    dsimp only
    rw [ifb_f' (by simp)]
    by_cases h1 : n < 1
    · rw [ifb_t' (by simp [h1]), bnd_pure, ifb_t' rfl, if_neg (by omega)]
    rw [ifb_f' (by simp [h1]), bnd_pure]
    by_cases h2 : 40 < n
    · rw [ifb_t' (by simp [h2]), if_neg (by omega)]
    rw [ifb_f' (by simp [h2]), if_pos ⟨h, by omega, by omega⟩]
    have h9 := vList_len v
    generalize vList v = x at h9 ⊢
    by_cases h3 : n < (x.length : Int)
    · rw [ifb_t' (by simp [h3]), if_pos h3]
    rw [ifb_f' (by simp [h3]), if_neg h3]
    unfold pAssign_j1
    rw [grd_eq (by omega)]
    obtain ⟨N, rfl⟩ : ∃ N : Nat, n = (N : Int) := ⟨n.toNat, by omega⟩
    rw [Int.toNat_natCast]
    have := loop_fold (σ := List Int) (st := fun z k => (z, k)) (step := pAssign_s7 (N : Int) x) (l := List.range N) (fun z k => .inl (if 0 < x.length then z.set k (asg x N k) else z)) (fun _ => asgL x N) (fun k z => z = (List.range k).map (asg x N) ++ List.replicate (N - k) 0) (fun k i z hi hz => by
      have hk := lt_of_get hi
      rw [List.length_range] at hk
      rw [List.getElem?_range hk] at hi
      injection hi with hi; subst hi
      unfold pAssign_s7 pAssign_j8
      dsimp only
      rw [ifb_t' (by simp; omega)]
      by_cases hx : 0 < x.length
      · obtain ⟨a1, j, a2, a3⟩ := asg_at hk hx
        have hm : 0 ≤ (k : Int) * (x.length : Int) ∧ (k : Int) * (x.length : Int) ≤ 40 * 9 := ⟨Int.mul_nonneg (by omega) (by omega), Int.mul_le_mul (by omega) (by omega) (by omega) (by omega)⟩
        have hz2 : k < z.length := by rw [hz]; simp; omega
        rw [ifb_t' (by simp; omega), grdI (by omega), grd_eq (by omega), grdI (by rw [a2]; omega), bnd_eq a1, bnd_eq (at_eq (List.getElem?_eq_getElem hz2)), grdI (by omega)]
        simp [hx]
      · rw [ifb_f' (decide_eq_false (by omega)), grdI (by omega)]
        simp [hx]) (fun k i z z' hi hz hf => by
      have hk := lt_of_get hi
      rw [List.length_range] at hk
      rw [List.getElem?_range hk] at hi
      injection hi with hi; subst hi
      injection hf with hf
      subst hf
      have hr : List.replicate (N - k) (0 : Int) = 0 :: List.replicate (N - (k + 1)) 0 := by
        have : N - k = (N - (k + 1)) + 1 := by omega
        rw [this, List.replicate_succ]
      rw [List.range_succ, List.map_append, List.append_assoc]
      by_cases hx : 0 < x.length
      · rw [if_pos hx, hz, List.set_append_right _ _ (by simp), hr]
        simp
      · rw [if_neg hx, hz, hr]
        simp [asg, hx]) (fun z hz => by
      unfold pAssign_s7
      dsimp only
      rw [ifb_f' (by simp), hz]
      simp [asgL]) (List.replicate N 0) (by simp)
    rw [this, foldS_inl (fun (z : List Int) (k : Nat) => if 0 < x.length then z.set k (asg x N k) else z) _ _ (fun _ _ _ => rfl), bnd_pure]
    rfl
  · rw [if_neg h]
    dsimp only
    rw [ifb_t' (by simp), bnd_pure, ifb_t' rfl, if_neg (fun h' => h h'.1)]
theorem r18Assign_eq {v : View} (hv : Sm v) (n : Int) : r18Assign v n = some (if viewOk v ∧ 1 ≤ n ∧ n ≤ 40 then (if n < (vList v).length then ([], 6) else (asgL (vList v) n.toNat, 0)) else ([], 1)) := by
  unfold r18Assign r18Assign_r1
  rw [r18Valid_eq hv, bnd_pure]
  by_cases h : viewOk v
  · rw [ifb_f' (by simp [h]), r18in_eq, bnd_pure, bnd_pure]
    by_cases h1 : 1 ≤ n ∧ n ≤ 40
    · rw [ifb_f' (by simp [h1]), if_pos ⟨h, h1⟩, r18voices_eq hv, bnd_pure]
      have h9 := vList_len v
      generalize vList v = x at h9 ⊢
      by_cases h3 : n < (x.length : Int)
      · rw [ifb_t' (by simp [h3]), if_pos h3]
      rw [ifb_f' (by simp [h3]), if_neg h3]
      obtain ⟨N, rfl⟩ : ∃ N : Nat, n = (N : Int) := ⟨n.toNat, by omega⟩
      rw [Int.toNat_natCast]
      have := loop_fold (σ := List Int) (st := fun z k => (z, k + 1)) (step := r18Assign_s8 (N : Int) x) (l := List.range N) (fun z k => .inl (z ++ [asg x N k])) (fun z => z) (fun k z => z.length = k) (fun k i z hi hz => by
        have hk := lt_of_get hi
        rw [List.length_range] at hk
        rw [List.getElem?_range hk] at hi
        injection hi with hi; subst hi
        unfold r18Assign_s8 r18Assign_j10 r18Assign_j9
        dsimp only
        have e : (k : Int) + 1 - 1 = k := by omega
        rw [ifb_t' (by simp; omega), e]
        by_cases hx : 0 < x.length
        · obtain ⟨a1, j, a2, a3⟩ := asg_at hk hx
          have hm : 0 ≤ (k : Int) * (x.length : Int) ∧ (k : Int) * (x.length : Int) ≤ 40 * 9 := ⟨Int.mul_nonneg (by omega) (by omega), Int.mul_le_mul (by omega) (by omega) (by omega) (by omega)⟩
          rw [ifb_t' (by simp; omega), grdI (by omega), grdI (by omega), grd_eq (by omega), grdI (by rw [a2]; omega), bnd_eq a1, grd_eq (by simp [hz]; omega), grdI (by omega)]
          rfl
        · rw [ifb_f' (decide_eq_false (by omega)), grd_eq (by simp [hz]; omega), grdI (by omega)]
          simp [asg, hx]) (fun k i z z' hi hz hf => by
        injection hf with hf
        subst hf
        simp [hz]) (fun z hz => by
        unfold r18Assign_s8
        dsimp only
        rw [ifb_f' (by simp; omega)]) [] rfl
      have e0 : ((0 : Int) + 1) = 1 := rfl
      simp only [e0] at this
      rw [this, foldS_inl (fun (z : List Int) (k : Nat) => z ++ [asg x N k]) _ _ (fun _ _ _ => rfl), foldl_app, bnd_pure]
      rfl
    · rw [ifb_t' (by simp only [Bool.not_eq_true', decide_eq_false_iff_not]; exact h1), if_neg (fun h' => h1 h'.2)]
  · rw [ifb_t' (by simp [h]), bnd_pure, ifb_t' rfl, if_neg (fun h' => h h'.1)]
end Go.Proofs.YtjfkfkjkbgiciaaDoor
namespace Go.Proofs.YtjfkfkjkbgiciaaDoor
open Go Go.Eva Enc
@[reducible] def onnPZPl6 : Onn := ⟨False⟩
attribute [local instance] rndX onnPZPl6
theorem r02nat_eq {s : Int} (h : 0 ≤ s ∧ s ≤ 6) : r02nat s = some (natv s) := by
  have : s = 0 ∨ s = 1 ∨ s = 2 ∨ s = 3 ∨ s = 4 ∨ s = 5 ∨ s = 6 := by omega
  unfold r02nat r02nat_j1
  rcases this with rfl | rfl | rfl | rfl | rfl | rfl | rfl <;>
    first
    | rw [grdI (by omega), ifb_f' (by decide)]; rfl
    | rw [grdI (by omega), ifb_t' (by decide), grdI (by omega)]; rfl
theorem r02Sound_eq {p : Pitch} (h : pitchOk p) : r02Sound p = some (num p) := by
  obtain ⟨⟨h1, h2⟩, ⟨h3, h4⟩, h5, h6⟩ := h
  have hn := natv_bd p.step
  unfold r02Sound
  rw [grdI (by omega), r02nat_eq ⟨h1, h2⟩, bnd_pure, grdI (by omega), grdI (by omega)]
  rfl
theorem r14Before_eq {a b : Written} (ha : noteOk a) (hb : noteOk b) : r14Before a b = some (decide (Lex a b)) := by
  unfold r14Before
  rw [r06Ticks_eq, if_pos ha.2.2.1, bnd_pure, r02Sound_eq ha.2.2.2, bnd_pure, r06Ticks_eq, if_pos hb.2.2.1, bnd_pure, r02Sound_eq hb.2.2.2, bnd_pure]
  change bnd (loopO (r14Before_s5 a b (tick a) (num a.pitch) (tick b) (num b.pitch)) 0) _ = _
  have st : ∀ (k : Nat) (x y : Int), ([tick a, a.voice, num a.pitch, a.id])[k]? = some x → ([tick b, b.voice, num b.pitch, b.id])[k]? = some y → r14Before_s5 a b (tick a) (num a.pitch) (tick b) (num b.pitch) (k : Int) = if x = y then some (.inl ((k + 1 : Nat) : Int)) else some (.inr (.inl (decide (x < y)))) := by
    intro k x y hx hy
    have hk := lt_of_get hx
    have hk4 : k < 4 := hk
    unfold r14Before_s5 r14Before_j6
    rw [ifb_t' (by simp; omega), bnd_eq (at_eq hx), bnd_eq (at_eq hy)]
    by_cases h : x = y
    · rw [ifb_f' (by simp [h]), grdI (by omega), if_pos h]; rfl
    · rw [ifb_t' (by simp [h]), bnd_eq (at_eq hx), bnd_eq (at_eq hy), if_neg h]
  have s0 := st 0 _ _ rfl rfl
  have s1 := st 1 _ _ rfl rfl
  have s2 := st 2 _ _ rfl rfl
  have s3 := st 3 _ _ rfl rfl
  have s4 : r14Before_s5 a b (tick a) (num a.pitch) (tick b) (num b.pitch) ((4 : Nat) : Int) = some (.inr (.inr ())) := by
    unfold r14Before_s5; rw [ifb_f' (by simp)]
  have z0 : ((0 : Nat) : Int) = 0 := rfl
  rw [z0] at s0
  unfold Lex
  by_cases h0 : tick a = tick b
  · rw [if_pos h0] at s0
    rw [loopO_inl s0]
    by_cases h1 : a.voice = b.voice
    · rw [if_pos h1] at s1
      rw [loopO_inl s1]
      by_cases h2 : num a.pitch = num b.pitch
      · rw [if_pos h2] at s2
        rw [loopO_inl s2]
        by_cases h3 : a.id = b.id
        · rw [if_pos h3] at s3
          rw [loopO_inl s3, loopO_inr s4, bnd_pure]
          simp [r14Before_j1, h0, h1, h2, h3]
        · rw [if_neg h3] at s3
          rw [loopO_inr s3, bnd_pure]
          simp [h0, h1, h2]
      · rw [if_neg h2] at s2
        rw [loopO_inr s2, bnd_pure]
        simp [h0, h1, h2]
    · rw [if_neg h1] at s1
      rw [loopO_inr s1, bnd_pure]
      simp [h0, h1]
  · rw [if_neg h0] at s0
    rw [loopO_inr s0, bnd_pure]
    simp [h0]
def conf (z : List Written) (w : Written) : Bool := z.any fun u => decide (u.id = w.id) && !decide (u = w)
def cutAt (z : List Written) (w : Written) : Nat → Nat
  | 0 => 0
  | k + 1 => if Lex w (z.getD k w) then cutAt z w k else k + 1
def insW (z : List Written) (w : Written) : List Written := z.take (cutAt z w z.length) ++ [w] ++ z.drop (cutAt z w z.length)
def putW (z : List Written) (w : Written) : List Written := if w ∈ z then z else insW z w
def accR : List Written → List Written → Option (List Written)
  | [], z => some z
  | w :: ws, z => if conf z w = true then none else accR ws (putW z w)
theorem accR_append : ∀ (a b z : List Written), accR (a ++ b) z = (accR a z).bind (accR b)
  | [], b, z => rfl
  | w :: a, b, z => by
    simp only [List.cons_append, accR]
    split
    · rfl
    · exact accR_append a b _
theorem cutAt_le (z : List Written) (w : Written) : ∀ k, cutAt z w k ≤ k
  | 0 => Nat.le_refl _
  | k + 1 => by
    have := cutAt_le z w k
    unfold cutAt; split <;> omega
theorem cutAt_above (z : List Written) (w : Written) : ∀ k j, cutAt z w k ≤ j → j < k → Lex w (z.getD j w)
  | 0, j, h1, h2 => by omega
  | k + 1, j, h1, h2 => by
    unfold cutAt at h1
    split at h1
    · rename_i hl
      by_cases hj : j = k
      · subst hj; exact hl
      · exact cutAt_above z w k j h1 (by omega)
    · omega
theorem cutAt_below (z : List Written) (w : Written) : ∀ k i, cutAt z w k = i + 1 → ¬ Lex w (z.getD i w)
  | 0, i, h => by cases h
  | k + 1, i, h => by
    unfold cutAt at h
    split at h
    · exact cutAt_below z w k i h
    · rename_i hl
      have : i = k := by omega
      subst this; exact hl
theorem lex_asymm {a b : Written} (h : Lex a b) : ¬ Lex b a := fun k => lex_irrefl a (lex_trans h k)
theorem insW_perm (z : List Written) (w : Written) : (insW z w).Perm (z ++ [w]) := by
  unfold insW
  rw [List.append_assoc]
  have h1 : (z.take (cutAt z w z.length) ++ ([w] ++ z.drop (cutAt z w z.length))).Perm (z.take (cutAt z w z.length) ++ (z.drop (cutAt z w z.length) ++ [w])) := List.Perm.append_left _ List.perm_append_comm
  have h2 : z.take (cutAt z w z.length) ++ (z.drop (cutAt z w z.length) ++ [w]) = z ++ [w] := by rw [← List.append_assoc, List.take_append_drop]
  rw [h2] at h1
  exact h1
theorem insW_sorted {z : List Written} (w : Written) (hz : z.Pairwise fun a b => ¬ Lex b a) : (insW z w).Pairwise fun a b => ¬ Lex b a := by
  unfold insW
  have hle := cutAt_le z w z.length
  have hab := cutAt_above z w z.length
  have hbe := cutAt_below z w z.length
  generalize cutAt z w z.length = i at *
  rw [List.append_assoc, List.pairwise_append]
  refine ⟨hz.sublist (List.take_sublist _ _), ?_, ?_⟩
  · rw [List.pairwise_append]
    refine ⟨List.pairwise_singleton _ _, hz.sublist (List.drop_sublist _ _), fun a ha b hb => ?_⟩
    rw [List.mem_singleton] at ha
    subst ha
    obtain ⟨j, hj, rfl⟩ := List.mem_iff_getElem.1 hb
    rw [List.length_drop] at hj
    have := hab (i + j) (by omega) (by omega)
    rw [List.getElem_drop]
    rw [List.getD_eq_getElem?_getD, List.getElem?_eq_getElem (by omega), Option.getD_some] at this
    exact lex_asymm this
  · intro a ha b hb
    obtain ⟨j, hj, rfl⟩ := List.mem_iff_getElem.1 ha
    rw [List.length_take] at hj
    rw [List.getElem_take]
    have hzp := List.pairwise_iff_getElem.1 hz
    have hw : ¬ Lex w z[j] := by
      obtain ⟨i', rfl⟩ : ∃ i', i = i' + 1 := ⟨i - 1, by omega⟩
      have h1 := hbe i' rfl
      rw [List.getD_eq_getElem?_getD, List.getElem?_eq_getElem (by omega), Option.getD_some] at h1
      by_cases hji : j = i'
      · subst hji; exact h1
      · exact lex_ntrans h1 (hzp j i' (by omega) (by omega) (by omega))
    rcases List.mem_append.1 hb with hb | hb
    · rw [List.mem_singleton] at hb
      subst hb; exact hw
    · obtain ⟨k, hk, rfl⟩ := List.mem_iff_getElem.1 hb
      rw [List.length_drop] at hk
      rw [List.getElem_drop]
      exact hzp j (i + k) (by omega) (by omega) (by omega)
theorem putW_mem {z : List Written} {w u : Written} : u ∈ putW z w ↔ u ∈ z ∨ u = w := by
  unfold putW
  split
  · rename_i h
    exact ⟨.inl, fun h' => by rcases h' with h' | rfl <;> assumption⟩
  · rw [(insW_perm z w).mem_iff]; simp
theorem putW_len (z : List Written) (w : Written) : (putW z w).length ≤ z.length + 1 := by
  unfold putW
  split
  · omega
  · rw [(insW_perm z w).length_eq]; simp
theorem accR_mem : ∀ (ws z z' : List Written), accR ws z = some z' → ∀ u, u ∈ z' ↔ u ∈ z ∨ u ∈ ws
  | [], z, z', h, u => by injection h with h; subst h; simp
  | w :: ws, z, z', h, u => by
    unfold accR at h
    split at h
    · cases h
    · rw [accR_mem ws _ z' h u, putW_mem, List.mem_cons, or_assoc]
theorem accR_len : ∀ (ws z z' : List Written), accR ws z = some z' → z'.length ≤ z.length + ws.length
  | [], z, z', h => by injection h with h; subst h; simp
  | w :: ws, z, z', h => by
    unfold accR at h
    split at h
    · cases h
    · have := accR_len ws _ z' h
      have := putW_len z w
      simp only [List.length_cons]; omega
def zW : Written := ⟨0, 0, 0, ⟨0, 0⟩, ⟨0, 0⟩, ⟨0, 0, 0⟩⟩
def badM (m : List (Int × Written)) (w : Written) : Bool := mhas m w.id && !decide (mgetD m w.id zW = w)
def accM : List Written → List (Int × Written) → Option (List (Int × Written))
  | [], m => some m
  | w :: ws, m => if badM m w = true then none else accM ws (mput m w.id w)
theorem accM_append : ∀ (a b : List Written) (m : List (Int × Written)), accM (a ++ b) m = (accM a m).bind (accM b)
  | [], b, z => rfl
  | w :: a, b, z => by
    simp only [List.cons_append, accM]
    split
    · rfl
    · exact accM_append a b _
structure Sim (m : List (Int × Written)) (z : List Written) : Prop where
  nd : (mkeys m).Nodup
  ids : ∀ k u, (k, u) ∈ m → u.id = k
  pm : (mvals m).Perm z
  so : z.Pairwise fun a b => ¬ Lex b a
theorem Sim.mem {m : List (Int × Written)} {z : List Written} (h : Sim m z) (u : Written) : u ∈ z ↔ (u.id, u) ∈ m := by
  rw [← h.pm.mem_iff]
  unfold mvals
  rw [List.mem_map]
  constructor
  · rintro ⟨⟨k, v⟩, h1, rfl⟩
    have := h.ids k v h1
    rw [this]; exact h1
  · exact fun h1 => ⟨_, h1, rfl⟩
theorem mput_same {α : Type} : ∀ {m : List (Int × α)} {k : Int} {v : α}, (mkeys m).Nodup → (k, v) ∈ m → mput m k v = m
  | [], k, v, _, h => by cases h
  | (a, b) :: m, k, v, hn, h => by
    simp only [mkeys, List.map_cons, List.nodup_cons] at hn
    rw [mput_cons]
    rcases List.mem_cons.1 h with h1 | h1
    · cases h1; simp
    · have : k ≠ a := fun e => hn.1 (List.mem_map.2 ⟨_, h1, e⟩)
      rw [if_neg this, mput_same hn.2 h1]
theorem Sim.cf {m : List (Int × Written)} {z : List Written} (h : Sim m z) (w : Written) : badM m w = conf z w := by
  rw [Bool.eq_iff_iff]
  unfold badM conf
  rw [Bool.and_eq_true, mhas_iff, List.any_eq_true]
  constructor
  · rintro ⟨h1, h2⟩
    unfold mkeys at h1
    obtain ⟨⟨k, u⟩, h3, h4⟩ := List.mem_map.1 h1
    dsimp only at h4
    subst h4
    rw [mgetD_mem zW m h.nd _ _ h3] at h2
    have hid := h.ids _ _ h3
    refine ⟨u, (h.mem u).2 (by rw [hid]; exact h3), ?_⟩
    simp only [hid, decide_true, Bool.true_and]; exact h2
  · rintro ⟨u, h1, h2⟩
    rw [Bool.and_eq_true, decide_eq_true_eq] at h2
    have h3 := (h.mem u).1 h1
    rw [h2.1] at h3
    refine ⟨List.mem_map.2 ⟨_, h3, rfl⟩, ?_⟩
    rw [mgetD_mem zW m h.nd _ _ h3]; exact h2.2
theorem Sim.put {m : List (Int × Written)} {z : List Written} (h : Sim m z) {w : Written} (hc : ¬ conf z w = true) : Sim (mput m w.id w) (putW z w) := by
  by_cases hw : w ∈ z
  · have := (h.mem w).1 hw
    rw [mput_same h.nd this]
    unfold putW
    rw [if_pos hw]; exact h
  · have hn : w.id ∉ mkeys m := by
      intro hk
      unfold mkeys at hk
      obtain ⟨⟨k, u⟩, h3, h4⟩ := List.mem_map.1 hk
      dsimp only at h4
      subst h4
      have hid := h.ids _ _ h3
      have hu : u ∈ z := (h.mem u).2 (by rw [hid]; exact h3)
      refine hc (List.any_eq_true.2 ⟨u, hu, ?_⟩)
      have : u ≠ w := fun e => hw (e ▸ hu)
      simp [hid, this]
    have hnew := mput_new w hn
    unfold putW
    rw [if_neg hw]
    refine ⟨(keys_mput _ _ m h.nd).1, fun k u hu => ?_, ?_, insW_sorted w h.so⟩
    · rw [hnew] at hu
      rcases List.mem_append.1 hu with hu | hu
      · exact h.ids k u hu
      · rw [List.mem_singleton] at hu; cases hu; rfl
    · rw [hnew]
      have : mvals (m ++ [(w.id, w)]) = mvals m ++ [w] := by simp [mvals]
      rw [this]
      exact (h.pm.append_right _).trans (insW_perm z w).symm
theorem Sim.acc : ∀ (ws : List Written) {m : List (Int × Written)} {z : List Written}, Sim m z → (accM ws m = none ∧ accR ws z = none) ∨ ∃ m' z', accM ws m = some m' ∧ accR ws z = some z' ∧ Sim m' z'
  | [], m, z, h => .inr ⟨m, z, rfl, rfl, h⟩
  | w :: ws, m, z, h => by
    unfold accM accR
    rw [h.cf w]
    by_cases hc : conf z w = true
    · rw [if_pos hc, if_pos hc]; exact .inl ⟨rfl, rfl⟩
    · rw [if_neg hc, if_neg hc]; exact Sim.acc ws (h.put hc)
theorem Sim.nil : Sim [] [] := ⟨by simp [mkeys], (fun k u h => by cases h), List.Perm.refl _, List.Pairwise.nil⟩
theorem Sim.vids {m : List (Int × Written)} {z : List Written} (h : Sim m z) : (mvals m).map Written.id = mkeys m := by
  unfold mvals mkeys
  rw [List.map_map]
  exact List.map_congr_left fun p hp => h.ids p.1 p.2 hp
theorem Sim.sort {m : List (Int × Written)} {z : List Written} (h : Sim m z) : sortW (mvals m) = z := by
  refine sorted_uniq (sortW_sorted _) h.so ((sortW_perm _).trans h.pm) ?_
  have := h.nd
  rw [← h.vids] at this
  exact ((sortW_perm _).map Written.id).nodup_iff.2 this
theorem Sim.oV {m : List (Int × Written)} {z : List Written} (h : Sim m z) (hz : ∀ w ∈ z, noteOk w) (hl : z.length ≤ 1000000000000) : okV m := by
  refine ⟨fun w hw => hz w (h.pm.subset hw), ?_, ?_⟩
  · rw [h.vids]; exact h.nd
  · have := h.pm.length_eq
    simp only [mvals, List.length_map] at this
    omega
end Go.Proofs.YtjfkfkjkbgiciaaDoor
namespace Go.Proofs.YtjfkfkjkbgiciaaDoor
open Go Go.Eva Enc
@[reducible] def onnPZPl7 : Onn := ⟨False⟩
attribute [local instance] rndX onnPZPl7
theorem cut_eq {z : List Written} {w : Written} (hw : noteOk w) (hz : ∀ u ∈ z, noteOk u) (hl : z.length ≤ 1000000000) : ∀ k, k ≤ z.length → loopO (r18put_s56 z w) (k : Int) = some ((cutAt z w k : Nat) : Int)
  | 0, _ => by
    refine loopO_inr ?_
    unfold r18put_s56 r18put_r57
    rw [ifb_f' (by simp), bnd_pure, ifb_f' rfl]
    rfl
  | k + 1, hk => by
    have hx : z[k]? = some z[k] := List.getElem?_eq_getElem (by omega)
    have e : ((k + 1 : Nat) : Int) - 1 = (k : Int) := by omega
    have hs : r18put_s56 z w ((k + 1 : Nat) : Int) = if Lex w z[k] then some (.inl (k : Int)) else some (.inr ((k + 1 : Nat) : Int)) := by
      unfold r18put_s56 r18put_r57
      rw [ifb_t' (decide_eq_true (by omega)), grdI (by omega), e, bnd_eq (at_eq hx), r14Before_eq hw (hz _ (List.mem_of_getElem? hx)), bnd_pure, bnd_pure]
      by_cases h : Lex w z[k]
      · rw [ifb_t' (by simp [h]), grdI (by omega), if_pos h]
      · rw [ifb_f' (by simp [h]), if_neg h]
    unfold cutAt
    have hd : z.getD k w = z[k] := by rw [List.getD_eq_getElem?_getD, hx]; rfl
    rw [hd]
    by_cases h : Lex w z[k]
    · rw [if_pos h] at hs
      rw [loopO_inl hs, if_pos h]
      exact cut_eq hw hz hl k (by omega)
    · rw [if_neg h] at hs
      rw [loopO_inr hs, if_neg h]
theorem foldS_conf (w : Written) : ∀ (z : List Written) (b : Bool), foldS (fun (b : Bool) u => if (decide (u.id = w.id) && !decide (u = w)) = true then (.inr (.inl (([] : List Written), false)) : Bool ⊕ ((List Written × Bool) ⊕ Bool)) else .inl (b || decide (u = w))) (fun b => .inr b) z b = if conf z w = true then .inl ([], false) else .inr (b || decide (w ∈ z))
  | [], b => by simp [foldS, conf]
  | u :: z, b => by
    have hc : conf (u :: z) w = ((decide (u.id = w.id) && !decide (u = w)) || conf z w) := by simp [conf]
    have hm : (b || decide (u = w) || decide (w ∈ z)) = (b || decide (w ∈ u :: z)) := by
      rw [Bool.or_assoc]
      congr 1
      rw [Bool.eq_iff_iff]
      simp only [Bool.or_eq_true, decide_eq_true_eq, List.mem_cons]
      exact or_congr ⟨Eq.symm, Eq.symm⟩ Iff.rfl
    simp only [foldS]
    by_cases h : (decide (u.id = w.id) && !decide (u = w)) = true
    · rw [if_pos h]; rw [if_pos (by rw [hc, h]; rfl)]
    · rw [if_neg h]
      simp only
      rw [foldS_conf w z, hm]
      simp only [Bool.not_eq_true] at h
      rw [h, Bool.false_or] at hc
      by_cases hz : conf z w = true
      · rw [if_pos hz, if_pos (by rw [hc]; exact hz)]
      · rw [if_neg hz, if_neg (by rw [hc]; exact hz)]
theorem foldS_accR : ∀ (ws z : List Written), foldS (fun (z : List Written) w => if conf z w = true then (.inr (.inl (([] : List Written), false)) : List Written ⊕ ((List Written × Bool) ⊕ List Written)) else .inl (putW z w)) (fun z => .inr z) ws z = match accR ws z with | none => .inl ([], false) | some z => .inr z
  | [], z => rfl
  | w :: ws, z => by
    simp only [foldS, accR]
    by_cases h : conf z w = true
    · rw [if_pos h, if_pos h]
    · rw [if_neg h, if_neg h]; exact foldS_accR ws _
theorem r18put_eq {z ws : List Written} (hz : ∀ u ∈ z, noteOk u) (hw : ∀ u ∈ ws, noteOk u) (hl : z.length + ws.length ≤ 1000000000) : r18put z ws = some (match accR ws z with | none => ([], false) | some z => (z, true)) := by
  unfold r18put
  have := loop_fold (σ := List Written) (st := fun z k => (z, k)) (step := r18put_s39 ws) (l := ws) (fun (z : List Written) w => if conf z w = true then (.inr (.inl ([], false)) : List Written ⊕ ((List Written × Bool) ⊕ List Written)) else .inl (putW z w)) (fun z => .inr z) (fun k y => (∀ u ∈ y, noteOk u) ∧ y.length ≤ z.length + k) (fun k w y hx hy => by
    obtain ⟨hy1, hy2⟩ := hy
    have hk := lt_of_get hx
    have hwok := hw w (List.mem_of_getElem? hx)
    unfold r18put_s39
    dsimp only
    rw [ifb_t' (by simpa using hk), bnd_eq (at_eq hx)]
    have h48 := loop_fold (σ := Bool) (st := fun z k => (z, k)) (step := r18put_s48 y w) (l := y) (fun (b : Bool) u => if (decide (u.id = w.id) && !decide (u = w)) = true then (.inr (.inl ([], false)) : Bool ⊕ ((List Written × Bool) ⊕ Bool)) else .inl (b || decide (u = w))) (fun b => .inr b) (fun _ _ => True) (fun j u b hu _ => by
      have hj := lt_of_get hu
      unfold r18put_s48 r18put_r50 r18put_j49
      dsimp only
      rw [ifb_t' (by simpa using hj), bnd_eq (at_eq hu)]
      have e1 : ifb (decide (u.id = w.id)) (some (!decide (u = w))) (some false) = some (decide (u.id = w.id) && !decide (u = w)) := by
        by_cases h : u.id = w.id
        · rw [ifb_t' (by simp [h])]; simp [h]
        · rw [ifb_f' (by simp [h])]; simp [h]
      rw [e1, bnd_pure]
      by_cases h : (decide (u.id = w.id) && !decide (u = w)) = true
      · rw [ifb_t' h, if_pos h]
      · rw [ifb_f' (by simpa using h), if_neg h]
        have e2 : r18put_r51 y w b (j : Int) = some (b || decide (u = w)) := by
          unfold r18put_r51
          cases b
          · rw [ifb_f' rfl, bnd_eq (at_eq hu)]; simp
          · rw [ifb_t' rfl]; simp
        rw [e2, bnd_pure, grdI (by omega)]
        rfl) (fun _ _ _ _ _ _ _ => trivial) (fun b _ => by unfold r18put_s48; dsimp only; rw [ifb_f' (by simp)]) false trivial
    rw [h48, bnd_pure, foldS_conf]
    by_cases hc : conf y w = true
    · rw [if_pos hc, if_pos hc]
    · rw [if_neg hc, if_neg hc]
      dsimp only
      unfold r18put_j41 r18put_j40
      rw [Bool.false_or]
      by_cases hm : w ∈ y
      · rw [ifb_t' (by simp [hm]), grdI (by omega)]
        unfold putW; rw [if_pos hm]; rfl
      · have hcl := cutAt_le y w y.length
        rw [ifb_f' (by simp [hm]), cut_eq hwok hy1 (by omega) _ (Nat.le_refl _), bnd_pure]
        unfold r18put_j52 r18put_j40
        have hpl : (insW y w).length = y.length + 1 := by rw [(insW_perm y w).length_eq]; simp
        have htk : (y.take (cutAt y w y.length)).length ≤ y.length := by rw [List.length_take]; omega
        rw [Int.toNat_natCast, grd_eq (by omega), grd_eq (by omega), grd_eq (by rw [List.length_append]; simp only [List.length_cons, List.length_nil]; omega), grd_eq (by omega)]
        change grd ((insW y w).length * 80 ≤ 140737488355328) _ = _
        rw [grd_eq (by omega), grdI (by omega)]
        unfold putW; rw [if_neg hm]; rfl) (fun k w y y' hx hy hf => by
    split at hf
    · cases hf
    · injection hf with hf
      subst hf
      have := putW_len y w
      refine ⟨fun u hu => ?_, by omega⟩
      rcases putW_mem.1 hu with h | h
      · exact hy.1 u h
      · subst h; exact hw _ (List.mem_of_getElem? hx)) (fun y _ => by unfold r18put_s39; dsimp only; rw [ifb_f' (by simp)]) z ⟨hz, by omega⟩
  rw [this, foldS_accR, bnd_pure]
  cases accR ws z <;> rfl
def orS {α E : Type} (err : E) : Option α → α ⊕ (E ⊕ α)
  | none => .inr (.inl err)
  | some z => .inl z
def finS {α E : Type} (err : E) : Option α → E ⊕ α
  | none => .inl err
  | some z => .inr z
theorem foldS_accM {E β : Type} (err : E) : ∀ (ws : List Written) (m : List (Int × Written)), foldS (fun (m : List (Int × Written)) w => if badM m w = true then (.inr (.inl err) : List (Int × Written) ⊕ (E ⊕ List (Int × Written))) else .inl (mput m w.id w)) (fun z => .inr z) ws m = finS err (accM ws m)
  | [], m => rfl
  | w :: ws, m => by
    simp only [foldS, accM]
    by_cases h : badM m w = true
    · rw [if_pos h, if_pos h]; rfl
    · rw [if_neg h, if_neg h]; exact foldS_accM (β := β) err ws _
theorem p96_eq {x : Measure} (hx : x.notes.length ≤ 1048576) (m : List (Int × Written)) : loopO (pJoin_s96 x) (m, 0) = some (finS (⟨0, []⟩, 5) (accM x.notes m)) := by
  have := loop_fold (σ := List (Int × Written)) (st := fun z k => (z, k)) (step := pJoin_s96 x) (l := x.notes) (fun m w => if badM m w = true then .inr (.inl (⟨0, []⟩, 5)) else .inl (mput m w.id w)) (fun z => .inr z) (fun _ _ => True) (fun k w m hw _ => by
    have hk := lt_of_get hw
    unfold pJoin_s96 pJoin_r98 pJoin_j97
    dsimp only
    rw [ifb_t' (by simpa using hk), bnd_eq (at_eq hw)]
    change bnd (ifb (mhas m w.id) (some (!decide (mgetD m w.id zW = w))) (some false)) _ = _
    have e : ifb (mhas m w.id) (some (!decide (mgetD m w.id zW = w))) (some false) = some (badM m w) := by
      unfold badM
      cases mhas m w.id <;> rfl
    rw [e, bnd_pure]
    by_cases h : badM m w = true
    · rw [ifb_t' h, if_pos h]
    · rw [ifb_f' (by simpa using h), if_neg h, grdI (by omega)]; rfl) (fun _ _ _ _ _ _ _ => trivial) (fun m _ => by unfold pJoin_s96; dsimp only; rw [ifb_f' (by simp)]) m trivial
  rw [this, foldS_accM (β := Unit)]
def nk (k : Nat) (v : View) : List Written := ((v.measures[k]?).map Measure.notes).getD []
def notesAt (l : List View) (k : Nat) : List Written := l.flatMap (nk k)
theorem nk_eq {v : View} {k : Nat} {m : Measure} (h : v.measures[k]? = some m) : nk k v = m.notes := by simp [nk, h]
theorem foldS_views {E α : Type} (err : E) (acc : List Written → α → Option α) (h0 : ∀ z, acc [] z = some z) (ha : ∀ a b z, acc (a ++ b) z = (acc a z).bind (acc b)) (k : Nat) : ∀ (l : List View) (z : α), foldS (fun z v => orS err (acc (nk k v) z)) (fun z => .inr z) l z = finS err (acc (notesAt l k) z)
  | [], z => by simp [foldS, notesAt, h0, finS]
  | v :: l, z => by
    have e : notesAt (v :: l) k = nk k v ++ notesAt l k := rfl
    simp only [foldS]
    rw [e, ha]
    cases hc : acc (nk k v) z with
    | none => rfl
    | some z' => exact foldS_views err acc h0 ha k l z'
theorem p89_eq {l : List View} {k : Nat} (hl : l.length ≤ 1048576) (hk : ∀ v ∈ l, k < v.measures.length ∧ Sm v) (z : List (Int × Written)) : loopO (pJoin_s89 l (k : Int)) (z, 0) = some (finS (⟨0, []⟩, 5) (accM (notesAt l k) z)) := by
  have := loop_fold (σ := List (Int × Written)) (st := fun z k => (z, k)) (step := pJoin_s89 l (k : Int)) (l := l) (fun z v => orS (⟨0, []⟩, 5) (accM (nk k v) z)) (fun z => .inr z) (fun _ _ => True) (fun j v m hv _ => by
    have hj := lt_of_get hv
    obtain ⟨hkv, hsm⟩ := hk v (List.mem_of_getElem? hv)
    have hm : v.measures[k]? = some v.measures[k] := List.getElem?_eq_getElem hkv
    unfold pJoin_s89 pJoin_j90
    dsimp only
    rw [ifb_t' (by simpa using hj), bnd_eq (at_eq hv), bnd_eq (at_eq hm), p96_eq (hsm.2 _ (List.mem_of_getElem? hm)), bnd_pure, nk_eq hm]
    cases accM v.measures[k].notes m with
    | none => rfl
    | some z' => dsimp only [finS, orS]; rw [grdI (by omega)]; rfl) (fun _ _ _ _ _ _ _ => trivial) (fun m _ => by unfold pJoin_s89; dsimp only; rw [ifb_f' (by simp)]) z trivial
  rw [this, foldS_views _ accM (fun _ => rfl) accM_append]
theorem nk_len {v : View} (hv : viewOk v) (k : Nat) : (nk k v).length ≤ 20000 := by
  unfold nk
  cases h : v.measures[k]? with
  | none => simp
  | some m =>
    have := total_mem (List.mem_of_getElem? h)
    have := hv.2.1
    simp; omega
theorem nk_ok {v : View} (hv : viewOk v) (k : Nat) : ∀ w ∈ nk k v, noteOk w := by
  unfold nk
  intro w hw
  cases h : v.measures[k]? with
  | none => rw [h] at hw; simp at hw
  | some m => rw [h] at hw; exact hv.2.2 m (List.mem_of_getElem? h) w (by simpa using hw)
theorem notesAt_len : ∀ (l : List View) (k : Nat), (∀ v ∈ l, viewOk v) → (notesAt l k).length ≤ l.length * 20000
  | [], k, _ => by simp [notesAt]
  | v :: l, k, h => by
    have e : notesAt (v :: l) k = nk k v ++ notesAt l k := rfl
    have h1 := nk_len (h v (by simp)) k
    have h2 := notesAt_len l k fun x hx => h x (by simp [hx])
    rw [e, List.length_append, List.length_cons]; omega
theorem notesAt_ok {l : List View} (h : ∀ v ∈ l, viewOk v) (k : Nat) : ∀ w ∈ notesAt l k, noteOk w := by
  intro w hw
  obtain ⟨v, hv, hw⟩ := List.mem_flatMap.1 hw
  exact nk_ok (h v hv) k w hw
theorem r36_eq {l : List View} {k : Nat} (hl : l.length ≤ 100) (hk : ∀ v ∈ l, k < v.measures.length ∧ viewOk v) : loopO (r18Join_s36 l (k : Int)) ([], 0) = some (finS (⟨0, []⟩, 5) (accR (notesAt l k) [])) := by
  have := loop_fold (σ := List Written) (st := fun z k => (z, k)) (step := r18Join_s36 l (k : Int)) (l := l) (fun z v => orS (⟨0, []⟩, 5) (accR (nk k v) z)) (fun z => .inr z) (fun j z => (∀ u ∈ z, noteOk u) ∧ z.length ≤ j * 20000) (fun j v z hv hz => by
    have hj := lt_of_get hv
    obtain ⟨hkv, hok⟩ := hk v (List.mem_of_getElem? hv)
    have hm : v.measures[k]? = some v.measures[k] := List.getElem?_eq_getElem hkv
    have h1 := nk_len hok k
    have h2 := nk_ok hok k
    rw [nk_eq hm] at h1 h2 ⊢
    unfold r18Join_s36 r18Join_j37
    dsimp only
    rw [ifb_t' (by simpa using hj), bnd_eq (at_eq hv), bnd_eq (at_eq hm), r18put_eq hz.1 h2 (by omega), bnd_pure]
    cases accR v.measures[k].notes z with
    | none => rfl
    | some z' => dsimp only [orS]; rw [ifb_f' (c := !true) rfl, grdI (by omega)]; rfl) (fun j v z z' hv hz hf => by
    obtain ⟨hkv, hok⟩ := hk v (List.mem_of_getElem? hv)
    have h1 := nk_len hok k
    have h2 := nk_ok hok k
    cases hc : accR (nk k v) z with
    | none => rw [hc] at hf; cases hf
    | some y =>
      rw [hc] at hf
      injection hf with hf
      subst hf
      have := accR_len _ _ _ hc
      refine ⟨fun u hu => ?_, by omega⟩
      rcases (accR_mem _ _ _ hc u).1 hu with h | h
      · exact hz.1 u h
      · exact h2 u h) (fun m _ => by unfold r18Join_s36; dsimp only; rw [ifb_f' (by simp)]) [] ⟨by simp, by simp⟩
  rw [this, foldS_views _ accR (fun _ => rfl) accR_append]
end Go.Proofs.YtjfkfkjkbgiciaaDoor
namespace Go.Proofs.YtjfkfkjkbgiciaaDoor
open Go Go.Eva Enc
@[reducible] def onnPZPl4 : Onn := ⟨False⟩
attribute [local instance] rndX onnPZPl4
theorem loop_anyK {ρ : Type} {step : Int → Option (Int ⊕ (ρ ⊕ Unit))} (n : Nat) (p : Nat → Bool) (r : ρ)
    (h : ∀ (k : Nat), k < n → step (k : Int) = some (if p k = true then .inr (.inl r) else .inl ((k + 1 : Nat) : Int))) (hend : step (n : Int) = some (.inr (.inr ()))) :
    loopO step 0 = some (if (List.range n).any p = true then .inl r else .inr ()) :=
  loop_any (l := List.range n) p r (fun k x hx => by
    have hk := lt_of_get hx
    rw [List.getElem?_range (by simpa using hk)] at hx
    injection hx with hx; subst hx
    exact h k (by simpa using hk)) (by rw [List.length_range]; exact hend)
theorem loop_find {α ρ : Type} {step : Int → Option (Int ⊕ (ρ ⊕ Unit))} {l : List α} (p : α → Bool) (f : α → ρ)
    (h : ∀ (k : Nat) x, l[k]? = some x → step (k : Int) = some (if p x = true then .inr (.inl (f x)) else .inl ((k + 1 : Nat) : Int))) (hend : step (l.length : Int) = some (.inr (.inr ()))) :
    loopO step 0 = some (match l.find? p with | some x => .inl (f x) | none => .inr ()) := by
  have := loop_fold (σ := Unit) (st := fun _ k => k) (step := step) (l := l) (fun _ x => if p x = true then .inr (.inl (f x)) else .inl ()) (fun _ => .inr ()) (fun _ _ => True) (fun k x z hx _ => by
    rw [h k x hx]; split <;> rename_i hp <;> simp [hp]) (fun _ _ _ _ _ _ _ => trivial) (fun z _ => hend) () trivial
  rw [this]
  congr 1
  clear this h hend
  induction l with
  | nil => rfl
  | cons x l ih =>
    simp only [foldS, List.find?_cons]
    by_cases hp : p x = true
    · simp [hp]
    · simp only [hp]
      simpa using ih
def chBad (c : List Int) (k : Nat) : Bool := decide (c.getD k 0 < 1) || (decide (20 < c.getD k 0) || (decide (0 < k) && decide (c.getD k 0 ≤ c.getD (k - 1) 0)))
def chosenOk (c : List Int) : Bool := !(List.range c.length).any (chBad c)
theorem getD_of {c : List Int} {k : Nat} {x : Int} (h : c[k]? = some x) : c.getD k 0 = x := by simp [List.getD, h]
theorem scan_eq {c : List Int} (hc : c.length ≤ 1048576) : loopO (pOssia_s7 c) 0 = some (if (List.range c.length).any (chBad c) = true then .inl (⟨0, []⟩, 1) else .inr ()) := by
  refine loop_anyK c.length (chBad c) _ (fun k hk => ?_) (by unfold pOssia_s7; rw [ifb_f' (by simp)])
  have hx : c[k]? = some c[k] := List.getElem?_eq_getElem hk
  generalize c[k] = x at hx
  unfold pOssia_s7 pOssia_r9 pOssia_j8
  rw [ifb_t' (by simpa using hk), bnd_eq (at_eq hx)]
  unfold chBad
  rw [getD_of hx]
  by_cases h1 : x < 1
  · rw [ifb_t' (by simp [h1]), bnd_pure, ifb_t' rfl]; simp [h1]
  rw [ifb_f' (by simp [h1])]
  by_cases h2 : 20 < x
  · rw [ifb_t' (by simp [h2]), bnd_pure, ifb_t' rfl]; simp [h2]
  rw [ifb_f' (by simp [h2])]
  by_cases h3 : 0 < k
  · obtain ⟨j, rfl⟩ : ∃ j, k = j + 1 := ⟨k - 1, by omega⟩
    have hy : c[j]? = some c[j] := List.getElem?_eq_getElem (by omega)
    generalize c[j] = y at hy
    have e : ((j + 1 : Nat) : Int) - 1 = (j : Int) := by omega
    rw [ifb_t' (by simp), grdI (by omega), e, bnd_eq (at_eq hy), bnd_pure]
    have e2 : j + 1 - 1 = j := rfl
    rw [e2, getD_of hy]
    by_cases h4 : x ≤ y
    · rw [ifb_t' (by simp [h4])]; simp [h4]
    · rw [ifb_f' (by simp [h4]), grdI (by omega)]; simp [h1, h2, h4]
  · rw [ifb_f' (by simp; omega), bnd_pure, ifb_f' rfl, grdI (by omega)]
    have : k = 0 := by omega
    subst this
    simp [h1, h2]
theorem r18Chosen_eq {c : List Int} (hc : c.length ≤ 1048576) : r18Chosen c = some (chosenOk c) := by
  unfold r18Chosen chosenOk
  have : loopO (r18Chosen_s7 c) 0 = some (if (List.range c.length).any (chBad c) = true then .inl false else .inr ()) := by
    refine loop_anyK c.length (chBad c) _ (fun k hk => ?_) (by unfold r18Chosen_s7; rw [ifb_f' (by simp)])
    have hx : c[k]? = some c[k] := List.getElem?_eq_getElem hk
    generalize c[k] = x at hx
    unfold r18Chosen_s7 r18Chosen_r9 r18Chosen_j8
    rw [ifb_t' (by simpa using hk), bnd_eq (at_eq hx), r18in_eq, bnd_pure]
    unfold chBad
    rw [getD_of hx]
    by_cases h1 : 1 ≤ x ∧ x ≤ 20
    · rw [ifb_f' (by simp [h1])]
      have g1 : ¬ x < 1 := by omega
      have g2 : ¬ 20 < x := by omega
      by_cases h3 : 0 < k
      · obtain ⟨j, rfl⟩ : ∃ j, k = j + 1 := ⟨k - 1, by omega⟩
        have hy : c[j]? = some c[j] := List.getElem?_eq_getElem (by omega)
        generalize c[j] = y at hy
        have e : ((j + 1 : Nat) : Int) - 1 = (j : Int) := by omega
        rw [ifb_t' (by simp), grdI (by omega), e, bnd_eq (at_eq hy), bnd_pure]
        have e2 : j + 1 - 1 = j := rfl
        rw [e2, getD_of hy]
        by_cases h4 : x ≤ y
        · rw [ifb_t' (by simp [h4])]; simp [h4]
        · rw [ifb_f' (by simp [h4]), grdI (by omega)]; simp [g1, g2, h4]
      · rw [ifb_f' (by simp; omega), bnd_pure, ifb_f' rfl, grdI (by omega)]
        have : k = 0 := by omega
        subst this
        simp [g1, g2]
    · rw [ifb_t' (by simp only [Bool.not_eq_true', decide_eq_false_iff_not]; exact h1), bnd_pure, ifb_t' rfl]
      have : x < 1 ∨ 20 < x := by omega
      rcases this with h | h <;> simp [h]
  rw [this, bnd_pure]
  by_cases h : (List.range c.length).any (chBad c) = true
  · rw [if_pos h]; simp [h]
  · rw [if_neg h]; simp [r18Chosen_j1, h]
def ossP (n : Int) (w : Written) : Bool := decide (w.ossia = n)
def isIn (l : List Written) (n : Int) : Bool := l.any (ossP n)
def played (c : List Int) (l : List Written) : Int := (c.find? (isIn l)).getD 0
def ossM (c : List Int) (m : Measure) : Measure := cutM (ossP (played c m.notes)) m
def ossV (c : List Int) (v : View) : View := ⟨v.part, v.measures.map (ossM c)⟩
theorem r18Played_eq {l : List Written} {c : List Int} (hl : l.length ≤ 1048576) (hc : c.length ≤ 1048576) : r18Played l c = some (played c l) := by
  unfold r18Played played
  rw [loop_find (l := c) (isIn l) id (fun k n hn => by
    have hk := lt_of_get hn
    unfold r18Played_s15
    rw [ifb_t' (by simpa using hk), loop_any (l := l) (ossP n) n (fun j w hw => by
      have hj := lt_of_get hw
      unfold r18Played_s20 r18Played_j21
      rw [ifb_t' (by simpa using hj), bnd_eq (at_eq hw), bnd_eq (at_eq hn)]
      unfold ossP
      by_cases h : w.ossia = n
      · rw [ifb_t' (by simp [h]), bnd_eq (at_eq hn)]; simp [h]
      · rw [ifb_f' (by simp [h]), grdI (by omega)]; simp [h]) (by unfold r18Played_s20; rw [ifb_f' (by simp)]), bnd_pure]
    unfold isIn
    by_cases h : l.any (ossP n) = true
    · rw [if_pos h, if_pos h]; rfl
    · rw [if_neg h, if_neg h]
      unfold r18Played_j16
      rw [grdI (by omega)]; rfl) (by unfold r18Played_s15; rw [ifb_f' (by simp)]), bnd_pure]
  cases c.find? (isIn l) <;> rfl
theorem contO_eq {l : List Written} (hl : l.length ≤ 1048576) (n : Int) : contO l ⟨⟨n⟩⟩ = some (isIn l n) := by
  unfold contO isIn
  refine idx_any l _ ?_
  unfold idxO
  rw [loop_idx (ossP n) (fun k x hx => by
    have hk := lt_of_get hx
    unfold idxO_s5 idxO_j6 ossia11
    rw [ifb_t' (by simpa using hk), bnd_eq (at_eq hx), bnd_pure]
    unfold ossP
    by_cases h : x.ossia = n
    · rw [ifb_t' (by simp [h])]; simp [h]
    · rw [ifb_f' (by simp [h]), grdI (by omega)]; simp [h]) (by unfold idxO_s5; rw [ifb_f' (by simp)]), bnd_pure]
  cases l.findIdx? _ <;> rfl
theorem foldO_pure {α σ : Type} (f : α → σ → Option σ) (g : σ → α → σ) : ∀ (l : List α) (z : σ), (∀ x z, f x z = some (g z x)) → foldO f l z = some (l.foldl g z)
  | [], z, _ => rfl
  | x :: l, z, h => by
    simp only [foldO, h, bnd_pure, List.foldl_cons]
    exact foldO_pure f g l _ h
theorem fold_rev_find (p : Int → Bool) (l : List Int) (z : Int) : l.reverse.foldl (fun z x => if p x = true then x else z) z = (l.find? p).getD z := by
  rw [List.foldl_reverse]
  induction l with
  | nil => rfl
  | cons x l ih =>
    rw [List.foldr_cons, ih, List.find?_cons]
    by_cases h : p x = true
    · simp [h]
    · simp [h]
theorem ossia1_eq {m : Measure} {c : List Int} (hm : m.notes.length ≤ 1048576) (hc : c.length ≤ 1048576) : ossia1 m ⟨c⟩ = some ⟨⟨played c m.notes⟩⟩ := by
  unfold ossia1
  rw [grd_eq (by dsimp only; omega), foldO_pure _ (fun z x => if isIn m.notes x = true then x else z) _ _ (fun x z => by unfold ossiaStep; rw [contO_eq hm, bnd_pure]), fold_rev_find, bnd_pure]
  rfl
theorem kept1O_eq {m : Measure} {c : List Int} (hm : m.notes.length ≤ 1048576) (hc : c.length ≤ 1048576) : kept1O m ⟨⟨⟨c⟩⟩⟩ = some (ossM c m) := by
  unfold kept1O
  rw [ossia1_eq hm hc, bnd_pure, grd_eq (by omega), grd_eq (by omega)]
  rw [delO_eq (b := fun w => !(ossP (played c m.notes) w)) (fun x _ => by unfold keepO ossia12; rw [bnd_pure]; rfl), bnd_pure]
  unfold ossM cutM
  simp
theorem keptO_eq {v : View} {c : List Int} (hv : Sm v) (hc : c.length ≤ 1048576) : keptO v ⟨⟨c⟩⟩ = some (ossV c v) := by
  unfold keptO eachO
  have hl := hv.1
  rw [loop_map (l := v.measures) (ossM c) (fun z => z) (fun k x z hx hz => by
    have hk := lt_of_get hx
    unfold eachO_s5 eachO_j6
    dsimp only
    rw [ifb_t' (by simpa using hk), bnd_eq (at_eq hx), kept1O_eq (hv.2 x (List.mem_of_getElem? hx)) hc, bnd_pure, grd_eq (by simp [hz]; omega), grdI (by omega)]
    rfl) (fun z => by unfold eachO_s5; dsimp only; rw [ifb_f' (by simp)])]
  rfl
theorem pOssia_eq {v : View} {c : List Int} (hv : Sm v) (hc : c.length ≤ 1048576) : pOssia v c = some (if viewOk v ∧ chosenOk c = true then (ossV c v, 0) else (⟨0, []⟩, 1)) := by
  unfold pOssia
  rw [scan_eq hc, bnd_pure]
  unfold chosenOk
  by_cases h : (List.range c.length).any (chBad c) = true
  · rw [if_pos h, if_neg (fun h' => by simp [h] at h')]
  · rw [if_neg h]
    dsimp only
    unfold pOssia_j1
    rw [isView_eq hv, bnd_pure]
    by_cases h1 : viewOk v
    · rw [ifb_f' (by simp [h1]), keptO_eq hv hc, bnd_pure, if_pos ⟨h1, by simp [h]⟩]
    · rw [ifb_t' (by simp [h1]), if_neg (fun h' => h1 h'.1)]
theorem r18Ossia_eq {v : View} {c : List Int} (hv : Sm v) (hc : c.length ≤ 1048576) : r18Ossia v c = some (if viewOk v ∧ chosenOk c = true then (ossV c v, 0) else (⟨0, []⟩, 1)) := by
  unfold r18Ossia r18Ossia_r1
  have hl := hv.1
  rw [r18Valid_eq hv, bnd_pure]
  by_cases h1 : viewOk v
  · rw [ifb_f' (by simp [h1]), r18Chosen_eq hc, bnd_pure, bnd_pure]
    by_cases h2 : chosenOk c = true
    · rw [ifb_f' (by simp [h2]), if_pos ⟨h1, h2⟩, loop_map (l := v.measures) (ossM c) (fun z => z) (fun k x z hx hz => by
        have hk := lt_of_get hx
        have hm := hv.2 x (List.mem_of_getElem? hx)
        unfold r18Ossia_s18 r18Ossia_j20 r18Ossia_j19
        dsimp only
        rw [ifb_t' (by simpa using hk), bnd_eq (at_eq hx), r18Played_eq hm hc, bnd_pure, loop_filter (l := x.notes) (ossP (played c x.notes)) (fun z => z) (fun j w y hw hy => by
          have hj := lt_of_get hw
          unfold r18Ossia_s24 r18Ossia_j25
          dsimp only
          rw [ifb_t' (by simpa using hj), bnd_eq (at_eq hw)]
          unfold ossP
          by_cases hp : w.ossia = played c x.notes
          · rw [ifb_t' (by simp [hp]), bnd_eq (at_eq hw), grd_eq (by simp; omega), grdI (by omega), if_pos (by simp [hp])]; rfl
          · rw [ifb_f' (by simpa using hp), grdI (by omega), if_neg (by simpa using hp)]; rfl) (fun y => by unfold r18Ossia_s24; dsimp only; rw [ifb_f' (by simp)]), bnd_pure, grd_eq (by simp [hz]; omega), grdI (by omega)]
        rfl) (fun z => by unfold r18Ossia_s18; dsimp only; rw [ifb_f' (by simp)])]
      rfl
    · rw [ifb_t' (by simpa using h2), if_neg (fun h => h2 h.2)]
  · rw [ifb_t' (by simp [h1]), bnd_pure, ifb_t' rfl, if_neg (fun h => h1 h.1)]
end Go.Proofs.YtjfkfkjkbgiciaaDoor
namespace Go.Proofs.YtjfkfkjkbgiciaaDoor
open Go Go.Eva Enc
@[reducible] def onnPZPl8 : Onn := ⟨False⟩
attribute [local instance] rndX onnPZPl8
def frB (x y : Measure) : Bool := decide (x.bar = y.bar ∧ x.key = y.key ∧ x.length = y.length)
def fitB (a b : View) : Bool := decide (a.part = b.part) && (decide (a.measures.length = b.measures.length) && (a.measures.zip b.measures).all fun p => frB p.1 p.2)
theorem fit1_eq (x y : Measure) : fit1 x y = some (frB x y) := by
  unfold fit1 fit1_r1 frB
  simp only [ifb_eq, decide_eq_true_eq]
  by_cases h1 : x.bar = y.bar <;> by_cases h2 : x.key = y.key <;> simp [h1, h2, bnd_pure]
theorem eqFit_eq {a b : List Measure} (ha : a.length ≤ 1048576) (f : C39) : eqFit a b f = some (decide (a.length = b.length) && (a.zip b).all fun p => frB p.1 p.2) := by
  unfold eqFit
  by_cases hl : a.length = b.length
  · rw [ifb_f' (by simp [hl]), loop_same hl frB false (fun k x y hx hy => by
      have hk := lt_of_get hx
      unfold eqFit_s5 eqFit_j6
      rw [ifb_t' (by simpa using hk), bnd_eq (at_eq hx), bnd_eq (at_eq hy), fit1_eq, bnd_pure]
      by_cases he : frB x y = true
      · rw [ifb_f' (by simp [he]), grdI (by omega), if_pos he]; rfl
      · rw [ifb_t' (by simpa using he), if_neg he]) (by unfold eqFit_s5; rw [ifb_f' (by simp)]), bnd_pure]
    by_cases he : ((a.zip b).all fun p => frB p.1 p.2) = true
    · rw [if_pos he, he]; simp [eqFit_j1, hl]
    · rw [if_neg he]
      simp only [Bool.not_eq_true] at he
      rw [he]; simp
  · rw [ifb_t' (by simp; omega)]
    simp [hl]
theorem fit_eq {a b : View} (ha : Sm a) : fit a b = some (fitB a b) := by
  unfold fit fit_r1 fitB
  by_cases h : a.part = b.part
  · rw [ifb_t' (by simp [h]), eqFit_eq ha.1, bnd_pure, bnd_pure]; simp [h]
  · rw [ifb_f' (by simp [h]), bnd_pure]; simp [h]
theorem r18same_eq {a b : View} (ha : Sm a) : r18same a b = some (fitB a b) := by
  unfold r18same r18same_r1 fitB
  have hl1 := ha.1
  by_cases h : a.part = b.part
  · rw [ifb_f' (by simp [h]), bnd_pure]
    by_cases hl : a.measures.length = b.measures.length
    · rw [ifb_f' (by simp [hl]), loop_same hl frB false (fun k x y hx hy => by
        have hk := lt_of_get hx
        unfold r18same_s8 r18same_j9
        have e : r18same_r10 x y = some (!frB x y) := by
          unfold r18same_r10 frB
          simp only [ifb_eq]
          by_cases h1 : x.bar = y.bar <;> by_cases h2 : x.key = y.key <;> simp [h1, h2]
        rw [ifb_t' (by simpa using hk), bnd_eq (at_eq hx), bnd_eq (at_eq hy), e, bnd_pure]
        by_cases he : frB x y = true
        · rw [ifb_f' (by simp [he]), grdI (by omega), if_pos he]; rfl
        · rw [ifb_t' (by simpa using he), if_neg he]) (by unfold r18same_s8; rw [ifb_f' (by simp)]), bnd_pure]
      by_cases he : ((a.measures.zip b.measures).all fun p => frB p.1 p.2) = true
      · rw [if_pos he, he]; simp [r18same_j2, h, hl]
      · rw [if_neg he]
        simp only [Bool.not_eq_true] at he
        rw [he]; simp
    · rw [ifb_t' (by simp; omega)]; simp [hl]
  · rw [ifb_t' (by simp [h]), bnd_pure, ifb_t' rfl]; simp [h]
theorem contV_eq {l : List View} (hl : l.length ≤ 1048576) (hs : ∀ v ∈ l, Sm v) (f : C17) : contV l f = some (l.any fun v => !decide (viewOk v)) := by
  unfold contV
  refine idx_any l _ ?_
  unfold idxV
  rw [loop_idx (fun v => !decide (viewOk v)) (fun k x hx => by
    have hk := lt_of_get hx
    unfold idxV_s5 idxV_j6 notView
    rw [ifb_t' (by simpa using hk), bnd_eq (at_eq hx), isView_eq (hs x (List.mem_of_getElem? hx)), bnd_pure, bnd_pure]
    by_cases h : viewOk x
    · rw [ifb_f' (by simp [h]), grdI (by omega)]; simp [h]
    · rw [ifb_t' (by simp [h])]; simp [h]) (by unfold idxV_s5; rw [ifb_f' (by simp)]), bnd_pure]
  cases l.findIdx? _ <;> rfl
theorem contF_eq {l : List View} {v0 : View} (h0 : l[0]? = some v0) (hl : l.length ≤ 1048576) (hs : ∀ v ∈ l, Sm v) : contF l ⟨⟨l⟩⟩ = some (l.any fun v => !fitB v0 v) := by
  unfold contF
  refine idx_any l _ ?_
  unfold idxF
  rw [loop_idx (fun v => !fitB v0 v) (fun k x hx => by
    have hk := lt_of_get hx
    unfold idxF_s5 idxF_j6 noFit
    have a0 : at? l 0 = some v0 := at_eq (k := 0) h0
    rw [ifb_t' (by simpa using hk), bnd_eq (at_eq hx)]
    change bnd (bnd (at? l 0) fun x2 => _) _ = _
    rw [bnd_eq a0, fit_eq (hs v0 (List.mem_of_getElem? h0)), bnd_pure, bnd_pure]
    by_cases h : fitB v0 x = true
    · rw [ifb_f' (by simp [h]), grdI (by omega)]; simp [h]
    · rw [ifb_t' (by simp [h])]; simp [h]) (by unfold idxF_s5; rw [ifb_f' (by simp)]), bnd_pure]
  cases l.findIdx? _ <;> rfl
def joinF (l : List View) (z : List Measure × Int) (m : Measure) : (List Measure × Int) ⊕ ((View × Int) ⊕ (List Measure × Int)) := match accR (notesAt l z.1.length) [] with
  | none => .inr (.inl (⟨0, []⟩, 5))
  | some ns => .inl (z.1 ++ [⟨m.bar, m.key, m.length, ns⟩], z.2 + (ns.length : Int))
def joinE (p : Int) : (View × Int) ⊕ (List Measure × Int) → View × Int
  | .inl e => e
  | .inr (ms, n) => if 20000 < n then (⟨0, []⟩, 2) else (⟨p, ms⟩, 0)
def joinR (l : List View) (v0 : View) : (View × Int) ⊕ (List Measure × Int) := foldS (joinF l) (fun z => .inr z) v0.measures ([], 0)
def joinV (l : List View) : View × Int := match l[0]? with
  | none => (⟨0, []⟩, 1)
  | some v0 => if 100 < l.length ∨ (l.any fun v => !decide (viewOk v)) = true then (⟨0, []⟩, 1) else if (l.any fun v => !fitB v0 v) = true then (⟨0, []⟩, 6) else joinE v0.part (joinR l v0)
theorem accN_len {l : List View} {k : Nat} {ns : List Written} (hl : l.length ≤ 100) (h : ∀ v ∈ l, viewOk v) (ha : accR (notesAt l k) [] = some ns) : ns.length ≤ 2000000 := by
  have := accR_len _ _ _ ha
  have h2 := notesAt_len l k h
  simp only [List.length_nil] at this
  omega
theorem joinF_inv {l : List View} (hl : l.length ≤ 100) (h : ∀ v ∈ l, viewOk v) {k : Nat} {z z' : List Measure × Int} {m : Measure} (hz : z.1.length = k ∧ 0 ≤ z.2 ∧ z.2 ≤ k * 2000000) (hf : joinF l z m = .inl z') : z'.1.length = k + 1 ∧ 0 ≤ z'.2 ∧ z'.2 ≤ (k + 1 : Nat) * 2000000 := by
  unfold joinF at hf
  cases ha : accR (notesAt l z.1.length) [] with
  | none => rw [ha] at hf; cases hf
  | some ns =>
    rw [ha] at hf
    injection hf with hf
    have := accN_len hl h ha
    subst hf
    obtain ⟨h1, h2, h3⟩ := hz
    refine ⟨by simp [h1], ?_, ?_⟩ <;> dsimp only <;> omega
theorem p67_eq {l : List View} {v0 : View} (hl : l.length ≤ 100) (h : ∀ v ∈ l, viewOk v ∧ Sm v ∧ v.measures.length = v0.measures.length) (h4 : v0.measures.length ≤ 4000) : loopO (pJoin_s67 l v0) ([], 0, 0) = some (joinR l v0) := by
  have hok : ∀ v ∈ l, viewOk v := fun v hv => (h v hv).1
  refine loop_fold (σ := List Measure × Int) (st := fun z k => (z.1, z.2, k)) (step := pJoin_s67 l v0) (l := v0.measures) (joinF l) (fun z => .inr z) (fun k z => z.1.length = k ∧ 0 ≤ z.2 ∧ z.2 ≤ k * 2000000) (fun k m z hm hz => ?_) (fun k m z z' hm hz hf => joinF_inv hl hok hz hf) (fun z _ => by unfold pJoin_s67; dsimp only; rw [ifb_f' (by simp)]) ([], 0) ⟨rfl, by omega, by omega⟩
  have hk := lt_of_get hm
  obtain ⟨z1, z2⟩ := z
  obtain ⟨hz1, hz2, hz3⟩ := hz
  dsimp only at hz1 hz2 hz3 ⊢
  unfold pJoin_s67 joinF
  dsimp only
  rw [ifb_t' (by simpa using hk), bnd_eq (at_eq hm), p89_eq (by omega) (fun v hv => ⟨by have := (h v hv).2.2; omega, (h v hv).2.1⟩), bnd_pure, hz1]
  rcases Sim.acc (notesAt l k) Sim.nil with ⟨e1, e2⟩ | ⟨m', ns, e1, e2, hs⟩
  · rw [e1, e2]; rfl
  · have hn := accN_len hl hok e2
    have hno : ∀ w ∈ ns, noteOk w := fun w hw => by
      rcases (accR_mem _ _ _ e2 w).1 hw with h' | h'
      · cases h'
      · exact notesAt_ok hok k w h'
    rw [e1, e2]
    dsimp only [finS]
    unfold pJoin_j69 pJoin_j68
    rw [grd_eq (hs.oV hno (by omega)), hs.sort, grdI (by dsimp only; omega), grd_eq (by simp [hz1]; omega), grdI (by omega)]
    rfl
theorem r30_eq {l : List View} {v0 : View} (h0 : l[0]? = some v0) (hl : l.length ≤ 100) (h : ∀ v ∈ l, viewOk v ∧ Sm v ∧ v.measures.length = v0.measures.length) (h4 : v0.measures.length ≤ 4000) : loopO (r18Join_s30 l) ([], 0, 0) = some (joinR l v0) := by
  have hok : ∀ v ∈ l, viewOk v := fun v hv => (h v hv).1
  have a0 : at? l 0 = some v0 := at_eq (k := 0) h0
  refine loop_fold (σ := List Measure × Int) (st := fun z k => (z.1, z.2, k)) (step := r18Join_s30 l) (l := v0.measures) (joinF l) (fun z => .inr z) (fun k z => z.1.length = k ∧ 0 ≤ z.2 ∧ z.2 ≤ k * 2000000) (fun k m z hm hz => ?_) (fun k m z z' hm hz hf => joinF_inv hl hok hz hf) (fun z _ => by unfold r18Join_s30; dsimp only; rw [bnd_eq a0, ifb_f' (by simp)]) ([], 0) ⟨rfl, by omega, by omega⟩
  have hk := lt_of_get hm
  obtain ⟨z1, z2⟩ := z
  obtain ⟨hz1, hz2, hz3⟩ := hz
  dsimp only at hz1 hz2 hz3 ⊢
  unfold r18Join_s30 joinF
  dsimp only
  rw [bnd_eq a0, ifb_t' (by simpa using hk), bnd_eq a0, bnd_eq (at_eq hm), r36_eq (by omega) (fun v hv => ⟨by have := (h v hv).2.2; omega, (h v hv).1⟩), bnd_pure, hz1]
  cases e2 : accR (notesAt l k) [] with
  | none => rfl
  | some ns =>
    have hn := accN_len hl hok e2
    dsimp only [finS]
    unfold r18Join_j32 r18Join_j31
    rw [grdI (by omega), grd_eq (by simp [hz1]; omega), grdI (by omega)]
    rfl
theorem fitB_len {a b : View} (h : fitB a b = true) : b.measures.length = a.measures.length := by
  unfold fitB at h
  simp only [Bool.and_eq_true, decide_eq_true_eq] at h
  exact h.2.1.symm
theorem joinV_facts {l : List View} {v0 : View} (h0 : l[0]? = some v0) (hs : ∀ v ∈ l, Sm v) (h1 : ¬ (l.any fun v => !decide (viewOk v)) = true) (h2 : ¬ (l.any fun v => !fitB v0 v) = true) : (∀ v ∈ l, viewOk v ∧ Sm v ∧ v.measures.length = v0.measures.length) ∧ v0.measures.length ≤ 4000 := by
  have hok : ∀ v ∈ l, viewOk v := fun v hv => by
    refine Classical.byContradiction fun hn => h1 (List.any_eq_true.2 ⟨v, hv, by simp [hn]⟩)
  refine ⟨fun v hv => ⟨hok v hv, hs v hv, ?_⟩, (hok v0 (List.mem_of_getElem? h0)).1⟩
  refine fitB_len ?_
  refine Classical.byContradiction fun hn => h2 (List.any_eq_true.2 ⟨v, hv, by simp [hn]⟩)
theorem pJoin_eq {l : List View} (hl : l.length ≤ 1048576) (hs : ∀ v ∈ l, Sm v) : pJoin l = some (joinV l) := by
  unfold pJoin pJoin_r2 joinV
  cases h0 : l[0]? with
  | none =>
    have : l = [] := by
      cases l with
      | nil => rfl
      | cons a l => simp at h0
    subst this
    rw [ifb_t' (by simp), bnd_pure, ifb_t' rfl]
  | some v0 =>
    have hpos := lt_of_get h0
    have a0 : at? l 0 = some v0 := at_eq (k := 0) h0
    dsimp only
    rw [ifb_f' (by simp; omega)]
    by_cases h1 : 100 < l.length
    · rw [ifb_t' (by simp; omega), bnd_pure, ifb_t' rfl, if_pos (.inl h1)]
    rw [ifb_f' (by simp; omega), contV_eq hl hs, bnd_pure, bnd_pure]
    by_cases h2 : (l.any fun v => !decide (viewOk v)) = true
    · rw [ifb_t' h2, if_pos (.inr h2)]
    rw [ifb_f' (by simpa using h2), contF_eq h0 hl hs, bnd_pure, if_neg (by rintro (h | h); exact h1 h; exact h2 h)]
    by_cases h3 : (l.any fun v => !fitB v0 v) = true
    · rw [ifb_t' h3, if_pos h3]
    rw [ifb_f' (by simpa using h3), if_neg h3]
    obtain ⟨f1, f2⟩ := joinV_facts h0 hs h2 h3
    unfold pJoin_j1
    rw [bnd_eq a0, bnd_eq a0, p67_eq (by omega) f1 f2, bnd_pure]
    rcases joinR l v0 with ⟨a, b⟩ | ⟨ms, n⟩
    · rfl
    · dsimp only
      unfold pJoin_j3 joinE
      dsimp only
      by_cases h : 20000 < n
      · rw [ifb_t' (by simp [h]), if_pos h]
      · rw [ifb_f' (by simp [h]), if_neg h]
theorem r18Join_eq {l : List View} (hl : l.length ≤ 1048576) (hs : ∀ v ∈ l, Sm v) : r18Join l = some (joinV l) := by
  unfold r18Join r18Join_r1 joinV
  cases h0 : l[0]? with
  | none =>
    have : l = [] := by
      cases l with
      | nil => rfl
      | cons a l => simp at h0
    subst this
    rw [ifb_t' (by simp), bnd_pure, ifb_t' rfl]
  | some v0 =>
    have hpos := lt_of_get h0
    have a0 : at? l 0 = some v0 := at_eq (k := 0) h0
    dsimp only
    rw [ifb_f' (by simp; omega), bnd_pure]
    by_cases h1 : 100 < l.length
    · rw [ifb_t' (by simp; omega), if_pos (.inl h1)]
    rw [ifb_f' (by simp; omega), loop_any (l := l) (fun v => !decide (viewOk v)) (⟨0, []⟩, 1) (fun k x hx => by
      have hk := lt_of_get hx
      unfold r18Join_s6 r18Join_j7
      rw [ifb_t' (by simpa using hk), bnd_eq (at_eq hx), r18Valid_eq (hs x (List.mem_of_getElem? hx)), bnd_pure]
      by_cases h : viewOk x
      · rw [ifb_f' (by simp [h]), grdI (by omega)]; simp [h]
      · rw [ifb_t' (by simp [h])]; simp [h]) (by unfold r18Join_s6; rw [ifb_f' (by simp)]), bnd_pure]
    by_cases h2 : (l.any fun v => !decide (viewOk v)) = true
    · rw [if_pos h2, if_pos (.inr h2)]
    rw [if_neg h2, if_neg (by rintro (h | h); exact h1 h; exact h2 h)]
    dsimp only
    unfold r18Join_j2
    rw [loop_any (l := l) (fun v => !fitB v0 v) (⟨0, []⟩, 6) (fun k x hx => by
      have hk := lt_of_get hx
      unfold r18Join_s12 r18Join_j13
      rw [ifb_t' (by simpa using hk), bnd_eq a0, bnd_eq (at_eq hx), r18same_eq (hs v0 (List.mem_of_getElem? h0)), bnd_pure]
      by_cases h : fitB v0 x = true
      · rw [ifb_f' (by simp [h]), grdI (by omega)]; simp [h]
      · rw [ifb_t' (by simp [h])]; simp [h]) (by unfold r18Join_s12; rw [ifb_f' (by simp)]), bnd_pure]
    by_cases h3 : (l.any fun v => !fitB v0 v) = true
    · rw [if_pos h3, if_pos h3]
    rw [if_neg h3, if_neg h3]
    dsimp only
    obtain ⟨f1, f2⟩ := joinV_facts h0 hs h2 h3
    unfold r18Join_j8
    rw [bnd_eq a0, r30_eq h0 (by omega) f1 f2, bnd_pure]
    rcases joinR l v0 with ⟨a, b⟩ | ⟨ms, n⟩
    · rfl
    · dsimp only
      unfold r18Join_j14 joinE
      dsimp only
      by_cases h : 20000 < n
      · rw [ifb_t' (by simp [h]), if_pos h]
      · rw [ifb_f' (by simp [h]), if_neg h]
theorem fewL_ok {l : List View} (hl : l.length ≤ 1048576) (hs : ∀ v ∈ l, Sm v) : ∃ b, fewL l = some b := by
  unfold fewL
  have := loop_fold (σ := Unit) (st := fun _ k => k) (step := fewL_s7 l) (l := l.zipIdx) (fun _ p => if (decide (6 < p.2) || !decide (few p.1)) = true then .inr (.inl false) else .inl ()) (fun _ => .inr ()) (fun _ _ => True) (fun k p _ hp _ => by
    have hk := lt_of_get hp
    rw [List.length_zipIdx] at hk
    rw [List.getElem?_zipIdx] at hp
    obtain ⟨x, hx, rfl⟩ := Option.map_eq_some_iff.1 hp
    unfold fewL_s7 fewL_r9 fewL_j8
    rw [ifb_t' (by simpa using hk), bnd_eq (at_eq hx)]
    by_cases h6 : 6 < k
    · rw [ifb_t' (by simp; omega), bnd_pure, ifb_t' rfl]; simp [h6]
    · rw [ifb_f' (by simp; omega), r14Few_eq (hs x (List.mem_of_getElem? hx)), bnd_pure, bnd_pure]
      by_cases hf : few x
      · rw [ifb_f' (by simp [hf]), grdI (by omega)]; simp [h6, hf]
      · rw [ifb_t' (by simp [hf])]; simp [hf]) (fun _ _ _ _ _ _ _ => trivial) (fun _ _ => by rw [List.length_zipIdx]; unfold fewL_s7; rw [ifb_f' (by simp)]) () trivial
  rw [this, bnd_pure]
  generalize foldS _ _ _ _ = r
  rcases r with b | b
  · exact ⟨b, rfl⟩
  · exact ⟨true, rfl⟩
end Go.Proofs.YtjfkfkjkbgiciaaDoor
namespace Go.Proofs.YtjfkfkjkbgiciaaDoor
open Go Go.Eva Enc
@[reducible] def onnPZPl9 : Onn := ⟨False⟩
attribute [local instance] rndX onnPZPl9
def vH : View := ⟨1, [⟨1, 0, ⟨0, 0⟩, [⟨1, 0, 0, ⟨0, 1⟩, ⟨1, 1⟩, ⟨0, 0, 4⟩⟩, ⟨2, 2, 0, ⟨0, 1⟩, ⟨1, 1⟩, ⟨0, 0, 4⟩⟩, ⟨3, 5, 0, ⟨0, 1⟩, ⟨1, 1⟩, ⟨0, 0, 4⟩⟩]⟩, ⟨2, 0, ⟨0, 0⟩, [⟨4, 0, 0, ⟨0, 1⟩, ⟨1, 1⟩, ⟨0, 0, 4⟩⟩, ⟨5, 0, 4, ⟨0, 1⟩, ⟨1, 1⟩, ⟨0, 0, 4⟩⟩]⟩]⟩
instance (v : View) : Decidable (Sm v) := inferInstanceAs (Decidable (_ ∧ _))
theorem vH_sm : Sm vH := by decide +kernel
theorem vH_ok : viewOk vH := by decide +kernel
theorem vH_voices : pVoices vH = some ([2, 5], 0) := by rw [pVoices_eq vH_sm, if_pos vH_ok]; decide +kernel
theorem vH_as5 : pAssign vH 5 = some ([2, 2, 2, 5, 5], 0) := by rw [pAssign_eq vH_sm]; decide +kernel
theorem vH_as1 : pAssign vH 1 = some ([], 6) := by rw [pAssign_eq vH_sm]; decide +kernel
def vD5 : View := ⟨1, [⟨1, 0, ⟨0, 0⟩, [⟨1, 0, 0, ⟨0, 1⟩, ⟨1, 1⟩, ⟨0, 0, 4⟩⟩, ⟨3, 5, 0, ⟨0, 1⟩, ⟨1, 1⟩, ⟨0, 0, 4⟩⟩]⟩, ⟨2, 0, ⟨0, 0⟩, [⟨4, 0, 0, ⟨0, 1⟩, ⟨1, 1⟩, ⟨0, 0, 4⟩⟩, ⟨5, 0, 4, ⟨0, 1⟩, ⟨1, 1⟩, ⟨0, 0, 4⟩⟩]⟩]⟩
def vD2 : View := ⟨1, [⟨1, 0, ⟨0, 0⟩, [⟨1, 0, 0, ⟨0, 1⟩, ⟨1, 1⟩, ⟨0, 0, 4⟩⟩, ⟨2, 2, 0, ⟨0, 1⟩, ⟨1, 1⟩, ⟨0, 0, 4⟩⟩]⟩, ⟨2, 0, ⟨0, 0⟩, [⟨4, 0, 0, ⟨0, 1⟩, ⟨1, 1⟩, ⟨0, 0, 4⟩⟩, ⟨5, 0, 4, ⟨0, 1⟩, ⟨1, 1⟩, ⟨0, 0, 4⟩⟩]⟩]⟩
def vO0 : View := ⟨1, [⟨1, 0, ⟨0, 0⟩, [⟨1, 0, 0, ⟨0, 1⟩, ⟨1, 1⟩, ⟨0, 0, 4⟩⟩, ⟨2, 2, 0, ⟨0, 1⟩, ⟨1, 1⟩, ⟨0, 0, 4⟩⟩, ⟨3, 5, 0, ⟨0, 1⟩, ⟨1, 1⟩, ⟨0, 0, 4⟩⟩]⟩, ⟨2, 0, ⟨0, 0⟩, [⟨4, 0, 0, ⟨0, 1⟩, ⟨1, 1⟩, ⟨0, 0, 4⟩⟩]⟩]⟩
def vO4 : View := ⟨1, [⟨1, 0, ⟨0, 0⟩, [⟨1, 0, 0, ⟨0, 1⟩, ⟨1, 1⟩, ⟨0, 0, 4⟩⟩, ⟨2, 2, 0, ⟨0, 1⟩, ⟨1, 1⟩, ⟨0, 0, 4⟩⟩, ⟨3, 5, 0, ⟨0, 1⟩, ⟨1, 1⟩, ⟨0, 0, 4⟩⟩]⟩, ⟨2, 0, ⟨0, 0⟩, [⟨5, 0, 4, ⟨0, 1⟩, ⟨1, 1⟩, ⟨0, 0, 4⟩⟩]⟩]⟩
theorem vH_d5 : pDesk vH 5 = some (vD5, 0) := by rw [pDesk_eq vH_sm]; decide +kernel
theorem vH_d2 : pDesk vH 2 = some (vD2, 0) := by rw [pDesk_eq vH_sm]; decide +kernel
theorem vH_o0 : pOssia vH [] = some (vO0, 0) := by rw [pOssia_eq vH_sm (by decide)]; decide +kernel
theorem vH_o4 : pOssia vH [4] = some (vO4, 0) := by rw [pOssia_eq vH_sm (by decide)]; decide +kernel
theorem vH_o21 : pOssia vH [21] = some (⟨0, []⟩, 1) := by rw [pOssia_eq vH_sm (by decide)]; decide +kernel
theorem vH_j : pJoin [vD5, vD2] = some (vH, 0) := by
  rw [pJoin_eq (by decide) (by decide +kernel)]; decide +kernel
theorem vH_j0 : pJoin [] = some (⟨0, []⟩, 1) := by
  rw [pJoin_eq (by decide) (by decide +kernel)]; decide +kernel
theorem headP_eq : headP = some true := by
  unfold headP written
  simp only [bnd_pure]
  change bnd (pVoices vH) _ = _
  rw [vH_voices, bnd_pure]
  change bnd (pAssign vH 5) _ = _
  rw [vH_as5, bnd_pure]
  change bnd (pAssign vH 1) _ = _
  rw [vH_as1, bnd_pure]
  change bnd (pDesk vH 5) _ = _
  rw [vH_d5, bnd_pure]
  change bnd (pOssia vH []) _ = _
  rw [vH_o0, bnd_pure]
  change bnd (pOssia vH [4]) _ = _
  rw [vH_o4, bnd_pure]
  change bnd (pDesk vH 2) _ = _
  rw [vH_d2, bnd_pure]
  change bnd (pJoin [vD5, vD2]) _ = _
  rw [vH_j, bnd_pure, vH_j0, bnd_pure]
  change bnd (pOssia vH [21]) _ = _
  rw [vH_o21, bnd_pure]
  have e1 : headP_r1 0 0 6 0 0 0 0 0 1 1 = some true := by decide +kernel
  rw [e1, bnd_pure]
  have e2 : headP_r2 vD5 vO0 vO4 true = some false := by decide +kernel
  rw [e2, bnd_pure, ifb_f' rfl]
  have e3 : headP_r3 [2, 5] [2, 2, 2, 5, 5] vD5 = some true := by
    unfold headP_r3 written
    rw [r18SameInts_eq (by decide), bnd_pure, ifb_t' (by decide), r18SameInts_eq (by decide), bnd_pure, ifb_t' (by decide), bnd_eq (show at? vD5.measures 0 = some ⟨1, 0, ⟨0, 0⟩, [⟨1, 0, 0, ⟨0, 1⟩, ⟨1, 1⟩, ⟨0, 0, 4⟩⟩, ⟨3, 5, 0, ⟨0, 1⟩, ⟨1, 1⟩, ⟨0, 0, 4⟩⟩]⟩ from rfl), bnd_pure, bnd_pure, r14SameWritten_eq (by decide), bnd_pure]
    decide +kernel
  rw [e3, bnd_pure]
  unfold headP_r4 written
  rw [ifb_t' rfl, bnd_eq (show at? vO0.measures 1 = some ⟨2, 0, ⟨0, 0⟩, [⟨4, 0, 0, ⟨0, 1⟩, ⟨1, 1⟩, ⟨0, 0, 4⟩⟩]⟩ from rfl), bnd_pure, r14SameWritten_eq (by decide), bnd_pure, ifb_t' (by decide +kernel), bnd_eq (show at? vO4.measures 1 = some ⟨2, 0, ⟨0, 0⟩, [⟨5, 0, 4, ⟨0, 1⟩, ⟨1, 1⟩, ⟨0, 0, 4⟩⟩]⟩ from rfl), bnd_pure, r14SameWritten_eq (by decide), bnd_pure, ifb_t' (by decide +kernel), r14Same_eq vH_sm, bnd_pure, bnd_pure]
  decide +kernel
theorem sm_map {v : View} (hv : Sm v) (f : Measure → Measure) (hf : ∀ m, (f m).notes.length ≤ m.notes.length) (p : Int) : Sm ⟨p, v.measures.map f⟩ := by
  refine ⟨by simpa using hv.1, fun m hm => ?_⟩
  obtain ⟨x, hx, rfl⟩ := List.mem_map.1 hm
  exact Nat.le_trans (hf x) (hv.2 x hx)
theorem sm_desk {v : View} (hv : Sm v) (n : Int) : Sm (deskV n v) := sm_map hv _ (fun m => List.length_filter_le _ _) _
theorem sm_oss {v : View} (hv : Sm v) (c : List Int) : Sm (ossV c v) := sm_map hv _ (fun m => List.length_filter_le _ _) _
theorem sm_nil : Sm ⟨0, []⟩ := by decide
theorem total_append (a b : List Measure) : total (a ++ b) = total a + total b := by
  induction a with
  | nil => simp [total]
  | cons m a ih => rw [List.cons_append, total_cons, total_cons, ih]; omega
theorem foldS_joinF {l : List View} : ∀ (ms : List Measure) (z : List Measure × Int) (r : List Measure × Int), z.2 = total z.1 → foldS (joinF l) (fun z => .inr z) ms z = .inr r → r.1.length = z.1.length + ms.length ∧ r.2 = total r.1
  | [], z, r, hz, hr => by
    injection hr with hr; subst hr; exact ⟨rfl, hz⟩
  | m :: ms, z, r, hz, hr => by
    simp only [foldS] at hr
    cases ha : accR (notesAt l z.1.length) [] with
    | none =>
      have : joinF l z m = .inr (.inl (⟨0, []⟩, 5)) := by unfold joinF; rw [ha]
      rw [this] at hr; cases hr
    | some ns =>
      have e : joinF l z m = .inl (z.1 ++ [⟨m.bar, m.key, m.length, ns⟩], z.2 + (ns.length : Int)) := by unfold joinF; rw [ha]
      rw [e] at hr
      have := foldS_joinF ms _ r (by dsimp only; rw [total_append, hz, total_cons]; simp [total]) hr
      refine ⟨?_, this.2⟩
      have h1 := this.1
      simp at h1 ⊢; omega
theorem sm_join {l : List View} (hs : ∀ v ∈ l, Sm v) : Sm (joinV l).1 := by
  unfold joinV
  cases h0 : l[0]? with
  | none => exact sm_nil
  | some v0 =>
    dsimp only
    split
    · exact sm_nil
    split
    · exact sm_nil
    cases hr : joinR l v0 with
    | inl e =>
      have : ∀ (ms : List Measure) z, foldS (joinF l) (fun z => .inr z) ms z = .inl e → e = (⟨0, []⟩, 5) := by
        intro ms
        induction ms with
        | nil => intro z h; cases h
        | cons m ms ih =>
          intro z h
          simp only [foldS] at h
          unfold joinF at h
          cases ha : accR (notesAt l z.1.length) [] with
          | none => rw [ha] at h; injection h with h; exact h.symm
          | some ns => rw [ha] at h; exact ih _ h
      have := this _ _ hr
      subst this
      exact sm_nil
    | inr r =>
      obtain ⟨ms, n⟩ := r
      obtain ⟨h1, h2⟩ := foldS_joinF _ _ _ (by rfl) hr
      dsimp only at h1 h2
      unfold joinE
      dsimp only
      split
      · exact sm_nil
      · have hv := hs v0 (List.mem_of_getElem? h0)
        refine ⟨?_, fun m hm => ?_⟩
        · dsimp only; have := hv.1; simp only [List.length_nil] at h1; omega
        · have := total_mem (l := ms) hm
          omega
theorem pairX {α β : Type} {o o' : Option (α × β)} {p : α × β} {P : α → Prop} (h : o = some p) (h' : o' = some p) (hp : P p.1) : ∃ a b, o = some (a, b) ∧ o' = some (a, b) ∧ P a := ⟨p.1, p.2, h, h', hp⟩
end Go.Proofs.YtjfkfkjkbgiciaaDoor
namespace Go.Proofs.YtjfkfkjkbgiciaaDoor
open Go Go.Eva Enc
@[reducible] def onnPZPlF : Onn := ⟨False⟩
attribute [local instance] rndX onnPZPlF
theorem conf_iff (z : List Written) (w : Written) : conf z w = true ↔ ∃ u ∈ z, u.id = w.id ∧ u ≠ w := by
  unfold conf
  rw [List.any_eq_true]
  constructor
  · rintro ⟨u, h1, h2⟩
    rw [Bool.and_eq_true, decide_eq_true_eq] at h2
    exact ⟨u, h1, h2.1, by simpa using h2.2⟩
  · rintro ⟨u, h1, h2, h3⟩
    exact ⟨u, h1, by simp [h2, h3]⟩
theorem accR_isSome : ∀ (ws z : List Written), (∃ r, accR ws z = some r) ↔ (∀ u ∈ z, ∀ v ∈ ws, u.id = v.id → u = v) ∧ ∀ u ∈ ws, ∀ v ∈ ws, u.id = v.id → u = v
  | [], z => by simp [accR]
  | w :: ws, z => by
    unfold accR
    by_cases hc : conf z w = true
    · rw [if_pos hc]
      obtain ⟨u, h1, h2, h3⟩ := (conf_iff z w).1 hc
      constructor
      · rintro ⟨r, hr⟩; cases hr
      · rintro ⟨h4, _⟩; exact absurd (h4 u h1 w (by simp) h2) h3
    · rw [if_neg hc, accR_isSome ws (putW z w)]
      have hz : ∀ u ∈ z, u.id = w.id → u = w := fun u hu he => Classical.byContradiction fun hn => hc ((conf_iff z w).2 ⟨u, hu, he, hn⟩)
      constructor
      · rintro ⟨h1, h2⟩
        have h0 : ∀ v ∈ ws, w.id = v.id → w = v := fun v hv => h1 w (putW_mem.2 (.inr rfl)) v hv
        refine ⟨fun u hu v hv he => ?_, fun u hu v hv he => ?_⟩
        · rcases List.mem_cons.1 hv with rfl | hv
          · exact hz u hu he
          · exact h1 u (putW_mem.2 (.inl hu)) v hv he
        · rcases List.mem_cons.1 hu with e1 | hu <;> rcases List.mem_cons.1 hv with e2 | hv
          · rw [e1, e2]
          · rw [e1]; exact h0 v hv (e1 ▸ he)
          · rw [e2]; exact (h0 u hu (e2 ▸ he.symm)).symm
          · exact h2 u hu v hv he
      · rintro ⟨h1, h2⟩
        refine ⟨fun u hu v hv he => ?_, fun u hu v hv => h2 u (by simp [hu]) v (by simp [hv])⟩
        rcases putW_mem.1 hu with hu | rfl
        · exact h1 u hu v (by simp [hv]) he
        · exact h2 u (by simp) v (by simp [hv]) he
theorem accR_cong {a b : List Written} (h : ∀ u, u ∈ a ↔ u ∈ b) : accR a [] = accR b [] := by
  have key : ∀ {a b : List Written}, (∀ u, u ∈ a ↔ u ∈ b) → ∀ r, accR a [] = some r → accR b [] = some r := by
    intro a b h r hr
    obtain ⟨s, hs⟩ := (accR_isSome b []).2 ⟨fun u hu => (by cases hu), fun u hu v hv => ((accR_isSome a []).1 ⟨r, hr⟩).2 u ((h u).2 hu) v ((h v).2 hv)⟩
    have sim : ∀ {ws r}, accR ws [] = some r → r.Pairwise (fun a b => ¬ Lex b a) ∧ (r.map Written.id).Nodup := by
      intro ws r hr
      rcases Sim.acc ws Sim.nil with ⟨_, e2⟩ | ⟨m', z', _, e2, hs⟩
      · rw [hr] at e2; cases e2
      · rw [hr] at e2; injection e2 with e2; subst e2
        refine ⟨hs.so, ?_⟩
        have := hs.nd
        rw [← hs.vids] at this
        exact (hs.pm.map Written.id).nodup_iff.1 this
    have nd : ∀ {l : List Written}, (l.map Written.id).Nodup → l.Nodup := fun {l} hn => List.Pairwise.of_map Written.id (fun a b hab he => hab (by rw [he])) hn
    obtain ⟨r1, r2⟩ := sim hr
    obtain ⟨s1, s2⟩ := sim hs
    have hp : r.Perm s := (List.perm_ext_iff_of_nodup (nd r2) (nd s2)).2 fun u => by
      rw [accR_mem _ _ _ hr, accR_mem _ _ _ hs, h u]
    rw [hs, sorted_uniq r1 s1 hp r2]
  cases ha : accR a [] with
  | some r => exact (key h r ha).symm
  | none =>
    cases hb : accR b [] with
    | none => rfl
    | some r => rw [key (fun u => (h u).symm) r hb] at ha; cases ha
def frM (m : Measure) : Int × Int × Rat := (m.bar, m.key, m.length)
theorem zip_frB : ∀ {a b : List Measure}, a.length = b.length → (((a.zip b).all fun p => frB p.1 p.2) = true ↔ a.map frM = b.map frM)
  | [], [], _ => by simp
  | [], _ :: _, h => by cases h
  | _ :: _, [], h => by cases h
  | x :: a, y :: b, h => by
    have := zip_frB (a := a) (b := b) (by simpa using h)
    simp only [List.zip_cons_cons, List.all_cons, Bool.and_eq_true, this, List.map_cons, List.cons.injEq]
    unfold frB frM
    simp
theorem fitB_iff (a b : View) : fitB a b = true ↔ a.part = b.part ∧ a.measures.map frM = b.measures.map frM := by
  unfold fitB
  simp only [Bool.and_eq_true, decide_eq_true_eq]
  constructor
  · rintro ⟨h1, h2, h3⟩; exact ⟨h1, (zip_frB h2).1 h3⟩
  · rintro ⟨h1, h2⟩
    have hl : a.measures.length = b.measures.length := by simpa using congrArg List.length h2
    exact ⟨h1, hl, (zip_frB hl).2 h2⟩
theorem foldF_cong {l l' : List View} {ρ : Type} (fin : List Measure × Int → (View × Int) ⊕ (List Measure × Int)) : ∀ (ms ms' : List Measure) (z : List Measure × Int), ms.map frM = ms'.map frM →
    (∀ k, z.1.length ≤ k → k < z.1.length + ms.length → accR (notesAt l k) [] = accR (notesAt l' k) []) → foldS (joinF l) fin ms z = foldS (joinF l') fin ms' z
  | [], [], z, _, _ => rfl
  | [], _ :: _, z, h, _ => by cases h
  | _ :: _, [], z, h, _ => by cases h
  | m :: ms, m' :: ms', z, h, hk => by
    simp only [List.map_cons, List.cons.injEq] at h
    obtain ⟨h1, h2⟩ := h
    unfold frM at h1
    simp only [Prod.mk.injEq] at h1
    have h0 := hk z.1.length (Nat.le_refl _) (by simp)
    have e : joinF l z m = joinF l' z m' := by unfold joinF; rw [h0, h1.1, h1.2.1, h1.2.2]
    simp only [foldS, e]
    unfold joinF
    cases ha : accR (notesAt l' z.1.length) [] with
    | none => rfl
    | some ns =>
      dsimp only
      exact foldF_cong (ρ := ρ) fin ms ms' _ h2 fun k k1 k2 => hk k (by simp at k1; omega) (by simp at k2 ⊢; omega)
theorem notesAt_mem {l : List View} {k : Nat} {u : Written} : u ∈ notesAt l k ↔ ∃ v ∈ l, u ∈ nk k v := by
  unfold notesAt
  rw [List.mem_flatMap]
theorem joinR_cong {l l' : List View} {v v' : View} (hf : v.measures.map frM = v'.measures.map frM) (hk : ∀ k, k < v.measures.length → ∀ u, u ∈ notesAt l k ↔ u ∈ notesAt l' k) : joinR l v = joinR l' v' :=
  foldF_cong (ρ := Unit) _ _ _ _ hf fun k _ k2 => accR_cong (hk k (by simpa using k2))
theorem joinV_at {l : List View} {v0 : View} (h0 : l[0]? = some v0) : joinV l = if 100 < l.length ∨ ¬ (∀ v ∈ l, viewOk v) then (⟨0, []⟩, 1) else if ¬ (∀ v ∈ l, fitB v0 v = true) then (⟨0, []⟩, 6) else joinE v0.part (joinR l v0) := by
  unfold joinV
  rw [h0]
  dsimp only
  have e1 : (l.any fun v => !decide (viewOk v)) = true ↔ ¬ (∀ v ∈ l, viewOk v) := by simp
  have e2 : (l.any fun v => !fitB v0 v) = true ↔ ¬ (∀ v ∈ l, fitB v0 v = true) := by simp
  simp only [e1, e2]
theorem joinV_rev (l : List View) : joinV l.reverse = joinV l := by
  cases h0 : l[0]? with
  | none =>
    have : l = [] := by
      cases l with
      | nil => rfl
      | cons a l => simp at h0
    subst this; rfl
  | some v0 =>
    have hm0 : v0 ∈ l := List.mem_of_getElem? h0
    cases h1 : l.reverse[0]? with
    | none =>
      have : l.reverse = [] := by
        cases hr : l.reverse with
        | nil => rfl
        | cons a r => rw [hr] at h1; simp at h1
      have : l = [] := by simpa using this
      subst this; cases hm0
    | some v1 =>
      have hm1 : v1 ∈ l := by simpa using List.mem_of_getElem? h1
      rw [joinV_at h0, joinV_at h1]
      simp only [List.length_reverse, List.mem_reverse]
      split
      · rfl
      have hfit : (∀ v ∈ l, fitB v1 v = true) ↔ ∀ v ∈ l, fitB v0 v = true := by
        simp only [fitB_iff]
        constructor
        · intro h v hv
          obtain ⟨a1, a2⟩ := h v hv
          obtain ⟨b1, b2⟩ := h v0 hm0
          exact ⟨b1.symm.trans a1, b2.symm.trans a2⟩
        · intro h v hv
          obtain ⟨a1, a2⟩ := h v hv
          obtain ⟨b1, b2⟩ := h v1 hm1
          exact ⟨b1.symm.trans a1, b2.symm.trans a2⟩
      simp only [hfit]
      split
      · rfl
      rename_i hn
      have hall : ∀ v ∈ l, fitB v0 v = true := Classical.byContradiction hn
      obtain ⟨p1, p2⟩ := (fitB_iff v0 v1).1 (hall v1 hm1)
      rw [← p1, joinR_cong (l := l.reverse) (l' := l) p2.symm fun k _ u => by simp only [notesAt_mem, List.mem_reverse]]
theorem foldF_at {l : List View} : ∀ (ms : List Measure) (z r : List Measure × Int), foldS (joinF l) (fun z => .inr z) ms z = .inr r →
    r.1.map frM = z.1.map frM ++ ms.map frM ∧ (∀ (k : Nat) m, k < z.1.length → (r.1[k]? = some m ↔ z.1[k]? = some m)) ∧ ∀ (k : Nat) m, z.1.length ≤ k → r.1[k]? = some m → accR (notesAt l k) [] = some m.notes
  | [], z, r, hr => by
    injection hr with hr; subst hr
    refine ⟨by simp, fun _ _ _ => Iff.rfl, fun k m hk hm => ?_⟩
    have := lt_of_get hm; omega
  | m :: ms, z, r, hr => by
    simp only [foldS] at hr
    cases ha : accR (notesAt l z.1.length) [] with
    | none =>
      have : joinF l z m = .inr (.inl (⟨0, []⟩, 5)) := by unfold joinF; rw [ha]
      rw [this] at hr; cases hr
    | some ns =>
      have e : joinF l z m = .inl (z.1 ++ [⟨m.bar, m.key, m.length, ns⟩], z.2 + (ns.length : Int)) := by unfold joinF; rw [ha]
      rw [e] at hr
      obtain ⟨i1, i2, i3⟩ := foldF_at ms _ r hr
      refine ⟨by rw [i1]; simp [frM], fun k x hk => ?_, fun k x hk hx => ?_⟩
      · rw [i2 k x (by simp; omega), List.getElem?_append_left hk]
      · by_cases he : k = z.1.length
        · subst he
          have := (i2 z.1.length x (by simp)).1 hx
          simp at this
          subst this; exact ha
        · exact i3 k x (by simp; omega) hx
theorem nk_mem {k : Nat} {v : View} {u : Written} (h : u ∈ nk k v) : ∃ m, v.measures[k]? = some m ∧ u ∈ m.notes := by
  unfold nk at h
  cases hm : v.measures[k]? with
  | none => rw [hm] at h; cases h
  | some m => rw [hm] at h; exact ⟨m, rfl, h⟩
theorem joinV_again {l : List View} {x v : View} (hl : (joinV l) = (x, 0)) (hv : v ∈ l) : joinV [x, v] = (x, 0) := by
  cases h0 : l[0]? with
  | none =>
    have : l = [] := by
      cases l with
      | nil => rfl
      | cons a l => simp at h0
    subst this; cases hv
  | some v0 =>
    rw [joinV_at h0] at hl
    split at hl
    · injection hl with _ h; cases h
    rename_i n1
    split at hl
    · injection hl with _ h; cases h
    rename_i n2
    have hlen : ¬ 100 < l.length := fun h => n1 (.inl h)
    have hok : ∀ v ∈ l, viewOk v := Classical.byContradiction fun h => n1 (.inr h)
    have hfit : ∀ v ∈ l, fitB v0 v = true := Classical.byContradiction n2
    cases hr : joinR l v0 with
    | inl e =>
      exfalso
      have : ∀ (ms : List Measure) z, foldS (joinF l) (fun z => .inr z) ms z = .inl e → e = (⟨0, []⟩, 5) := by
        intro ms
        induction ms with
        | nil => intro z h; cases h
        | cons m ms ih =>
          intro z h
          simp only [foldS] at h
          unfold joinF at h
          cases ha : accR (notesAt l z.1.length) [] with
          | none => rw [ha] at h; injection h with h; exact h.symm
          | some ns => rw [ha] at h; exact ih _ h
      have := this _ _ hr
      subst this
      rw [hr] at hl
      unfold joinE at hl
      injection hl with _ h; cases h
    | inr r =>
      obtain ⟨ms, n⟩ := r
      obtain ⟨f1, _, f3⟩ := foldF_at _ _ _ hr
      obtain ⟨g1, g2⟩ := foldS_joinF _ _ _ (by rfl) hr
      dsimp only [List.map_nil, List.nil_append, List.length_nil] at f1 f3 g1 g2
      rw [hr] at hl
      unfold joinE at hl
      dsimp only at hl
      split at hl
      · injection hl with _ h; cases h
      rename_i hn
      injection hl with hx _
      subst hx
      have hm0 : v0 ∈ l := List.mem_of_getElem? h0
      have hxn : ∀ (k : Nat) m, ms[k]? = some m → ∀ u, u ∈ m.notes ↔ u ∈ notesAt l k := fun k m hm u => by
        rw [accR_mem _ _ _ (f3 k m (Nat.zero_le _) hm) u]; simp
      have hxok : viewOk ⟨v0.part, ms⟩ := by
        refine ⟨by have := (hok v0 hm0).1; dsimp only; omega, by dsimp only; omega, ?_⟩
        intro m hm w hw
        obtain ⟨k, hk⟩ := List.getElem?_of_mem hm
        exact notesAt_ok hok k w ((hxn k m hk w).1 hw)
      obtain ⟨p1, p2⟩ := (fitB_iff v0 v).1 (hfit v hv)
      have hxf : ∀ y ∈ [(⟨v0.part, ms⟩ : View), v], fitB ⟨v0.part, ms⟩ y = true := by
        intro y hy
        simp only [List.mem_cons, List.not_mem_nil, or_false] at hy
        rcases hy with rfl | rfl
        · exact (fitB_iff _ _).2 ⟨rfl, rfl⟩
        · exact (fitB_iff _ _).2 ⟨p1, by dsimp only; rw [f1]; simpa using p2⟩
      have e0 : [(⟨v0.part, ms⟩ : View), v][0]? = some ⟨v0.part, ms⟩ := rfl
      rw [joinV_at e0, if_neg (by
        rintro (h | h)
        · simp at h
        · refine h fun y hy => ?_
          simp only [List.mem_cons, List.not_mem_nil, or_false] at hy
          rcases hy with rfl | rfl
          · exact hxok
          · exact hok _ hv), if_neg (by rintro h; exact h hxf)]
      have hJ : joinR [(⟨v0.part, ms⟩ : View), v] ⟨v0.part, ms⟩ = joinR l v0 := by
        refine joinR_cong (by dsimp only; simpa using f1) fun k hk u => ?_
        obtain ⟨m, hm⟩ : ∃ m, ms[k]? = some m := ⟨_, List.getElem?_eq_getElem hk⟩
        have hnk : nk k (⟨v0.part, ms⟩ : View) = m.notes := nk_eq hm
        rw [notesAt_mem]
        constructor
        · rintro ⟨y, hy, hu⟩
          simp only [List.mem_cons, List.not_mem_nil, or_false] at hy
          rcases hy with rfl | rfl
          · rw [hnk] at hu; exact (hxn k m hm u).1 hu
          · exact notesAt_mem.2 ⟨_, hv, hu⟩
        · intro hu
          exact ⟨⟨v0.part, ms⟩, by simp, by rw [hnk]; exact (hxn k m hm u).2 hu⟩
      rw [hJ, hr]
      unfold joinE
      dsimp only
      rw [if_neg hn]
end Go.Proofs.YtjfkfkjkbgiciaaDoor
namespace Go.Proofs.YtjfkfkjkbgiciaaDoor
open Go Go.Eva Enc
@[reducible] def onnPZPlG : Onn := ⟨False⟩
attribute [local instance] rndX onnPZPlG
theorem foldl_rev {l : List View} (hl : l.length ≤ 1048576) : loopO (lawJoins_s6 l) ([], 0) = some l.reverse := by
  have hs := loop_fold (σ := List View) (st := fun z k => (z, k)) (step := lawJoins_s6 l) (l := l) (fun z x => (.inl (z ++ [l.getD (l.length - 1 - z.length) x]) : List View ⊕ List View)) (fun z => z) (fun k z => z.length = k) (fun k x z hx hz => by
    have hk := lt_of_get hx
    have hn : ((l.length : Int) - 1) - (k : Int) = ((l.length - 1 - k : Nat) : Int) := by omega
    unfold lawJoins_s6 lawJoins_j7
    dsimp only
    have hlt : l.length - 1 - k < l.length := by omega
    rw [ifb_t' (by simpa using hk), grdI (by omega), grdI (by omega), hn, bnd_eq (at_eq (List.getElem?_eq_getElem hlt)), grd_eq (by simp; omega), grdI (by omega), hz]
    have : l.getD (l.length - 1 - k) x = l[l.length - 1 - k] := by simp [List.getD_eq_getElem?_getD, hlt]
    rw [this]; rfl) (fun k x z z' hx hz hf => by injection hf with hf; subst hf; simp [hz]) (fun z hz => by
    unfold lawJoins_s6
    dsimp only
    rw [ifb_f' (by simp)]) [] rfl
  rw [hs]
  have key : ∀ (m : List View) (z : List View), z.length + m.length = l.length → z = l.reverse.take z.length → foldS (fun z x => (.inl (z ++ [l.getD (l.length - 1 - z.length) x]) : List View ⊕ List View)) (fun z => z) m z = l.reverse := by
    intro m
    induction m with
    | nil =>
      intro z h1 h2
      simp only [foldS]
      rw [h2]; simp at h1; rw [h1]
      exact List.take_of_length_le (by simp)
    | cons x m ih =>
      intro z h1 h2
      simp only [foldS]
      simp only [List.length_cons] at h1
      refine ih _ (by simp; omega) ?_
      have hz : z.length < l.reverse.length := by simp; omega
      have e : l.getD (l.length - 1 - z.length) x = l.reverse[z.length] := by
        have : l.length - 1 - z.length < l.length := by omega
        simp [List.getD_eq_getElem?_getD, this]
      rw [e, List.length_append, List.length_singleton, List.take_succ_eq_append_getElem hz, ← h2]
  rw [key l [] (by simp) (by simp)]
theorem lawJoins_eq {l : List View} {w : IntK .u8} (hl : l.length ≤ 1048576) (hs : ∀ v ∈ l, Sm v) (hw : 0 ≤ w.n ∧ w.n ≤ 255) : lawJoins l w = some true := by
  unfold lawJoins
  rw [headP_eq, bnd_pure]
  obtain ⟨b, hb⟩ := fewL_ok hl hs
  have e1 : ∃ c, lawJoins_r1 l = some c ∧ (c = false → l.length ≠ 0) := by
    unfold lawJoins_r1
    by_cases h0 : l.length = 0
    · rw [ifb_t' (by simpa using h0)]; exact ⟨_, rfl, fun h => by cases h⟩
    · rw [ifb_f' (by simp; intro h; simp [h] at h0), hb, bnd_pure]; exact ⟨_, rfl, fun _ => h0⟩
  obtain ⟨c, hc, hc0⟩ := e1
  rw [hc, bnd_pure]
  cases c
  · have h0 := hc0 rfl
    rw [ifb_f' rfl, pJoin_eq hl hs, bnd_pure]
    obtain ⟨x, e, hx⟩ : ∃ x e, joinV l = (x, e) := ⟨_, _, rfl⟩
    have hsx : Sm x := by have := sm_join hs; rw [hx] at this; exact this
    rw [hx]
    dsimp only
    rw [foldl_rev hl, bnd_pure]
    unfold lawJoins_j2
    rw [pJoin_eq (by simpa using hl) (fun v hv => hs v (by simpa using hv)), bnd_pure, joinV_rev, hx]
    dsimp only
    have e2 : lawJoins_r8 x e x e = some false := by
      unfold lawJoins_r8
      rw [ifb_f' (by simp), r14Same_eq hsx, bnd_pure]; simp
    rw [e2, bnd_pure, ifb_f' rfl]
    by_cases he : e = 0
    · subst he
      rw [ifb_f' (by simp), grd_eq (by simpa using h0)]
      have hwr : IntKind.wrap .i64 w.n = w.n := by
        have := hw.1; have := hw.2
        simp only [IntKind.wrap, IntKind.signed, IntKind.bits]
        first | (simp; omega) | (unfold Int.bmod; simp; omega) | omega
      rw [hwr]
      have hpos : (0 : Int) < l.length := by omega
      have ht : 0 ≤ w.n.tmod (l.length : Int) ∧ w.n.tmod (l.length : Int) < l.length := ⟨Int.tmod_nonneg _ hw.1, Int.tmod_lt_of_pos _ hpos⟩
      obtain ⟨k, hk⟩ : ∃ k : Nat, w.n.tmod (l.length : Int) = (k : Int) := ⟨(w.n.tmod (l.length : Int)).toNat, by omega⟩
      rw [hk]
      have hkl : k < l.length := by omega
      have hx' := List.getElem?_eq_getElem hkl
      rw [bnd_eq (at_eq hx')]
      have hm : l[k] ∈ l := List.getElem_mem hkl
      have hs2 : ∀ v ∈ [x, l[k]], Sm v := fun v hv => by
        simp only [List.mem_cons, List.not_mem_nil, or_false] at hv
        rcases hv with rfl | rfl
        · exact hsx
        · exact hs _ hm
      rw [pJoin_eq (by simp) hs2, bnd_pure, joinV_again hx hm]
      dsimp only
      unfold lawJoins_r9
      rw [ifb_t' rfl, ifb_t' (by simp), r14Same_eq hsx, bnd_pure, bnd_pure]
      simp
    · rw [ifb_t' (by simpa using he)]
  · rw [ifb_t' rfl]
end Go.Proofs.YtjfkfkjkbgiciaaDoor
