/-
  The evaluator, the printed walks and the plain laws, part 6 of 9.
-/
import Derived.Test.YtjfkfkjkbgiciaaGreatDoorX5
import Derived.Shelf.SlGeneric
import Derived.Shelf.SlSortCmp.WholeK
import Derived.Shelf.SlSortCmp.NoneTotal
import Derived.Shelf.SlIterI.Nil
import Derived.Shelf.SortM.Plain
import Derived.Shelf.SortM.SortNone
import Derived.Ground.SlsfProg
import Derived.Ground.GgzProg
import Derived.Ground.SlgmProg
import Derived.Test.YtjfkfkjkbgiciaaGreatDoorProg
set_option linter.all false
set_option linter.unnecessarySimpa false
set_option linter.deprecated false
set_option linter.unusedVariables false
set_option linter.unusedSimpArgs false
set_option linter.unusedSectionVars false
namespace Go.Proofs.YtjfkfkjkbgiciaaGreatDoor
open Go Go.Eva Enc
set_option maxRecDepth 4000
attribute [local instance] rndX
attribute [local congr] AWp.congrS
attribute [local simp] evalSeq opRes guardPc evalOp evT Eva.get startT strip putT Eva.after constT typed obAll holds dstOk R.ok R.bad ofD binD unD pickT subL subP Op.operands Call.operands toD toD1 argsD argsD1 callD callT typedAll cfind quietT quietT1 spec0 spec1 spec2 spec3 enc_int enc_bool enc_str enc_fn enc_list dec_int dec_bool dec_str dec_fn dec_list size_int size_str map_dec_enc map_dec_comp cellsT D.cells T.oneT D.one mkT dataT zeroT unD1 setAt loadAs loadEl storeAs fieldP fieldV sizeE intOfT indexP appendT lenT sliceT elemSize arith lfsOk lfOk isAggD mkD fillT placeS TD.agg env restr List.map keyIdx mapTy lookT mapPutT mapDelT mapOf indexS convT evalPure range1 range2 range3 range4 range5 range6 range7 range8 enc_intk size_intk dec_intk eta_intk keysInt_nil keyIdx_E keysInt_E isE_iff put_E del_E get_E getok_E mkeys_E mkeys_E' mkeys_enc specO0 specO1 specO2 specO3 specO4 opD skips gone unbox cloT subO clearT makeT enc_bx dec_bx size_bx selS cloIs List.contains_cons List.contains_nil elAt_zero enc_Rat dec_Rat size_Rat eta_Rat beqL_Rat beqR_Rat enc_Pitch dec_Pitch size_Pitch eta_Pitch beqL_Pitch beqR_Pitch enc_Written dec_Written size_Written eta_Written beqL_Written beqR_Written enc_Measure dec_Measure size_Measure eta_Measure enc_View dec_View size_View eta_View enc_Fraction dec_Fraction size_Fraction eta_Fraction beqL_Fraction beqR_Fraction dat0 len_natTab eqT4 eqT44 eqT49 eqT51 eqT130 te1 te2 te3 te4 te5 te6 te7 te8 te9 te10 te11 te12 te13 te14 te15 te16 te17 te18 te19 te21 te22 te23 te24 te25 te26 te27 te28 te29 te30 te32 te33 te34 te36 te37 te38 te39 te40 te41 te42 te43 te44 te45 te46 te47 te48 te49 te50 te51 te52 te53 te54 te55 te56 te57 te58 te59 te60 te61 te62 te63 te64 te65 te66 te67 te68 te69 te70 te71 te72 te73 te75 te76 te77 te78 te79 te81 te82 te83 te84 te85 te86 te87 te88 te89 te90 te91 te92 te93 te94 te95 te96 te97 te99 te100 te101 te102 te103 te104 te105 te106 te107 te108 te109 te110 te111 te112 te113 te115 te116 te117 te119 te120 te121 te122 te123 te124 te125 te126 te127 te128 te129 te130 te131 te132 te133 te134 te135 te136 te137 te138 te139 te140 te141 te142 te144 te145 te146 te147 te148 te149 te150 te151 te152 te153 te154 te155 te156 te157 te158 te159 te160 te161
section
variable [Onn]
theorem ok29 : SpecOk Tryz.prog 29 sp29 := by
 have hV : VOk Tryz.prog (env [(31, sp31), (56, sp56), (57, sp57)]) := env_ok ⟨ok31, ok56, ok57, trivial⟩
 refine SpecOk.ofO1 (Enters.of Tryz.func29 (by decide)) fun v rr hr => ?_
 obtain ⟨r, hg, rfl⟩ := mpj hr; clear hr
 refine PureCon.ofN hV Tryz.func29 rfl Tryz.ntmps29 fun R hR w0 I0 Q hQ => ?_
 unfold r18Valid at hg
 refine AWp.rS hV none [1] fun K k1 => ?_
 simp; repeat refine ai ?_
 refine kc [(1, .ptr 0 0)] [.w 24 v] (k1 _ ?_)
 refine AWp.seqG fun _ k2 => ?_
 refine AWp.rS hV none [1, 10] fun K k3 => ?_
 simp; repeat refine ai ?_
 refine kc [(1, .ptr 0 0), se 10 (decide (4000 < (v.measures.length : Int)))] [.w 24 v] (k3 _ ?_)
 refine AWp.cnd hg rfl ?_ ?_ <;> (clear hg; intro h4 hg)
 ·refine AWp.rS hV none [2] fun K k5 => ?_
  simp; repeat refine ai ?_
  refine kc [se 2 false] [.w 24 v] (k5 _ ?_)
  refine AWp.ret ?_
  cases hg; exact hQ _ _ (.inl rfl) rt
 ·refine AWp.skip ?_
  refine k2 _ ?_
  refine AWp.rS hV none [1, 3] fun K k6 => ?_
  simp; repeat refine ai ?_
  refine kc [(1, .ptr 0 0), se 3 (0 : Int)] [.w 24 v] (k6 _ ?_)
  refine AWp.seqJ (fun s' => r18Valid_j1 = some r ∧ Sub s' ⟨[], []⟩) (fun _ k8 => ?_) ?_
  ·refine AWp.rS hV none [1, 3, 4] fun K k9 => ?_
   simp; repeat refine ai ?_
   refine kc [(1, .ptr 0 0), se 3 (0 : Int), se 4 (0 : Int)] [.w 24 v] (k9 _ ?_)
   refine AWp.block ?_
   obtain ⟨o237, hl238, hq239⟩ := bnd_some hg; clear hg
   refine AWp.loopO (fun ((z2u3, z2u4) : Int × Int) => ⟨[(1, .ptr 0 0), se 3 z2u3, se 4 z2u4], [.w 24 v]⟩) (r18Valid_s21 v) (0, 0) hl238 ?_ fun z240 w242 _ hg hx241 k10 => ?_
   ·exact Sub.rm [0]
   obtain ⟨z2u3, z2u4⟩ := z240
   unfold r18Valid_s21 at hg; try dsimp only at hg
   show AWp _ _ _ _ _ ⟨[(1, .ptr 0 0), se 3 z2u3, se 4 z2u4], [.w 24 v]⟩ _
   refine AWp.seqG fun _ k243 => ?_
   refine AWp.rS hV none [1, 3, 4, 15] fun K k244 => ?_
   simp; repeat refine ai ?_
   refine kc [(1, .ptr 0 0), se 3 z2u3, se 4 z2u4, se 15 (decide (z2u4 < (v.measures.length : Int)))] [.w 24 v] (k244 _ ?_)
   refine AWp.cnd hg rfl ?_ ?_ <;> (clear hg; intro h245 hg)
   ·refine AWp.skip ?_
    refine k243 _ ?_
    refine AWp.seqJ (fun s' => ∃ y246u3 : Int, r18Valid_j22 z2u4 y246u3 = some w242 ∧ Sub s' ⟨[(1, .ptr 0 0), se 3 y246u3, se 4 z2u4], [.w 24 v]⟩) (fun _ k247 => ?_) ?_
    ·refine AWp.block ?_
     obtain ⟨x248, h249, hg⟩ := bnd_some hg
     obtain ⟨h249a, h249b, h249f⟩ := at_e h249; have h249g := h249f; try simp at h249g
     refine AWp.rS hV none [1, 3, 4, 5] fun K k250 => ?_
     simp [h249f, h249g]; repeat refine ai ?_
     refine kd [(1, .ptr 0 0), se 3 z2u3, se 4 z2u4, se 5 x248.notes] [.w 24 v] (by first | rfl | (simp [h249f, h249g] <;> grind)) (k250 _ ?_)
     obtain ⟨g251, hg⟩ := grd_some hg
     unfold inI at g251
     refine AWp.rS hV none [1, 3, 4, 5] fun K k252 => ?_
     simp; repeat refine ai ?_
     refine kc [(1, .ptr 0 0), se 3 ((z2u3 + (x248.notes.length : Int)) : Int), se 4 z2u4, se 5 x248.notes] [.w 24 v] (k252 _ ?_)
     refine AWp.seqG fun _ k253 => ?_
     refine AWp.rS hV none [1, 3, 4, 5, 29] fun K k254 => ?_
     simp; repeat refine ai ?_
     refine kc [(1, .ptr 0 0), se 3 ((z2u3 + (x248.notes.length : Int)) : Int), se 4 z2u4, se 5 x248.notes, se 29 (decide (20000 < (z2u3 + (x248.notes.length : Int))))] [.w 24 v] (k254 _ ?_)
     refine AWp.cnd hg rfl ?_ ?_ <;> (clear hg; intro h255 hg)
     ·refine AWp.rS hV none [2] fun K k256 => ?_
      simp; repeat refine ai ?_
      refine kc [se 2 false] [.w 24 v] (k256 _ ?_)
      refine AWp.ret ?_
      cases hx241 _ (oij hg).symm; have hg := hq239; try dsimp only at hg
      cases hg; exact hQ _ _ (.inl rfl) rt
     ·refine AWp.skip ?_
      refine k253 _ ?_
      refine AWp.rS hV none [1, 3, 4, 5, 6] fun K k258 => ?_
      simp; repeat refine ai ?_
      refine kc [(1, .ptr 0 0), se 3 ((z2u3 + (x248.notes.length : Int)) : Int), se 4 z2u4, se 5 x248.notes, se 6 (0 : Int)] [.w 24 v] (k258 _ ?_)
      refine AWp.block ?_
      obtain ⟨o318, hl319, hq320⟩ := bnd_some hg; clear hg
      refine AWp.loopO (fun (z23u6 : Int) => ⟨[(1, .ptr 0 0), se 3 ((z2u3 + (x248.notes.length : Int)) : Int), se 4 z2u4, se 5 x248.notes, se 6 z23u6], [.w 24 v]⟩) (r18Valid_s28 x248) 0 hl319 ?_ fun z23u6 w323 _ hg hx322 k259 => ?_
      ·exact Sub.rm [0]
      unfold r18Valid_s28 at hg; try dsimp only at hg
      show AWp _ _ _ _ _ ⟨[(1, .ptr 0 0), se 3 ((z2u3 + (x248.notes.length : Int)) : Int), se 4 z2u4, se 5 x248.notes, se 6 z23u6], [.w 24 v]⟩ _
      refine AWp.seqG fun _ k324 => ?_
      refine AWp.rS hV none [1, 3, 4, 5, 6, 33] fun K k325 => ?_
      simp; repeat refine ai ?_
      refine kc [(1, .ptr 0 0), se 3 ((z2u3 + (x248.notes.length : Int)) : Int), se 4 z2u4, se 5 x248.notes, se 6 z23u6, se 33 (decide (z23u6 < (x248.notes.length : Int)))] [.w 24 v] (k325 _ ?_)
      refine AWp.cnd hg rfl ?_ ?_ <;> (clear hg; intro h326 hg)
      ·refine AWp.skip ?_
       refine k324 _ ?_
       refine AWp.seqJ (fun s' => r18Valid_j29 z23u6 = some w323 ∧ Sub s' ⟨[(1, .ptr 0 0), se 3 ((z2u3 + (x248.notes.length : Int)) : Int), se 4 z2u4, se 5 x248.notes, se 6 z23u6], [.w 24 v]⟩) (fun _ k328 => ?_) ?_
       ·refine AWp.block ?_
        obtain ⟨y339u69, hx340, hg⟩ := bnd_some hg
        unfold r18Valid_r30 at hx340
        refine AWp.seqJ (fun s' => Sub s' ⟨[(1, .ptr 0 0), se 3 ((z2u3 + (x248.notes.length : Int)) : Int), se 4 z2u4, se 5 x248.notes, se 6 z23u6, se 69 y339u69], [.w 24 v]⟩) (fun _ k341 => ?_) ?_
        ·obtain ⟨x329, h330, hx340⟩ := bnd_some hx340
         obtain ⟨h330a, h330b, h330f⟩ := at_e h330; have h330g := h330f; try simp at h330g
         obtain ⟨x331, h332, hx340⟩ := bnd_some hx340
         have h332g := h332; try simp at h332g
         rcases ifb_o hx340 with ⟨c342, hx340⟩ | ⟨c342, hx340⟩
         ·have c342g := c342; try simp at c342g
          refine AWp.regF hV (some [44, 45, 46, 47, 48, 49, 50, 53, 54, 55, 56, 57, 58, 59, 62, 63, 64, 65, 66, 67, 68]) [1, 3, 4, 5, 6, 69] fun K k343 => ?_
          simp [sp31, sp56, sp57, h330f, h330g, h332, h332g, c342, c342g]; repeat refine ai ?_
          cases hx340; exact k343 _ (k341 _ (Sub.rm [0]))
         ·have c342g := c342; try simp at c342g
          obtain ⟨x333, h334, hx340⟩ := bnd_some hx340
          have h334g := h334; try simp at h334g
          rcases ifb_o hx340 with ⟨c344, hx340⟩ | ⟨c344, hx340⟩
          ·have c344g := c344; try simp at c344g
           refine AWp.regF hV (some [53, 54, 55, 56, 57, 58, 59, 62, 63, 64, 65, 66, 67, 68]) [1, 3, 4, 5, 6, 69] fun K k345 => ?_
           simp [sp31, sp56, sp57, h330f, h330g, h332, h332g, c342, c342g, h334, h334g, c344, c344g]; repeat refine ai ?_
           cases hx340; exact k345 _ (k341 _ (Sub.rm [0]))
          ·have c344g := c344; try simp at c344g
           obtain ⟨x335, h336, hx340⟩ := bnd_some hx340
           rcases ifb_o hx340 with ⟨c346, hx340⟩ | ⟨c346, hx340⟩
           ·have c346g := c346; try simp at c346g
            refine AWp.regF hV (some [62, 63, 64, 65, 66, 67, 68]) [1, 3, 4, 5, 6, 69] fun K k347 => ?_
            simp [sp31, sp56, sp57, h330f, h330g, h332, h332g, c342, c342g, h334, h334g, c344, c344g, h336, c346, c346g]; repeat refine ai ?_
            cases hx340; exact k347 _ (k341 _ (Sub.rm [0]))
           ·have c346g := c346; try simp at c346g
            obtain ⟨x337, h338, hx340⟩ := bnd_some hx340
            refine AWp.regF hV (some []) [1, 3, 4, 5, 6, 69] fun K k348 => ?_
            simp [sp31, sp56, sp57, h330f, h330g, h332, h332g, c342, c342g, h334, h334g, c344, c344g, h336, c346, c346g, h338]; repeat refine ai ?_
            cases hx340; exact k348 _ (k341 _ (Sub.rm [0]))
        ·intro s' hs
         refine AWp.sub hs ?_
         clear hs s'
         refine AWp.cnd hg rfl ?_ ?_ <;> (clear hg; intro h349 hg)
         ·refine AWp.rS hV none [2] fun K k350 => ?_
          simp; repeat refine ai ?_
          refine kc [se 2 false] [.w 24 v] (k350 _ ?_)
          refine AWp.ret ?_
          cases hx322 _ (oij hg).symm; have hg := hq320; try dsimp only at hg
          cases hx241 _ (oij hg).symm; have hg := hq239; try dsimp only at hg
          cases hg; exact hQ _ _ (.inl rfl) rt
         ·refine AWp.skip ?_
          exact k328 _ ⟨hg, Sub.rm [0]⟩
       ·rintro s' ⟨hg, hs⟩
        unfold r18Valid_j29 at hg
        refine AWp.sub hs ?_
        obtain ⟨g353, hg⟩ := grd_some hg
        unfold inI at g353
        refine AWp.regF hV none [1, 3, 4, 5, 6] fun K k354 => ?_
        simp; repeat refine ai ?_
        refine kc [(1, .ptr 0 0), se 3 ((z2u3 + (x248.notes.length : Int)) : Int), se 4 z2u4, se 5 x248.notes, se 6 ((z23u6 + 1) : Int)] [.w 24 v] (k354 _ ?_)
        exact k259 _ _ (oij hg).symm (Sub.rm [0])
      ·refine AWp.exit ?_
       cases hx322 _ (oij hg).symm; have hg := hq320; try dsimp only at hg
       exact k247 _ ⟨_, hg, Sub.rm [0]⟩
    ·rintro s' ⟨y246u3, hg, hs⟩
     unfold r18Valid_j22 at hg
     refine AWp.sub hs ?_
     obtain ⟨g358, hg⟩ := grd_some hg
     unfold inI at g358
     refine AWp.regF hV none [1, 3, 4] fun K k359 => ?_
     simp; repeat refine ai ?_
     refine kc [(1, .ptr 0 0), se 3 y246u3, se 4 ((z2u4 + 1) : Int)] [.w 24 v] (k359 _ ?_)
     exact k10 _ _ (oij hg).symm (Sub.rm [0])
   ·refine AWp.exit ?_
    cases hx241 _ (oij hg).symm; have hg := hq239; try dsimp only at hg
    exact k8 _ ⟨hg, Sub.rm []⟩
  ·rintro s' ⟨hg, hs⟩
   unfold r18Valid_j1 at hg
   refine AWp.sub hs ?_
   refine AWp.rS hV none [2] fun K k363 => ?_
   simp; repeat refine ai ?_
   refine kc [se 2 true] [] (k363 _ ?_)
   refine AWp.ret ?_
   cases hg; exact hQ _ _ (.inl rfl) rt
noncomputable def sp58 : Eva.Spec := specO2 fun (v : View) (n : Int) => (r18has v n).map fun r => enc r
theorem ok58 : SpecOk Tryz.prog 58 sp58 := by
 have hV : VOk Tryz.prog (env []) := env_ok trivial
 refine SpecOk.ofO2 (Enters.of Tryz.func58 (by decide)) fun v n rr hr => ?_
 obtain ⟨r, hg, rfl⟩ := mpj hr; clear hr
 refine PureCon.ofN hV Tryz.func58 rfl Tryz.ntmps58 fun R hR w0 I0 Q hQ => ?_
 unfold r18has at hg
 refine AWp.rS hV none [1, 2] fun K k1 => ?_
 simp; repeat refine ai ?_
 refine kc [se 1 n, (2, .ptr 0 0)] [.w 24 v] (k1 _ ?_)
 refine AWp.seqJ (fun s' => r18has_j1 = some r ∧ Sub s' ⟨[], []⟩) (fun _ k3 => ?_) ?_
 ·refine AWp.rS hV none [1, 2, 5] fun K k4 => ?_
  simp; repeat refine ai ?_
  refine kc [se 1 n, (2, .ptr 0 0), se 5 (0 : Int)] [.w 24 v] (k4 _ ?_)
  refine AWp.block ?_
  obtain ⟨o136, hl137, hq138⟩ := bnd_some hg; clear hg
  refine AWp.loopO (fun (z2u5 : Int) => ⟨[se 1 n, (2, .ptr 0 0), se 5 z2u5], [.w 24 v]⟩) (r18has_s15 v n) 0 hl137 ?_ fun z2u5 w141 _ hg hx140 k5 => ?_
  ·exact Sub.rm [0]
  unfold r18has_s15 at hg; try dsimp only at hg
  show AWp _ _ _ _ _ ⟨[se 1 n, (2, .ptr 0 0), se 5 z2u5], [.w 24 v]⟩ _
  refine AWp.seqG fun _ k142 => ?_
  refine AWp.rS hV none [1, 2, 5, 11] fun K k143 => ?_
  simp; repeat refine ai ?_
  refine kc [se 1 n, (2, .ptr 0 0), se 5 z2u5, se 11 (decide (z2u5 < (v.measures.length : Int)))] [.w 24 v] (k143 _ ?_)
  refine AWp.cnd hg rfl ?_ ?_ <;> (clear hg; intro h144 hg)
  ·refine AWp.skip ?_
   refine k142 _ ?_
   refine AWp.seqJ (fun s' => r18has_j16 z2u5 = some w141 ∧ Sub s' ⟨[se 1 n, (2, .ptr 0 0), se 5 z2u5], [.w 24 v]⟩) (fun _ k146 => ?_) ?_
   ·refine AWp.block ?_
    refine AWp.rS hV none [1, 2, 5, 6] fun K k147 => ?_
    simp; repeat refine ai ?_
    refine kc [se 1 n, (2, .ptr 0 0), se 5 z2u5, se 6 (0 : Int)] [.w 24 v] (k147 _ ?_)
    refine AWp.block ?_
    obtain ⟨o181, hl182, hq183⟩ := bnd_some hg; clear hg
    refine AWp.loopO (fun (z17u6 : Int) => ⟨[se 1 n, (2, .ptr 0 0), se 5 z2u5, se 6 z17u6], [.w 24 v]⟩) (r18has_s20 v n z2u5) 0 hl182 ?_ fun z17u6 w186 _ hg hx185 k148 => ?_
    ·exact Sub.rm [0]
    unfold r18has_s20 at hg; try dsimp only at hg
    show AWp _ _ _ _ _ ⟨[se 1 n, (2, .ptr 0 0), se 5 z2u5, se 6 z17u6], [.w 24 v]⟩ _
    refine AWp.seqG fun _ k187 => ?_
    obtain ⟨x188, h189, hg⟩ := bnd_some hg
    obtain ⟨h189a, h189b, h189f⟩ := at_e h189; have h189g := h189f; try simp at h189g
    refine AWp.rS hV none [1, 2, 5, 6, 22] fun K k190 => ?_
    simp [h189f, h189g]; repeat refine ai ?_
    refine kd [se 1 n, (2, .ptr 0 0), se 5 z2u5, se 6 z17u6, se 22 (decide (z17u6 < (x188.notes.length : Int)))] [.w 24 v] (by first | rfl | (simp [h189f, h189g] <;> grind)) (k190 _ ?_)
    refine AWp.cnd hg rfl ?_ ?_ <;> (clear hg; intro h191 hg)
    ·refine AWp.skip ?_
     refine k187 _ ?_
     refine AWp.seqJ (fun s' => r18has_j21 z17u6 = some w186 ∧ Sub s' ⟨[se 1 n, (2, .ptr 0 0), se 5 z2u5, se 6 z17u6], [.w 24 v]⟩) (fun _ k193 => ?_) ?_
     ·refine AWp.block ?_
      obtain ⟨x194, h195, hg⟩ := bnd_some hg
      obtain ⟨h195a, h195b, h195f⟩ := at_e h195; have h195g := h195f; try simp at h195g
      obtain ⟨x196, h197, hg⟩ := bnd_some hg
      obtain ⟨h197a, h197b, h197f⟩ := at_e h197; have h197g := h197f; try simp at h197g
      refine AWp.rS hV none [1, 2, 5, 6, 36] fun K k198 => ?_
      simp [h195f, h195g, h197f, h197g]; repeat refine ai ?_
      refine kd [se 1 n, (2, .ptr 0 0), se 5 z2u5, se 6 z17u6, se 36 (decide (x196.voice = n))] [.w 24 v] (by first | rfl | (simp [h195f, h195g, h197f, h197g] <;> grind)) (k198 _ ?_)
      refine AWp.cnd hg rfl ?_ ?_ <;> (clear hg; intro h199 hg)
      ·refine AWp.rS hV none [4] fun K k200 => ?_
       simp; repeat refine ai ?_
       refine kc [se 4 true] [.w 24 v] (k200 _ ?_)
       refine AWp.ret ?_
       cases hx185 _ (oij hg).symm; have hg := hq183; try dsimp only at hg
       cases hx140 _ (oij hg).symm; have hg := hq138; try dsimp only at hg
       cases hg; exact hQ _ _ (.inl rfl) rt
      ·refine AWp.skip ?_
       exact k193 _ ⟨hg, Sub.rm [0]⟩
     ·rintro s' ⟨hg, hs⟩
      unfold r18has_j21 at hg
      refine AWp.sub hs ?_
      obtain ⟨g203, hg⟩ := grd_some hg
      unfold inI at g203
      refine AWp.regF hV none [1, 2, 5, 6] fun K k204 => ?_
      simp; repeat refine ai ?_
      refine kc [se 1 n, (2, .ptr 0 0), se 5 z2u5, se 6 ((z17u6 + 1) : Int)] [.w 24 v] (k204 _ ?_)
      exact k148 _ _ (oij hg).symm (Sub.rm [0])
    ·refine AWp.exit ?_
     cases hx185 _ (oij hg).symm; have hg := hq183; try dsimp only at hg
     exact k146 _ ⟨hg, Sub.rm [0]⟩
   ·rintro s' ⟨hg, hs⟩
    unfold r18has_j16 at hg
    refine AWp.sub hs ?_
    obtain ⟨g208, hg⟩ := grd_some hg
    unfold inI at g208
    refine AWp.regF hV none [1, 2, 5] fun K k209 => ?_
    simp; repeat refine ai ?_
    refine kc [se 1 n, (2, .ptr 0 0), se 5 ((z2u5 + 1) : Int)] [.w 24 v] (k209 _ ?_)
    exact k5 _ _ (oij hg).symm (Sub.rm [0])
  ·refine AWp.exit ?_
   cases hx140 _ (oij hg).symm; have hg := hq138; try dsimp only at hg
   exact k3 _ ⟨hg, Sub.rm []⟩
 ·rintro s' ⟨hg, hs⟩
  unfold r18has_j1 at hg
  refine AWp.sub hs ?_
  refine AWp.rS hV none [4] fun K k213 => ?_
  simp; repeat refine ai ?_
  refine kc [se 4 false] [] (k213 _ ?_)
  refine AWp.ret ?_
  cases hg; exact hQ _ _ (.inl rfl) rt
noncomputable def sp30 : Eva.Spec := specO1 fun (v : View) => (r18voices v).map fun r => enc r
theorem ok30 : SpecOk Tryz.prog 30 sp30 := by
 have hV : VOk Tryz.prog (env [(58, sp58)]) := env_ok ⟨ok58, trivial⟩
 refine SpecOk.ofO1 (Enters.of Tryz.func30 (by decide)) fun v rr hr => ?_
 obtain ⟨r, hg, rfl⟩ := mpj hr; clear hr
 refine PureCon.ofN hV Tryz.func30 rfl Tryz.ntmps30 fun R hR w0 I0 Q hQ => ?_
 unfold r18voices at hg
 refine AWp.rS hV none [1] fun K k1 => ?_
 simp; repeat refine ai ?_
 refine kc [(1, .ptr 0 0)] [.w 24 v] (k1 _ ?_)
 refine AWp.rS hV none [1, 3] fun K k2 => ?_
 simp; repeat refine ai ?_
 refine kc [(1, .ptr 0 0), (3, .nils 1)] [.w 24 v] (k2 _ ?_)
 refine AWp.seqJ (fun s' => ∃ y3u3 : (List Int), r18voices_j1 y3u3 = some r ∧ Sub s' ⟨[(3, .row 0)], [.ro 3 1 y3u3]⟩) (fun _ k4 => ?_) ?_
 ·refine AWp.rS hV none [1, 3, 4] fun K k5 => ?_
  simp; repeat refine ai ?_
  refine kc [(1, .ptr 0 0), (3, .nils 1), se 4 (1 : Int)] [.w 24 v] (k5 _ ?_)
  refine AWp.block ?_
  obtain ⟨o35, hl36, hq37⟩ := bnd_some hg; clear hg
  refine AWp.loopO (fun ((z2u3, z2u4) : (List Int) × Int) => ⟨[(1, .ptr 0 0), (3, .row 1), se 4 z2u4], [.w 24 v, .ro 3 1 z2u3]⟩) (r18voices_s5 v) ([], 1) hl36 ?_ fun z38 w40 _ hg hx39 k6 => ?_
  ·exact Sub.trans (Sub.adopt 3 3 1 rfl) (Sub.rm [0, 1])
  obtain ⟨z2u3, z2u4⟩ := z38
  unfold r18voices_s5 at hg; try dsimp only at hg
  show AWp _ _ _ _ _ ⟨[(1, .ptr 0 0), (3, .row 1), se 4 z2u4], [.w 24 v, .ro 3 1 z2u3]⟩ _
  refine AWp.seqG fun _ k41 => ?_
  refine AWp.rS hV none [1, 3, 4, 7] fun K k42 => ?_
  simp; repeat refine ai ?_
  refine kc [(1, .ptr 0 0), (3, .row 1), se 4 z2u4, se 7 (decide (z2u4 ≤ 9))] [.w 24 v, .ro 3 1 z2u3] (k42 _ ?_)
  refine AWp.cnd hg rfl ?_ ?_ <;> (clear hg; intro h43 hg)
  ·refine AWp.skip ?_
   refine k41 _ ?_
   refine AWp.seqJ (fun s' => ∃ y44u3 : (List Int), r18voices_j6 z2u4 y44u3 = some w40 ∧ Sub s' ⟨[(1, .ptr 0 0), (3, .row 1), se 4 z2u4], [.w 24 v, .ro 3 1 y44u3]⟩) (fun _ k45 => ?_) ?_
   ·refine AWp.block ?_
    obtain ⟨x46, h47, hg⟩ := bnd_some hg
    refine AWp.rS hV none [1, 3, 4, 5] fun K k48 => ?_
    simp [sp58, h47]; repeat refine ai ?_
    refine kd [(1, .ptr 0 0), (3, .row 1), se 4 z2u4, se 5 x46] [.w 24 v, .ro 3 1 z2u3] (by first | rfl | (simp [sp58, h47] <;> grind)) (k48 _ ?_)
    refine AWp.rS hV none [1, 3, 4, 13] fun K k49 => ?_
    simp; repeat refine ai ?_
    refine kc [(1, .ptr 0 0), (3, .row 1), se 4 z2u4, se 13 x46] [.w 24 v, .ro 3 1 z2u3] (k49 _ ?_)
    refine AWp.cnd hg rfl ?_ ?_ <;> (clear hg; intro h50 hg)
    ·obtain ⟨g51, hg⟩ := grd_some hg
     refine AWp.regF hV none [1, 3, 4] fun K k52 => ?_
     simp; repeat refine ai ?_
     refine kc [(1, .ptr 0 0), (3, .row 2), se 4 z2u4] [.w 24 v, .dead, .ro 3 1 ((z2u3 ++ [z2u4]) : List Int)] (k52 _ ?_)
     exact k45 _ ⟨_, hg, Sub.rm [0, 2]⟩
    ·refine AWp.skip ?_
     exact k45 _ ⟨_, hg, Sub.rm [0, 1]⟩
   ·rintro s' ⟨y44u3, hg, hs⟩
    unfold r18voices_j6 at hg
    refine AWp.sub hs ?_
    obtain ⟨g53, hg⟩ := grd_some hg
    unfold inI at g53
    refine AWp.regF hV none [1, 3, 4] fun K k54 => ?_
    simp; repeat refine ai ?_
    refine kc [(1, .ptr 0 0), (3, .row 1), se 4 ((z2u4 + 1) : Int)] [.w 24 v, .ro 3 1 y44u3] (k54 _ ?_)
    exact k6 _ _ (oij hg).symm (Sub.rm [0, 1])
  ·refine AWp.exit ?_
   cases hx39 _ (oij hg).symm; have hg := hq37; try dsimp only at hg
   exact k4 _ ⟨_, hg, Sub.rm [1]⟩
 ·rintro s' ⟨y3u3, hg, hs⟩
  unfold r18voices_j1 at hg
  refine AWp.sub hs ?_
  refine AWp.rS hV none [2] fun K k57 => ?_
  simp; repeat refine ai ?_
  refine kc [(2, .row 0)] [.ro 3 1 y3u3] (k57 _ ?_)
  refine AWp.ret ?_
  cases hg; exact hQ _ _ (.inl rfl) rt
noncomputable def sp11 : Eva.Spec := specO1 fun (v : View) => (r18Voices v).map fun r => .tup [enc r.1, enc r.2]
theorem ok11 : SpecOk Tryz.prog 11 sp11 := by
 have hV : VOk Tryz.prog (env [(29, sp29), (30, sp30)]) := env_ok ⟨ok29, ok30, trivial⟩
 refine SpecOk.ofO1 (Enters.of Tryz.func11 (by decide)) fun v rr hr => ?_
 obtain ⟨r, hg, rfl⟩ := mpj hr; clear hr
 refine PureCon.ofN hV Tryz.func11 rfl Tryz.ntmps11 fun R hR w0 I0 Q hQ => ?_
 unfold r18Voices at hg
 refine AWp.rS hV none [1] fun K k1 => ?_
 simp; repeat refine ai ?_
 refine kc [(1, .ptr 0 0)] [.w 24 v] (k1 _ ?_)
 refine AWp.seqG fun _ k2 => ?_
 obtain ⟨x3, h4, hg⟩ := bnd_some hg
 refine AWp.rS hV none [1, 6] fun K k5 => ?_
 simp [sp29, h4]; repeat refine ai ?_
 refine kd [(1, .ptr 0 0), se 6 (!x3)] [.w 24 v] (by first | rfl | (simp [sp29, h4] <;> grind)) (k5 _ ?_)
 refine AWp.cnd hg rfl ?_ ?_ <;> (clear hg; intro h6 hg)
 ·refine AWp.rS hV none [2, 3] fun K k7 => ?_
  simp; repeat refine ai ?_
  refine kc [(2, .nils 1), se 3 (1 : Int)] [.w 24 v] (k7 _ ?_)
  refine AWp.ret ?_
  cases hg; exact hQ _ _ (.inl rfl) rt
 ·refine AWp.skip ?_
  refine k2 _ ?_
  obtain ⟨x8, h9, hg⟩ := bnd_some hg
  refine AWp.rS hV none [2, 3] fun K k10 => ?_
  simp [sp30, h9]; repeat refine ai ?_
  refine kd [se 2 x8, se 3 (0 : Int)] [.w 24 v] (by first | rfl | (simp [sp30, h9] <;> grind)) (k10 _ ?_)
  refine AWp.ret ?_
  cases hg; exact hQ _ _ (.inl rfl) rt
noncomputable def sp12 : Eva.Spec := specO2 fun (a : (List Int)) (b : (List Int)) => (r18SameInts a b).map fun r => enc r
theorem ok12 : SpecOk Tryz.prog 12 sp12 := by
 have hV : VOk Tryz.prog (env []) := env_ok trivial
 refine SpecOk.ofO2 (Enters.of Tryz.func12 (by decide)) fun a b rr hr => ?_
 obtain ⟨r, hg, rfl⟩ := mpj hr; clear hr
 refine PureCon.ofN hV Tryz.func12 rfl Tryz.ntmps12 fun R hR w0 I0 Q hQ => ?_
 unfold r18SameInts at hg
 refine AWp.rS hV none [0, 1] fun K k1 => ?_
 simp; repeat refine ai ?_
 refine kc [se 0 a, se 1 b] [] (k1 _ ?_)
 refine AWp.seqG fun _ k2 => ?_
 refine AWp.rS hV none [0, 1, 10] fun K k3 => ?_
 simp; repeat refine ai ?_
 refine kc [se 0 a, se 1 b, se 10 (!decide ((a.length : Int) = (b.length : Int)))] [] (k3 _ ?_)
 refine AWp.cnd hg rfl ?_ ?_ <;> (clear hg; intro h4 hg)
 ·refine AWp.rS hV none [4] fun K k5 => ?_
  simp; repeat refine ai ?_
  refine kc [se 4 false] [] (k5 _ ?_)
  refine AWp.ret ?_
  cases hg; exact hQ _ _ (.inl rfl) rt
 ·refine AWp.skip ?_
  refine k2 _ ?_
  refine AWp.seqJ (fun s' => r18SameInts_j1 = some r ∧ Sub s' ⟨[], []⟩) (fun _ k7 => ?_) ?_
  ·refine AWp.rS hV none [0, 1, 5] fun K k8 => ?_
   simp; repeat refine ai ?_
   refine kc [se 0 a, se 1 b, se 5 (0 : Int)] [] (k8 _ ?_)
   refine AWp.block ?_
   obtain ⟨o38, hl39, hq40⟩ := bnd_some hg; clear hg
   refine AWp.loopO (fun (z2u5 : Int) => ⟨[se 0 a, se 1 b, se 5 z2u5], []⟩) (r18SameInts_s5 a b) 0 hl39 ?_ fun z2u5 w43 _ hg hx42 k9 => ?_
   ·exact Sub.rm []
   unfold r18SameInts_s5 at hg; try dsimp only at hg
   show AWp _ _ _ _ _ ⟨[se 0 a, se 1 b, se 5 z2u5], []⟩ _
   refine AWp.seqG fun _ k44 => ?_
   refine AWp.rS hV none [0, 1, 5, 14] fun K k45 => ?_
   simp; repeat refine ai ?_
   refine kc [se 0 a, se 1 b, se 5 z2u5, se 14 (decide (z2u5 < (a.length : Int)))] [] (k45 _ ?_)
   refine AWp.cnd hg rfl ?_ ?_ <;> (clear hg; intro h46 hg)
   ·refine AWp.skip ?_
    refine k44 _ ?_
    refine AWp.seqJ (fun s' => r18SameInts_j6 z2u5 = some w43 ∧ Sub s' ⟨[se 0 a, se 1 b, se 5 z2u5], []⟩) (fun _ k48 => ?_) ?_
    ·refine AWp.block ?_
     obtain ⟨x49, h50, hg⟩ := bnd_some hg
     obtain ⟨h50a, h50b, h50f⟩ := at_e h50; have h50g := h50f; try simp at h50g
     obtain ⟨x51, h52, hg⟩ := bnd_some hg
     obtain ⟨h52a, h52b, h52f⟩ := at_e h52; have h52g := h52f; try simp at h52g
     refine AWp.rDF hV mixed none 8 [] [0, 1, 5, 25] (by decide) fun K k53 => ?_
     simp [h50f, h50g, h52f, h52g]; repeat refine ai ?_
     refine kd [se 0 a, se 1 b, se 5 z2u5, se 25 (!decide (x49 = x51))] [] (by first | rfl | (simp [h50f, h50g, h52f, h52g] <;> grind)) (k53 _ ?_)
     refine AWp.cnd hg rfl ?_ ?_ <;> (clear hg; intro h54 hg)
     ·refine AWp.rS hV none [4] fun K k55 => ?_
      simp; repeat refine ai ?_
      refine kc [se 4 false] [] (k55 _ ?_)
      refine AWp.ret ?_
      cases hx42 _ (oij hg).symm; have hg := hq40; try dsimp only at hg
      cases hg; exact hQ _ _ (.inl rfl) rt
     ·refine AWp.skip ?_
      exact k48 _ ⟨hg, Sub.rm []⟩
    ·rintro s' ⟨hg, hs⟩
     unfold r18SameInts_j6 at hg
     refine AWp.sub hs ?_
     obtain ⟨g57, hg⟩ := grd_some hg
     unfold inI at g57
     refine AWp.regF hV none [0, 1, 5] fun K k58 => ?_
     simp; repeat refine ai ?_
     refine kc [se 0 a, se 1 b, se 5 ((z2u5 + 1) : Int)] [] (k58 _ ?_)
     exact k9 _ _ (oij hg).symm (Sub.rm [])
   ·refine AWp.exit ?_
    cases hx42 _ (oij hg).symm; have hg := hq40; try dsimp only at hg
    exact k7 _ ⟨hg, Sub.rm []⟩
  ·rintro s' ⟨hg, hs⟩
   unfold r18SameInts_j1 at hg
   refine AWp.sub hs ?_
   refine AWp.rS hV none [4] fun K k62 => ?_
   simp; repeat refine ai ?_
   refine kc [se 4 true] [] (k62 _ ?_)
   refine AWp.ret ?_
   cases hg; exact hQ _ _ (.inl rfl) rt
noncomputable def sp14 : Eva.Spec := specO2 fun (v : View) (n : Int) => (r18Assign v n).map fun r => .tup [enc r.1, enc r.2]
theorem ok14 : SpecOk Tryz.prog 14 sp14 := by
 have hV : VOk Tryz.prog (env [(29, sp29), (31, sp31), (30, sp30)]) := env_ok ⟨ok29, ok31, ok30, trivial⟩
 refine SpecOk.ofO2 (Enters.of Tryz.func14 (by decide)) fun v n rr hr => ?_
 obtain ⟨r, hg, rfl⟩ := mpj hr; clear hr
 refine PureCon.ofN hV Tryz.func14 rfl Tryz.ntmps14 fun R hR w0 I0 Q hQ => ?_
 unfold r18Assign at hg
 refine AWp.rS hV none [1, 2] fun K k1 => ?_
 simp; repeat refine ai ?_
 refine kc [se 1 n, (2, .ptr 0 0)] [.w 24 v] (k1 _ ?_)
 refine AWp.seqG fun _ k2 => ?_
 obtain ⟨y7u17, hx8, hg⟩ := bnd_some hg
 unfold r18Assign_r1 at hx8
 refine AWp.seqJ (fun s' => Sub s' ⟨[se 1 n, (2, .ptr 0 0), se 17 y7u17], [.w 24 v]⟩) (fun _ k9 => ?_) ?_
 ·obtain ⟨x3, h4, hx8⟩ := bnd_some hx8
  rcases ifb_o hx8 with ⟨c10, hx8⟩ | ⟨c10, hx8⟩
  ·have c10g := c10; try simp at c10g
   refine AWp.regF hV (some [14, 15, 16]) [1, 2, 17] fun K k11 => ?_
   simp [sp29, sp31, h4, c10, c10g]; repeat refine ai ?_
   cases hx8; exact k11 _ (k9 _ (Sub.rm [0]))
  ·have c10g := c10; try simp at c10g
   obtain ⟨x5, h6, hx8⟩ := bnd_some hx8
   have h6g := h6; try simp at h6g
   refine AWp.regF hV (some []) [1, 2, 17] fun K k12 => ?_
   simp [sp29, sp31, h4, c10, c10g, h6, h6g]; repeat refine ai ?_
   cases hx8; exact k12 _ (k9 _ (Sub.rm [0]))
 ·intro s' hs
  refine AWp.sub hs ?_
  clear hs s'
  refine AWp.cnd hg rfl ?_ ?_ <;> (clear hg; intro h13 hg)
  ·refine AWp.rS hV none [4, 5] fun K k14 => ?_
   simp; repeat refine ai ?_
   refine kc [(4, .nils 1), se 5 (1 : Int)] [.w 24 v] (k14 _ ?_)
   refine AWp.ret ?_
   cases hg; exact hQ _ _ (.inl rfl) rt
  ·refine AWp.skip ?_
   refine k2 _ ?_
   obtain ⟨x15, h16, hg⟩ := bnd_some hg
   refine AWp.rS hV none [1, 6] fun K k17 => ?_
   simp [sp30, h16]; repeat refine ai ?_
   refine kd [se 1 n, se 6 x15] [.w 24 v] (by first | rfl | (simp [sp30, h16] <;> grind)) (k17 _ ?_)
   refine AWp.seqG fun _ k18 => ?_
   refine AWp.rS hV none [1, 6, 23] fun K k19 => ?_
   simp; repeat refine ai ?_
   refine kc [se 1 n, se 6 x15, se 23 (decide (n < (x15.length : Int)))] [.w 24 v] (k19 _ ?_)
   refine AWp.cnd hg rfl ?_ ?_ <;> (clear hg; intro h20 hg)
   ·refine AWp.rS hV none [4, 5] fun K k21 => ?_
    simp; repeat refine ai ?_
    refine kc [(4, .nils 1), se 5 (6 : Int)] [.w 24 v] (k21 _ ?_)
    refine AWp.ret ?_
    cases hg; exact hQ _ _ (.inl rfl) rt
   ·refine AWp.skip ?_
    refine k18 _ ?_
    refine AWp.rS hV none [1, 6, 7] fun K k22 => ?_
    simp; repeat refine ai ?_
    refine kc [se 1 n, se 6 x15, (7, .nils 1)] [.w 24 v] (k22 _ ?_)
    refine AWp.seqJ (fun s' => ∃ y23u7 : (List Int), r18Assign_j2 y23u7 = some r ∧ Sub s' ⟨[(7, .row 0)], [.ro 3 1 y23u7]⟩) (fun _ k24 => ?_) ?_
    ·refine AWp.rS hV none [1, 6, 7, 8] fun K k25 => ?_
     simp; repeat refine ai ?_
     refine kc [se 1 n, se 6 x15, (7, .nils 1), se 8 (1 : Int)] [.w 24 v] (k25 _ ?_)
     refine AWp.block ?_
     obtain ⟨o69, hl70, hq71⟩ := bnd_some hg; clear hg
     refine AWp.loopO (fun ((z3u7, z3u8) : (List Int) × Int) => ⟨[se 1 n, se 6 x15, (7, .row 0), se 8 z3u8], [.ro 3 1 z3u7]⟩) (r18Assign_s8 n x15) ([], 1) hl70 ?_ fun z72 w74 _ hg hx73 k26 => ?_
     ·exact Sub.trans (Sub.adopt 7 3 1 rfl) (Sub.rm [1])
     obtain ⟨z3u7, z3u8⟩ := z72
     unfold r18Assign_s8 at hg; try dsimp only at hg
     show AWp _ _ _ _ _ ⟨[se 1 n, se 6 x15, (7, .row 0), se 8 z3u8], [.ro 3 1 z3u7]⟩ _
     refine AWp.seqG fun _ k75 => ?_
     refine AWp.rS hV none [1, 6, 7, 8, 26] fun K k76 => ?_
     simp; repeat refine ai ?_
     refine kc [se 1 n, se 6 x15, (7, .row 0), se 8 z3u8, se 26 (decide (z3u8 ≤ n))] [.ro 3 1 z3u7] (k76 _ ?_)
     refine AWp.cnd hg rfl ?_ ?_ <;> (clear hg; intro h77 hg)
     ·refine AWp.skip ?_
      refine k75 _ ?_
      refine AWp.seqJ (fun s' => ∃ y78u7 : (List Int), r18Assign_j9 z3u8 y78u7 = some w74 ∧ Sub s' ⟨[se 1 n, se 6 x15, (7, .row 0), se 8 z3u8], [.ro 3 1 y78u7]⟩) (fun _ k79 => ?_) ?_
      ·refine AWp.block ?_
       refine AWp.rS hV none [1, 6, 7, 8, 9] fun K k80 => ?_
       simp; repeat refine ai ?_
       refine kc [se 1 n, se 6 x15, (7, .row 0), se 8 z3u8, se 9 (0 : Int)] [.ro 3 1 z3u7] (k80 _ ?_)
       refine AWp.seqJ (fun s' => ∃ y81u9 : Int, r18Assign_j10 z3u7 z3u8 y81u9 = some w74 ∧ Sub s' ⟨[se 1 n, se 6 x15, (7, .row 0), se 8 z3u8, se 9 y81u9], [.ro 3 1 z3u7]⟩) (fun _ k82 => ?_) ?_
       ·refine AWp.rS hV none [1, 6, 7, 8, 9, 31] fun K k83 => ?_
        simp; repeat refine ai ?_
        refine kc [se 1 n, se 6 x15, (7, .row 0), se 8 z3u8, se 9 (0 : Int), se 31 (decide (0 < (x15.length : Int)))] [.ro 3 1 z3u7] (k83 _ ?_)
        refine AWp.cnd hg rfl ?_ ?_ <;> (clear hg; intro h84 hg)
        ·obtain ⟨g85, hg⟩ := grd_some hg
         unfold inI at g85
         obtain ⟨g86, hg⟩ := grd_some hg
         unfold inI at g86
         obtain ⟨g87, hg⟩ := grd_some hg
         obtain ⟨g88, hg⟩ := grd_some hg
         unfold inI at g88
         obtain ⟨x89, h90, hg⟩ := bnd_some hg
         obtain ⟨h90a, h90b, h90f⟩ := at_e h90; have h90g := h90f; try simp at h90g
         refine AWp.regF hV none [1, 6, 7, 8, 9] fun K k91 => ?_
         simp [h90f, h90g]; repeat refine ai ?_
         refine kd [se 1 n, se 6 x15, (7, .row 0), se 8 z3u8, se 9 x89] [.ro 3 1 z3u7] (by first | rfl | (simp [h90f, h90g] <;> grind)) (k91 _ ?_)
         exact k82 _ ⟨_, hg, Sub.rm [0]⟩
        ·refine AWp.skip ?_
         exact k82 _ ⟨_, hg, Sub.rm [0]⟩
       ·rintro s' ⟨y81u9, hg, hs⟩
        unfold r18Assign_j10 at hg
        refine AWp.sub hs ?_
        obtain ⟨g92, hg⟩ := grd_some hg
        refine AWp.regF hV none [1, 6, 7, 8] fun K k93 => ?_
        simp; repeat refine ai ?_
        refine kc [se 1 n, se 6 x15, (7, .row 1), se 8 z3u8] [.dead, .ro 3 1 ((z3u7 ++ [y81u9]) : List Int)] (k93 _ ?_)
        exact k79 _ ⟨_, hg, Sub.rm [1]⟩
      ·rintro s' ⟨y78u7, hg, hs⟩
       unfold r18Assign_j9 at hg
       refine AWp.sub hs ?_
       obtain ⟨g94, hg⟩ := grd_some hg
       unfold inI at g94
       refine AWp.regF hV none [1, 6, 7, 8] fun K k95 => ?_
       simp; repeat refine ai ?_
       refine kc [se 1 n, se 6 x15, (7, .row 0), se 8 ((z3u8 + 1) : Int)] [.ro 3 1 y78u7] (k95 _ ?_)
       exact k26 _ _ (oij hg).symm (Sub.rm [0])
     ·refine AWp.exit ?_
      cases hx73 _ (oij hg).symm; have hg := hq71; try dsimp only at hg
      exact k24 _ ⟨_, hg, Sub.rm [0]⟩
    ·rintro s' ⟨y23u7, hg, hs⟩
     unfold r18Assign_j2 at hg
     refine AWp.sub hs ?_
     refine AWp.rS hV none [4, 5] fun K k98 => ?_
     simp; repeat refine ai ?_
     refine kc [(4, .row 0), se 5 (0 : Int)] [.ro 3 1 y23u7] (k98 _ ?_)
     refine AWp.ret ?_
     cases hg; exact hQ _ _ (.inl rfl) rt
noncomputable def sp16 : Eva.Spec := specO2 fun (v : View) (n : Int) => (r18Desk v n).map fun r => .tup [enc r.1, enc r.2]
theorem ok16 : SpecOk Tryz.prog 16 sp16 := by
 have hV : VOk Tryz.prog (env [(29, sp29), (31, sp31)]) := env_ok ⟨ok29, ok31, trivial⟩
 refine SpecOk.ofO2 (Enters.of Tryz.func16 (by decide)) fun v n rr hr => ?_
 obtain ⟨r, hg, rfl⟩ := mpj hr; clear hr
 refine PureCon.ofN hV Tryz.func16 rfl Tryz.ntmps16 fun R hR w0 I0 Q hQ => ?_
 unfold r18Desk at hg
 refine AWp.rS hV none [1, 2, 4] fun K k1 => ?_
 simp; repeat refine ai ?_
 refine kc [se 1 n, (2, .ptr 0 0), (4, .ptr 1 0)] [.w 24 v, .var 24 [.d (enc (0 : Int)), .nils 5]] (k1 _ ?_)
 refine AWp.seqG fun _ k2 => ?_
 obtain ⟨y7u18, hx8, hg⟩ := bnd_some hg
 unfold r18Desk_r1 at hx8
 refine AWp.seqJ (fun s' => Sub s' ⟨[se 1 n, (2, .ptr 0 0), (4, .ptr 1 0), se 18 y7u18], [.w 24 v, .var 24 [.d (enc (0 : Int)), .nils 5]]⟩) (fun _ k9 => ?_) ?_
 ·obtain ⟨x3, h4, hx8⟩ := bnd_some hx8
  rcases ifb_o hx8 with ⟨c10, hx8⟩ | ⟨c10, hx8⟩
  ·have c10g := c10; try simp at c10g
   refine AWp.regF hV (some [15, 16, 17]) [1, 2, 4, 18] fun K k11 => ?_
   simp [sp29, sp31, h4, c10, c10g]; repeat refine ai ?_
   cases hx8; exact k11 _ (k9 _ (Sub.rm [0, 1]))
  ·have c10g := c10; try simp at c10g
   obtain ⟨x5, h6, hx8⟩ := bnd_some hx8
   have h6g := h6; try simp at h6g
   refine AWp.regF hV (some []) [1, 2, 4, 18] fun K k12 => ?_
   simp [sp29, sp31, h4, c10, c10g, h6, h6g]; repeat refine ai ?_
   cases hx8; exact k12 _ (k9 _ (Sub.rm [0, 1]))
 ·intro s' hs
  refine AWp.sub hs ?_
  clear hs s'
  refine AWp.cnd hg rfl ?_ ?_ <;> (clear hg; intro h13 hg)
  ·refine AWp.rS hV none [4, 5] fun K k14 => ?_
   simp; repeat refine ai ?_
   refine kc [(4, .ptr 1 0), se 5 (1 : Int)] [.w 24 v, .var 24 [.d (enc (0 : Int)), .nils 5]] (k14 _ ?_)
   refine AWp.ret ?_
   cases hg; exact hQ _ _ (.inl rfl) rt
  ·refine AWp.skip ?_
   refine k2 _ ?_
   refine AWp.rS hV none [1, 2, 4, 6] fun K k15 => ?_
   simp; repeat refine ai ?_
   refine kc [se 1 n, (2, .ptr 0 0), (4, .ptr 1 0), (6, .ptr 2 0)] [.w 24 v, .var 24 [.d (enc (0 : Int)), .nils 5], .var 24 [.d (enc (v.part : Int)), .nils 5]] (k15 _ ?_)
   refine AWp.seqJ (fun s' => ∃ y16u6c_1 : (List Measure), r18Desk_j2 v y16u6c_1 = some r ∧ Sub s' ⟨[(4, .ptr 0 0), (6, .ptr 1 0)], [.var 24 [.d (enc (0 : Int)), .nils 5], .var 24 [.d (enc (v.part : Int)), .row 2], .ro 47 5 y16u6c_1]⟩) (fun _ k17 => ?_) ?_
   ·refine AWp.rS hV none [1, 2, 4, 6, 7] fun K k18 => ?_
    simp; repeat refine ai ?_
    refine kc [se 1 n, (2, .ptr 0 0), (4, .ptr 1 0), (6, .ptr 2 0), se 7 (0 : Int)] [.w 24 v, .var 24 [.d (enc (0 : Int)), .nils 5], .var 24 [.d (enc (v.part : Int)), .nils 5]] (k18 _ ?_)
    refine AWp.block ?_
    obtain ⟨o190, hl191, hq192⟩ := bnd_some hg; clear hg
    refine AWp.loopO (fun ((z3u6c_1, z3u7) : (List Measure) × Int) => ⟨[se 1 n, (2, .ptr 0 0), (4, .ptr 1 0), (6, .ptr 2 0), se 7 z3u7], [.w 24 v, .var 24 [.d (enc (0 : Int)), .nils 5], .var 24 [.d (enc (v.part : Int)), .row 3], .ro 47 5 z3u6c_1]⟩) (r18Desk_s24 v n) ([], 0) hl191 ?_ fun z193 w195 _ hg hx194 k19 => ?_
    ·exact Sub.trans (Sub.adoptV 2 1 47 5 rfl rfl) (Sub.rm [0, 1, 2, 3])
    obtain ⟨z3u6c_1, z3u7⟩ := z193
    unfold r18Desk_s24 at hg; try dsimp only at hg
    show AWp _ _ _ _ _ ⟨[se 1 n, (2, .ptr 0 0), (4, .ptr 1 0), (6, .ptr 2 0), se 7 z3u7], [.w 24 v, .var 24 [.d (enc (0 : Int)), .nils 5], .var 24 [.d (enc (v.part : Int)), .row 3], .ro 47 5 z3u6c_1]⟩ _
    refine AWp.seqG fun _ k196 => ?_
    refine AWp.rS hV none [1, 2, 4, 6, 7, 27] fun K k197 => ?_
    simp; repeat refine ai ?_
    refine kc [se 1 n, (2, .ptr 0 0), (4, .ptr 1 0), (6, .ptr 2 0), se 7 z3u7, se 27 (decide (z3u7 < (v.measures.length : Int)))] [.w 24 v, .var 24 [.d (enc (0 : Int)), .nils 5], .var 24 [.d (enc (v.part : Int)), .row 3], .ro 47 5 z3u6c_1] (k197 _ ?_)
    refine AWp.cnd hg rfl ?_ ?_ <;> (clear hg; intro h198 hg)
    ·refine AWp.skip ?_
     refine k196 _ ?_
     refine AWp.seqJ (fun s' => ∃ y199u6c_1 : (List Measure), r18Desk_j25 z3u7 y199u6c_1 = some w195 ∧ Sub s' ⟨[se 1 n, (2, .ptr 0 0), (4, .ptr 1 0), (6, .ptr 2 0), se 7 z3u7], [.w 24 v, .var 24 [.d (enc (0 : Int)), .nils 5], .var 24 [.d (enc (v.part : Int)), .row 3], .ro 47 5 y199u6c_1]⟩) (fun _ k200 => ?_) ?_
     ·refine AWp.block ?_
      obtain ⟨x201, h202, hg⟩ := bnd_some hg
      obtain ⟨h202a, h202b, h202f⟩ := at_e h202; have h202g := h202f; try simp at h202g
      refine AWp.rS hV none [1, 2, 4, 6, 7, 8] fun K k203 => ?_
      simp [h202f, h202g]; repeat refine ai ?_
      refine kd [se 1 n, (2, .ptr 0 0), (4, .ptr 1 0), (6, .ptr 2 0), se 7 z3u7, (8, .ptr 4 0)] [.w 24 v, .var 24 [.d (enc (0 : Int)), .nils 5], .var 24 [.d (enc (v.part : Int)), .row 3], .ro 47 5 z3u6c_1, .w 47 x201] (by first | rfl | (simp [h202f, h202g] <;> grind)) (k203 _ ?_)
      refine AWp.rS hV none [1, 2, 4, 6, 7, 8, 9] fun K k204 => ?_
      simp; repeat refine ai ?_
      refine kc [se 1 n, (2, .ptr 0 0), (4, .ptr 1 0), (6, .ptr 2 0), se 7 z3u7, (8, .ptr 4 0), (9, .nils 10)] [.w 24 v, .var 24 [.d (enc (0 : Int)), .nils 5], .var 24 [.d (enc (v.part : Int)), .row 3], .ro 47 5 z3u6c_1, .w 47 x201] (k204 _ ?_)
      refine AWp.seqJ (fun s' => ∃ y205u9 : (List Written), r18Desk_j26 z3u6c_1 z3u7 x201 y205u9 = some w195 ∧ Sub s' ⟨[se 1 n, (2, .ptr 0 0), (4, .ptr 1 0), (6, .ptr 2 0), se 7 z3u7, (8, .ptr 4 0), (9, .row 5)], [.w 24 v, .var 24 [.d (enc (0 : Int)), .nils 5], .var 24 [.d (enc (v.part : Int)), .row 3], .ro 47 5 z3u6c_1, .w 47 x201, .ro 51 10 y205u9]⟩) (fun _ k206 => ?_) ?_
      ·refine AWp.rS hV none [1, 2, 4, 6, 7, 8, 9, 10] fun K k207 => ?_
       simp; repeat refine ai ?_
       refine kc [se 1 n, (2, .ptr 0 0), (4, .ptr 1 0), (6, .ptr 2 0), se 7 z3u7, (8, .ptr 4 0), (9, .nils 10), se 10 (0 : Int)] [.w 24 v, .var 24 [.d (enc (0 : Int)), .nils 5], .var 24 [.d (enc (v.part : Int)), .row 3], .ro 47 5 z3u6c_1, .w 47 x201] (k207 _ ?_)
       refine AWp.block ?_
       obtain ⟨o249, hl250, hq251⟩ := bnd_some hg; clear hg
       refine AWp.loopO (fun ((z27u9, z27u10) : (List Written) × Int) => ⟨[se 1 n, (2, .ptr 0 0), (4, .ptr 1 0), (6, .ptr 2 0), se 7 z3u7, (8, .ptr 4 0), (9, .row 5), se 10 z27u10], [.w 24 v, .var 24 [.d (enc (0 : Int)), .nils 5], .var 24 [.d (enc (v.part : Int)), .row 3], .ro 47 5 z3u6c_1, .w 47 x201, .ro 51 10 z27u9]⟩) (r18Desk_s32 n x201) ([], 0) hl250 ?_ fun z252 w254 _ hg hx253 k208 => ?_
       ·exact Sub.trans (Sub.adopt 9 51 10 rfl) (Sub.rm [0, 1, 2, 3, 4, 5])
       obtain ⟨z27u9, z27u10⟩ := z252
       unfold r18Desk_s32 at hg; try dsimp only at hg
       show AWp _ _ _ _ _ ⟨[se 1 n, (2, .ptr 0 0), (4, .ptr 1 0), (6, .ptr 2 0), se 7 z3u7, (8, .ptr 4 0), (9, .row 5), se 10 z27u10], [.w 24 v, .var 24 [.d (enc (0 : Int)), .nils 5], .var 24 [.d (enc (v.part : Int)), .row 3], .ro 47 5 z3u6c_1, .w 47 x201, .ro 51 10 z27u9]⟩ _
       refine AWp.seqG fun _ k255 => ?_
       refine AWp.rS hV none [1, 2, 4, 6, 7, 8, 9, 10, 39] fun K k256 => ?_
       simp; repeat refine ai ?_
       refine kc [se 1 n, (2, .ptr 0 0), (4, .ptr 1 0), (6, .ptr 2 0), se 7 z3u7, (8, .ptr 4 0), (9, .row 5), se 10 z27u10, se 39 (decide (z27u10 < (x201.notes.length : Int)))] [.w 24 v, .var 24 [.d (enc (0 : Int)), .nils 5], .var 24 [.d (enc (v.part : Int)), .row 3], .ro 47 5 z3u6c_1, .w 47 x201, .ro 51 10 z27u9] (k256 _ ?_)
       refine AWp.cnd hg rfl ?_ ?_ <;> (clear hg; intro h257 hg)
       ·refine AWp.skip ?_
        refine k255 _ ?_
        refine AWp.seqJ (fun s' => ∃ y258u9 : (List Written), r18Desk_j33 z27u10 y258u9 = some w254 ∧ Sub s' ⟨[se 1 n, (2, .ptr 0 0), (4, .ptr 1 0), (6, .ptr 2 0), se 7 z3u7, (8, .ptr 4 0), (9, .row 5), se 10 z27u10], [.w 24 v, .var 24 [.d (enc (0 : Int)), .nils 5], .var 24 [.d (enc (v.part : Int)), .row 3], .ro 47 5 z3u6c_1, .w 47 x201, .ro 51 10 y258u9]⟩) (fun _ k259 => ?_) ?_
        ·refine AWp.block ?_
         obtain ⟨y262u58, hx263, hg⟩ := bnd_some hg
         unfold r18Desk_r34 at hx263
         refine AWp.seqJ (fun s' => Sub s' ⟨[se 1 n, (2, .ptr 0 0), (4, .ptr 1 0), (6, .ptr 2 0), se 7 z3u7, (8, .ptr 4 0), (9, .row 5), se 10 z27u10, se 58 y262u58], [.w 24 v, .var 24 [.d (enc (0 : Int)), .nils 5], .var 24 [.d (enc (v.part : Int)), .row 3], .ro 47 5 z3u6c_1, .w 47 x201, .ro 51 10 z27u9]⟩) (fun _ k264 => ?_) ?_
         ·obtain ⟨x260, h261, hx263⟩ := bnd_some hx263
          obtain ⟨h261a, h261b, h261f⟩ := at_e h261; have h261g := h261f; try simp at h261g
          rcases ifb_o hx263 with ⟨c265, hx263⟩ | ⟨c265, hx263⟩
          ·have c265g := c265; try simp at c265g
           refine AWp.regF hV (some [50, 51, 52, 53, 54, 55, 56, 57]) [1, 2, 4, 6, 7, 8, 9, 10, 58] fun K k266 => ?_
           simp [h261f, h261g, c265, c265g]; repeat refine ai ?_
           cases hx263; exact k266 _ (k264 _ (Sub.rm [0, 1, 2, 3, 4, 5]))
          ·have c265g := c265; try simp at c265g
           refine AWp.regF hV (some []) [1, 2, 4, 6, 7, 8, 9, 10, 58] fun K k267 => ?_
           simp [h261f, h261g, c265, c265g]; repeat refine ai ?_
           cases hx263; exact k267 _ (k264 _ (Sub.rm [0, 1, 2, 3, 4, 5]))
         ·intro s' hs
          refine AWp.sub hs ?_
          clear hs s'
          refine AWp.cnd hg rfl ?_ ?_ <;> (clear hg; intro h268 hg)
          ·obtain ⟨x269, h270, hg⟩ := bnd_some hg
           obtain ⟨h270a, h270b, h270f⟩ := at_e h270; have h270g := h270f; try simp at h270g
           obtain ⟨g271, hg⟩ := grd_some hg
           refine AWp.regF hV none [1, 2, 4, 6, 7, 8, 9, 10] fun K k272 => ?_
           simp [h270f, h270g]; repeat refine ai ?_
           refine kd [se 1 n, (2, .ptr 0 0), (4, .ptr 1 0), (6, .ptr 2 0), se 7 z3u7, (8, .ptr 4 0), (9, .row 6), se 10 z27u10] [.w 24 v, .var 24 [.d (enc (0 : Int)), .nils 5], .var 24 [.d (enc (v.part : Int)), .row 3], .ro 47 5 z3u6c_1, .w 47 x201, .dead, .ro 51 10 ((z27u9 ++ [x269]) : List Written)] (by first | rfl | (simp [h270f, h270g] <;> grind)) (k272 _ ?_)
           exact k259 _ ⟨_, hg, Sub.rm [0, 1, 2, 3, 4, 6]⟩
          ·refine AWp.skip ?_
           exact k259 _ ⟨_, hg, Sub.rm [0, 1, 2, 3, 4, 5]⟩
        ·rintro s' ⟨y258u9, hg, hs⟩
         unfold r18Desk_j33 at hg
         refine AWp.sub hs ?_
         obtain ⟨g273, hg⟩ := grd_some hg
         unfold inI at g273
         refine AWp.regF hV none [1, 2, 4, 6, 7, 8, 9, 10] fun K k274 => ?_
         simp; repeat refine ai ?_
         refine kc [se 1 n, (2, .ptr 0 0), (4, .ptr 1 0), (6, .ptr 2 0), se 7 z3u7, (8, .ptr 4 0), (9, .row 5), se 10 ((z27u10 + 1) : Int)] [.w 24 v, .var 24 [.d (enc (0 : Int)), .nils 5], .var 24 [.d (enc (v.part : Int)), .row 3], .ro 47 5 z3u6c_1, .w 47 x201, .ro 51 10 y258u9] (k274 _ ?_)
         exact k208 _ _ (oij hg).symm (Sub.rm [0, 1, 2, 3, 4, 5])
       ·refine AWp.exit ?_
        cases hx253 _ (oij hg).symm; have hg := hq251; try dsimp only at hg
        exact k206 _ ⟨_, hg, Sub.rm [0, 1, 2, 3, 4, 5]⟩
      ·rintro s' ⟨y205u9, hg, hs⟩
       unfold r18Desk_j26 at hg
       refine AWp.sub hs ?_
       refine AWp.rS hV none [1, 2, 4, 6, 7, 8] fun K k277 => ?_
       simp; repeat refine ai ?_
       refine kc [se 1 n, (2, .ptr 0 0), (4, .ptr 1 0), (6, .ptr 2 0), se 7 z3u7, (8, .ptr 4 0)] [.w 24 v, .var 24 [.d (enc (0 : Int)), .nils 5], .var 24 [.d (enc (v.part : Int)), .row 3], .ro 47 5 z3u6c_1, .var 47 [.d (enc (x201.bar : Int)), .d (enc (x201.key : Int)), .d (enc (x201.length.n : Int)), .d (enc (x201.length.d : Int)), .row 5], .ro 51 10 y205u9] (k277 _ ?_)
       obtain ⟨g278, hg⟩ := grd_some hg
       refine AWp.regF hV none [1, 2, 4, 6, 7] fun K k279 => ?_
       simp; repeat refine ai ?_
       refine kc [se 1 n, (2, .ptr 0 0), (4, .ptr 1 0), (6, .ptr 2 0), se 7 z3u7] [.w 24 v, .var 24 [.d (enc (0 : Int)), .nils 5], .var 24 [.d (enc (v.part : Int)), .row 6], .dead, .var 47 [.d (enc (x201.bar : Int)), .d (enc (x201.key : Int)), .d (enc (x201.length.n : Int)), .d (enc (x201.length.d : Int)), .row 5], .fro 51 10 y205u9, .ro 47 5 ((z3u6c_1 ++ [(⟨x201.bar, x201.key, x201.length, y205u9⟩ : Measure)]) : List Measure)] (k279 _ ?_)
       exact k200 _ ⟨_, hg, Sub.rm [0, 1, 2, 6]⟩
     ·rintro s' ⟨y199u6c_1, hg, hs⟩
      unfold r18Desk_j25 at hg
      refine AWp.sub hs ?_
      obtain ⟨g280, hg⟩ := grd_some hg
      unfold inI at g280
      refine AWp.regF hV none [1, 2, 4, 6, 7] fun K k281 => ?_
      simp; repeat refine ai ?_
      refine kc [se 1 n, (2, .ptr 0 0), (4, .ptr 1 0), (6, .ptr 2 0), se 7 ((z3u7 + 1) : Int)] [.w 24 v, .var 24 [.d (enc (0 : Int)), .nils 5], .var 24 [.d (enc (v.part : Int)), .row 3], .ro 47 5 y199u6c_1] (k281 _ ?_)
      exact k19 _ _ (oij hg).symm (Sub.rm [0, 1, 2, 3])
    ·refine AWp.exit ?_
     cases hx194 _ (oij hg).symm; have hg := hq192; try dsimp only at hg
     exact k17 _ ⟨_, hg, Sub.rm [1, 2, 3]⟩
   ·rintro s' ⟨y16u6c_1, hg, hs⟩
    unfold r18Desk_j2 at hg
    refine AWp.sub hs ?_
    refine AWp.rS hV none [4, 5] fun K k284 => ?_
    simp; repeat refine ai ?_
    refine kc [(4, .ptr 0 0), se 5 (0 : Int)] [.var 24 [.d (enc (v.part : Int)), .row 2], .var 24 [.d (enc (v.part : Int)), .row 2], .ro 47 5 y16u6c_1] (k284 _ ?_)
    refine AWp.ret ?_
    cases hg; exact hQ _ _ (.inl rfl) rt
noncomputable def sp41 : Eva.Spec := specO2 fun (l : (List Written)) (c : (List Int)) => (r18Played l c).map fun r => enc r
theorem ok41 : SpecOk Tryz.prog 41 sp41 := by
 have hV : VOk Tryz.prog (env []) := env_ok trivial
 refine SpecOk.ofO2 (Enters.of Tryz.func41 (by decide)) fun l c rr hr => ?_
 obtain ⟨r, hg, rfl⟩ := mpj hr; clear hr
 refine PureCon.ofN hV Tryz.func41 rfl Tryz.ntmps41 fun R hR w0 I0 Q hQ => ?_
 unfold r18Played at hg
 refine AWp.rS hV none [0, 1] fun K k1 => ?_
 simp; repeat refine ai ?_
 refine kc [se 0 l, se 1 c] [] (k1 _ ?_)
 refine AWp.seqJ (fun s' => r18Played_j1 = some r ∧ Sub s' ⟨[], []⟩) (fun _ k3 => ?_) ?_
 ·refine AWp.rS hV none [0, 1, 5] fun K k4 => ?_
  simp; repeat refine ai ?_
  refine kc [se 0 l, se 1 c, se 5 (0 : Int)] [] (k4 _ ?_)
  refine AWp.block ?_
  obtain ⟨o136, hl137, hq138⟩ := bnd_some hg; clear hg
  refine AWp.loopO (fun (z2u5 : Int) => ⟨[se 0 l, se 1 c, se 5 z2u5], []⟩) (r18Played_s15 l c) 0 hl137 ?_ fun z2u5 w141 _ hg hx140 k5 => ?_
  ·exact Sub.rm []
  unfold r18Played_s15 at hg; try dsimp only at hg
  show AWp _ _ _ _ _ ⟨[se 0 l, se 1 c, se 5 z2u5], []⟩ _
  refine AWp.seqG fun _ k142 => ?_
  refine AWp.rS hV none [0, 1, 5, 10] fun K k143 => ?_
  simp; repeat refine ai ?_
  refine kc [se 0 l, se 1 c, se 5 z2u5, se 10 (decide (z2u5 < (c.length : Int)))] [] (k143 _ ?_)
  refine AWp.cnd hg rfl ?_ ?_ <;> (clear hg; intro h144 hg)
  ·refine AWp.skip ?_
   refine k142 _ ?_
   refine AWp.seqJ (fun s' => r18Played_j16 z2u5 = some w141 ∧ Sub s' ⟨[se 0 l, se 1 c, se 5 z2u5], []⟩) (fun _ k146 => ?_) ?_
   ·refine AWp.block ?_
    refine AWp.rS hV none [0, 1, 5, 6] fun K k147 => ?_
    simp; repeat refine ai ?_
    refine kc [se 0 l, se 1 c, se 5 z2u5, se 6 (0 : Int)] [] (k147 _ ?_)
    refine AWp.block ?_
    obtain ⟨o181, hl182, hq183⟩ := bnd_some hg; clear hg
    refine AWp.loopO (fun (z17u6 : Int) => ⟨[se 0 l, se 1 c, se 5 z2u5, se 6 z17u6], []⟩) (r18Played_s20 l c z2u5) 0 hl182 ?_ fun z17u6 w186 _ hg hx185 k148 => ?_
    ·exact Sub.rm []
    unfold r18Played_s20 at hg; try dsimp only at hg
    show AWp _ _ _ _ _ ⟨[se 0 l, se 1 c, se 5 z2u5, se 6 z17u6], []⟩ _
    refine AWp.seqG fun _ k187 => ?_
    refine AWp.rS hV none [0, 1, 5, 6, 16] fun K k188 => ?_
    simp; repeat refine ai ?_
    refine kc [se 0 l, se 1 c, se 5 z2u5, se 6 z17u6, se 16 (decide (z17u6 < (l.length : Int)))] [] (k188 _ ?_)
    refine AWp.cnd hg rfl ?_ ?_ <;> (clear hg; intro h189 hg)
    ·refine AWp.skip ?_
     refine k187 _ ?_
     refine AWp.seqJ (fun s' => r18Played_j21 z17u6 = some w186 ∧ Sub s' ⟨[se 0 l, se 1 c, se 5 z2u5, se 6 z17u6], []⟩) (fun _ k191 => ?_) ?_
     ·refine AWp.block ?_
      obtain ⟨x192, h193, hg⟩ := bnd_some hg
      obtain ⟨h193a, h193b, h193f⟩ := at_e h193; have h193g := h193f; try simp at h193g
      obtain ⟨x194, h195, hg⟩ := bnd_some hg
      obtain ⟨h195a, h195b, h195f⟩ := at_e h195; have h195g := h195f; try simp at h195g
      refine AWp.rDF hV mixed none 9 [] [0, 1, 5, 6, 28] (by decide) fun K k196 => ?_
      simp [h193f, h193g, h195f, h195g]; repeat refine ai ?_
      refine kd [se 0 l, se 1 c, se 5 z2u5, se 6 z17u6, se 28 (decide (x192.ossia = x194))] [] (by first | rfl | (simp [h193f, h193g, h195f, h195g] <;> grind)) (k196 _ ?_)
      refine AWp.cnd hg rfl ?_ ?_ <;> (clear hg; intro h197 hg)
      ·obtain ⟨x198, h199, hg⟩ := bnd_some hg
       obtain ⟨h199a, h199b, h199f⟩ := at_e h199; have h199g := h199f; try simp at h199g
       refine AWp.rS hV none [4] fun K k200 => ?_
       simp [h199f, h199g]; repeat refine ai ?_
       refine kd [se 4 x198] [] (by first | rfl | (simp [h199f, h199g] <;> grind)) (k200 _ ?_)
       refine AWp.ret ?_
       cases hx185 _ (oij hg).symm; have hg := hq183; try dsimp only at hg
       cases hx140 _ (oij hg).symm; have hg := hq138; try dsimp only at hg
       cases hg; exact hQ _ _ (.inl rfl) rt
      ·refine AWp.skip ?_
       exact k191 _ ⟨hg, Sub.rm []⟩
     ·rintro s' ⟨hg, hs⟩
      unfold r18Played_j21 at hg
      refine AWp.sub hs ?_
      obtain ⟨g203, hg⟩ := grd_some hg
      unfold inI at g203
      refine AWp.regF hV none [0, 1, 5, 6] fun K k204 => ?_
      simp; repeat refine ai ?_
      refine kc [se 0 l, se 1 c, se 5 z2u5, se 6 ((z17u6 + 1) : Int)] [] (k204 _ ?_)
      exact k148 _ _ (oij hg).symm (Sub.rm [])
    ·refine AWp.exit ?_
     cases hx185 _ (oij hg).symm; have hg := hq183; try dsimp only at hg
     exact k146 _ ⟨hg, Sub.rm []⟩
   ·rintro s' ⟨hg, hs⟩
    unfold r18Played_j16 at hg
    refine AWp.sub hs ?_
    obtain ⟨g208, hg⟩ := grd_some hg
    unfold inI at g208
    refine AWp.regF hV none [0, 1, 5] fun K k209 => ?_
    simp; repeat refine ai ?_
    refine kc [se 0 l, se 1 c, se 5 ((z2u5 + 1) : Int)] [] (k209 _ ?_)
    exact k5 _ _ (oij hg).symm (Sub.rm [])
  ·refine AWp.exit ?_
   cases hx140 _ (oij hg).symm; have hg := hq138; try dsimp only at hg
   exact k3 _ ⟨hg, Sub.rm []⟩
 ·rintro s' ⟨hg, hs⟩
  unfold r18Played_j1 at hg
  refine AWp.sub hs ?_
  refine AWp.rS hV none [4] fun K k213 => ?_
  simp; repeat refine ai ?_
  refine kc [se 4 (0 : Int)] [] (k213 _ ?_)
  refine AWp.ret ?_
  cases hg; exact hQ _ _ (.inl rfl) rt
noncomputable def sp23 : Eva.Spec := specO1 fun (c : (List Int)) => (r18Chosen c).map fun r => enc r
theorem ok23 : SpecOk Tryz.prog 23 sp23 := by
 have hV : VOk Tryz.prog (env [(31, sp31)]) := env_ok ⟨ok31, trivial⟩
 refine SpecOk.ofO1 (Enters.of Tryz.func23 (by decide)) fun c rr hr => ?_
 obtain ⟨r, hg, rfl⟩ := mpj hr; clear hr
 refine PureCon.ofN hV Tryz.func23 rfl Tryz.ntmps23 fun R hR w0 I0 Q hQ => ?_
 unfold r18Chosen at hg
 refine AWp.rS hV none [0] fun K k1 => ?_
 simp; repeat refine ai ?_
 refine kc [se 0 c] [] (k1 _ ?_)
 refine AWp.seqJ (fun s' => r18Chosen_j1 = some r ∧ Sub s' ⟨[], []⟩) (fun _ k3 => ?_) ?_
 ·refine AWp.rS hV none [0, 3] fun K k4 => ?_
  simp; repeat refine ai ?_
  refine kc [se 0 c, se 3 (0 : Int)] [] (k4 _ ?_)
  refine AWp.block ?_
  obtain ⟨o54, hl55, hq56⟩ := bnd_some hg; clear hg
  refine AWp.loopO (fun (z2u3 : Int) => ⟨[se 0 c, se 3 z2u3], []⟩) (r18Chosen_s7 c) 0 hl55 ?_ fun z2u3 w59 _ hg hx58 k5 => ?_
  ·exact Sub.rm []
  unfold r18Chosen_s7 at hg; try dsimp only at hg
  show AWp _ _ _ _ _ ⟨[se 0 c, se 3 z2u3], []⟩ _
  refine AWp.seqG fun _ k60 => ?_
  refine AWp.rS hV none [0, 3, 7] fun K k61 => ?_
  simp; repeat refine ai ?_
  refine kc [se 0 c, se 3 z2u3, se 7 (decide (z2u3 < (c.length : Int)))] [] (k61 _ ?_)
  refine AWp.cnd hg rfl ?_ ?_ <;> (clear hg; intro h62 hg)
  ·refine AWp.skip ?_
   refine k60 _ ?_
   refine AWp.seqJ (fun s' => r18Chosen_j8 z2u3 = some w59 ∧ Sub s' ⟨[se 0 c, se 3 z2u3], []⟩) (fun _ k64 => ?_) ?_
   ·refine AWp.block ?_
    obtain ⟨y72u31, hx73, hg⟩ := bnd_some hg
    unfold r18Chosen_r9 at hx73
    refine AWp.seqJ (fun s' => Sub s' ⟨[se 0 c, se 3 z2u3, se 31 y72u31], []⟩) (fun _ k74 => ?_) ?_
    ·obtain ⟨x65, h66, hx73⟩ := bnd_some hx73
     obtain ⟨h66a, h66b, h66f⟩ := at_e h66; have h66g := h66f; try simp at h66g
     obtain ⟨x67, h68, hx73⟩ := bnd_some hx73
     have h68g := h68; try simp at h68g
     rcases ifb_o hx73 with ⟨c75, hx73⟩ | ⟨c75, hx73⟩
     ·have c75g := c75; try simp at c75g
      refine AWp.regDFF hV mixed (some [17, 18, 19, 20, 21, 22, 23, 24, 25, 26, 27, 28, 29, 30]) 19 [] [0, 3, 31] (by decide) fun K k76 => ?_
      simp [sp31, h66f, h66g, h68, h68g, c75, c75g]; repeat refine ai ?_
      cases hx73; exact k76 _ (k74 _ (Sub.rm []))
     ·have c75g := c75; try simp at c75g
      rcases ifb_o hx73 with ⟨c77, hx73⟩ | ⟨c77, hx73⟩
      ·have c77g := c77; try simp at c77g
       obtain ⟨g69, hx73⟩ := grd_some hx73
       unfold inI at g69
       obtain ⟨x70, h71, hx73⟩ := bnd_some hx73
       obtain ⟨h71a, h71b, h71f⟩ := at_e h71; have h71g := h71f; try simp at h71g
       refine AWp.regDFF hV mixed (some []) 19 [] [0, 3, 31] (by decide) fun K k78 => ?_
       simp [sp31, h66f, h66g, h68, h68g, c75, c75g, c77, c77g, h71f, h71g]; repeat refine ai ?_
       cases hx73; exact k78 _ (k74 _ (Sub.rm []))
      ·have c77g := c77; try simp at c77g
       refine AWp.regDFF hV mixed (some [20, 21, 22, 23, 24, 25, 26, 27, 28, 29]) 19 [] [0, 3, 31] (by decide) fun K k79 => ?_
       simp [sp31, h66f, h66g, h68, h68g, c75, c75g, c77, c77g]; repeat refine ai ?_
       cases hx73; exact k79 _ (k74 _ (Sub.rm []))
    ·intro s' hs
     refine AWp.sub hs ?_
     clear hs s'
     refine AWp.cnd hg rfl ?_ ?_ <;> (clear hg; intro h80 hg)
     ·refine AWp.rS hV none [2] fun K k81 => ?_
      simp; repeat refine ai ?_
      refine kc [se 2 false] [] (k81 _ ?_)
      refine AWp.ret ?_
      cases hx58 _ (oij hg).symm; have hg := hq56; try dsimp only at hg
      cases hg; exact hQ _ _ (.inl rfl) rt
     ·refine AWp.skip ?_
      exact k64 _ ⟨hg, Sub.rm []⟩
   ·rintro s' ⟨hg, hs⟩
    unfold r18Chosen_j8 at hg
    refine AWp.sub hs ?_
    obtain ⟨g83, hg⟩ := grd_some hg
    unfold inI at g83
    refine AWp.regF hV none [0, 3] fun K k84 => ?_
    simp; repeat refine ai ?_
    refine kc [se 0 c, se 3 ((z2u3 + 1) : Int)] [] (k84 _ ?_)
    exact k5 _ _ (oij hg).symm (Sub.rm [])
  ·refine AWp.exit ?_
   cases hx58 _ (oij hg).symm; have hg := hq56; try dsimp only at hg
   exact k3 _ ⟨hg, Sub.rm []⟩
 ·rintro s' ⟨hg, hs⟩
  unfold r18Chosen_j1 at hg
  refine AWp.sub hs ?_
  refine AWp.rS hV none [2] fun K k88 => ?_
  simp; repeat refine ai ?_
  refine kc [se 2 true] [] (k88 _ ?_)
  refine AWp.ret ?_
  cases hg; exact hQ _ _ (.inl rfl) rt
noncomputable def sp19 : Eva.Spec := specO2 fun (v : View) (c : (List Int)) => (r18Ossia v c).map fun r => .tup [enc r.1, enc r.2]
theorem ok19 : SpecOk Tryz.prog 19 sp19 := by
 have hV : VOk Tryz.prog (env [(29, sp29), (23, sp23), (41, sp41)]) := env_ok ⟨ok29, ok23, ok41, trivial⟩
 refine SpecOk.ofO2 (Enters.of Tryz.func19 (by decide)) fun v c rr hr => ?_
 obtain ⟨r, hg, rfl⟩ := mpj hr; clear hr
 refine PureCon.ofN hV Tryz.func19 rfl Tryz.ntmps19 fun R hR w0 I0 Q hQ => ?_
 unfold r18Ossia at hg
 refine AWp.rS hV none [1, 2, 4] fun K k1 => ?_
 simp; repeat refine ai ?_
 refine kc [se 1 c, (2, .ptr 0 0), (4, .ptr 1 0)] [.w 24 v, .var 24 [.d (enc (0 : Int)), .nils 5]] (k1 _ ?_)
 refine AWp.seqG fun _ k2 => ?_
 obtain ⟨y7u19, hx8, hg⟩ := bnd_some hg
 unfold r18Ossia_r1 at hx8
 refine AWp.seqJ (fun s' => Sub s' ⟨[se 1 c, (2, .ptr 0 0), (4, .ptr 1 0), se 19 y7u19], [.w 24 v, .var 24 [.d (enc (0 : Int)), .nils 5]]⟩) (fun _ k9 => ?_) ?_
 ·obtain ⟨x3, h4, hx8⟩ := bnd_some hx8
  rcases ifb_o hx8 with ⟨c10, hx8⟩ | ⟨c10, hx8⟩
  ·have c10g := c10; try simp at c10g
   refine AWp.regF hV (some [16, 17, 18]) [1, 2, 4, 19] fun K k11 => ?_
   simp [sp29, sp23, h4, c10, c10g]; repeat refine ai ?_
   cases hx8; exact k11 _ (k9 _ (Sub.rm [0, 1]))
  ·have c10g := c10; try simp at c10g
   obtain ⟨x5, h6, hx8⟩ := bnd_some hx8
   refine AWp.regF hV (some []) [1, 2, 4, 19] fun K k12 => ?_
   simp [sp29, sp23, h4, c10, c10g, h6]; repeat refine ai ?_
   cases hx8; exact k12 _ (k9 _ (Sub.rm [0, 1]))
 ·intro s' hs
  refine AWp.sub hs ?_
  clear hs s'
  refine AWp.cnd hg rfl ?_ ?_ <;> (clear hg; intro h13 hg)
  ·refine AWp.rS hV none [4, 5] fun K k14 => ?_
   simp; repeat refine ai ?_
   refine kc [(4, .ptr 1 0), se 5 (1 : Int)] [.w 24 v, .var 24 [.d (enc (0 : Int)), .nils 5]] (k14 _ ?_)
   refine AWp.ret ?_
   cases hg; exact hQ _ _ (.inl rfl) rt
  ·refine AWp.skip ?_
   refine k2 _ ?_
   refine AWp.rS hV none [1, 2, 4, 6] fun K k15 => ?_
   simp; repeat refine ai ?_
   refine kc [se 1 c, (2, .ptr 0 0), (4, .ptr 1 0), (6, .ptr 2 0)] [.w 24 v, .var 24 [.d (enc (0 : Int)), .nils 5], .var 24 [.d (enc (v.part : Int)), .nils 5]] (k15 _ ?_)
   refine AWp.seqJ (fun s' => ∃ y16u6c_1 : (List Measure), r18Ossia_j2 v y16u6c_1 = some r ∧ Sub s' ⟨[(4, .ptr 0 0), (6, .ptr 1 0)], [.var 24 [.d (enc (0 : Int)), .nils 5], .var 24 [.d (enc (v.part : Int)), .row 2], .ro 47 5 y16u6c_1]⟩) (fun _ k17 => ?_) ?_
   ·refine AWp.rS hV none [1, 2, 4, 6, 7] fun K k18 => ?_
    simp; repeat refine ai ?_
    refine kc [se 1 c, (2, .ptr 0 0), (4, .ptr 1 0), (6, .ptr 2 0), se 7 (0 : Int)] [.w 24 v, .var 24 [.d (enc (0 : Int)), .nils 5], .var 24 [.d (enc (v.part : Int)), .nils 5]] (k18 _ ?_)
    refine AWp.block ?_
    obtain ⟨o166, hl167, hq168⟩ := bnd_some hg; clear hg
    refine AWp.loopO (fun ((z3u6c_1, z3u7) : (List Measure) × Int) => ⟨[se 1 c, (2, .ptr 0 0), (4, .ptr 1 0), (6, .ptr 2 0), se 7 z3u7], [.w 24 v, .var 24 [.d (enc (0 : Int)), .nils 5], .var 24 [.d (enc (v.part : Int)), .row 3], .ro 47 5 z3u6c_1]⟩) (r18Ossia_s18 v c) ([], 0) hl167 ?_ fun z169 w171 _ hg hx170 k19 => ?_
    ·exact Sub.trans (Sub.adoptV 2 1 47 5 rfl rfl) (Sub.rm [0, 1, 2, 3])
    obtain ⟨z3u6c_1, z3u7⟩ := z169
    unfold r18Ossia_s18 at hg; try dsimp only at hg
    show AWp _ _ _ _ _ ⟨[se 1 c, (2, .ptr 0 0), (4, .ptr 1 0), (6, .ptr 2 0), se 7 z3u7], [.w 24 v, .var 24 [.d (enc (0 : Int)), .nils 5], .var 24 [.d (enc (v.part : Int)), .row 3], .ro 47 5 z3u6c_1]⟩ _
    refine AWp.seqG fun _ k172 => ?_
    refine AWp.rS hV none [1, 2, 4, 6, 7, 28] fun K k173 => ?_
    simp; repeat refine ai ?_
    refine kc [se 1 c, (2, .ptr 0 0), (4, .ptr 1 0), (6, .ptr 2 0), se 7 z3u7, se 28 (decide (z3u7 < (v.measures.length : Int)))] [.w 24 v, .var 24 [.d (enc (0 : Int)), .nils 5], .var 24 [.d (enc (v.part : Int)), .row 3], .ro 47 5 z3u6c_1] (k173 _ ?_)
    refine AWp.cnd hg rfl ?_ ?_ <;> (clear hg; intro h174 hg)
    ·refine AWp.skip ?_
     refine k172 _ ?_
     refine AWp.seqJ (fun s' => ∃ y175u6c_1 : (List Measure), r18Ossia_j19 z3u7 y175u6c_1 = some w171 ∧ Sub s' ⟨[se 1 c, (2, .ptr 0 0), (4, .ptr 1 0), (6, .ptr 2 0), se 7 z3u7], [.w 24 v, .var 24 [.d (enc (0 : Int)), .nils 5], .var 24 [.d (enc (v.part : Int)), .row 3], .ro 47 5 y175u6c_1]⟩) (fun _ k176 => ?_) ?_
     ·refine AWp.block ?_
      obtain ⟨x177, h178, hg⟩ := bnd_some hg
      obtain ⟨h178a, h178b, h178f⟩ := at_e h178; have h178g := h178f; try simp at h178g
      refine AWp.rS hV none [1, 2, 4, 6, 7, 8] fun K k179 => ?_
      simp [h178f, h178g]; repeat refine ai ?_
      refine kd [se 1 c, (2, .ptr 0 0), (4, .ptr 1 0), (6, .ptr 2 0), se 7 z3u7, (8, .ptr 4 0)] [.w 24 v, .var 24 [.d (enc (0 : Int)), .nils 5], .var 24 [.d (enc (v.part : Int)), .row 3], .ro 47 5 z3u6c_1, .w 47 x177] (by first | rfl | (simp [h178f, h178g] <;> grind)) (k179 _ ?_)
      obtain ⟨x180, h181, hg⟩ := bnd_some hg
      refine AWp.rS hV none [1, 2, 4, 6, 7, 8, 9] fun K k182 => ?_
      simp [sp41, h181]; repeat refine ai ?_
      refine kd [se 1 c, (2, .ptr 0 0), (4, .ptr 1 0), (6, .ptr 2 0), se 7 z3u7, (8, .ptr 4 0), se 9 x180] [.w 24 v, .var 24 [.d (enc (0 : Int)), .nils 5], .var 24 [.d (enc (v.part : Int)), .row 3], .ro 47 5 z3u6c_1, .w 47 x177] (by first | rfl | (simp [sp41, h181] <;> grind)) (k182 _ ?_)
      refine AWp.rS hV none [1, 2, 4, 6, 7, 8, 9, 10] fun K k183 => ?_
      simp; repeat refine ai ?_
      refine kc [se 1 c, (2, .ptr 0 0), (4, .ptr 1 0), (6, .ptr 2 0), se 7 z3u7, (8, .ptr 4 0), se 9 x180, (10, .nils 10)] [.w 24 v, .var 24 [.d (enc (0 : Int)), .nils 5], .var 24 [.d (enc (v.part : Int)), .row 3], .ro 47 5 z3u6c_1, .w 47 x177] (k183 _ ?_)
      refine AWp.seqJ (fun s' => ∃ y184u10 : (List Written), r18Ossia_j20 z3u6c_1 z3u7 x177 y184u10 = some w171 ∧ Sub s' ⟨[se 1 c, (2, .ptr 0 0), (4, .ptr 1 0), (6, .ptr 2 0), se 7 z3u7, (8, .ptr 4 0), (10, .row 5)], [.w 24 v, .var 24 [.d (enc (0 : Int)), .nils 5], .var 24 [.d (enc (v.part : Int)), .row 3], .ro 47 5 z3u6c_1, .w 47 x177, .ro 51 10 y184u10]⟩) (fun _ k185 => ?_) ?_
      ·refine AWp.rS hV none [1, 2, 4, 6, 7, 8, 9, 10, 11] fun K k186 => ?_
       simp; repeat refine ai ?_
       refine kc [se 1 c, (2, .ptr 0 0), (4, .ptr 1 0), (6, .ptr 2 0), se 7 z3u7, (8, .ptr 4 0), se 9 x180, (10, .nils 10), se 11 (0 : Int)] [.w 24 v, .var 24 [.d (enc (0 : Int)), .nils 5], .var 24 [.d (enc (v.part : Int)), .row 3], .ro 47 5 z3u6c_1, .w 47 x177] (k186 _ ?_)
       refine AWp.block ?_
       obtain ⟨o218, hl219, hq220⟩ := bnd_some hg; clear hg
       refine AWp.loopO (fun ((z21u10, z21u11) : (List Written) × Int) => ⟨[se 1 c, (2, .ptr 0 0), (4, .ptr 1 0), (6, .ptr 2 0), se 7 z3u7, (8, .ptr 4 0), se 9 x180, (10, .row 5), se 11 z21u11], [.w 24 v, .var 24 [.d (enc (0 : Int)), .nils 5], .var 24 [.d (enc (v.part : Int)), .row 3], .ro 47 5 z3u6c_1, .w 47 x177, .ro 51 10 z21u10]⟩) (r18Ossia_s24 x177 x180) ([], 0) hl219 ?_ fun z221 w223 _ hg hx222 k187 => ?_
       ·exact Sub.trans (Sub.adopt 10 51 10 rfl) (Sub.rm [0, 1, 2, 3, 4, 5])
       obtain ⟨z21u10, z21u11⟩ := z221
       unfold r18Ossia_s24 at hg; try dsimp only at hg
       show AWp _ _ _ _ _ ⟨[se 1 c, (2, .ptr 0 0), (4, .ptr 1 0), (6, .ptr 2 0), se 7 z3u7, (8, .ptr 4 0), se 9 x180, (10, .row 5), se 11 z21u11], [.w 24 v, .var 24 [.d (enc (0 : Int)), .nils 5], .var 24 [.d (enc (v.part : Int)), .row 3], .ro 47 5 z3u6c_1, .w 47 x177, .ro 51 10 z21u10]⟩ _
       refine AWp.seqG fun _ k224 => ?_
       refine AWp.rS hV none [1, 2, 4, 6, 7, 8, 9, 10, 11, 44] fun K k225 => ?_
       simp; repeat refine ai ?_
       refine kc [se 1 c, (2, .ptr 0 0), (4, .ptr 1 0), (6, .ptr 2 0), se 7 z3u7, (8, .ptr 4 0), se 9 x180, (10, .row 5), se 11 z21u11, se 44 (decide (z21u11 < (x177.notes.length : Int)))] [.w 24 v, .var 24 [.d (enc (0 : Int)), .nils 5], .var 24 [.d (enc (v.part : Int)), .row 3], .ro 47 5 z3u6c_1, .w 47 x177, .ro 51 10 z21u10] (k225 _ ?_)
       refine AWp.cnd hg rfl ?_ ?_ <;> (clear hg; intro h226 hg)
       ·refine AWp.skip ?_
        refine k224 _ ?_
        refine AWp.seqJ (fun s' => ∃ y227u10 : (List Written), r18Ossia_j25 z21u11 y227u10 = some w223 ∧ Sub s' ⟨[se 1 c, (2, .ptr 0 0), (4, .ptr 1 0), (6, .ptr 2 0), se 7 z3u7, (8, .ptr 4 0), se 9 x180, (10, .row 5), se 11 z21u11], [.w 24 v, .var 24 [.d (enc (0 : Int)), .nils 5], .var 24 [.d (enc (v.part : Int)), .row 3], .ro 47 5 z3u6c_1, .w 47 x177, .ro 51 10 y227u10]⟩) (fun _ k228 => ?_) ?_
        ·refine AWp.block ?_
         obtain ⟨x229, h230, hg⟩ := bnd_some hg
         obtain ⟨h230a, h230b, h230f⟩ := at_e h230; have h230g := h230f; try simp at h230g
         refine AWp.rS hV none [1, 2, 4, 6, 7, 8, 9, 10, 11, 54] fun K k231 => ?_
         simp [h230f, h230g]; repeat refine ai ?_
         refine kd [se 1 c, (2, .ptr 0 0), (4, .ptr 1 0), (6, .ptr 2 0), se 7 z3u7, (8, .ptr 4 0), se 9 x180, (10, .row 5), se 11 z21u11, se 54 (decide (x229.ossia = x180))] [.w 24 v, .var 24 [.d (enc (0 : Int)), .nils 5], .var 24 [.d (enc (v.part : Int)), .row 3], .ro 47 5 z3u6c_1, .w 47 x177, .ro 51 10 z21u10] (by first | rfl | (simp [h230f, h230g] <;> grind)) (k231 _ ?_)
         refine AWp.cnd hg rfl ?_ ?_ <;> (clear hg; intro h232 hg)
         ·obtain ⟨x233, h234, hg⟩ := bnd_some hg
          obtain ⟨h234a, h234b, h234f⟩ := at_e h234; have h234g := h234f; try simp at h234g
          obtain ⟨g235, hg⟩ := grd_some hg
          refine AWp.regF hV none [1, 2, 4, 6, 7, 8, 9, 10, 11] fun K k236 => ?_
          simp [h234f, h234g]; repeat refine ai ?_
          refine kd [se 1 c, (2, .ptr 0 0), (4, .ptr 1 0), (6, .ptr 2 0), se 7 z3u7, (8, .ptr 4 0), se 9 x180, (10, .row 6), se 11 z21u11] [.w 24 v, .var 24 [.d (enc (0 : Int)), .nils 5], .var 24 [.d (enc (v.part : Int)), .row 3], .ro 47 5 z3u6c_1, .w 47 x177, .dead, .ro 51 10 ((z21u10 ++ [x233]) : List Written)] (by first | rfl | (simp [h234f, h234g] <;> grind)) (k236 _ ?_)
          exact k228 _ ⟨_, hg, Sub.rm [0, 1, 2, 3, 4, 6]⟩
         ·refine AWp.skip ?_
          exact k228 _ ⟨_, hg, Sub.rm [0, 1, 2, 3, 4, 5]⟩
        ·rintro s' ⟨y227u10, hg, hs⟩
         unfold r18Ossia_j25 at hg
         refine AWp.sub hs ?_
         obtain ⟨g237, hg⟩ := grd_some hg
         unfold inI at g237
         refine AWp.regF hV none [1, 2, 4, 6, 7, 8, 9, 10, 11] fun K k238 => ?_
         simp; repeat refine ai ?_
         refine kc [se 1 c, (2, .ptr 0 0), (4, .ptr 1 0), (6, .ptr 2 0), se 7 z3u7, (8, .ptr 4 0), se 9 x180, (10, .row 5), se 11 ((z21u11 + 1) : Int)] [.w 24 v, .var 24 [.d (enc (0 : Int)), .nils 5], .var 24 [.d (enc (v.part : Int)), .row 3], .ro 47 5 z3u6c_1, .w 47 x177, .ro 51 10 y227u10] (k238 _ ?_)
         exact k187 _ _ (oij hg).symm (Sub.rm [0, 1, 2, 3, 4, 5])
       ·refine AWp.exit ?_
        cases hx222 _ (oij hg).symm; have hg := hq220; try dsimp only at hg
        exact k185 _ ⟨_, hg, Sub.rm [0, 1, 2, 3, 4, 5]⟩
      ·rintro s' ⟨y184u10, hg, hs⟩
       unfold r18Ossia_j20 at hg
       refine AWp.sub hs ?_
       refine AWp.rS hV none [1, 2, 4, 6, 7, 8] fun K k241 => ?_
       simp; repeat refine ai ?_
       refine kc [se 1 c, (2, .ptr 0 0), (4, .ptr 1 0), (6, .ptr 2 0), se 7 z3u7, (8, .ptr 4 0)] [.w 24 v, .var 24 [.d (enc (0 : Int)), .nils 5], .var 24 [.d (enc (v.part : Int)), .row 3], .ro 47 5 z3u6c_1, .var 47 [.d (enc (x177.bar : Int)), .d (enc (x177.key : Int)), .d (enc (x177.length.n : Int)), .d (enc (x177.length.d : Int)), .row 5], .ro 51 10 y184u10] (k241 _ ?_)
       obtain ⟨g242, hg⟩ := grd_some hg
       refine AWp.regF hV none [1, 2, 4, 6, 7] fun K k243 => ?_
       simp; repeat refine ai ?_
       refine kc [se 1 c, (2, .ptr 0 0), (4, .ptr 1 0), (6, .ptr 2 0), se 7 z3u7] [.w 24 v, .var 24 [.d (enc (0 : Int)), .nils 5], .var 24 [.d (enc (v.part : Int)), .row 6], .dead, .var 47 [.d (enc (x177.bar : Int)), .d (enc (x177.key : Int)), .d (enc (x177.length.n : Int)), .d (enc (x177.length.d : Int)), .row 5], .fro 51 10 y184u10, .ro 47 5 ((z3u6c_1 ++ [(⟨x177.bar, x177.key, x177.length, y184u10⟩ : Measure)]) : List Measure)] (k243 _ ?_)
       exact k176 _ ⟨_, hg, Sub.rm [0, 1, 2, 6]⟩
     ·rintro s' ⟨y175u6c_1, hg, hs⟩
      unfold r18Ossia_j19 at hg
      refine AWp.sub hs ?_
      obtain ⟨g244, hg⟩ := grd_some hg
      unfold inI at g244
      refine AWp.regF hV none [1, 2, 4, 6, 7] fun K k245 => ?_
      simp; repeat refine ai ?_
      refine kc [se 1 c, (2, .ptr 0 0), (4, .ptr 1 0), (6, .ptr 2 0), se 7 ((z3u7 + 1) : Int)] [.w 24 v, .var 24 [.d (enc (0 : Int)), .nils 5], .var 24 [.d (enc (v.part : Int)), .row 3], .ro 47 5 y175u6c_1] (k245 _ ?_)
      exact k19 _ _ (oij hg).symm (Sub.rm [0, 1, 2, 3])
    ·refine AWp.exit ?_
     cases hx170 _ (oij hg).symm; have hg := hq168; try dsimp only at hg
     exact k17 _ ⟨_, hg, Sub.rm [1, 2, 3]⟩
   ·rintro s' ⟨y16u6c_1, hg, hs⟩
    unfold r18Ossia_j2 at hg
    refine AWp.sub hs ?_
    refine AWp.rS hV none [4, 5] fun K k248 => ?_
    simp; repeat refine ai ?_
    refine kc [(4, .ptr 0 0), se 5 (0 : Int)] [.var 24 [.d (enc (v.part : Int)), .row 2], .var 24 [.d (enc (v.part : Int)), .row 2], .ro 47 5 y16u6c_1] (k248 _ ?_)
    refine AWp.ret ?_
    cases hg; exact hQ _ _ (.inl rfl) rt
noncomputable def sp49 : Eva.Spec := specO2 fun (a : View) (b : View) => (r18same a b).map fun r => enc r
theorem ok49 : SpecOk Tryz.prog 49 sp49 := by
 have hV : VOk Tryz.prog (env []) := env_ok trivial
 refine SpecOk.ofO2 (Enters.of Tryz.func49 (by decide)) fun a b rr hr => ?_
 obtain ⟨r, hg, rfl⟩ := mpj hr; clear hr
 refine PureCon.ofN hV Tryz.func49 rfl Tryz.ntmps49 fun R hR w0 I0 Q hQ => ?_
 unfold r18same at hg
 refine AWp.rS hV none [2, 3] fun K k1 => ?_
 simp; repeat refine ai ?_
 refine kc [(2, .ptr 0 0), (3, .ptr 1 0)] [.w 24 a, .w 24 b] (k1 _ ?_)
 refine AWp.seqG fun _ k2 => ?_
 obtain ⟨y3u21, hx4, hg⟩ := bnd_some hg
 unfold r18same_r1 at hx4
 refine AWp.seqJ (fun s' => Sub s' ⟨[(2, .ptr 0 0), (3, .ptr 1 0), se 21 y3u21], [.w 24 a, .w 24 b]⟩) (fun _ k5 => ?_) ?_
 ·rcases ifb_o hx4 with ⟨c6, hx4⟩ | ⟨c6, hx4⟩
  ·have c6g := c6; try simp at c6g
   refine AWp.regF hV (some [14, 15, 16, 17, 18, 19, 20]) [2, 3, 21] fun K k7 => ?_
   simp [c6, c6g]; repeat refine ai ?_
   cases hx4; exact k7 _ (k5 _ (Sub.rm [0, 1]))
  ·have c6g := nd_f c6
   refine AWp.regF hV (some []) [2, 3, 21] fun K k8 => ?_
   simp [c6, c6g]; repeat refine ai ?_
   cases hx4; exact k8 _ (k5 _ (Sub.rm [0, 1]))
 ·intro s' hs
  refine AWp.sub hs ?_
  clear hs s'
  refine AWp.cnd hg rfl ?_ ?_ <;> (clear hg; intro h9 hg)
  ·refine AWp.rS hV none [4] fun K k10 => ?_
   simp; repeat refine ai ?_
   refine kc [se 4 false] [.w 24 a, .w 24 b] (k10 _ ?_)
   refine AWp.ret ?_
   cases hg; exact hQ _ _ (.inl rfl) rt
  ·refine AWp.skip ?_
   refine k2 _ ?_
   refine AWp.seqJ (fun s' => r18same_j2 = some r ∧ Sub s' ⟨[], []⟩) (fun _ k12 => ?_) ?_
   ·refine AWp.rS hV none [2, 3, 5] fun K k13 => ?_
    simp; repeat refine ai ?_
    refine kc [(2, .ptr 0 0), (3, .ptr 1 0), se 5 (0 : Int)] [.w 24 a, .w 24 b] (k13 _ ?_)
    refine AWp.block ?_
    obtain ⟨o61, hl62, hq63⟩ := bnd_some hg; clear hg
    refine AWp.loopO (fun (z3u5 : Int) => ⟨[(2, .ptr 0 0), (3, .ptr 1 0), se 5 z3u5], [.w 24 a, .w 24 b]⟩) (r18same_s8 a b) 0 hl62 ?_ fun z3u5 w66 _ hg hx65 k14 => ?_
    ·exact Sub.rm [0, 1]
    unfold r18same_s8 at hg; try dsimp only at hg
    show AWp _ _ _ _ _ ⟨[(2, .ptr 0 0), (3, .ptr 1 0), se 5 z3u5], [.w 24 a, .w 24 b]⟩ _
    refine AWp.seqG fun _ k67 => ?_
    refine AWp.rS hV none [2, 3, 5, 26] fun K k68 => ?_
    simp; repeat refine ai ?_
    refine kc [(2, .ptr 0 0), (3, .ptr 1 0), se 5 z3u5, se 26 (decide (z3u5 < (a.measures.length : Int)))] [.w 24 a, .w 24 b] (k68 _ ?_)
    refine AWp.cnd hg rfl ?_ ?_ <;> (clear hg; intro h69 hg)
    ·refine AWp.skip ?_
     refine k67 _ ?_
     refine AWp.seqJ (fun s' => r18same_j9 z3u5 = some w66 ∧ Sub s' ⟨[(2, .ptr 0 0), (3, .ptr 1 0), se 5 z3u5], [.w 24 a, .w 24 b]⟩) (fun _ k71 => ?_) ?_
     ·refine AWp.block ?_
      obtain ⟨x72, h73, hg⟩ := bnd_some hg
      obtain ⟨h73a, h73b, h73f⟩ := at_e h73; have h73g := h73f; try simp at h73g
      refine AWp.rS hV none [2, 3, 5, 6] fun K k74 => ?_
      simp [h73f, h73g]; repeat refine ai ?_
      refine kd [(2, .ptr 0 0), (3, .ptr 1 0), se 5 z3u5, (6, .ptr 2 0)] [.w 24 a, .w 24 b, .w 47 x72] (by first | rfl | (simp [h73f, h73g] <;> grind)) (k74 _ ?_)
      obtain ⟨x75, h76, hg⟩ := bnd_some hg
      obtain ⟨h76a, h76b, h76f⟩ := at_e h76; have h76g := h76f; try simp at h76g
      refine AWp.rS hV none [2, 3, 5, 6, 7] fun K k77 => ?_
      simp [h76f, h76g]; repeat refine ai ?_
      refine kd [(2, .ptr 0 0), (3, .ptr 1 0), se 5 z3u5, (6, .ptr 2 0), (7, .ptr 3 0)] [.w 24 a, .w 24 b, .w 47 x72, .w 47 x75] (by first | rfl | (simp [h76f, h76g] <;> grind)) (k77 _ ?_)
      obtain ⟨y78u57, hx79, hg⟩ := bnd_some hg
      unfold r18same_r10 at hx79
      refine AWp.seqJ (fun s' => Sub s' ⟨[(2, .ptr 0 0), (3, .ptr 1 0), se 5 z3u5, se 57 y78u57], [.w 24 a, .w 24 b]⟩) (fun _ k80 => ?_) ?_
      ·rcases ifb_o hx79 with ⟨c81, hx79⟩ | ⟨c81, hx79⟩
       ·have c81g := c81; try simp at c81g
        refine AWp.regF hV (some [45, 46, 47, 48, 49, 52, 53, 54, 55, 56]) [2, 3, 5, 57] fun K k82 => ?_
        simp [c81, c81g]; repeat refine ai ?_
        cases hx79; exact k82 _ (k80 _ (Sub.rm [0, 1]))
       ·have c81g := nd_f c81
        rcases ifb_o hx79 with ⟨c83, hx79⟩ | ⟨c83, hx79⟩
        ·have c83g := c83; try simp at c83g
         refine AWp.regF hV (some [52, 53, 54, 55, 56]) [2, 3, 5, 57] fun K k84 => ?_
         simp [c81, c81g, c83, c83g]; repeat refine ai ?_
         cases hx79; exact k84 _ (k80 _ (Sub.rm [0, 1]))
        ·have c83g := nd_f c83
         refine AWp.regF hV (some []) [2, 3, 5, 57] fun K k85 => ?_
         simp [c81, c81g, c83, c83g]; repeat refine ai ?_
         cases hx79; exact k85 _ (k80 _ (Sub.rm [0, 1]))
      ·intro s' hs
       refine AWp.sub hs ?_
       clear hs s'
       refine AWp.cnd hg rfl ?_ ?_ <;> (clear hg; intro h86 hg)
       ·refine AWp.rS hV none [4] fun K k87 => ?_
        simp; repeat refine ai ?_
        refine kc [se 4 false] [.w 24 a, .w 24 b] (k87 _ ?_)
        refine AWp.ret ?_
        cases hx65 _ (oij hg).symm; have hg := hq63; try dsimp only at hg
        cases hg; exact hQ _ _ (.inl rfl) rt
       ·refine AWp.skip ?_
        exact k71 _ ⟨hg, Sub.rm [0, 1]⟩
     ·rintro s' ⟨hg, hs⟩
      unfold r18same_j9 at hg
      refine AWp.sub hs ?_
      obtain ⟨g89, hg⟩ := grd_some hg
      unfold inI at g89
      refine AWp.regF hV none [2, 3, 5] fun K k90 => ?_
      simp; repeat refine ai ?_
      refine kc [(2, .ptr 0 0), (3, .ptr 1 0), se 5 ((z3u5 + 1) : Int)] [.w 24 a, .w 24 b] (k90 _ ?_)
      exact k14 _ _ (oij hg).symm (Sub.rm [0, 1])
    ·refine AWp.exit ?_
     cases hx65 _ (oij hg).symm; have hg := hq63; try dsimp only at hg
     exact k12 _ ⟨hg, Sub.rm []⟩
   ·rintro s' ⟨hg, hs⟩
    unfold r18same_j2 at hg
    refine AWp.sub hs ?_
    refine AWp.rS hV none [4] fun K k94 => ?_
    simp; repeat refine ai ?_
    refine kc [se 4 true] [] (k94 _ ?_)
    refine AWp.ret ?_
    cases hg; exact hQ _ _ (.inl rfl) rt
noncomputable def sp50 : Eva.Spec := specO2 fun (l : (List Written)) (m : (List Written)) => (r18put l m).map fun r => .tup [enc r.1, enc r.2]
theorem ok50 : SpecOk Tryz.prog 50 sp50 := by
 have hV : VOk Tryz.prog (env [(77, sp77)]) := env_ok ⟨ok77, trivial⟩
 refine SpecOk.ofO2 (Enters.of Tryz.func50 (by decide)) fun l m rr hr => ?_
 obtain ⟨r, hg, rfl⟩ := mpj hr; clear hr
 refine PureCon.ofN hV Tryz.func50 rfl Tryz.ntmps50 fun R hR w0 I0 Q hQ => ?_
 unfold r18put at hg
 refine AWp.rS hV none [0, 1] fun K k1 => ?_
 simp; repeat refine ai ?_
 refine kc [se 0 l, se 1 m] [] (k1 _ ?_)
 refine AWp.seqJ (fun s' => ∃ y2u0 : (List Written), r18put_j1 y2u0 = some r ∧ Sub s' ⟨[se 0 y2u0], []⟩) (fun _ k3 => ?_) ?_
 ·refine AWp.rS hV none [0, 1, 6] fun K k4 => ?_
  simp; repeat refine ai ?_
  refine kc [se 0 l, se 1 m, se 6 (0 : Int)] [] (k4 _ ?_)
  refine AWp.block ?_
  obtain ⟨o334, hl335, hq336⟩ := bnd_some hg; clear hg
  refine AWp.loopO (fun ((z2u0, z2u6) : (List Written) × Int) => ⟨[se 0 z2u0, se 1 m, se 6 z2u6], []⟩) (r18put_s39 m) (l, 0) hl335 ?_ fun z337 w339 _ hg hx338 k5 => ?_
  ·exact Sub.rm []
  obtain ⟨z2u0, z2u6⟩ := z337
  unfold r18put_s39 at hg; try dsimp only at hg
  show AWp _ _ _ _ _ ⟨[se 0 z2u0, se 1 m, se 6 z2u6], []⟩ _
  refine AWp.seqG fun _ k340 => ?_
  refine AWp.rS hV none [0, 1, 6, 15] fun K k341 => ?_
  simp; repeat refine ai ?_
  refine kc [se 0 z2u0, se 1 m, se 6 z2u6, se 15 (decide (z2u6 < (m.length : Int)))] [] (k341 _ ?_)
  refine AWp.cnd hg rfl ?_ ?_ <;> (clear hg; intro h342 hg)
  ·refine AWp.skip ?_
   refine k340 _ ?_
   refine AWp.seqJ (fun s' => ∃ y343u0 : (List Written), r18put_j40 z2u6 y343u0 = some w339 ∧ Sub s' ⟨[se 0 y343u0, se 1 m, se 6 z2u6], []⟩) (fun _ k344 => ?_) ?_
   ·refine AWp.block ?_
    obtain ⟨x345, h346, hg⟩ := bnd_some hg
    obtain ⟨h346a, h346b, h346f⟩ := at_e h346; have h346g := h346f; try simp at h346g
    refine AWp.rS hV none [0, 1, 6, 7] fun K k347 => ?_
    simp [h346f, h346g]; repeat refine ai ?_
    refine kd [se 0 z2u0, se 1 m, se 6 z2u6, (7, .ptr 0 0)] [.w 51 x345] (by first | rfl | (simp [h346f, h346g] <;> grind)) (k347 _ ?_)
    refine AWp.rS hV none [0, 1, 6, 7, 8] fun K k348 => ?_
    simp; repeat refine ai ?_
    refine kc [se 0 z2u0, se 1 m, se 6 z2u6, (7, .ptr 0 0), se 8 false] [.w 51 x345] (k348 _ ?_)
    refine AWp.seqJ (fun s' => ∃ y349u8 : Bool, r18put_j41 z2u0 z2u6 x345 y349u8 = some w339 ∧ Sub s' ⟨[se 0 z2u0, se 1 m, se 6 z2u6, (7, .ptr 0 0), se 8 y349u8], [.w 51 x345]⟩) (fun _ k350 => ?_) ?_
    ·refine AWp.rS hV none [0, 1, 6, 7, 8, 9] fun K k351 => ?_
     simp; repeat refine ai ?_
     refine kc [se 0 z2u0, se 1 m, se 6 z2u6, (7, .ptr 0 0), se 8 false, se 9 (0 : Int)] [.w 51 x345] (k351 _ ?_)
     refine AWp.block ?_
     obtain ⟨o400, hl401, hq402⟩ := bnd_some hg; clear hg
     refine AWp.loopO (fun ((z42u8, z42u9) : Bool × Int) => ⟨[se 0 z2u0, se 1 m, se 6 z2u6, (7, .ptr 0 0), se 8 z42u8, se 9 z42u9], [.w 51 x345]⟩) (r18put_s48 z2u0 x345) (false, 0) hl401 ?_ fun z403 w405 _ hg hx404 k352 => ?_
     ·exact Sub.rm [0]
     obtain ⟨z42u8, z42u9⟩ := z403
     unfold r18put_s48 at hg; try dsimp only at hg
     show AWp _ _ _ _ _ ⟨[se 0 z2u0, se 1 m, se 6 z2u6, (7, .ptr 0 0), se 8 z42u8, se 9 z42u9], [.w 51 x345]⟩ _
     refine AWp.seqG fun _ k406 => ?_
     refine AWp.rS hV none [0, 1, 6, 7, 8, 9, 25] fun K k407 => ?_
     simp; repeat refine ai ?_
     refine kc [se 0 z2u0, se 1 m, se 6 z2u6, (7, .ptr 0 0), se 8 z42u8, se 9 z42u9, se 25 (decide (z42u9 < (z2u0.length : Int)))] [.w 51 x345] (k407 _ ?_)
     refine AWp.cnd hg rfl ?_ ?_ <;> (clear hg; intro h408 hg)
     ·refine AWp.skip ?_
      refine k406 _ ?_
      refine AWp.seqJ (fun s' => ∃ y409u8 : Bool, r18put_j49 z42u9 y409u8 = some w405 ∧ Sub s' ⟨[se 0 z2u0, se 1 m, se 6 z2u6, (7, .ptr 0 0), se 8 y409u8, se 9 z42u9], [.w 51 x345]⟩) (fun _ k410 => ?_) ?_
      ·refine AWp.block ?_
       refine AWp.seqG fun _ k411 => ?_
       obtain ⟨y414u43, hx415, hg⟩ := bnd_some hg
       unfold r18put_r50 at hx415
       refine AWp.seqJ (fun s' => Sub s' ⟨[se 0 z2u0, se 1 m, se 6 z2u6, (7, .ptr 0 0), se 8 z42u8, se 9 z42u9, se 43 y414u43], [.w 51 x345]⟩) (fun _ k416 => ?_) ?_
       ·obtain ⟨x412, h413, hx415⟩ := bnd_some hx415
        obtain ⟨h413a, h413b, h413f⟩ := at_e h413; have h413g := h413f; try simp at h413g
        rcases ifb_o hx415 with ⟨c417, hx415⟩ | ⟨c417, hx415⟩
        ·have c417g := eq_true (of_decide_eq_true c417)
         refine AWp.regDFF hV mixed (some []) 14 [] [0, 1, 6, 7, 8, 9, 43] (by decide) fun K k418 => ?_
         simp [h413f, h413g, c417, c417g]; repeat refine ai ?_
         cases hx415; exact k418 _ (k416 _ (Sub.rm [0]))
        ·have c417g := c417; try simp at c417g
         refine AWp.regDFF hV mixed (some [37, 38, 39, 40, 41, 42]) 14 [] [0, 1, 6, 7, 8, 9, 43] (by decide) fun K k419 => ?_
         simp [h413f, h413g, c417, c417g]; repeat refine ai ?_
         cases hx415; exact k419 _ (k416 _ (Sub.rm [0]))
       ·intro s' hs
        refine AWp.sub hs ?_
        clear hs s'
        refine AWp.cnd hg rfl ?_ ?_ <;> (clear hg; intro h420 hg)
        ·refine AWp.rS hV none [4, 5] fun K k421 => ?_
         simp; repeat refine ai ?_
         refine kc [(4, .nils 10), se 5 false] [.w 51 x345] (k421 _ ?_)
         refine AWp.ret ?_
         cases hx404 _ (oij hg).symm; have hg := hq402; try dsimp only at hg
         cases hx338 _ (oij hg).symm; have hg := hq336; try dsimp only at hg
         cases hg; exact hQ _ _ (.inl rfl) rt
        ·refine AWp.skip ?_
         refine k411 _ ?_
         obtain ⟨y426u8, hx427, hg⟩ := bnd_some hg
         unfold r18put_r51 at hx427
         refine AWp.mid (t := ⟨[se 0 z2u0, se 1 m, se 6 z2u6, (7, .ptr 0 0), se 8 y426u8, se 9 z42u9], [.w 51 x345]⟩) (fun _ k428 => ?_) ?_
         ·rcases ifb_o hx427 with ⟨c429, hx427⟩ | ⟨c429, hx427⟩
          ·refine AWp.regDFF hV mixed (some [46, 47, 48, 49, 50, 51]) 7 [] [0, 1, 6, 7, 8, 9] (by decide) fun K k430 => ?_
           simp [c429]; repeat refine ai ?_
           cases hx427; exact k430 _ (k428 _ (Sub.rm [0]))
          ·obtain ⟨x424, h425, hx427⟩ := bnd_some hx427
           obtain ⟨h425a, h425b, h425f⟩ := at_e h425; have h425g := h425f; try simp at h425g
           refine AWp.regDFF hV mixed (some []) 7 [] [0, 1, 6, 7, 8, 9] (by decide) fun K k431 => ?_
           simp [c429, h425f, h425g]; repeat refine ai ?_
           cases hx427; exact k431 _ (k428 _ (Sub.rm [0]))
         ·exact k410 _ ⟨_, hg, Sub.rm [0]⟩
      ·rintro s' ⟨y409u8, hg, hs⟩
       unfold r18put_j49 at hg
       refine AWp.sub hs ?_
       obtain ⟨g432, hg⟩ := grd_some hg
       unfold inI at g432
       refine AWp.regF hV none [0, 1, 6, 7, 8, 9] fun K k433 => ?_
       simp; repeat refine ai ?_
       refine kc [se 0 z2u0, se 1 m, se 6 z2u6, (7, .ptr 0 0), se 8 y409u8, se 9 ((z42u9 + 1) : Int)] [.w 51 x345] (k433 _ ?_)
       exact k352 _ _ (oij hg).symm (Sub.rm [0])
     ·refine AWp.exit ?_
      cases hx404 _ (oij hg).symm; have hg := hq402; try dsimp only at hg
      exact k350 _ ⟨_, hg, Sub.rm [0]⟩
    ·rintro s' ⟨y349u8, hg, hs⟩
     unfold r18put_j41 at hg
     refine AWp.sub hs ?_
     refine AWp.seqG fun _ k437 => ?_
     refine AWp.rS hV none [0, 1, 6, 7, 53] fun K k438 => ?_
     simp; repeat refine ai ?_
     refine kc [se 0 z2u0, se 1 m, se 6 z2u6, (7, .ptr 0 0), se 53 y349u8] [.w 51 x345] (k438 _ ?_)
     refine AWp.cnd hg rfl ?_ ?_ <;> (clear hg; intro h439 hg)
     ·refine AWp.exit ?_
      exact k344 _ ⟨_, hg, Sub.rm []⟩
     ·refine AWp.skip ?_
      refine k437 _ ?_
      refine AWp.rS hV none [0, 1, 6, 7, 10] fun K k440 => ?_
      simp; repeat refine ai ?_
      refine kc [se 0 z2u0, se 1 m, se 6 z2u6, (7, .ptr 0 0), se 10 ((z2u0.length : Int) : Int)] [.w 51 x345] (k440 _ ?_)
      refine AWp.seqJ (fun s' => ∃ y441u10 : Int, r18put_j52 z2u0 z2u6 x345 y441u10 = some w339 ∧ Sub s' ⟨[se 0 z2u0, se 1 m, se 6 z2u6, (7, .ptr 0 0), se 10 y441u10], [.w 51 x345]⟩) (fun _ k442 => ?_) ?_
      ·refine AWp.block ?_
       obtain ⟨o474, hl475, hq476⟩ := bnd_some hg; clear hg
       refine AWp.loopO (fun (z53u10 : Int) => ⟨[se 0 z2u0, se 1 m, se 6 z2u6, (7, .ptr 0 0), se 10 z53u10], [.w 51 x345]⟩) (r18put_s56 z2u0 x345) (z2u0.length : Int) hl475 ?_ fun z53u10 w479 _ hg hx478 k443 => ?_
       ·exact Sub.rm [0]
       unfold r18put_s56 at hg; try dsimp only at hg
       show AWp _ _ _ _ _ ⟨[se 0 z2u0, se 1 m, se 6 z2u6, (7, .ptr 0 0), se 10 z53u10], [.w 51 x345]⟩ _
       refine AWp.seqG fun _ k480 => ?_
       obtain ⟨y486u66, hx487, hg⟩ := bnd_some hg
       unfold r18put_r57 at hx487
       refine AWp.seqJ (fun s' => Sub s' ⟨[se 0 z2u0, se 1 m, se 6 z2u6, (7, .ptr 0 0), se 10 z53u10, se 66 y486u66], [.w 51 x345]⟩) (fun _ k488 => ?_) ?_
       ·rcases ifb_o hx487 with ⟨c489, hx487⟩ | ⟨c489, hx487⟩
        ·have c489g := c489; try simp at c489g
         obtain ⟨g481, hx487⟩ := grd_some hx487
         unfold inI at g481
         obtain ⟨x482, h483, hx487⟩ := bnd_some hx487
         obtain ⟨h483a, h483b, h483f⟩ := at_e h483; have h483g := h483f; try simp at h483g
         obtain ⟨x484, h485, hx487⟩ := bnd_some hx487
         refine AWp.regDFF hV mixed (some []) 9 [] [0, 1, 6, 7, 10, 66] (by decide) fun K k490 => ?_
         simp [sp77, c489, c489g, h483f, h483g, h485]; repeat refine ai ?_
         cases hx487; exact k490 _ (k488 _ (Sub.rm [0]))
        ·have c489g := c489; try simp at c489g
         refine AWp.regDFF hV mixed (some [59, 60, 61, 62, 63, 64, 65]) 9 [] [0, 1, 6, 7, 10, 66] (by decide) fun K k491 => ?_
         simp [sp77, c489, c489g]; repeat refine ai ?_
         cases hx487; exact k491 _ (k488 _ (Sub.rm [0]))
       ·intro s' hs
        refine AWp.sub hs ?_
        clear hs s'
        refine AWp.cnd hg rfl ?_ ?_ <;> (clear hg; intro h492 hg)
        ·refine AWp.skip ?_
         refine k480 _ ?_
         refine AWp.block ?_
         obtain ⟨g493, hg⟩ := grd_some hg
         unfold inI at g493
         refine AWp.regF hV none [0, 1, 6, 7, 10] fun K k494 => ?_
         simp; repeat refine ai ?_
         refine kc [se 0 z2u0, se 1 m, se 6 z2u6, (7, .ptr 0 0), se 10 ((z53u10 - 1) : Int)] [.w 51 x345] (k494 _ ?_)
         exact k443 _ _ (oij hg).symm (Sub.rm [0])
        ·refine AWp.exit ?_
         cases hx478 _ (oij hg).symm; have hg := hq476; try dsimp only at hg
         exact k442 _ ⟨_, hg, Sub.rm [0]⟩
      ·rintro s' ⟨y441u10, hg, hs⟩
       unfold r18put_j52 at hg
       refine AWp.sub hs ?_
       refine AWp.rS hV none [0, 1, 6, 7, 10, 11] fun K k497 => ?_
       simp; repeat refine ai ?_
       refine kc [se 0 z2u0, se 1 m, se 6 z2u6, (7, .ptr 0 0), se 10 y441u10, (11, .nils 10)] [.w 51 x345] (k497 _ ?_)
       obtain ⟨g498, hg⟩ := grd_some hg
       obtain ⟨g499, hg⟩ := grd_some hg
       refine AWp.rS hV none [0, 1, 6, 7, 10, 11] fun K k500 => ?_
       simp; repeat refine ai ?_
       refine kc [se 0 z2u0, se 1 m, se 6 z2u6, (7, .ptr 0 0), se 10 y441u10, (11, .row 1)] [.w 51 x345, .ro 51 10 ((z2u0.take y441u10.toNat) : List Written)] (k500 _ ?_)
       obtain ⟨g501, hg⟩ := grd_some hg
       refine AWp.rS hV none [0, 1, 6, 10, 11] fun K k502 => ?_
       simp; repeat refine ai ?_
       refine kc [se 0 z2u0, se 1 m, se 6 z2u6, se 10 y441u10, (11, .row 2)] [.w 51 x345, .dead, .ro 51 10 (((z2u0.take y441u10.toNat) ++ [x345]) : List Written)] (k502 _ ?_)
       obtain ⟨g503, hg⟩ := grd_some hg
       obtain ⟨g504, hg⟩ := grd_some hg
       refine AWp.regF hV none [0, 1, 6] fun K k505 => ?_
       simp; repeat refine ai ?_
       refine kc [(0, .row 3), se 1 m, se 6 z2u6] [.w 51 x345, .dead, .dead, .ro 51 10 ((((z2u0.take y441u10.toNat) ++ [x345]) ++ (z2u0.drop y441u10.toNat)) : List Written)] (k505 _ ?_)
       exact k344 _ ⟨_, hg, Sub.trans (Sub.toDa 0) (Sub.rm [])⟩
   ·rintro s' ⟨y343u0, hg, hs⟩
    unfold r18put_j40 at hg
    refine AWp.sub hs ?_
    obtain ⟨g506, hg⟩ := grd_some hg
    unfold inI at g506
    refine AWp.regF hV none [0, 1, 6] fun K k507 => ?_
    simp; repeat refine ai ?_
    refine kc [se 0 y343u0, se 1 m, se 6 ((z2u6 + 1) : Int)] [] (k507 _ ?_)
    exact k5 _ _ (oij hg).symm (Sub.rm [])
  ·refine AWp.exit ?_
   cases hx338 _ (oij hg).symm; have hg := hq336; try dsimp only at hg
   exact k3 _ ⟨_, hg, Sub.rm []⟩
 ·rintro s' ⟨y2u0, hg, hs⟩
  unfold r18put_j1 at hg
  refine AWp.sub hs ?_
  refine AWp.rS hV none [4, 5] fun K k511 => ?_
  simp; repeat refine ai ?_
  refine kc [se 4 y2u0, se 5 true] [] (k511 _ ?_)
  refine AWp.ret ?_
  cases hg; exact hQ _ _ (.inl rfl) rt
noncomputable def sp21 : Eva.Spec := specO1 fun (l : (List View)) => (r18Join l).map fun r => .tup [enc r.1, enc r.2]
theorem ok21 : SpecOk Tryz.prog 21 sp21 := by
 have hV : VOk Tryz.prog (env [(29, sp29), (49, sp49), (50, sp50)]) := env_ok ⟨ok29, ok49, ok50, trivial⟩
 refine SpecOk.ofO1 (Enters.of Tryz.func21 (by decide)) fun l rr hr => ?_
 obtain ⟨r, hg, rfl⟩ := mpj hr; clear hr
 refine PureCon.ofN hV Tryz.func21 rfl Tryz.ntmps21 fun R hR w0 I0 Q hQ => ?_
 unfold r18Join at hg
 refine AWp.rS hV none [0, 2] fun K k1 => ?_
 simp; repeat refine ai ?_
 refine kc [se 0 l, (2, .ptr 0 0)] [.var 24 [.d (enc (0 : Int)), .nils 5]] (k1 _ ?_)
 refine AWp.seqG fun _ k2 => ?_
 obtain ⟨y3u21, hx4, hg⟩ := bnd_some hg
 unfold r18Join_r1 at hx4
 refine AWp.seqJ (fun s' => Sub s' ⟨[se 0 l, (2, .ptr 0 0), se 21 y3u21], [.var 24 [.d (enc (0 : Int)), .nils 5]]⟩) (fun _ k5 => ?_) ?_
 ·rcases ifb_o hx4 with ⟨c6, hx4⟩ | ⟨c6, hx4⟩
  ·have c6g := c6; try simp at c6g
   refine AWp.regF hV (some [18, 19, 20]) [0, 2, 21] fun K k7 => ?_
   simp [c6, c6g]; repeat refine ai ?_
   cases hx4; exact k7 _ (k5 _ (Sub.rm [0]))
  ·have c6g := c6; try simp at c6g
   refine AWp.regF hV (some []) [0, 2, 21] fun K k8 => ?_
   simp [c6, c6g]; repeat refine ai ?_
   cases hx4; exact k8 _ (k5 _ (Sub.rm [0]))
 ·intro s' hs
  refine AWp.sub hs ?_
  clear hs s'
  refine AWp.cnd hg rfl ?_ ?_ <;> (clear hg; intro h9 hg)
  ·refine AWp.rS hV none [2, 3] fun K k10 => ?_
   simp; repeat refine ai ?_
   refine kc [(2, .ptr 0 0), se 3 (1 : Int)] [.var 24 [.d (enc (0 : Int)), .nils 5]] (k10 _ ?_)
   refine AWp.ret ?_
   cases hg; exact hQ _ _ (.inl rfl) rt
  ·refine AWp.skip ?_
   refine k2 _ ?_
   refine AWp.seqJ (fun s' => r18Join_j2 l = some r ∧ Sub s' ⟨[se 0 l, (2, .ptr 0 0)], [.var 24 [.d (enc (0 : Int)), .nils 5]]⟩) (fun _ k12 => ?_) ?_
   ·refine AWp.rS hV none [0, 2, 4] fun K k13 => ?_
    simp; repeat refine ai ?_
    refine kc [se 0 l, (2, .ptr 0 0), se 4 (0 : Int)] [.var 24 [.d (enc (0 : Int)), .nils 5]] (k13 _ ?_)
    refine AWp.block ?_
    obtain ⟨o43, hl44, hq45⟩ := bnd_some hg; clear hg
    refine AWp.loopO (fun (z3u4 : Int) => ⟨[se 0 l, (2, .ptr 0 0), se 4 z3u4], [.var 24 [.d (enc (0 : Int)), .nils 5]]⟩) (r18Join_s6 l) 0 hl44 ?_ fun z3u4 w48 _ hg hx47 k14 => ?_
    ·exact Sub.rm [0]
    unfold r18Join_s6 at hg; try dsimp only at hg
    show AWp _ _ _ _ _ ⟨[se 0 l, (2, .ptr 0 0), se 4 z3u4], [.var 24 [.d (enc (0 : Int)), .nils 5]]⟩ _
    refine AWp.seqG fun _ k49 => ?_
    refine AWp.rS hV none [0, 2, 4, 26] fun K k50 => ?_
    simp; repeat refine ai ?_
    refine kc [se 0 l, (2, .ptr 0 0), se 4 z3u4, se 26 (decide (z3u4 < (l.length : Int)))] [.var 24 [.d (enc (0 : Int)), .nils 5]] (k50 _ ?_)
    refine AWp.cnd hg rfl ?_ ?_ <;> (clear hg; intro h51 hg)
    ·refine AWp.skip ?_
     refine k49 _ ?_
     refine AWp.seqJ (fun s' => r18Join_j7 z3u4 = some w48 ∧ Sub s' ⟨[se 0 l, (2, .ptr 0 0), se 4 z3u4], [.var 24 [.d (enc (0 : Int)), .nils 5]]⟩) (fun _ k53 => ?_) ?_
     ·refine AWp.block ?_
      obtain ⟨x54, h55, hg⟩ := bnd_some hg
      obtain ⟨h55a, h55b, h55f⟩ := at_e h55; have h55g := h55f; try simp at h55g
      obtain ⟨x56, h57, hg⟩ := bnd_some hg
      refine AWp.rS hV none [0, 2, 4, 34] fun K k58 => ?_
      simp [sp29, h55f, h55g, h57]; repeat refine ai ?_
      refine kd [se 0 l, (2, .ptr 0 0), se 4 z3u4, se 34 (!x56)] [.var 24 [.d (enc (0 : Int)), .nils 5]] (by first | rfl | (simp [sp29, h55f, h55g, h57] <;> grind)) (k58 _ ?_)
      refine AWp.cnd hg rfl ?_ ?_ <;> (clear hg; intro h59 hg)
      ·refine AWp.rS hV none [2, 3] fun K k60 => ?_
       simp; repeat refine ai ?_
       refine kc [(2, .ptr 0 0), se 3 (1 : Int)] [.var 24 [.d (enc (0 : Int)), .nils 5]] (k60 _ ?_)
       refine AWp.ret ?_
       cases hx47 _ (oij hg).symm; have hg := hq45; try dsimp only at hg
       cases hg; exact hQ _ _ (.inl rfl) rt
      ·refine AWp.skip ?_
       exact k53 _ ⟨hg, Sub.rm [0]⟩
     ·rintro s' ⟨hg, hs⟩
      unfold r18Join_j7 at hg
      refine AWp.sub hs ?_
      obtain ⟨g62, hg⟩ := grd_some hg
      unfold inI at g62
      refine AWp.regF hV none [0, 2, 4] fun K k63 => ?_
      simp; repeat refine ai ?_
      refine kc [se 0 l, (2, .ptr 0 0), se 4 ((z3u4 + 1) : Int)] [.var 24 [.d (enc (0 : Int)), .nils 5]] (k63 _ ?_)
      exact k14 _ _ (oij hg).symm (Sub.rm [0])
    ·refine AWp.exit ?_
     cases hx47 _ (oij hg).symm; have hg := hq45; try dsimp only at hg
     exact k12 _ ⟨hg, Sub.rm [0]⟩
   ·rintro s' ⟨hg, hs⟩
    unfold r18Join_j2 at hg
    refine AWp.sub hs ?_
    refine AWp.seqJ (fun s' => r18Join_j8 l = some r ∧ Sub s' ⟨[se 0 l, (2, .ptr 0 0)], [.var 24 [.d (enc (0 : Int)), .nils 5]]⟩) (fun _ k68 => ?_) ?_
    ·refine AWp.rS hV none [0, 2, 5] fun K k69 => ?_
     simp; repeat refine ai ?_
     refine kc [se 0 l, (2, .ptr 0 0), se 5 (0 : Int)] [.var 24 [.d (enc (0 : Int)), .nils 5]] (k69 _ ?_)
     refine AWp.block ?_
     obtain ⟨o101, hl102, hq103⟩ := bnd_some hg; clear hg
     refine AWp.loopO (fun (z9u5 : Int) => ⟨[se 0 l, (2, .ptr 0 0), se 5 z9u5], [.var 24 [.d (enc (0 : Int)), .nils 5]]⟩) (r18Join_s12 l) 0 hl102 ?_ fun z9u5 w106 _ hg hx105 k70 => ?_
     ·exact Sub.rm [0]
     unfold r18Join_s12 at hg; try dsimp only at hg
     show AWp _ _ _ _ _ ⟨[se 0 l, (2, .ptr 0 0), se 5 z9u5], [.var 24 [.d (enc (0 : Int)), .nils 5]]⟩ _
     refine AWp.seqG fun _ k107 => ?_
     refine AWp.rS hV none [0, 2, 5, 39] fun K k108 => ?_
     simp; repeat refine ai ?_
     refine kc [se 0 l, (2, .ptr 0 0), se 5 z9u5, se 39 (decide (z9u5 < (l.length : Int)))] [.var 24 [.d (enc (0 : Int)), .nils 5]] (k108 _ ?_)
     refine AWp.cnd hg rfl ?_ ?_ <;> (clear hg; intro h109 hg)
     ·refine AWp.skip ?_
      refine k107 _ ?_
      refine AWp.seqJ (fun s' => r18Join_j13 z9u5 = some w106 ∧ Sub s' ⟨[se 0 l, (2, .ptr 0 0), se 5 z9u5], [.var 24 [.d (enc (0 : Int)), .nils 5]]⟩) (fun _ k111 => ?_) ?_
      ·refine AWp.block ?_
       obtain ⟨x112, h113, hg⟩ := bnd_some hg
       obtain ⟨h113a, h113b, h113f⟩ := at_e h113; have h113g := h113f; try simp at h113g
       obtain ⟨x114, h115, hg⟩ := bnd_some hg
       obtain ⟨h115a, h115b, h115f⟩ := at_e h115; have h115g := h115f; try simp at h115g
       obtain ⟨x116, h117, hg⟩ := bnd_some hg
       refine AWp.rDF hV mixed none 7 [] [0, 2, 5, 50] (by decide) fun K k118 => ?_
       simp [sp49, h113f, h113g, h115f, h115g, h117]; repeat refine ai ?_
       refine kd [se 0 l, (2, .ptr 0 0), se 5 z9u5, se 50 (!x116)] [.var 24 [.d (enc (0 : Int)), .nils 5]] (by first | rfl | (simp [sp49, h113f, h113g, h115f, h115g, h117] <;> grind)) (k118 _ ?_)
       refine AWp.cnd hg rfl ?_ ?_ <;> (clear hg; intro h119 hg)
       ·refine AWp.rS hV none [2, 3] fun K k120 => ?_
        simp; repeat refine ai ?_
        refine kc [(2, .ptr 0 0), se 3 (6 : Int)] [.var 24 [.d (enc (0 : Int)), .nils 5]] (k120 _ ?_)
        refine AWp.ret ?_
        cases hx105 _ (oij hg).symm; have hg := hq103; try dsimp only at hg
        cases hg; exact hQ _ _ (.inl rfl) rt
       ·refine AWp.skip ?_
        exact k111 _ ⟨hg, Sub.rm [0]⟩
      ·rintro s' ⟨hg, hs⟩
       unfold r18Join_j13 at hg
       refine AWp.sub hs ?_
       obtain ⟨g122, hg⟩ := grd_some hg
       unfold inI at g122
       refine AWp.regF hV none [0, 2, 5] fun K k123 => ?_
       simp; repeat refine ai ?_
       refine kc [se 0 l, (2, .ptr 0 0), se 5 ((z9u5 + 1) : Int)] [.var 24 [.d (enc (0 : Int)), .nils 5]] (k123 _ ?_)
       exact k70 _ _ (oij hg).symm (Sub.rm [0])
     ·refine AWp.exit ?_
      cases hx105 _ (oij hg).symm; have hg := hq103; try dsimp only at hg
      exact k68 _ ⟨hg, Sub.rm [0]⟩
    ·rintro s' ⟨hg, hs⟩
     unfold r18Join_j8 at hg
     refine AWp.sub hs ?_
     obtain ⟨x127, h128, hg⟩ := bnd_some hg
     obtain ⟨h128a, h128b, h128f⟩ := at_e h128; have h128g := h128f; try simp at h128g
     refine AWp.rS hV none [0, 2, 6] fun K k129 => ?_
     simp [h128f, h128g]; repeat refine ai ?_
     refine kd [se 0 l, (2, .ptr 0 0), (6, .ptr 1 0)] [.var 24 [.d (enc (0 : Int)), .nils 5], .var 24 [.d (enc (x127.part : Int)), .nils 5]] (by first | rfl | (simp [h128f, h128g] <;> grind)) (k129 _ ?_)
     refine AWp.rS hV none [0, 2, 6, 7] fun K k130 => ?_
     simp; repeat refine ai ?_
     refine kc [se 0 l, (2, .ptr 0 0), (6, .ptr 1 0), se 7 (0 : Int)] [.var 24 [.d (enc (0 : Int)), .nils 5], .var 24 [.d (enc (x127.part : Int)), .nils 5]] (k130 _ ?_)
     refine AWp.seqJ (fun s' => ∃ y131u6c_1 : (List Measure), ∃ y131u7 : Int, r18Join_j14 x127 y131u6c_1 y131u7 = some r ∧ Sub s' ⟨[(2, .ptr 0 0), (6, .ptr 1 0), se 7 y131u7], [.var 24 [.d (enc (0 : Int)), .nils 5], .var 24 [.d (enc (x127.part : Int)), .row 2], .ro 47 5 y131u6c_1]⟩) (fun _ k132 => ?_) ?_
     ·refine AWp.rS hV none [0, 2, 6, 7, 8] fun K k133 => ?_
      simp; repeat refine ai ?_
      refine kc [se 0 l, (2, .ptr 0 0), (6, .ptr 1 0), se 7 (0 : Int), se 8 (0 : Int)] [.var 24 [.d (enc (0 : Int)), .nils 5], .var 24 [.d (enc (x127.part : Int)), .nils 5]] (k133 _ ?_)
      refine AWp.block ?_
      obtain ⟨o319, hl320, hq321⟩ := bnd_some hg; clear hg
      refine AWp.loopO (fun ((z15u6c_1, z15u7, z15u8) : (List Measure) × Int × Int) => ⟨[se 0 l, (2, .ptr 0 0), (6, .ptr 1 0), se 7 z15u7, se 8 z15u8], [.var 24 [.d (enc (0 : Int)), .nils 5], .var 24 [.d (enc (x127.part : Int)), .row 2], .ro 47 5 z15u6c_1]⟩) (r18Join_s30 l) ([], 0, 0) hl320 ?_ fun z322 w324 _ hg hx323 k134 => ?_
      ·exact Sub.trans (Sub.adoptV 1 1 47 5 rfl rfl) (Sub.rm [0, 1, 2])
      obtain ⟨z15u6c_1, z15u7, z15u8⟩ := z322
      unfold r18Join_s30 at hg; try dsimp only at hg
      show AWp _ _ _ _ _ ⟨[se 0 l, (2, .ptr 0 0), (6, .ptr 1 0), se 7 z15u7, se 8 z15u8], [.var 24 [.d (enc (0 : Int)), .nils 5], .var 24 [.d (enc (x127.part : Int)), .row 2], .ro 47 5 z15u6c_1]⟩ _
      refine AWp.seqG fun _ k325 => ?_
      obtain ⟨x326, h327, hg⟩ := bnd_some hg
      obtain ⟨h327a, h327b, h327f⟩ := at_e h327; have h327g := h327f; try simp at h327g
      refine AWp.rS hV none [0, 2, 6, 7, 8, 63] fun K k328 => ?_
      simp [h327f, h327g]; repeat refine ai ?_
      refine kd [se 0 l, (2, .ptr 0 0), (6, .ptr 1 0), se 7 z15u7, se 8 z15u8, se 63 (decide (z15u8 < (x326.measures.length : Int)))] [.var 24 [.d (enc (0 : Int)), .nils 5], .var 24 [.d (enc (x127.part : Int)), .row 2], .ro 47 5 z15u6c_1] (by first | rfl | (simp [h327f, h327g] <;> grind)) (k328 _ ?_)
      refine AWp.cnd hg rfl ?_ ?_ <;> (clear hg; intro h329 hg)
      ·refine AWp.skip ?_
       refine k325 _ ?_
       refine AWp.seqJ (fun s' => ∃ y330u6c_1 : (List Measure), ∃ y330u7 : Int, r18Join_j31 z15u8 y330u6c_1 y330u7 = some w324 ∧ Sub s' ⟨[se 0 l, (2, .ptr 0 0), (6, .ptr 1 0), se 7 y330u7, se 8 z15u8], [.var 24 [.d (enc (0 : Int)), .nils 5], .var 24 [.d (enc (x127.part : Int)), .row 2], .ro 47 5 y330u6c_1]⟩) (fun _ k331 => ?_) ?_
       ·refine AWp.block ?_
        obtain ⟨x332, h333, hg⟩ := bnd_some hg
        obtain ⟨h333a, h333b, h333f⟩ := at_e h333; have h333g := h333f; try simp at h333g
        obtain ⟨x334, h335, hg⟩ := bnd_some hg
        obtain ⟨h335a, h335b, h335f⟩ := at_e h335; have h335g := h335f; try simp at h335g
        refine AWp.rS hV none [0, 2, 6, 7, 8, 9] fun K k336 => ?_
        simp [h333f, h333g, h335f, h335g]; repeat refine ai ?_
        refine kd [se 0 l, (2, .ptr 0 0), (6, .ptr 1 0), se 7 z15u7, se 8 z15u8, (9, .ptr 3 0)] [.var 24 [.d (enc (0 : Int)), .nils 5], .var 24 [.d (enc (x127.part : Int)), .row 2], .ro 47 5 z15u6c_1, .w 47 x334] (by first | rfl | (simp [h333f, h333g, h335f, h335g] <;> grind)) (k336 _ ?_)
        refine AWp.rS hV none [0, 2, 6, 7, 8, 9, 10] fun K k337 => ?_
        simp; repeat refine ai ?_
        refine kc [se 0 l, (2, .ptr 0 0), (6, .ptr 1 0), se 7 z15u7, se 8 z15u8, (9, .ptr 3 0), (10, .nils 10)] [.var 24 [.d (enc (0 : Int)), .nils 5], .var 24 [.d (enc (x127.part : Int)), .row 2], .ro 47 5 z15u6c_1, .w 47 x334] (k337 _ ?_)
        refine AWp.seqJ (fun s' => ∃ y338u10 : (List Written), r18Join_j32 z15u6c_1 z15u7 z15u8 x334 y338u10 = some w324 ∧ Sub s' ⟨[se 0 l, (2, .ptr 0 0), (6, .ptr 1 0), se 7 z15u7, se 8 z15u8, (9, .ptr 3 0), se 10 y338u10], [.var 24 [.d (enc (0 : Int)), .nils 5], .var 24 [.d (enc (x127.part : Int)), .row 2], .ro 47 5 z15u6c_1, .w 47 x334]⟩) (fun _ k339 => ?_) ?_
        ·refine AWp.rS hV none [0, 2, 6, 7, 8, 9, 10, 11] fun K k340 => ?_
         simp; repeat refine ai ?_
         refine kc [se 0 l, (2, .ptr 0 0), (6, .ptr 1 0), se 7 z15u7, se 8 z15u8, (9, .ptr 3 0), (10, .nils 10), se 11 (0 : Int)] [.var 24 [.d (enc (0 : Int)), .nils 5], .var 24 [.d (enc (x127.part : Int)), .row 2], .ro 47 5 z15u6c_1, .w 47 x334] (k340 _ ?_)
         refine AWp.block ?_
         obtain ⟨o382, hl383, hq384⟩ := bnd_some hg; clear hg
         refine AWp.loopO (fun ((z33u10, z33u11) : (List Written) × Int) => ⟨[se 0 l, (2, .ptr 0 0), (6, .ptr 1 0), se 7 z15u7, se 8 z15u8, (9, .ptr 3 0), se 10 z33u10, se 11 z33u11], [.var 24 [.d (enc (0 : Int)), .nils 5], .var 24 [.d (enc (x127.part : Int)), .row 2], .ro 47 5 z15u6c_1, .w 47 x334]⟩) (r18Join_s36 l z15u8) ([], 0) hl383 ?_ fun z385 w387 _ hg hx386 k341 => ?_
         ·exact Sub.trans (Sub.toDa 10) (Sub.rm [0, 1, 2, 3])
         obtain ⟨z33u10, z33u11⟩ := z385
         unfold r18Join_s36 at hg; try dsimp only at hg
         show AWp _ _ _ _ _ ⟨[se 0 l, (2, .ptr 0 0), (6, .ptr 1 0), se 7 z15u7, se 8 z15u8, (9, .ptr 3 0), se 10 z33u10, se 11 z33u11], [.var 24 [.d (enc (0 : Int)), .nils 5], .var 24 [.d (enc (x127.part : Int)), .row 2], .ro 47 5 z15u6c_1, .w 47 x334]⟩ _
         refine AWp.seqG fun _ k388 => ?_
         refine AWp.rS hV none [0, 2, 6, 7, 8, 9, 10, 11, 76] fun K k389 => ?_
         simp; repeat refine ai ?_
         refine kc [se 0 l, (2, .ptr 0 0), (6, .ptr 1 0), se 7 z15u7, se 8 z15u8, (9, .ptr 3 0), se 10 z33u10, se 11 z33u11, se 76 (decide (z33u11 < (l.length : Int)))] [.var 24 [.d (enc (0 : Int)), .nils 5], .var 24 [.d (enc (x127.part : Int)), .row 2], .ro 47 5 z15u6c_1, .w 47 x334] (k389 _ ?_)
         refine AWp.cnd hg rfl ?_ ?_ <;> (clear hg; intro h390 hg)
         ·refine AWp.skip ?_
          refine k388 _ ?_
          refine AWp.seqJ (fun s' => ∃ y391u10 : (List Written), r18Join_j37 z33u11 y391u10 = some w387 ∧ Sub s' ⟨[se 0 l, (2, .ptr 0 0), (6, .ptr 1 0), se 7 z15u7, se 8 z15u8, (9, .ptr 3 0), se 10 y391u10, se 11 z33u11], [.var 24 [.d (enc (0 : Int)), .nils 5], .var 24 [.d (enc (x127.part : Int)), .row 2], .ro 47 5 z15u6c_1, .w 47 x334]⟩) (fun _ k392 => ?_) ?_
          ·refine AWp.block ?_
           obtain ⟨x393, h394, hg⟩ := bnd_some hg
           obtain ⟨h394a, h394b, h394f⟩ := at_e h394; have h394g := h394f; try simp at h394g
           obtain ⟨x395, h396, hg⟩ := bnd_some hg
           obtain ⟨h396a, h396b, h396f⟩ := at_e h396; have h396g := h396f; try simp at h396g
           obtain ⟨⟨x397, x398⟩, h399, hg⟩ := bnd_some hg; try dsimp only at hg
           refine AWp.rS hV none [0, 2, 6, 7, 8, 9, 11, 12, 13] fun K k400 => ?_
           simp [sp50, h394f, h394g, h396f, h396g, h399]; repeat refine ai ?_
           refine kd [se 0 l, (2, .ptr 0 0), (6, .ptr 1 0), se 7 z15u7, se 8 z15u8, (9, .ptr 3 0), se 11 z33u11, se 12 x397, se 13 x398] [.var 24 [.d (enc (0 : Int)), .nils 5], .var 24 [.d (enc (x127.part : Int)), .row 2], .ro 47 5 z15u6c_1, .w 47 x334] (by first | rfl | (simp [sp50, h394f, h394g, h396f, h396g, h399] <;> grind)) (k400 _ ?_)
           refine AWp.seqG fun _ k401 => ?_
           refine AWp.rS hV none [0, 2, 6, 7, 8, 9, 11, 12, 94] fun K k402 => ?_
           simp; repeat refine ai ?_
           refine kc [se 0 l, (2, .ptr 0 0), (6, .ptr 1 0), se 7 z15u7, se 8 z15u8, (9, .ptr 3 0), se 11 z33u11, se 12 x397, se 94 (!x398)] [.var 24 [.d (enc (0 : Int)), .nils 5], .var 24 [.d (enc (x127.part : Int)), .row 2], .ro 47 5 z15u6c_1, .w 47 x334] (k402 _ ?_)
           refine AWp.cnd hg rfl ?_ ?_ <;> (clear hg; intro h403 hg)
           ·refine AWp.rS hV none [2, 3] fun K k404 => ?_
            simp; repeat refine ai ?_
            refine kc [(2, .ptr 0 0), se 3 (5 : Int)] [.var 24 [.d (enc (0 : Int)), .nils 5], .var 24 [.d (enc (x127.part : Int)), .row 2], .ro 47 5 z15u6c_1, .w 47 x334] (k404 _ ?_)
            refine AWp.ret ?_
            cases hx386 _ (oij hg).symm; have hg := hq384; try dsimp only at hg
            cases hx323 _ (oij hg).symm; have hg := hq321; try dsimp only at hg
            cases hg; exact hQ _ _ (.inl rfl) rt
           ·refine AWp.skip ?_
            refine k401 _ ?_
            refine AWp.regF hV none [0, 2, 6, 7, 8, 9, 10, 11] fun K k407 => ?_
            simp; repeat refine ai ?_
            refine kc [se 0 l, (2, .ptr 0 0), (6, .ptr 1 0), se 7 z15u7, se 8 z15u8, (9, .ptr 3 0), se 10 x397, se 11 z33u11] [.var 24 [.d (enc (0 : Int)), .nils 5], .var 24 [.d (enc (x127.part : Int)), .row 2], .ro 47 5 z15u6c_1, .w 47 x334] (k407 _ ?_)
            exact k392 _ ⟨_, hg, Sub.rm [0, 1, 2, 3]⟩
          ·rintro s' ⟨y391u10, hg, hs⟩
           unfold r18Join_j37 at hg
           refine AWp.sub hs ?_
           obtain ⟨g408, hg⟩ := grd_some hg
           unfold inI at g408
           refine AWp.regF hV none [0, 2, 6, 7, 8, 9, 10, 11] fun K k409 => ?_
           simp; repeat refine ai ?_
           refine kc [se 0 l, (2, .ptr 0 0), (6, .ptr 1 0), se 7 z15u7, se 8 z15u8, (9, .ptr 3 0), se 10 y391u10, se 11 ((z33u11 + 1) : Int)] [.var 24 [.d (enc (0 : Int)), .nils 5], .var 24 [.d (enc (x127.part : Int)), .row 2], .ro 47 5 z15u6c_1, .w 47 x334] (k409 _ ?_)
           exact k341 _ _ (oij hg).symm (Sub.rm [0, 1, 2, 3])
         ·refine AWp.exit ?_
          cases hx386 _ (oij hg).symm; have hg := hq384; try dsimp only at hg
          exact k339 _ ⟨_, hg, Sub.rm [0, 1, 2, 3]⟩
        ·rintro s' ⟨y338u10, hg, hs⟩
         unfold r18Join_j32 at hg
         refine AWp.sub hs ?_
         refine AWp.rS hV none [0, 2, 6, 7, 8, 9, 10] fun K k413 => ?_
         simp; repeat refine ai ?_
         refine kc [se 0 l, (2, .ptr 0 0), (6, .ptr 1 0), se 7 z15u7, se 8 z15u8, (9, .ptr 3 0), se 10 y338u10] [.var 24 [.d (enc (0 : Int)), .nils 5], .var 24 [.d (enc (x127.part : Int)), .row 2], .ro 47 5 z15u6c_1, .w 47 (({ x334 with notes := y338u10 }) : Measure)] (k413 _ ?_)
         obtain ⟨g414, hg⟩ := grd_some hg
         unfold inI at g414
         refine AWp.rS hV none [0, 2, 6, 7, 8, 9] fun K k415 => ?_
         simp; repeat refine ai ?_
         refine kc [se 0 l, (2, .ptr 0 0), (6, .ptr 1 0), se 7 ((z15u7 + (y338u10.length : Int)) : Int), se 8 z15u8, (9, .ptr 3 0)] [.var 24 [.d (enc (0 : Int)), .nils 5], .var 24 [.d (enc (x127.part : Int)), .row 2], .ro 47 5 z15u6c_1, .w 47 (({ x334 with notes := y338u10 }) : Measure)] (k415 _ ?_)
         obtain ⟨g416, hg⟩ := grd_some hg
         refine AWp.regF hV none [0, 2, 6, 7, 8] fun K k417 => ?_
         simp; repeat refine ai ?_
         refine kc [se 0 l, (2, .ptr 0 0), (6, .ptr 1 0), se 7 ((z15u7 + (y338u10.length : Int)) : Int), se 8 z15u8] [.var 24 [.d (enc (0 : Int)), .nils 5], .var 24 [.d (enc (x127.part : Int)), .row 4], .dead, .w 47 (({ x334 with notes := y338u10 }) : Measure), .ro 47 5 ((z15u6c_1 ++ [({ x334 with notes := y338u10 })]) : List Measure)] (k417 _ ?_)
         exact k331 _ ⟨_, _, hg, Sub.rm [0, 1, 4]⟩
       ·rintro s' ⟨y330u6c_1, y330u7, hg, hs⟩
        unfold r18Join_j31 at hg
        refine AWp.sub hs ?_
        obtain ⟨g418, hg⟩ := grd_some hg
        unfold inI at g418
        refine AWp.regF hV none [0, 2, 6, 7, 8] fun K k419 => ?_
        simp; repeat refine ai ?_
        refine kc [se 0 l, (2, .ptr 0 0), (6, .ptr 1 0), se 7 y330u7, se 8 ((z15u8 + 1) : Int)] [.var 24 [.d (enc (0 : Int)), .nils 5], .var 24 [.d (enc (x127.part : Int)), .row 2], .ro 47 5 y330u6c_1] (k419 _ ?_)
        exact k134 _ _ (oij hg).symm (Sub.rm [0, 1, 2])
      ·refine AWp.exit ?_
       cases hx323 _ (oij hg).symm; have hg := hq321; try dsimp only at hg
       exact k132 _ ⟨_, _, hg, Sub.rm [0, 1, 2]⟩
     ·rintro s' ⟨y131u6c_1, y131u7, hg, hs⟩
      unfold r18Join_j14 at hg
      refine AWp.sub hs ?_
      refine AWp.seqG fun _ k423 => ?_
      refine AWp.rS hV none [2, 6, 110] fun K k424 => ?_
      simp; repeat refine ai ?_
      refine kc [(2, .ptr 0 0), (6, .ptr 1 0), se 110 (decide (20000 < y131u7))] [.var 24 [.d (enc (0 : Int)), .nils 5], .var 24 [.d (enc (x127.part : Int)), .row 2], .ro 47 5 y131u6c_1] (k424 _ ?_)
      refine AWp.cnd hg rfl ?_ ?_ <;> (clear hg; intro h425 hg)
      ·refine AWp.rS hV none [2, 3] fun K k426 => ?_
       simp; repeat refine ai ?_
       refine kc [(2, .ptr 0 0), se 3 (2 : Int)] [.var 24 [.d (enc (0 : Int)), .nils 5], .var 24 [.d (enc (x127.part : Int)), .row 2], .ro 47 5 y131u6c_1] (k426 _ ?_)
       refine AWp.ret ?_
       cases hg; exact hQ _ _ (.inl rfl) rt
      ·refine AWp.skip ?_
       refine k423 _ ?_
       refine AWp.rS hV none [2, 3] fun K k427 => ?_
       simp; repeat refine ai ?_
       refine kc [(2, .ptr 0 0), se 3 (0 : Int)] [.var 24 [.d (enc (x127.part : Int)), .row 2], .var 24 [.d (enc (x127.part : Int)), .row 2], .ro 47 5 y131u6c_1] (k427 _ ?_)
       refine AWp.ret ?_
       cases hg; exact hQ _ _ (.inl rfl) rt
end
noncomputable def ratValid_r1 (q : Rat) : Option Bool :=
  (ifb (decide (q.d < 1)) (some true) (ifb (decide (1000000 < q.d)) (some true) (ifb (decide (q.n < (-1000000000))) (some true) (some (decide (1000000000 < q.n))))))
noncomputable def ratValid (q : Rat) : Option Bool :=
  bnd (ratValid_r1 q) fun y3u20 =>
  ifb y3u20 (some false)
  (bnd (pReduced (⟨q.n, q.d⟩ : Fraction)) fun x15 =>
  some (decide (x15 = (⟨q.n, q.d⟩ : Fraction))))
noncomputable def isStart_r1 (q : Rat) : Option Bool :=
  (bnd (ratValid q) fun x2 =>
  ifb x2 (ifb (decide (0 ≤ q.n)) (grd (q.d ≠ 0) (some (decide ((Int.tmod 1680 q.d) = 0)))) (some false)) (some false))
noncomputable def isStart (q : Rat) : Option Bool :=
  bnd (isStart_r1 q) fun y5u2 =>
  some y5u2
noncomputable def isNote_r1 (w : Written) : Option Bool :=
  (ifb (decide (0 ≤ w.voice)) (ifb (decide (w.voice ≤ 9)) (ifb (decide (0 ≤ w.ossia)) (ifb (decide (w.ossia ≤ 20)) (bnd (isStart w.start) fun x2 =>
  ifb x2 (bnd (pValid w.pitch) fun x4 =>
  some x4) (some false)) (some false)) (some false)) (some false)) (some false))
noncomputable def isNote (w : Written) : Option Bool :=
  bnd (isNote_r1 w) fun y6u2 =>
  some y6u2
noncomputable def noNote (w : Written) : Option Bool :=
  bnd (isNote w) fun x2 =>
  some (!x2)
noncomputable def ratCompare_r1 (a : Rat) (b : Rat) : Option Bool :=
  (bnd (ratValid a) fun x3 =>
  ifb (!x3) (some true) (bnd (ratValid b) fun x5 =>
  some (!x5)))
noncomputable def ratCompare_j2 : Option (Int × Int) :=
  some (0, 0)
noncomputable def ratCompare (a : Rat) (b : Rat) : Option (Int × Int) :=
  bnd (ratCompare_r1 a b) fun y7u15 =>
  ifb y7u15 (some (0, 1))
  (grd (inI (a.n * b.d)) (grd (inI (b.n * a.d)) (ifb (decide ((a.n * b.d) < (b.n * a.d))) (some ((-1), 0))
  (ifb (decide ((b.n * a.d) < (a.n * b.d))) (some (1, 0))
  (ratCompare_j2)))))
noncomputable def wCompare (a : Written) (b : Written) : Option Int :=
  bnd (ratCompare a.start b.start) fun (x2, x3) =>
  bnd (pNumber a.pitch) fun (x6, x7) =>
  bnd (pNumber b.pitch) fun (x10, x11) =>
  grd (inI (a.voice - b.voice)) (grd (inI (x6 - x10)) (bnd (cCompare a.id b.id) fun x16 =>
  bnd (cOr ([x2, (a.voice - b.voice), (x6 - x10), x16])) fun x18 =>
  some x18))
noncomputable def fit1_r1 (x : Measure) (y : Measure) : Option Bool :=
  (ifb (decide (x.bar = y.bar)) (ifb (decide (x.key = y.key)) (some (decide (x.length = y.length))) (some false)) (some false))
noncomputable def fit1 (x : Measure) (y : Measure) : Option Bool :=
  bnd (fit1_r1 x y) fun y2u4 =>
  some y2u4
end Go.Proofs.YtjfkfkjkbgiciaaGreatDoor
namespace Go.Proofs.YtjfkfkjkbgiciaaGreatDoor
open Go Go.Eva Enc
@[reducible] def onnPZCmp : Onn := ⟨False⟩
attribute [local instance] rndX onnPZCmp
theorem ifb_t' {β : Type} {c : Bool} {a b : Option β} (h : c = true) : ifb c a b = a := by subst h; rfl
theorem ifb_f' {β : Type} {c : Bool} {a b : Option β} (h : c = false) : ifb c a b = b := by subst h; rfl
theorem bnd_ite {α β : Type} {p : Prop} [Decidable p] (a b : Option α) (f : α → Option β) : bnd (if p then a else b) f = if p then bnd a f else bnd b f := by split <;> rfl
theorem at_eq {α : Type} {l : List α} {k : Nat} {x : α} (h : l[k]? = some x) : at? l (k : Int) = some x := by unfold at?; rw [if_pos (by omega)]; simpa using h
theorem pgcd_eq : ∀ (k : Nat) (a b : Int), b.natAbs ≤ k → 0 ≤ a → 0 ≤ b → pgcd a b = (Int.gcd a b : Int)
  | k, a, b, hk, ha, hb => by
    by_cases h : b = 0
    · subst h; rw [pgcd_zero]; simp [Int.gcd]; omega
    · rw [pgcd_step h, Int.tmod_eq_emod_of_nonneg ha]
      have h1 : 0 ≤ a % b := Int.emod_nonneg _ h
      have h2 : a % b < b := Int.emod_lt_of_pos _ (by omega)
      match k, hk with
      | 0, hk => omega
      | k + 1, hk =>
        rw [pgcd_eq k b (a % b) (by omega) hb h1]
        congr 1
        unfold Int.gcd
        have e : (a % b).natAbs = a.natAbs % b.natAbs := by
          obtain ⟨x, rfl⟩ := Int.eq_ofNat_of_zero_le ha
          obtain ⟨y, rfl⟩ := Int.eq_ofNat_of_zero_le hb
          rw [← Int.natCast_emod]; rfl
        rw [e, Nat.gcd_comm, ← Nat.gcd_rec, Nat.gcd_comm]
theorem rsize_eq {n : Int} (h : inI (0 - n)) : rsize n = some (n.natAbs : Int) := by
  unfold rsize
  rw [grd_eq h]
  congr 1
  omega
def ratOk (q : Rat) : Prop := 1 ≤ q.d ∧ q.d ≤ 1000000 ∧ -1000000000 ≤ q.n ∧ q.n ≤ 1000000000 ∧ Int.gcd q.n q.d = 1
instance (q : Rat) : Decidable (ratOk q) := inferInstanceAs (Decidable (_ ∧ _ ∧ _ ∧ _ ∧ _))
theorem pReduced_eq {n d : Int} (h1 : 1 ≤ d) (h2 : d ≤ 1000000) (h3 : -1000000000 ≤ n) (h4 : n ≤ 1000000000) : pReduced ⟨n, d⟩ = some ⟨n.tdiv (Int.gcd n d), d.tdiv (Int.gcd n d)⟩ := by
  unfold pReduced
  rw [rsize_eq (by unfold inI; dsimp only; omega), bnd_pure, rsize_eq (by unfold inI; dsimp only; omega), bnd_pure, ifb_f' (by simp; omega), pgcd_eq _ _ _ (Nat.le_refl _) (by omega) (by omega)]
  have hg : ((Int.gcd (n.natAbs : Int) (d.natAbs : Int) : Nat) : Int) = (Int.gcd n d : Int) := by simp [Int.gcd]
  dsimp only
  rw [hg]
  have hpos : 0 < Int.gcd n d := Int.gcd_pos_of_ne_zero_right n (by omega)
  have b1 : ((n.tdiv (Int.gcd n d)).natAbs) ≤ n.natAbs := by rw [Int.natAbs_tdiv]; exact Nat.div_le_self _ _
  have b2 : ((d.tdiv (Int.gcd n d)).natAbs) ≤ d.natAbs := by rw [Int.natAbs_tdiv]; exact Nat.div_le_self _ _
  unfold pRed2
  rw [grd_eq (by omega), grd_eq (by unfold inI; dsimp only; omega), grd_eq (by unfold inI; dsimp only; omega)]
theorem ratValid_eq (q : Rat) : ratValid q = some (decide (ratOk q)) := by
  obtain ⟨n, d⟩ := q
  have no : ¬ (1 ≤ d ∧ d ≤ 1000000 ∧ -1000000000 ≤ n ∧ n ≤ 1000000000) → decide (ratOk ⟨n, d⟩) = false := fun h => decide_eq_false fun h' => h ⟨h'.1, h'.2.1, h'.2.2.1, h'.2.2.2.1⟩
  unfold ratValid ratValid_r1
  dsimp only
  by_cases h1 : d < 1
  · rw [ifb_t' (by simp [h1]), bnd_pure, ifb_t' rfl, no (by omega)]
  by_cases h2 : 1000000 < d
  · rw [ifb_f' (by simp [h1]), ifb_t' (by simp [h2]), bnd_pure, ifb_t' rfl, no (by omega)]
  by_cases h3 : n < -1000000000
  · rw [ifb_f' (by simp [h1]), ifb_f' (by simp [h2]), ifb_t' (by simp [h3]), bnd_pure, ifb_t' rfl, no (by omega)]
  rw [ifb_f' (by simp [h1]), ifb_f' (by simp [h2]), ifb_f' (by simp [h3]), bnd_pure]
  by_cases h : 1000000000 < n
  · rw [ifb_t' (by simp [h]), no (by omega)]
  · rw [ifb_f' (by simp [h]), pReduced_eq (by omega) (by omega) (by omega) (by omega), bnd_pure]
    congr 1
    rw [Bool.eq_iff_iff, decide_eq_true_eq, decide_eq_true_eq, Fraction.mk.injEq]
    have hpos : 0 < Int.gcd n d := Int.gcd_pos_of_ne_zero_right n (by omega)
    constructor
    · rintro ⟨_, h2⟩
      refine ⟨by dsimp only; omega, by dsimp only; omega, by dsimp only; omega, by dsimp only; omega, ?_⟩
      by_cases hg : Int.gcd n d = 1
      · exact hg
      · exfalso
        have h3 : (d.tdiv (Int.gcd n d)).natAbs = d.natAbs / Int.gcd n d := by rw [Int.natAbs_tdiv]; rfl
        rw [h2] at h3
        have : d.natAbs / Int.gcd n d < d.natAbs := Nat.div_lt_self (by omega) (by omega)
        omega
    · rintro ⟨_, _, _, _, h5⟩
      dsimp only at h5
      rw [h5]; simp
def startOk (q : Rat) : Prop := ratOk q ∧ 0 ≤ q.n ∧ Int.tmod 1680 q.d = 0
instance (q : Rat) : Decidable (startOk q) := inferInstanceAs (Decidable (_ ∧ _ ∧ _))
theorem isStart_eq (q : Rat) : isStart q = some (decide (startOk q)) := by
  unfold isStart isStart_r1 startOk
  rw [ratValid_eq]
  simp only [ifb_eq, bnd_pure, decide_eq_true_eq]
  by_cases h1 : ratOk q
  · have hd : q.d ≠ 0 := by have := h1.1; omega
    by_cases h2 : 0 ≤ q.n <;> simp [h1, h2, grd_eq hd, bnd_pure]
  · simp [h1, bnd_pure]
def pitchOk (p : Pitch) : Prop := (0 ≤ p.step ∧ p.step ≤ 6) ∧ (-4 ≤ p.alter ∧ p.alter ≤ 4) ∧ (-8 ≤ p.octave ∧ p.octave ≤ 20)
instance (p : Pitch) : Decidable (pitchOk p) := inferInstanceAs (Decidable (_ ∧ _ ∧ _))
theorem pWithin_eq (n lo hi : Int) : pWithin n lo hi = some (decide (lo ≤ n ∧ n ≤ hi)) := by
  unfold pWithin pWithin_r1
  simp only [ifb_eq, decide_eq_true_eq]
  by_cases h : lo ≤ n <;> simp [h, bnd_pure]
theorem pValid_eq (p : Pitch) : pValid p = some (decide (pitchOk p)) := by
  unfold pValid pValid_r1 pitchOk
  simp only [pWithin_eq, bnd_pure, ifb_eq, decide_eq_true_eq]
  by_cases h1 : 0 ≤ p.step ∧ p.step ≤ 6
  · by_cases h2 : -4 ≤ p.alter ∧ p.alter ≤ 4
    · simp [h1, h2, bnd_pure]
    · rw [if_pos h1, if_neg h2, bnd_pure]
      simp only [h1, h2, false_and, and_false, and_true, true_and, decide_false]
  · rw [if_neg h1, bnd_pure]
    simp only [h1, false_and, decide_false]
def noteOk (w : Written) : Prop := (0 ≤ w.voice ∧ w.voice ≤ 9) ∧ (0 ≤ w.ossia ∧ w.ossia ≤ 20) ∧ startOk w.start ∧ pitchOk w.pitch
instance (w : Written) : Decidable (noteOk w) := inferInstanceAs (Decidable (_ ∧ _ ∧ _ ∧ _))
theorem isNote_eq (w : Written) : isNote w = some (decide (noteOk w)) := by
  unfold isNote isNote_r1 noteOk
  simp only [isStart_eq, pValid_eq, bnd_pure, ifb_eq, decide_eq_true_eq]
  by_cases h1 : 0 ≤ w.voice <;> by_cases h2 : w.voice ≤ 9 <;> by_cases h3 : 0 ≤ w.ossia <;> by_cases h4 : w.ossia ≤ 20 <;> by_cases h5 : startOk w.start <;> simp [h1, h2, h3, h4, h5, bnd_pure]
def natv (n : Int) : Int := (natTab[n.toNat]?).getD 0
def num (p : Pitch) : Int := 12 * p.octave + natv p.step + p.alter
theorem natv_bd (n : Int) : 0 ≤ natv n ∧ natv n ≤ 11 := by
  unfold natv natTab
  generalize n.toNat = k
  rcases k with _ | _ | _ | _ | _ | _ | _ | k <;> simp
theorem pNumber_eq (p : Pitch) : pNumber p = some (if pitchOk p then (num p, 0) else (0, 1)) := by
  unfold pNumber
  rw [pValid_eq, bnd_pure]
  by_cases h : pitchOk p
  · have hp := h
    obtain ⟨⟨h1, h2⟩, ⟨h3, h4⟩, h5, h6⟩ := h
    have hn := natv_bd p.step
    rw [ifb_f' (by simp [hp]), if_pos hp]
    unfold pnumber
    have ha : at? natTab p.step = some (natv p.step) := by
      unfold at? natv
      rw [if_pos h1]
      have : p.step.toNat < natTab.length := by rw [len_natTab]; omega
      rw [List.getElem?_eq_getElem this]; rfl
    rw [grd_eq (by unfold inI; omega), bnd_eq ha, grd_eq (by unfold inI; omega), grd_eq (by unfold inI; omega), bnd_pure]
    rfl
  · rw [ifb_t' (by simp [h]), if_neg h]
def cmpI (x y : Int) : Int := if x < y then -1 else if y < x then 1 else 0
theorem cCompare_eq (x y : Int) : cCompare x y = some (cmpI x y) := by
  unfold cCompare isNaN cmpI
  rw [bnd_pure, bnd_pure, ifb_f' rfl, ifb_f' rfl]
  simp only [ifb_eq, decide_eq_true_eq]
  split
  · rfl
  split <;> rfl
theorem ratCompare_eq {a b : Rat} (ha : ratOk a) (hb : ratOk b) : ratCompare a b = some (cmpI (a.n * b.d) (b.n * a.d), 0) := by
  unfold ratCompare ratCompare_r1 ratCompare_j2
  simp only [ratValid_eq, bnd_pure, ifb_eq, ha, hb, decide_true, Bool.not_true, Bool.false_eq_true, if_false]
  have key : ∀ {x y : Rat}, ratOk x → ratOk y → inI (x.n * y.d) := by
    intro x y ⟨_, _, h3, h4, _⟩ ⟨h1, h2, _⟩
    unfold inI
    have e1 : x.n * y.d ≤ 1000000000 * y.d := Int.mul_le_mul_of_nonneg_right h4 (by omega)
    have e2 : -1000000000 * y.d ≤ x.n * y.d := Int.mul_le_mul_of_nonneg_right h3 (by omega)
    omega
  rw [grd_eq (key ha hb), grd_eq (key hb ha)]
  unfold cmpI
  simp only [decide_eq_true_eq]
  split
  · rfl
  split <;> rfl
def or4 (a b c d : Int) : Int := if a ≠ 0 then a else if b ≠ 0 then b else if c ≠ 0 then c else d
theorem cOr_step {l : List Int} {k : Nat} {x : Int} (hl : l.length ≤ 1000) (h : l[k]? = some x) : cOr_s5 l (k : Int) = if x = 0 then some (.inl ((k + 1 : Nat) : Int)) else some (.inr (.inl x)) := by
  have hk := (List.getElem?_eq_some_iff.1 h).1
  unfold cOr_s5 cOr_j6
  rw [ifb_t' (by simpa using hk), bnd_eq (at_eq h), grd_eq (by unfold inI; omega)]
  by_cases hx : x = 0
  · rw [if_pos hx, ifb_f' (by simp [hx])]; rfl
  · rw [if_neg hx, ifb_t' (by simp [hx])]
theorem cOr_end {l : List Int} {k : Nat} (h : l.length ≤ k) : cOr_s5 l (k : Int) = some (.inr (.inr ())) := by
  unfold cOr_s5
  rw [ifb_f' (by simpa using h)]
theorem cOr_eq (a b c d : Int) : cOr [a, b, c, d] = some (or4 a b c d) := by
  have h0 := cOr_step (l := [a, b, c, d]) (k := 0) (x := a) (by simp) rfl
  have h1 := cOr_step (l := [a, b, c, d]) (k := 1) (x := b) (by simp) rfl
  have h2 := cOr_step (l := [a, b, c, d]) (k := 2) (x := c) (by simp) rfl
  have h3 := cOr_step (l := [a, b, c, d]) (k := 3) (x := d) (by simp) rfl
  have h4 := cOr_end (l := [a, b, c, d]) (k := 4) (by simp)
  have e0 : loopO (cOr_s5 [a, b, c, d]) 0 = loopO (cOr_s5 [a, b, c, d]) ((0 : Nat) : Int) := rfl
  unfold cOr or4
  rw [e0]
  by_cases ha : a = 0
  · rw [if_pos ha] at h0
    rw [loopO_inl h0, if_neg (by simpa using ha)]
    by_cases hb : b = 0
    · rw [if_pos hb] at h1
      rw [loopO_inl h1, if_neg (by simpa using hb)]
      by_cases hc : c = 0
      · rw [if_pos hc] at h2
        rw [loopO_inl h2, if_neg (by simpa using hc)]
        by_cases hd : d = 0
        · rw [if_pos hd] at h3
          rw [loopO_inl h3, loopO_inr h4, bnd_pure, hd]; rfl
        · rw [if_neg hd] at h3
          rw [loopO_inr h3, bnd_pure]
      · rw [if_neg hc] at h2
        rw [loopO_inr h2, bnd_pure, if_pos hc]
    · rw [if_neg hb] at h1
      rw [loopO_inr h1, bnd_pure, if_pos hb]
  · rw [if_neg ha] at h0
    rw [loopO_inr h0, bnd_pure, if_pos ha]
def orderW (a b : Written) : Int := or4 (cmpI (a.start.n * b.start.d) (b.start.n * a.start.d)) (a.voice - b.voice) (num a.pitch - num b.pitch) (cmpI a.id b.id)
theorem wCompare_eq {a b : Written} (ha : noteOk a) (hb : noteOk b) : wCompare a b = some (orderW a b) := by
  obtain ⟨⟨a1, a2⟩, _, ⟨a3, _⟩, a4⟩ := ha
  obtain ⟨⟨b1, b2⟩, _, ⟨b3, _⟩, b4⟩ := hb
  unfold wCompare orderW
  rw [ratCompare_eq a3 b3, bnd_pure]
  dsimp only
  rw [pNumber_eq, if_pos a4, bnd_pure]
  dsimp only
  rw [pNumber_eq, if_pos b4, bnd_pure]
  have hn : ∀ {p : Pitch}, pitchOk p → -200 ≤ num p ∧ num p ≤ 300 := by
    intro p ⟨_, _, _⟩
    have := natv_bd p.step
    unfold num; omega
  have n1 := hn a4
  have n2 := hn b4
  dsimp only
  rw [grd_eq (by unfold inI; omega), grd_eq (by unfold inI; omega), cCompare_eq, bnd_pure, cOr_eq, bnd_pure]
end Go.Proofs.YtjfkfkjkbgiciaaGreatDoor
namespace Go.Proofs.YtjfkfkjkbgiciaaGreatDoor
open Go Go.Eva Enc
@[reducible] def onnPZOrd : Onn := ⟨False⟩
attribute [local instance] rndX onnPZOrd
def tick (w : Written) : Int := w.start.n * Int.tdiv 1680 w.start.d
def Lex (a b : Written) : Prop := tick a < tick b ∨ (tick a = tick b ∧ (a.voice < b.voice ∨ (a.voice = b.voice ∧ (num a.pitch < num b.pitch ∨ (num a.pitch = num b.pitch ∧ a.id < b.id)))))
theorem cross {n1 d1 k1 n2 d2 k2 : Int} (h1 : d1 * k1 = 1680) (h2 : d2 * k2 = 1680) (hd1 : 0 < d1) (hd2 : 0 < d2) : n1 * d2 < n2 * d1 ↔ n1 * k1 < n2 * k2 := by
  have p1 : 0 < k1 := by
    by_cases h : 0 < k1
    · exact h
    · have := Int.mul_nonpos_of_nonneg_of_nonpos (Int.le_of_lt hd1) (Int.not_lt.1 h); omega
  have p2 : 0 < k2 := by
    by_cases h : 0 < k2
    · exact h
    · have := Int.mul_nonpos_of_nonneg_of_nonpos (Int.le_of_lt hd2) (Int.not_lt.1 h); omega
  have hK : 0 < k1 * k2 := Int.mul_pos p1 p2
  have e1 : n1 * d2 * (k1 * k2) = n1 * k1 * 1680 := by rw [← h2]; ac_rfl
  have e2 : n2 * d1 * (k1 * k2) = n2 * k2 * 1680 := by rw [← h1]; ac_rfl
  constructor
  · intro h
    have := Int.mul_lt_mul_of_pos_right h hK
    rw [e1, e2] at this; omega
  · intro h
    have : n1 * d2 * (k1 * k2) < n2 * d1 * (k1 * k2) := by rw [e1, e2]; omega
    exact Int.lt_of_mul_lt_mul_right this (Int.le_of_lt hK)
theorem start_dk {q : Rat} (h : startOk q) : q.d * Int.tdiv 1680 q.d = 1680 ∧ 0 < q.d := by
  have := Int.tmod_add_mul_tdiv 1680 q.d
  rw [h.2.2] at this
  exact ⟨by omega, by have := h.1.1; omega⟩
theorem cmp_tick {a b : Written} (ha : noteOk a) (hb : noteOk b) : cmpI (a.start.n * b.start.d) (b.start.n * a.start.d) = cmpI (tick a) (tick b) := by
  obtain ⟨h1, h2⟩ := start_dk ha.2.2.1
  obtain ⟨h3, h4⟩ := start_dk hb.2.2.1
  unfold cmpI tick
  simp only [cross h1 h3 h2 h4, cross h3 h1 h4 h2]
theorem order_lex {a b : Written} (ha : noteOk a) (hb : noteOk b) : orderW a b < 0 ↔ Lex a b := by
  unfold orderW
  rw [cmp_tick ha hb]
  unfold or4 cmpI Lex
  by_cases h1 : tick a < tick b
  · simp [h1]
  by_cases h2 : tick b < tick a
  · simp only [h1, h2, if_true, if_false]
    constructor
    · intro h; simp at h
    · intro h; exfalso; rcases h with h | ⟨h, _⟩ <;> first | exact h.elim | omega
  simp only [h1, h2, if_false]
  by_cases h3 : a.id < b.id
  · simp only [h3, if_true]
    by_cases h4 : a.voice - b.voice = 0 <;> by_cases h5 : num a.pitch - num b.pitch = 0 <;> simp [h4, h5] <;> omega
  · by_cases h6 : b.id < a.id
    · simp only [h3, h6, if_true, if_false]
      by_cases h4 : a.voice - b.voice = 0 <;> by_cases h5 : num a.pitch - num b.pitch = 0 <;> simp [h4, h5] <;> omega
    · simp only [h3, h6, if_false]
      by_cases h4 : a.voice - b.voice = 0 <;> by_cases h5 : num a.pitch - num b.pitch = 0 <;> simp [h4, h5] <;> omega
theorem lex_trans {a b c : Written} (h : Lex a b) (k : Lex b c) : Lex a c := by unfold Lex at *; omega
theorem lex_irrefl (a : Written) : ¬ Lex a a := by unfold Lex; omega
theorem lex_ntrans {a b c : Written} (h : ¬ Lex a b) (k : ¬ Lex b c) : ¬ Lex a c := by unfold Lex at *; omega
theorem lex_anti {a b : Written} (h : ¬ Lex a b) (k : ¬ Lex b a) : a.id = b.id := by unfold Lex at *; omega
instance (a b : Written) : Decidable (Lex a b) := inferInstanceAs (Decidable (_ ∨ _))
def sortW (l : List Written) : List Written := l.mergeSort fun a b => !decide (Lex b a)
theorem sortW_perm (l : List Written) : (sortW l).Perm l := List.mergeSort_perm _ _
theorem sortW_sorted (l : List Written) : (sortW l).Pairwise fun a b => ¬ Lex b a := by
  have := List.pairwise_mergeSort (le := fun a b => !decide (Lex b a)) (fun a b c h1 h2 => by
    simp only [Bool.not_eq_true', decide_eq_false_iff_not] at *
    exact lex_ntrans h2 h1) (fun a b => by
    simp only [Bool.or_eq_true, Bool.not_eq_true', decide_eq_false_iff_not]
    by_cases h : Lex b a
    · right; intro h2; exact lex_irrefl _ (lex_trans h h2)
    · left; exact h) l
  exact this.imp fun h => by simpa using h
theorem sorted_uniq {l m : List Written} (hl : l.Pairwise fun a b => ¬ Lex b a) (hm : m.Pairwise fun a b => ¬ Lex b a) (hp : l.Perm m) (hn : (l.map Written.id).Nodup) : l = m := by
  refine List.Perm.eq_of_pairwise (le := fun a b => ¬ Lex b a) (fun a b ha hb h1 h2 => ?_) hl hm hp
  have hb' : b ∈ l := hp.symm.subset hb
  have hid := lex_anti h2 h1
  have : ∀ (x y : Written), x ∈ l → y ∈ l → x.id = y.id → x = y := by
    clear hl hm hp ha hb hb' h1 h2 hid
    induction l with
    | nil => intro x y hx; cases hx
    | cons z l ih =>
      simp only [List.map_cons, List.nodup_cons] at hn
      intro x y hx hy hxy
      rcases List.mem_cons.1 hx with hx | hx
      · rcases List.mem_cons.1 hy with hy | hy
        · rw [hx, hy]
        · exact absurd (List.mem_map.2 ⟨y, hy, by rw [← hxy, hx]⟩) hn.1
      · rcases List.mem_cons.1 hy with hy | hy
        · exact absurd (List.mem_map.2 ⟨x, hx, by rw [hxy, hy]⟩) hn.1
        · exact ih hn.2 x y hx hy hxy
  exact this a b ha hb' hid
theorem sortW_of_perm {l m : List Written} (hp : l.Perm m) (hn : (l.map Written.id).Nodup) : sortW l = sortW m := by
  refine sorted_uniq (sortW_sorted l) (sortW_sorted m) (((sortW_perm l).trans hp).trans (sortW_perm m).symm) ?_
  exact ((sortW_perm l).map Written.id).nodup_iff.2 hn
end Go.Proofs.YtjfkfkjkbgiciaaGreatDoor
namespace Go.Proofs.YtjfkfkjkbgiciaaGreatDoor
open Go Go.Eva Enc
@[reducible] def onnPZGen : Onn := ⟨False⟩
attribute [local instance] rndX onnPZGen
def foldS {α σ ρ : Type} (f : σ → α → σ ⊕ ρ) (fin : σ → ρ) : List α → σ → ρ
  | [], z => fin z
  | x :: xs, z => match f z x with
    | .inl z' => foldS f fin xs z'
    | .inr r => r
theorem loop_fold {α σ τ ρ : Type} (st : σ → Int → τ) {step : τ → Option (τ ⊕ ρ)} {l : List α} (f : σ → α → σ ⊕ ρ) (fin : σ → ρ) (Inv : Nat → σ → Prop)
    (h : ∀ (k : Nat) x z, l[k]? = some x → Inv k z → step (st z (k : Int)) = some (match f z x with | .inl z' => .inl (st z' ((k + 1 : Nat) : Int)) | .inr r => .inr r))
    (hinv : ∀ (k : Nat) x z z', l[k]? = some x → Inv k z → f z x = .inl z' → Inv (k + 1) z')
    (hend : ∀ z, Inv l.length z → step (st z (l.length : Int)) = some (.inr (fin z))) (z0 : σ) (h0 : Inv 0 z0) : loopO step (st z0 0) = some (foldS f fin l z0) := by
  have key : ∀ (n k : Nat) (z : σ), k + n = l.length → Inv k z → loopO step (st z (k : Int)) = some (foldS f fin (l.drop k) z) := by
    intro n
    induction n with
    | zero =>
      intro k z hk hi
      have : k = l.length := by omega
      subst this
      rw [List.drop_length]
      exact loopO_inr (hend z hi)
    | succ n ih =>
      intro k z hk hi
      have hlt : k < l.length := by omega
      have hx : l[k]? = some l[k] := List.getElem?_eq_getElem hlt
      rw [List.drop_eq_getElem_cons hlt]
      have hs := h k _ z hx hi
      simp only [foldS]
      cases hf : f z l[k] with
      | inl z' =>
        rw [hf] at hs
        rw [loopO_inl hs]
        exact ih (k + 1) z' (by omega) (hinv k _ z z' hx hi hf)
      | inr r =>
        rw [hf] at hs
        rw [loopO_inr hs]
  simpa using key l.length 0 z0 (by omega) h0
theorem foldS_inl {α σ ρ : Type} {f : σ → α → σ ⊕ ρ} {fin : σ → ρ} (g : σ → α → σ) : ∀ (l : List α) (z : σ), (∀ z x, x ∈ l → f z x = .inl (g z x)) → foldS f fin l z = fin (l.foldl g z)
  | [], z, _ => rfl
  | x :: l, z, h => by
    simp only [foldS, h z x (by simp), List.foldl_cons]
    exact foldS_inl g l _ fun z y hy => h z y (by simp [hy])
theorem loop_any {α ρ : Type} {step : Int → Option (Int ⊕ (ρ ⊕ Unit))} {l : List α} (p : α → Bool) (r : ρ)
    (h : ∀ (k : Nat) x, l[k]? = some x → step (k : Int) = some (if p x = true then .inr (.inl r) else .inl ((k + 1 : Nat) : Int))) (hend : step (l.length : Int) = some (.inr (.inr ()))) :
    loopO step 0 = some (if l.any p = true then .inl r else .inr ()) := by
  have := loop_fold (σ := Unit) (st := fun _ k => k) (step := step) (l := l) (fun _ x => if p x = true then .inr (.inl r) else .inl ()) (fun _ => .inr ()) (fun _ _ => True) (fun k x z hx _ => by
    rw [h k x hx]; split <;> rename_i hp <;> simp [hp]) (fun _ _ _ _ _ _ _ => trivial) (fun z _ => hend) () trivial
  rw [this]
  congr 1
  clear this h hend
  induction l with
  | nil => rfl
  | cons x l ih =>
    simp only [foldS, List.any_cons]
    by_cases hp : p x = true
    · simp [hp]
    · simp only [hp, Bool.false_or]
      simpa using ih
theorem grdI {β : Type} {n : Int} {o : Option β} (h : -9223372036854775808 ≤ n ∧ n ≤ 9223372036854775807) : grd (inI n) o = o := grd_eq h
abbrev BB : Nat := 1048576
theorem lt_of_get {α : Type} {l : List α} {k : Nat} {x : α} (h : l[k]? = some x) : k < l.length := (List.getElem?_eq_some_iff.1 h).1
theorem r18SameInts_eq {a b : List Int} (ha : a.length ≤ BB) : r18SameInts a b = some (decide (a = b)) := by
  have ha' : a.length ≤ 1048576 := ha
  unfold r18SameInts
  by_cases hl : a.length = b.length
  · rw [ifb_f' (by simp [hl])]
    have hs : loopO (r18SameInts_s5 a b) 0 = some (if (a.zip b).any (fun p => decide (p.1 ≠ p.2)) = true then .inl false else .inr ()) := by
      refine loop_any (l := a.zip b) (fun p => decide (p.1 ≠ p.2)) false (fun k x hx => ?_) ?_
      · have hz := List.getElem?_zip_eq_some.1 hx
        have hk := lt_of_get hz.1
        unfold r18SameInts_s5 r18SameInts_j6
        rw [ifb_t' (by simpa using hk), bnd_eq (at_eq hz.1), bnd_eq (at_eq hz.2)]
        by_cases he : x.1 = x.2
        · rw [ifb_f' (by simp [he]), grdI (by omega)]; simp [he]
        · rw [ifb_t' (by simp [he])]; simp [he]
      · have : (a.zip b).length = a.length := by simp [hl]
        rw [this]
        unfold r18SameInts_s5
        rw [ifb_f' (by simp)]
    rw [hs, bnd_pure]
    by_cases he : a = b
    · subst he
      have : (a.zip a).any (fun p => decide (p.1 ≠ p.2)) = false := by
        rw [List.any_eq_false]; intro p hp
        obtain ⟨i, hi, rfl⟩ := List.mem_iff_getElem.1 hp
        simp
      rw [this]; simp [r18SameInts_j1]
    · have : (a.zip b).any (fun p => decide (p.1 ≠ p.2)) = true := by
        rw [List.any_eq_true]
        have : ∃ i, ∃ (h1 : i < a.length) (h2 : i < b.length), a[i] ≠ b[i] := by
          refine Classical.byContradiction fun hc => he (List.ext_getElem hl fun i h1 h2 => ?_)
          refine Classical.byContradiction fun hn => hc ⟨i, h1, h2, hn⟩
        obtain ⟨i, h1, h2, hne⟩ := this
        exact ⟨(a[i], b[i]), List.mem_iff_getElem.2 ⟨i, by simp; omega, by simp⟩, by simpa using hne⟩
      rw [this]; simp [he]
  · rw [ifb_t' (by simp; omega)]
    have : a ≠ b := fun e => hl (by rw [e])
    simp [this]
end Go.Proofs.YtjfkfkjkbgiciaaGreatDoor
namespace Go.Proofs.YtjfkfkjkbgiciaaGreatDoor
open Go Go.Eva Enc
@[reducible] def onnPZPl1 : Onn := ⟨False⟩
attribute [local instance] rndX onnPZPl1
theorem loop_same {α ρ : Type} {a b : List α} (hl : a.length = b.length) (e : α → α → Bool) {step : Int → Option (Int ⊕ (ρ ⊕ Unit))} (r : ρ)
    (h : ∀ (k : Nat) x y, a[k]? = some x → b[k]? = some y → step (k : Int) = some (if e x y = true then .inl ((k + 1 : Nat) : Int) else .inr (.inl r))) (hend : step (a.length : Int) = some (.inr (.inr ()))) :
    loopO step 0 = some (if (a.zip b).all (fun p => e p.1 p.2) = true then .inr () else .inl r) := by
  have := loop_any (step := step) (l := a.zip b) (fun p => !(e p.1 p.2)) r (fun k x hx => by
    have hz := List.getElem?_zip_eq_some.1 hx
    rw [h k _ _ hz.1 hz.2]
    by_cases he : e x.1 x.2 = true <;> simp [he]) (by
    have : (a.zip b).length = a.length := by simp [hl]
    rw [this]; exact hend)
  rw [this]
  congr 1
  by_cases hc : (a.zip b).all (fun p => e p.1 p.2) = true
  · have : (a.zip b).any (fun p => !(e p.1 p.2)) = false := by
      rw [List.any_eq_false]; intro p hp
      have := List.all_eq_true.1 hc p hp
      simp [this]
    rw [this, if_pos hc]; simp
  · have : (a.zip b).any (fun p => !(e p.1 p.2)) = true := by
      rw [List.any_eq_true]
      refine Classical.byContradiction fun hn => hc (List.all_eq_true.2 fun p hp => ?_)
      refine Classical.byContradiction fun hq => hn ⟨p, hp, by simpa using hq⟩
    rw [this, if_neg hc]; simp
theorem zip_all {α : Type} [DecidableEq α] {a b : List α} (hl : a.length = b.length) {e : α → α → Bool} (he : ∀ x y, e x y = true ↔ x = y) : ((a.zip b).all fun p => e p.1 p.2) = decide (a = b) := by
  rw [Bool.eq_iff_iff, decide_eq_true_eq, List.all_eq_true]
  constructor
  · intro h
    refine List.ext_getElem hl fun i h1 h2 => ?_
    exact (he _ _).1 (h (a[i], b[i]) (List.mem_iff_getElem.2 ⟨i, by simp; omega, by simp⟩))
  · rintro rfl p hp
    obtain ⟨i, hi, rfl⟩ := List.mem_iff_getElem.1 hp
    simp [he]
theorem r14SameWritten_eq {a b : List Written} (ha : a.length ≤ 1048576) : r14SameWritten a b = some (decide (a = b)) := by
  unfold r14SameWritten
  by_cases hl : a.length = b.length
  · rw [ifb_f' (by simp [hl]), loop_same hl (fun x y => decide (x = y)) false (fun k x y hx hy => by
      have hk := lt_of_get hx
      unfold r14SameWritten_s5 r14SameWritten_j6
      rw [ifb_t' (by simpa using hk), bnd_eq (at_eq hx), bnd_eq (at_eq hy)]
      by_cases he : x = y
      · rw [ifb_f' (by simp [he]), grdI (by omega)]; simp [he]
      · rw [ifb_t' (by simp [he])]; simp [he]) (by unfold r14SameWritten_s5; rw [ifb_f' (by simp)]), bnd_pure, zip_all hl (e := fun x y => decide (x = y)) (fun x y => by simp)]
    by_cases he : a = b <;> simp [he, r14SameWritten_j1]
  · rw [ifb_t' (by simp; omega)]
    have : a ≠ b := fun e => hl (by rw [e])
    simp [this]
theorem r14same_eq (a b : Measure) : r14same a b = some (decide (a.bar = b.bar ∧ a.key = b.key ∧ a.length = b.length)) := by
  unfold r14same r14same_r1
  simp only [ifb_eq, decide_eq_true_eq]
  by_cases h1 : a.bar = b.bar <;> by_cases h2 : a.key = b.key <;> simp [h1, h2, bnd_pure]
theorem measure_ext {a b : Measure} : a = b ↔ (a.bar = b.bar ∧ a.key = b.key ∧ a.length = b.length) ∧ a.notes = b.notes := by
  cases a; cases b; simp [and_assoc]
def Sm (v : View) : Prop := v.measures.length ≤ 1048576 ∧ ∀ m ∈ v.measures, m.notes.length ≤ 1048576
theorem r14SameMeasures_eq {a b : List Measure} (ha : a.length ≤ 1048576) (hn : ∀ m ∈ a, m.notes.length ≤ 1048576) : r14SameMeasures a b = some (decide (a = b)) := by
  unfold r14SameMeasures
  by_cases hl : a.length = b.length
  · rw [ifb_f' (by simp [hl]), loop_same hl (fun x y => decide (x = y)) false (fun k x y hx hy => by
      have hk := lt_of_get hx
      unfold r14SameMeasures_s7 r14SameMeasures_j8 r14SameMeasures_r9
      rw [ifb_t' (by simpa using hk), bnd_eq (at_eq hx), bnd_eq (at_eq hy), r14same_eq, bnd_pure, bnd_eq (at_eq hx), bnd_eq (at_eq hy), r14SameWritten_eq (hn x (List.mem_of_getElem? hx)), bnd_pure]
      by_cases h1 : x.bar = y.bar ∧ x.key = y.key ∧ x.length = y.length
      · by_cases h2 : x.notes = y.notes
        · rw [ifb_f' (by simp [h1]), bnd_pure, ifb_f' (by simp [h2]), grdI (by omega)]
          have : x = y := measure_ext.2 ⟨h1, h2⟩
          simp [this]
        · rw [ifb_f' (by simp [h1]), bnd_pure, ifb_t' (by simp [h2])]
          have : x ≠ y := fun e => h2 (measure_ext.1 e).2
          simp [this]
      · rw [ifb_t' (by simp only [Bool.not_eq_true', decide_eq_false_iff_not]; exact h1), bnd_pure, ifb_t' rfl]
        have : x ≠ y := fun e => h1 (measure_ext.1 e).1
        simp [this]) (by unfold r14SameMeasures_s7; rw [ifb_f' (by simp)]), bnd_pure, zip_all hl (e := fun x y => decide (x = y)) (fun x y => by simp)]
    by_cases he : a = b <;> simp [he, r14SameMeasures_j1]
  · rw [ifb_t' (by simp; omega)]
    have : a ≠ b := fun e => hl (by rw [e])
    simp [this]
theorem r14Same_eq {a b : View} (ha : Sm a) : r14Same a b = some (decide (a = b)) := by
  unfold r14Same r14Same_r1
  rw [r14SameMeasures_eq ha.1 ha.2, bnd_pure]
  obtain ⟨p, l⟩ := a; obtain ⟨q, m⟩ := b
  by_cases h : p = q
  · rw [ifb_t' (by simp [h]), bnd_pure]; simp [h]
  · rw [ifb_f' (by simp [h]), bnd_pure]; simp [h]
def total (l : List Measure) : Int := l.foldl (fun n m => n + (m.notes.length : Int)) 0
theorem total_acc (l : List Measure) (n : Int) : l.foldl (fun n m => n + (m.notes.length : Int)) n = n + total l := by
  unfold total
  induction l generalizing n with
  | nil => simp
  | cons m l ih => rw [List.foldl_cons, ih, List.foldl_cons, ih (0 + _)]; omega
theorem total_cons (m : Measure) (l : List Measure) : total (m :: l) = m.notes.length + total l := by
  unfold total; rw [List.foldl_cons, total_acc, Int.zero_add]; rfl
theorem total_nonneg (l : List Measure) : 0 ≤ total l := by
  induction l with
  | nil => simp [total]
  | cons m l ih => rw [total_cons]; omega
theorem total_le (l : List Measure) (h : ∀ m ∈ l, m.notes.length ≤ 1048576) : total l ≤ l.length * 1048576 := by
  induction l with
  | nil => simp [total]
  | cons m l ih =>
    rw [total_cons]
    have h1 := h m (by simp)
    have h2 := ih fun m hm => h m (by simp [hm])
    simp only [List.length_cons]; omega
theorem total_mem {l : List Measure} {m : Measure} (hm : m ∈ l) : (m.notes.length : Int) ≤ total l := by
  induction l with
  | nil => cases hm
  | cons x l ih =>
    rw [total_cons]
    have := total_nonneg l
    rcases List.mem_cons.1 hm with rfl | h
    · omega
    · have := ih h; omega
def few (v : View) : Prop := v.measures.length ≤ 60 ∧ total v.measures ≤ 80
instance (v : View) : Decidable (few v) := inferInstanceAs (Decidable (_ ∧ _))
theorem r14Few_eq {v : View} (hv : Sm v) : r14Few v = some (decide (few v)) := by
  unfold r14Few
  have hs : loopO (r14Few_s7 v) (0, 0) = some (total (v.measures.take 61)) := by
    have := loop_fold (σ := Int) (st := fun z k => (z, k)) (step := r14Few_s7 v) (l := v.measures.take 61) (fun z m => .inl (z + (m.notes.length : Int))) (fun z => z) (fun k z => 0 ≤ z ∧ z ≤ k * 1048576) (fun k x z hx hi => by
      have hk := lt_of_get hx
      rw [List.length_take] at hk
      have hx' : v.measures[k]? = some x := by rw [List.getElem?_take] at hx; split at hx; exact hx; cases hx
      have hm := hv.2 x (List.mem_of_getElem? hx')
      unfold r14Few_s7 r14Few_r8 r14Few_j9
      dsimp only
      rw [ifb_t' (by simp; omega), bnd_pure, ifb_t' (by simp; omega), bnd_eq (at_eq hx'), grdI (by omega), grdI (by omega)]
      rfl) (fun k x z z' hx hi hz => by
      injection hz with hz
      have hx' : v.measures[k]? = some x := by rw [List.getElem?_take] at hx; split at hx; exact hx; cases hx
      have hm := hv.2 x (List.mem_of_getElem? hx')
      omega) (fun z hi => by
      unfold r14Few_s7 r14Few_r8
      dsimp only
      by_cases h : v.measures.length ≤ 61
      · have : (v.measures.take 61).length = v.measures.length := by simp; omega
        rw [this, ifb_f' (by simp), bnd_pure, ifb_f' rfl]
      · have : (v.measures.take 61).length = 61 := by simp; omega
        rw [this, ifb_t' (by simp; omega), bnd_pure, ifb_f' (by simp)]) 0 ⟨by omega, by omega⟩
    rw [this]
    congr 1
    rw [foldS_inl (fun (z : Int) (m : Measure) => z + (m.notes.length : Int)) _ _ (fun _ _ _ => rfl)]; rfl
  rw [hs, bnd_pure]
  unfold r14Few_j1 r14Few_r10 few
  by_cases h : v.measures.length ≤ 60
  · rw [ifb_t' (by simp; omega), bnd_pure, List.take_of_length_le (by omega)]
    simp [h]
  · rw [ifb_f' (by simp; omega), bnd_pure]
    simp [h]
end Go.Proofs.YtjfkfkjkbgiciaaGreatDoor
