/-
  The evaluator, the printed walks and the plain laws, part 9 of 12.
-/
import Derived.Test.YtpbhcpeilgmkeaaX8
set_option linter.all false
set_option linter.unnecessarySimpa false
set_option linter.deprecated false
set_option linter.unusedVariables false
set_option linter.unusedSimpArgs false
set_option linter.unusedSectionVars false

/-
  Walks of the events: printed by gen2.py (extraction).
-/
namespace Go.Proofs.Ytpbhcpeilgmkeaa
open Go Go.Eva Enc
set_option linter.unusedSectionVars false
set_option linter.unusedSimpArgs false
set_option linter.unusedVariables false
set_option maxRecDepth 4000
attribute [local congr] AWp.congrS
attribute [local simp] evalSeq opRes guardPc evalOp evT Eva.get startT strip putT Eva.after constT typed obAll holds dstOk R.ok R.bad ofD binD unD pickT subL subP Op.operands Call.operands toD argsD callD callT typedAll cfind quietT spec0 spec1 spec2 spec3 enc_int enc_bool enc_str enc_fn enc_list dec_int dec_bool dec_str dec_fn dec_list size_int size_str enc_R enc_M enc_E dec_R dec_M dec_E size_R size_M size_E eta_R eta_M eta_E enc_rune size_rune dec_rune eta_rune runesD_eq map_dec_enc map_dec_comp cellsT D.cells T.oneT D.one mkT unD1 setAt loadAs loadEl storeAs fieldP fieldV sizeE intOfT indexP appendT lenT sliceT elemSize arith lfsOk lfOk beqL_R beqL_M beqL_E beqL_R0 beqL_M0 isAggD mkD fillD placeS TD.agg env restr List.map keyIdx mapTy lookT mapPutT mapDelT mapOf indexS convT evalPure range1 range2 range3 range4 eqT4 eqT38 eqT40 eqT42 te1 te2 te3 te4 te5 te6 te7 te8 te9 te10 te11 te12 te13 te14 te15 te16 te17 te18 te19 te21 te22 te23 te24 te25 te27 te28 te29 te31 te32 te34 te35 te36 te37 te38 te39 te40 te41 te42 te43 te44 te45 te46 te47 te49 te50 te51 te52 te53 te54 te55 te56 te57 te59 te60 te61 te62 te63 te64 te65 te66 te67 te68 te69 te70 te71 te72 te73 te74 te75 te76 te77 te78 te79 te80 te82 te83 te84 te85 te86 te87 te88 te90 te91 te92 te94 te95 te96 te97 te98 te99 te100 te101 te102 te103 te104 te105 te106 te107 te108 te109 te110 te111 te112 te113 te114 te116 te117 te118 te119 te120 te121 te122 te123 te124 te125 te126 te127 te128 te129 te130 te131 te132 te133 te134 enc_intk size_intk dec_intk eta_intk range5 range6 range7 range8 keysInt_nil keyIdx_E keysInt_E okKeys_E isE_iff put_E del_E get_E getok_E mkeys_E mkeys_E' mkeys_enc specO0 specO1 specO2 specO3 specO4 opD skips gone List.contains_cons List.contains_nil envF fenv

noncomputable def sp8 : Eva.Spec := specO3 fun (l : (List Event)) (more : (List Event)) (stand : Int) => (lawKnown l more stand).map fun r => enc r
set_option maxHeartbeats 4000000 in
theorem ok8 : SpecOk Try.prog 8 sp8 := by
  have hV : VOk Try.prog (envF [(9, sp9), (10, sp10), (14, sp14), (21, tp21), (23, sp23), (19, sp19), (11, sp11)]) := envF_ok ⟨ok9, ok10, ok14, tk21, ok23, ok19, ok11, trivial⟩
  refine SpecOk.ofO3 (Enters.of Try.func8 (by decide)) ?_
  intro l more stand rr hr
  obtain ⟨r, hg, rfl⟩ := Option.map_eq_some_iff.1 hr
  clear hr
  refine PureCon.ofQ hV Try.func8 rfl (by rw [Try.ntmps8]; simp) fun w0 I0 Q hQ => ?_
  rw [Try.ntmps8]
  unfold lawKnown at hg
  refine AWp.rS hV none [0, 1, 2] fun K k1 => ?_
  simp
  repeat refine And.intro (by first | omega | (simp [*]; done) | grind) ?_
  refine kcong (s' := ⟨[(0, .d (enc (l : (List Event)))), (1, .d (enc (more : (List Event)))), (2, .d (enc (stand : Int)))], []⟩) (by first | rfl | (simp []; done) | (simp []; grind)) (k1 _ ?_)
  obtain ⟨x2, h3, hg⟩ := bnd_some hg
  have h3g := h3
  try simp at h3g
  refine AWp.rS hV none [0, 1, 2, 7] fun K k4 => ?_
  simp [sp9, h3, h3g]
  repeat refine And.intro (by first | omega | (simp [*]; done) | grind) ?_
  refine kcong (s' := ⟨[(0, .d (enc (l : (List Event)))), (1, .d (enc (more : (List Event)))), (2, .d (enc (stand : Int))), (7, .d (enc (x2 : Bool)))], []⟩) (by first | rfl | (simp [sp9, h3, h3g]; done) | (simp [sp9, h3, h3g]; grind)) (k4 _ ?_)
  refine AWp.seqG fun _ k5 => ?_
  obtain ⟨y9u38, hx10, hg⟩ := bnd_some hg
  unfold lawKnown_r1 at hx10
  refine AWp.seqJ (fun s' => Sub s' ⟨[(0, .d (enc (l : (List Event)))), (1, .d (enc (more : (List Event)))), (2, .d (enc (stand : Int))), (7, .d (enc (x2 : Bool))), (38, .d (enc (y9u38 : Bool)))], []⟩) (fun _ k11 => ?_) ?_
  · rcases Bool.eq_false_or_eq_true (!(decide ((l : List Event).length ≤ 60))) with c12 | c12
    · replace hx10 := ifb_t c12 hx10
      have c12g := c12
      try simp at c12g
      refine AWp.regF hV (some [25, 26, 27, 30, 31, 32, 35, 36, 37]) [0, 1, 2, 7, 38] fun K k13 => ?_
      simp [sp10, sp14, tp21, sp23, c12, c12g]
      repeat refine And.intro (by first | omega | (simp [*]; done) | grind) ?_
      refine kcong (s' := ⟨[(0, .d (enc (l : (List Event)))), (1, .d (enc (more : (List Event)))), (2, .d (enc (stand : Int))), (7, .d (enc (x2 : Bool))), (38, .d (enc (true : Bool)))], []⟩) (by first | rfl | (simp [sp10, sp14, tp21, sp23, c12, c12g]; done) | (simp [sp10, sp14, tp21, sp23, c12, c12g]; grind)) (k13 _ ?_)
      have hx10 := Option.some.inj hx10
      subst hx10
      refine k11 _ ?_
      show Sub _ ⟨[(0, .d (enc (l : (List Event)))), (1, .d (enc (more : (List Event)))), (2, .d (enc (stand : Int))), (7, .d (enc (x2 : Bool))), (38, .d (enc (true : Bool)))], []⟩
      exact Sub.ren [] (by decide) (by first | rfl | simp [renL, AO.ren, forgetsR, T.ren, idx, Eva.get]) (by first | exact ⟨rfl, rfl, rfl, rfl, rfl, trivial⟩ | (simp [renL, AO.ren, forgetsR, T.ren, idx, Eva.get]; done) | (simp [renL, AO.ren, forgetsR, T.ren, idx, Eva.get]; grind))
    · replace hx10 := ifb_f c12 hx10
      have c12g := c12
      try simp at c12g
      obtain ⟨g6, hx10⟩ := grd_some hx10
      rcases Bool.eq_false_or_eq_true (!(validE l)) with c14 | c14
      · replace hx10 := ifb_t c14 hx10
        have c14g := c14
        try simp at c14g
        refine AWp.regF hV (some [30, 31, 32, 35, 36, 37]) [0, 1, 2, 7, 38] fun K k15 => ?_
        simp [sp10, sp14, tp21, sp23, c12, c12g, c14, c14g]
        repeat refine And.intro (by first | omega | (simp [*]; done) | grind) ?_
        refine kcong (s' := ⟨[(0, .d (enc (l : (List Event)))), (1, .d (enc (more : (List Event)))), (2, .d (enc (stand : Int))), (7, .d (enc (x2 : Bool))), (38, .d (enc (true : Bool)))], []⟩) (by first | rfl | (simp [sp10, sp14, tp21, sp23, c12, c12g, c14, c14g]; done) | (simp [sp10, sp14, tp21, sp23, c12, c12g, c14, c14g]; grind)) (k15 _ ?_)
        have hx10 := Option.some.inj hx10
        subst hx10
        refine k11 _ ?_
        show Sub _ ⟨[(0, .d (enc (l : (List Event)))), (1, .d (enc (more : (List Event)))), (2, .d (enc (stand : Int))), (7, .d (enc (x2 : Bool))), (38, .d (enc (true : Bool)))], []⟩
        exact Sub.ren [] (by decide) (by first | rfl | simp [renL, AO.ren, forgetsR, T.ren, idx, Eva.get]) (by first | exact ⟨rfl, rfl, rfl, rfl, rfl, trivial⟩ | (simp [renL, AO.ren, forgetsR, T.ren, idx, Eva.get]; done) | (simp [renL, AO.ren, forgetsR, T.ren, idx, Eva.get]; grind))
      · replace hx10 := ifb_f c14 hx10
        have c14g := c14
        try simp at c14g
        obtain ⟨x7, h8, hx10⟩ := bnd_some hx10
        have h8g := h8
        try simp at h8g
        rcases Bool.eq_false_or_eq_true (!x7) with c16 | c16
        · replace hx10 := ifb_t c16 hx10
          have c16g := c16
          try simp at c16g
          refine AWp.regF hV (some [35, 36, 37]) [0, 1, 2, 7, 38] fun K k17 => ?_
          simp [sp10, sp14, tp21, sp23, c12, c12g, c14, c14g, h8, h8g, c16, c16g]
          repeat refine And.intro (by first | omega | (simp [*]; done) | grind) ?_
          refine kcong (s' := ⟨[(0, .d (enc (l : (List Event)))), (1, .d (enc (more : (List Event)))), (2, .d (enc (stand : Int))), (7, .d (enc (x2 : Bool))), (38, .d (enc (true : Bool)))], []⟩) (by first | rfl | (simp [sp10, sp14, tp21, sp23, c12, c12g, c14, c14g, h8, h8g, c16, c16g]; done) | (simp [sp10, sp14, tp21, sp23, c12, c12g, c14, c14g, h8, h8g, c16, c16g]; grind)) (k17 _ ?_)
          have hx10 := Option.some.inj hx10
          subst hx10
          refine k11 _ ?_
          show Sub _ ⟨[(0, .d (enc (l : (List Event)))), (1, .d (enc (more : (List Event)))), (2, .d (enc (stand : Int))), (7, .d (enc (x2 : Bool))), (38, .d (enc (true : Bool)))], []⟩
          exact Sub.ren [] (by decide) (by first | rfl | simp [renL, AO.ren, forgetsR, T.ren, idx, Eva.get]) (by first | exact ⟨rfl, rfl, rfl, rfl, rfl, trivial⟩ | (simp [renL, AO.ren, forgetsR, T.ren, idx, Eva.get]; done) | (simp [renL, AO.ren, forgetsR, T.ren, idx, Eva.get]; grind))
        · replace hx10 := ifb_f c16 hx10
          have c16g := c16
          try simp at c16g
          refine AWp.regF hV (some []) [0, 1, 2, 7, 38] fun K k18 => ?_
          simp [sp10, sp14, tp21, sp23, c12, c12g, c14, c14g, h8, h8g, c16, c16g]
          repeat refine And.intro (by first | omega | (simp [*]; done) | grind) ?_
          refine kcong (s' := ⟨[(0, .d (enc (l : (List Event)))), (1, .d (enc (more : (List Event)))), (2, .d (enc (stand : Int))), (7, .d (enc (x2 : Bool))), (38, .d (enc ((!(isID stand)) : Bool)))], []⟩) (by first | rfl | (simp [sp10, sp14, tp21, sp23, c12, c12g, c14, c14g, h8, h8g, c16, c16g]; done) | (simp [sp10, sp14, tp21, sp23, c12, c12g, c14, c14g, h8, h8g, c16, c16g]; grind)) (k18 _ ?_)
          have hx10 := Option.some.inj hx10
          subst hx10
          refine k11 _ ?_
          show Sub _ ⟨[(0, .d (enc (l : (List Event)))), (1, .d (enc (more : (List Event)))), (2, .d (enc (stand : Int))), (7, .d (enc (x2 : Bool))), (38, .d (enc ((!(isID stand)) : Bool)))], []⟩
          exact Sub.ren [] (by decide) (by first | rfl | simp [renL, AO.ren, forgetsR, T.ren, idx, Eva.get]) (by first | exact ⟨rfl, rfl, rfl, rfl, rfl, trivial⟩ | (simp [renL, AO.ren, forgetsR, T.ren, idx, Eva.get]; done) | (simp [renL, AO.ren, forgetsR, T.ren, idx, Eva.get]; grind))
  · intro s' hs
    refine AWp.sub hs ?_
    clear hs s'
    refine AWp.cond (b := y9u38) rfl (fun h19 => ?_) fun h19 => ?_
    · replace hg := ifb_t h19 hg
      refine AWp.rS hV none [6] fun K k20 => ?_
      simp
      repeat refine And.intro (by first | omega | (simp [*]; done) | grind) ?_
      refine kcong (s' := ⟨[(6, .d (enc (x2 : Bool)))], []⟩) (by first | rfl | (simp []; done) | (simp []; grind)) (k20 _ ?_)
      refine AWp.ret ?_
      refine hQ _ _ (.inl rfl) ?_
      have hg := Option.some.inj hg
      subst hg
      first | (simp [retOk, resT, loadAs]; done) | (simp [retOk, resT, loadAs]; grind)
    · replace hg := ifb_f h19 hg
      refine AWp.skip ?_
      refine k5 _ ?_
      obtain ⟨g21, hg⟩ := grd_some hg
      refine AWp.rS hV none [0, 1, 2, 7, 8, 9] fun K k22 => ?_
      simp [sp19]
      repeat refine And.intro (by first | omega | (simp [*]; done) | grind) ?_
      refine kcong (s' := ⟨[(0, .d (enc (l : (List Event)))), (1, .d (enc (more : (List Event)))), (2, .d (enc (stand : Int))), (7, .d (enc (x2 : Bool))), (8, .d (enc ((knownR l stand).1 : Int))), (9, .d (enc ((knownR l stand).2 : Int)))], []⟩) (by first | rfl | (simp [sp19]; done) | (simp [sp19]; grind)) (k22 _ ?_)
      refine AWp.seqG fun _ k23 => ?_
      obtain ⟨y24u55, hx25, hg⟩ := bnd_some hg
      unfold lawKnown_r2 at hx25
      refine AWp.seqJ (fun s' => Sub s' ⟨[(0, .d (enc (l : (List Event)))), (1, .d (enc (more : (List Event)))), (2, .d (enc (stand : Int))), (7, .d (enc (x2 : Bool))), (8, .d (enc ((knownR l stand).1 : Int))), (55, .d (enc (y24u55 : Bool)))], []⟩) (fun _ k26 => ?_) ?_
      · rcases Bool.eq_false_or_eq_true (!decide ((knownR l stand).2 = 0)) with c27 | c27
        · replace hx25 := ifb_t c27 hx25
          have c27g := c27
          try simp at c27g
          refine AWp.regF hV (some [49, 50, 53, 54]) [0, 1, 2, 7, 8, 55] fun K k28 => ?_
          simp [c27, c27g]
          repeat refine And.intro (by first | omega | (simp [*]; done) | grind) ?_
          refine kcong (s' := ⟨[(0, .d (enc (l : (List Event)))), (1, .d (enc (more : (List Event)))), (2, .d (enc (stand : Int))), (7, .d (enc (x2 : Bool))), (8, .d (enc ((knownR l stand).1 : Int))), (55, .d (enc (true : Bool)))], []⟩) (by first | rfl | (simp [c27, c27g]; done) | (simp [c27, c27g]; grind)) (k28 _ ?_)
          have hx25 := Option.some.inj hx25
          subst hx25
          refine k26 _ ?_
          show Sub _ ⟨[(0, .d (enc (l : (List Event)))), (1, .d (enc (more : (List Event)))), (2, .d (enc (stand : Int))), (7, .d (enc (x2 : Bool))), (8, .d (enc ((knownR l stand).1 : Int))), (55, .d (enc (true : Bool)))], []⟩
          exact Sub.ren [] (by decide) (by first | rfl | simp [renL, AO.ren, forgetsR, T.ren, idx, Eva.get]) (by first | exact ⟨rfl, rfl, rfl, rfl, rfl, rfl, trivial⟩ | (simp [renL, AO.ren, forgetsR, T.ren, idx, Eva.get]; done) | (simp [renL, AO.ren, forgetsR, T.ren, idx, Eva.get]; grind))
        · replace hx25 := ifb_f c27 hx25
          have c27g := c27
          try simp at c27g
          rcases Bool.eq_false_or_eq_true (decide ((knownR l stand).1 < 0)) with c29 | c29
          · replace hx25 := ifb_t c29 hx25
            have c29g := c29
            try simp at c29g
            refine AWp.regF hV (some [53, 54]) [0, 1, 2, 7, 8, 55] fun K k30 => ?_
            simp [c27, c27g, c29, c29g]
            repeat refine And.intro (by first | omega | (simp [*]; done) | grind) ?_
            refine kcong (s' := ⟨[(0, .d (enc (l : (List Event)))), (1, .d (enc (more : (List Event)))), (2, .d (enc (stand : Int))), (7, .d (enc (x2 : Bool))), (8, .d (enc ((knownR l stand).1 : Int))), (55, .d (enc (true : Bool)))], []⟩) (by first | rfl | (simp [c27, c27g, c29, c29g]; done) | (simp [c27, c27g, c29, c29g]; grind)) (k30 _ ?_)
            have hx25 := Option.some.inj hx25
            subst hx25
            refine k26 _ ?_
            show Sub _ ⟨[(0, .d (enc (l : (List Event)))), (1, .d (enc (more : (List Event)))), (2, .d (enc (stand : Int))), (7, .d (enc (x2 : Bool))), (8, .d (enc ((knownR l stand).1 : Int))), (55, .d (enc (true : Bool)))], []⟩
            exact Sub.ren [] (by decide) (by first | rfl | simp [renL, AO.ren, forgetsR, T.ren, idx, Eva.get]) (by first | exact ⟨rfl, rfl, rfl, rfl, rfl, rfl, trivial⟩ | (simp [renL, AO.ren, forgetsR, T.ren, idx, Eva.get]; done) | (simp [renL, AO.ren, forgetsR, T.ren, idx, Eva.get]; grind))
          · replace hx25 := ifb_f c29 hx25
            have c29g := c29
            try simp at c29g
            refine AWp.regF hV (some []) [0, 1, 2, 7, 8, 55] fun K k31 => ?_
            simp [c27, c27g, c29, c29g]
            repeat refine And.intro (by first | omega | (simp [*]; done) | grind) ?_
            refine kcong (s' := ⟨[(0, .d (enc (l : (List Event)))), (1, .d (enc (more : (List Event)))), (2, .d (enc (stand : Int))), (7, .d (enc (x2 : Bool))), (8, .d (enc ((knownR l stand).1 : Int))), (55, .d (enc ((decide (1000 < (knownR l stand).1)) : Bool)))], []⟩) (by first | rfl | (simp [c27, c27g, c29, c29g]; done) | (simp [c27, c27g, c29, c29g]; grind)) (k31 _ ?_)
            have hx25 := Option.some.inj hx25
            subst hx25
            refine k26 _ ?_
            show Sub _ ⟨[(0, .d (enc (l : (List Event)))), (1, .d (enc (more : (List Event)))), (2, .d (enc (stand : Int))), (7, .d (enc (x2 : Bool))), (8, .d (enc ((knownR l stand).1 : Int))), (55, .d (enc ((decide (1000 < (knownR l stand).1)) : Bool)))], []⟩
            exact Sub.ren [] (by decide) (by first | rfl | simp [renL, AO.ren, forgetsR, T.ren, idx, Eva.get]) (by first | exact ⟨rfl, rfl, rfl, rfl, rfl, rfl, trivial⟩ | (simp [renL, AO.ren, forgetsR, T.ren, idx, Eva.get]; done) | (simp [renL, AO.ren, forgetsR, T.ren, idx, Eva.get]; grind))
      · intro s' hs
        refine AWp.sub hs ?_
        clear hs s'
        refine AWp.cond (b := y24u55) rfl (fun h32 => ?_) fun h32 => ?_
        · replace hg := ifb_t h32 hg
          refine AWp.rS hV none [6] fun K k33 => ?_
          simp
          repeat refine And.intro (by first | omega | (simp [*]; done) | grind) ?_
          refine kcong (s' := ⟨[(6, .d (enc (false : Bool)))], []⟩) (by first | rfl | (simp []; done) | (simp []; grind)) (k33 _ ?_)
          refine AWp.ret ?_
          refine hQ _ _ (.inl rfl) ?_
          have hg := Option.some.inj hg
          subst hg
          first | (simp [retOk, resT, loadAs]; done) | (simp [retOk, resT, loadAs]; grind)
        · replace hg := ifb_f h32 hg
          refine AWp.skip ?_
          refine k23 _ ?_
          refine AWp.rS hV none [0, 1, 2, 7, 8, 10] fun K k34 => ?_
          simp
          repeat refine And.intro (by first | omega | (simp [*]; done) | grind) ?_
          refine kcong (s' := ⟨[(0, .d (enc (l : (List Event)))), (1, .d (enc (more : (List Event)))), (2, .d (enc (stand : Int))), (7, .d (enc (x2 : Bool))), (8, .d (enc ((knownR l stand).1 : Int))), (10, .nils 14)], []⟩) (by first | rfl | (simp []; done) | (simp []; grind)) (k34 _ ?_)
          refine AWp.rS hV none [0, 1, 2, 7, 8, 10, 11] fun K k35 => ?_
          simp
          repeat refine And.intro (by first | omega | (simp [*]; done) | grind) ?_
          refine kcong (s' := ⟨[(0, .d (enc (l : (List Event)))), (1, .d (enc (more : (List Event)))), (2, .d (enc (stand : Int))), (7, .d (enc (x2 : Bool))), (8, .d (enc ((knownR l stand).1 : Int))), (10, .nils 14), (11, .d (enc ((decide ((knownR l stand).1 = 0)) : Bool)))], []⟩) (by first | rfl | (simp []; done) | (simp []; grind)) (k35 _ ?_)
          refine AWp.seqJ (fun s' => ∃ y36u7 : Bool, ∃ y36u10 : (List Event), ∃ y36u11 : Bool, lawKnown_j3 l more stand y36u7 y36u10 y36u11 = some r ∧ Sub s' ⟨[(0, .d (enc (l : (List Event)))), (1, .d (enc (more : (List Event)))), (2, .d (enc (stand : Int))), (7, .d (enc (y36u7 : Bool))), (8, .d (enc ((knownR l stand).1 : Int))), (10, .row 0), (11, .d (enc (y36u11 : Bool)))], [.row 42 14 ((y36u10 : List Event).map enc)]⟩) (fun _ k37 => ?_) ?_
          · refine AWp.rS hV none [0, 1, 2, 7, 8, 10, 11, 58, 59, 60] fun K k38 => ?_
            simp
            repeat refine And.intro (by first | omega | (simp [*]; done) | grind) ?_
            refine kcong (s' := ⟨[(0, .d (enc (l : (List Event)))), (1, .d (enc (more : (List Event)))), (2, .d (enc (stand : Int))), (7, .d (enc (x2 : Bool))), (8, .d (enc ((knownR l stand).1 : Int))), (10, .nils 14), (11, .d (enc ((decide ((knownR l stand).1 = 0)) : Bool))), (58, .d (enc (l : (List Event)))), (59, .d (enc ((l.length : Int) : Int))), (60, .d (enc (0 : Int)))], []⟩) (by first | rfl | (simp []; done) | (simp []; grind)) (k38 _ ?_)
            refine AWp.block ?_
            obtain ⟨o110, hl111, hg⟩ := bnd_some hg
            refine AWp.loopO (fun ((z4u7, z4u10, z4u11, z4u60) : Bool × (List Event) × Bool × Int) => ⟨[(0, .d (enc (l : (List Event)))), (1, .d (enc (more : (List Event)))), (2, .d (enc (stand : Int))), (7, .d (enc (z4u7 : Bool))), (8, .d (enc ((knownR l stand).1 : Int))), (10, .row 0), (11, .d (enc (z4u11 : Bool))), (58, .d (enc (l : (List Event)))), (59, .d (enc ((l.length : Int) : Int))), (60, .d (enc (z4u60 : Int)))], [.row 42 14 ((z4u10 : List Event).map enc)]⟩) (lawKnown_s15 l stand) (x2, [], (decide ((knownR l stand).1 = 0)), 0) hl111 ?_ fun z112 w115 _ ho113 hx114 k39 => ?_
            · show Sub _ ⟨[(0, .d (enc (l : (List Event)))), (1, .d (enc (more : (List Event)))), (2, .d (enc (stand : Int))), (7, .d (enc (x2 : Bool))), (8, .d (enc ((knownR l stand).1 : Int))), (10, .row 0), (11, .d (enc ((decide ((knownR l stand).1 = 0)) : Bool))), (58, .d (enc (l : (List Event)))), (59, .d (enc ((l.length : Int) : Int))), (60, .d (enc (0 : Int)))], [.row 42 14 (([] : List Event).map enc)]⟩
              exact Sub.trans (Sub.adopt 10 42 14 rfl) (Sub.ren [0] (by decide) (by first | rfl | simp [renL, AO.ren, forgetsR, T.ren, idx, Eva.get]) (by first | exact ⟨rfl, rfl, rfl, rfl, rfl, rfl, rfl, rfl, rfl, rfl, trivial⟩ | (simp [renL, AO.ren, forgetsR, T.ren, idx, Eva.get]; done) | (simp [renL, AO.ren, forgetsR, T.ren, idx, Eva.get]; grind)))
            obtain ⟨z4u7, z4u10, z4u11, z4u60⟩ := z112
            unfold lawKnown_s15 at ho113
            try dsimp only at ho113
            have hq116 := hg
            clear hg
            have hg := ho113
            clear ho113
            show AWp _ _ _ _ _ ⟨[(0, .d (enc (l : (List Event)))), (1, .d (enc (more : (List Event)))), (2, .d (enc (stand : Int))), (7, .d (enc (z4u7 : Bool))), (8, .d (enc ((knownR l stand).1 : Int))), (10, .row 0), (11, .d (enc (z4u11 : Bool))), (58, .d (enc (l : (List Event)))), (59, .d (enc ((l.length : Int) : Int))), (60, .d (enc (z4u60 : Int)))], [.row 42 14 ((z4u10 : List Event).map enc)]⟩ _
            refine AWp.rS hV none [0, 1, 2, 7, 8, 10, 11, 58, 59, 60, 61] fun K k117 => ?_
            simp
            repeat refine And.intro (by first | omega | (simp [*]; done) | grind) ?_
            refine kcong (s' := ⟨[(0, .d (enc (l : (List Event)))), (1, .d (enc (more : (List Event)))), (2, .d (enc (stand : Int))), (7, .d (enc (z4u7 : Bool))), (8, .d (enc ((knownR l stand).1 : Int))), (10, .row 0), (11, .d (enc (z4u11 : Bool))), (58, .d (enc (l : (List Event)))), (59, .d (enc ((l.length : Int) : Int))), (60, .d (enc (z4u60 : Int))), (61, .d (enc ((decide (z4u60 < (l.length : Int))) : Bool)))], [.row 42 14 ((z4u10 : List Event).map enc)]⟩) (by first | rfl | (simp []; done) | (simp []; grind)) (k117 _ ?_)
            refine AWp.seqG fun _ k118 => ?_
            refine AWp.cond (b := (decide (z4u60 < (l.length : Int)))) rfl (fun h119 => ?_) fun h119 => ?_
            · replace hg := ifb_t h119 hg
              refine AWp.skip ?_
              refine k118 _ ?_
              refine AWp.seqJ (fun s' => ∃ y120u7 : Bool, ∃ y120u10 : (List Event), ∃ y120u11 : Bool, lawKnown_j16 z4u60 y120u7 y120u10 y120u11 = some w115 ∧ Sub s' ⟨[(0, .d (enc (l : (List Event)))), (1, .d (enc (more : (List Event)))), (2, .d (enc (stand : Int))), (7, .d (enc (y120u7 : Bool))), (8, .d (enc ((knownR l stand).1 : Int))), (10, .row 0), (11, .d (enc (y120u11 : Bool))), (58, .d (enc (l : (List Event)))), (59, .d (enc ((l.length : Int) : Int))), (60, .d (enc (z4u60 : Int)))], [.row 42 14 ((y120u10 : List Event).map enc)]⟩) (fun _ k121 => ?_) ?_
              · refine AWp.block ?_
                obtain ⟨x122, h123, hg⟩ := bnd_some hg
                obtain ⟨h123a, h123b, h123c⟩ := at_some h123
                have h123f := elAt_enc h123c
                have h123g := h123f
                try simp at h123g
                refine AWp.rS hV none [0, 1, 2, 7, 8, 10, 11, 13, 58, 59, 60] fun K k124 => ?_
                simp [h123f, h123g]
                repeat refine And.intro (by first | omega | (simp [*]; done) | grind) ?_
                refine kcong (s' := ⟨[(0, .d (enc (l : (List Event)))), (1, .d (enc (more : (List Event)))), (2, .d (enc (stand : Int))), (7, .d (enc (z4u7 : Bool))), (8, .d (enc ((knownR l stand).1 : Int))), (10, .row 0), (11, .d (enc (z4u11 : Bool))), (13, .ptr 1 0), (58, .d (enc (l : (List Event)))), (59, .d (enc ((l.length : Int) : Int))), (60, .d (enc (z4u60 : Int)))], [.row 42 14 ((z4u10 : List Event).map enc), .var 42 (cellsT (.d (enc (x122 : Event))))]⟩) (by first | rfl | (simp [h123f, h123g]; done) | (simp [h123f, h123g]; grind)) (k124 _ ?_)
                refine AWp.seqJ (fun s' => ∃ y125u10 : (List Event), lawKnown_j17 l stand z4u7 z4u11 z4u60 x122 y125u10 = some w115 ∧ Sub s' ⟨[(0, .d (enc (l : (List Event)))), (1, .d (enc (more : (List Event)))), (2, .d (enc (stand : Int))), (7, .d (enc (z4u7 : Bool))), (8, .d (enc ((knownR l stand).1 : Int))), (10, .row 0), (11, .d (enc (z4u11 : Bool))), (13, .ptr 1 0), (58, .d (enc (l : (List Event)))), (59, .d (enc ((l.length : Int) : Int))), (60, .d (enc (z4u60 : Int)))], [.row 42 14 ((y125u10 : List Event).map enc), .var 42 (cellsT (.d (enc (x122 : Event))))]⟩) (fun _ k126 => ?_) ?_
                · refine AWp.rS hV none [0, 1, 2, 7, 8, 10, 11, 13, 58, 59, 60, 67] fun K k127 => ?_
                  simp
                  repeat refine And.intro (by first | omega | (simp [*]; done) | grind) ?_
                  refine kcong (s' := ⟨[(0, .d (enc (l : (List Event)))), (1, .d (enc (more : (List Event)))), (2, .d (enc (stand : Int))), (7, .d (enc (z4u7 : Bool))), (8, .d (enc ((knownR l stand).1 : Int))), (10, .row 0), (11, .d (enc (z4u11 : Bool))), (13, .ptr 1 0), (58, .d (enc (l : (List Event)))), (59, .d (enc ((l.length : Int) : Int))), (60, .d (enc (z4u60 : Int))), (67, .d (enc ((decide (x122.stand = stand)) : Bool)))], [.row 42 14 ((z4u10 : List Event).map enc), .var 42 (cellsT (.d (enc (x122 : Event))))]⟩) (by first | rfl | (simp []; done) | (simp []; grind)) (k127 _ ?_)
                  refine AWp.cond (b := (decide (x122.stand = stand))) rfl (fun h128 => ?_) fun h128 => ?_
                  · replace hg := ifb_t h128 hg
                    obtain ⟨g129, hg⟩ := grd_some hg
                    refine AWp.regF hV none [0, 1, 2, 7, 8, 10, 11, 13, 58, 59, 60] fun K k130 => ?_
                    simp
                    repeat refine And.intro (by first | omega | (simp [*]; done) | grind) ?_
                    refine kcong (s' := ⟨[(0, .d (enc (l : (List Event)))), (1, .d (enc (more : (List Event)))), (2, .d (enc (stand : Int))), (7, .d (enc (z4u7 : Bool))), (8, .d (enc ((knownR l stand).1 : Int))), (10, .row 2), (11, .d (enc (z4u11 : Bool))), (13, .ptr 1 0), (58, .d (enc (l : (List Event)))), (59, .d (enc ((l.length : Int) : Int))), (60, .d (enc (z4u60 : Int)))], [.dead, .var 42 (cellsT (.d (enc (x122 : Event)))), .row 42 14 (((z4u10 ++ [x122]) : List Event).map enc)]⟩) (by first | rfl | (simp []; done) | (simp []; grind)) (k130 _ ?_)
                    refine k126 _ (Exists.intro _ (And.intro hg ?_))
                    show Sub _ ⟨[(0, .d (enc (l : (List Event)))), (1, .d (enc (more : (List Event)))), (2, .d (enc (stand : Int))), (7, .d (enc (z4u7 : Bool))), (8, .d (enc ((knownR l stand).1 : Int))), (10, .row 0), (11, .d (enc (z4u11 : Bool))), (13, .ptr 1 0), (58, .d (enc (l : (List Event)))), (59, .d (enc ((l.length : Int) : Int))), (60, .d (enc (z4u60 : Int)))], [.row 42 14 (((z4u10 ++ [x122]) : List Event).map enc), .var 42 (cellsT (.d (enc (x122 : Event))))]⟩
                    exact Sub.ren [2, 1] (by decide) (by first | rfl | simp [renL, AO.ren, forgetsR, T.ren, idx, Eva.get]) (by first | exact ⟨rfl, rfl, rfl, rfl, rfl, rfl, rfl, rfl, rfl, rfl, rfl, trivial⟩ | (simp [renL, AO.ren, forgetsR, T.ren, idx, Eva.get]; done) | (simp [renL, AO.ren, forgetsR, T.ren, idx, Eva.get]; grind))
                  · replace hg := ifb_f h128 hg
                    refine AWp.skip ?_
                    refine k126 _ (Exists.intro _ (And.intro hg ?_))
                    show Sub _ ⟨[(0, .d (enc (l : (List Event)))), (1, .d (enc (more : (List Event)))), (2, .d (enc (stand : Int))), (7, .d (enc (z4u7 : Bool))), (8, .d (enc ((knownR l stand).1 : Int))), (10, .row 0), (11, .d (enc (z4u11 : Bool))), (13, .ptr 1 0), (58, .d (enc (l : (List Event)))), (59, .d (enc ((l.length : Int) : Int))), (60, .d (enc (z4u60 : Int)))], [.row 42 14 ((z4u10 : List Event).map enc), .var 42 (cellsT (.d (enc (x122 : Event))))]⟩
                    exact Sub.ren [0, 1] (by decide) (by first | rfl | simp [renL, AO.ren, forgetsR, T.ren, idx, Eva.get]) (by first | exact ⟨rfl, rfl, rfl, rfl, rfl, rfl, rfl, rfl, rfl, rfl, rfl, trivial⟩ | (simp [renL, AO.ren, forgetsR, T.ren, idx, Eva.get]; done) | (simp [renL, AO.ren, forgetsR, T.ren, idx, Eva.get]; grind))
                · rintro s' ⟨y125u10, hg, hs⟩
                  unfold lawKnown_j17 at hg
                  refine AWp.sub hs ?_
                  obtain ⟨y131u80, hx132, hg⟩ := bnd_some hg
                  unfold lawKnown_r18 at hx132
                  refine AWp.seqJ (fun s' => Sub s' ⟨[(0, .d (enc (l : (List Event)))), (1, .d (enc (more : (List Event)))), (2, .d (enc (stand : Int))), (7, .d (enc (z4u7 : Bool))), (8, .d (enc ((knownR l stand).1 : Int))), (10, .row 0), (11, .d (enc (z4u11 : Bool))), (13, .ptr 1 0), (58, .d (enc (l : (List Event)))), (59, .d (enc ((l.length : Int) : Int))), (60, .d (enc (z4u60 : Int))), (80, .d (enc (y131u80 : Bool)))], [.row 42 14 ((y125u10 : List Event).map enc), .var 42 (cellsT (.d (enc (x122 : Event))))]⟩) (fun _ k133 => ?_) ?_
                  · rcases Bool.eq_false_or_eq_true (decide (x122.stand = stand)) with c134 | c134
                    · replace hx132 := ifb_t c134 hx132
                      have c134g := c134
                      try simp at c134g
                      refine AWp.regF hV (some []) [0, 1, 2, 7, 8, 10, 11, 13, 58, 59, 60, 80] fun K k135 => ?_
                      simp [c134, c134g]
                      repeat refine And.intro (by first | omega | (simp [*]; done) | grind) ?_
                      refine kcong (s' := ⟨[(0, .d (enc (l : (List Event)))), (1, .d (enc (more : (List Event)))), (2, .d (enc (stand : Int))), (7, .d (enc (z4u7 : Bool))), (8, .d (enc ((knownR l stand).1 : Int))), (10, .row 0), (11, .d (enc (z4u11 : Bool))), (13, .ptr 1 0), (58, .d (enc (l : (List Event)))), (59, .d (enc ((l.length : Int) : Int))), (60, .d (enc (z4u60 : Int))), (80, .d (enc ((decide (x122.kind = 3)) : Bool)))], [.row 42 14 ((y125u10 : List Event).map enc), .var 42 (cellsT (.d (enc (x122 : Event))))]⟩) (by first | rfl | (simp [c134, c134g]; done) | (simp [c134, c134g]; grind)) (k135 _ ?_)
                      have hx132 := Option.some.inj hx132
                      subst hx132
                      refine k133 _ ?_
                      show Sub _ ⟨[(0, .d (enc (l : (List Event)))), (1, .d (enc (more : (List Event)))), (2, .d (enc (stand : Int))), (7, .d (enc (z4u7 : Bool))), (8, .d (enc ((knownR l stand).1 : Int))), (10, .row 0), (11, .d (enc (z4u11 : Bool))), (13, .ptr 1 0), (58, .d (enc (l : (List Event)))), (59, .d (enc ((l.length : Int) : Int))), (60, .d (enc (z4u60 : Int))), (80, .d (enc ((decide (x122.kind = 3)) : Bool)))], [.row 42 14 ((y125u10 : List Event).map enc), .var 42 (cellsT (.d (enc (x122 : Event))))]⟩
                      exact Sub.ren [0, 1] (by decide) (by first | rfl | simp [renL, AO.ren, forgetsR, T.ren, idx, Eva.get]) (by first | exact ⟨rfl, rfl, rfl, rfl, rfl, rfl, rfl, rfl, rfl, rfl, rfl, rfl, trivial⟩ | (simp [renL, AO.ren, forgetsR, T.ren, idx, Eva.get]; done) | (simp [renL, AO.ren, forgetsR, T.ren, idx, Eva.get]; grind))
                    · replace hx132 := ifb_f c134 hx132
                      have c134g := c134
                      try simp at c134g
                      refine AWp.regF hV (some [77, 78, 79]) [0, 1, 2, 7, 8, 10, 11, 13, 58, 59, 60, 80] fun K k136 => ?_
                      simp [c134, c134g]
                      repeat refine And.intro (by first | omega | (simp [*]; done) | grind) ?_
                      refine kcong (s' := ⟨[(0, .d (enc (l : (List Event)))), (1, .d (enc (more : (List Event)))), (2, .d (enc (stand : Int))), (7, .d (enc (z4u7 : Bool))), (8, .d (enc ((knownR l stand).1 : Int))), (10, .row 0), (11, .d (enc (z4u11 : Bool))), (13, .ptr 1 0), (58, .d (enc (l : (List Event)))), (59, .d (enc ((l.length : Int) : Int))), (60, .d (enc (z4u60 : Int))), (80, .d (enc (false : Bool)))], [.row 42 14 ((y125u10 : List Event).map enc), .var 42 (cellsT (.d (enc (x122 : Event))))]⟩) (by first | rfl | (simp [c134, c134g]; done) | (simp [c134, c134g]; grind)) (k136 _ ?_)
                      have hx132 := Option.some.inj hx132
                      subst hx132
                      refine k133 _ ?_
                      show Sub _ ⟨[(0, .d (enc (l : (List Event)))), (1, .d (enc (more : (List Event)))), (2, .d (enc (stand : Int))), (7, .d (enc (z4u7 : Bool))), (8, .d (enc ((knownR l stand).1 : Int))), (10, .row 0), (11, .d (enc (z4u11 : Bool))), (13, .ptr 1 0), (58, .d (enc (l : (List Event)))), (59, .d (enc ((l.length : Int) : Int))), (60, .d (enc (z4u60 : Int))), (80, .d (enc (false : Bool)))], [.row 42 14 ((y125u10 : List Event).map enc), .var 42 (cellsT (.d (enc (x122 : Event))))]⟩
                      exact Sub.ren [0, 1] (by decide) (by first | rfl | simp [renL, AO.ren, forgetsR, T.ren, idx, Eva.get]) (by first | exact ⟨rfl, rfl, rfl, rfl, rfl, rfl, rfl, rfl, rfl, rfl, rfl, rfl, trivial⟩ | (simp [renL, AO.ren, forgetsR, T.ren, idx, Eva.get]; done) | (simp [renL, AO.ren, forgetsR, T.ren, idx, Eva.get]; grind))
                  · intro s' hs
                    refine AWp.sub hs ?_
                    clear hs s'
                    refine AWp.cond (b := y131u80) rfl (fun h137 => ?_) fun h137 => ?_
                    · replace hg := ifb_t h137 hg
                      obtain ⟨y138u11, hx139, hg⟩ := bnd_some hg
                      unfold lawKnown_r19 at hx139
                      refine AWp.seqJ (fun s' => Sub s' ⟨[(0, .d (enc (l : (List Event)))), (1, .d (enc (more : (List Event)))), (2, .d (enc (stand : Int))), (7, .d (enc (z4u7 : Bool))), (8, .d (enc ((knownR l stand).1 : Int))), (10, .row 0), (11, .d (enc (y138u11 : Bool))), (13, .ptr 1 0), (58, .d (enc (l : (List Event)))), (59, .d (enc ((l.length : Int) : Int))), (60, .d (enc (z4u60 : Int)))], [.row 42 14 ((y125u10 : List Event).map enc), .var 42 (cellsT (.d (enc (x122 : Event))))]⟩) (fun _ k140 => ?_) ?_
                      · rcases Bool.eq_false_or_eq_true z4u11 with c141 | c141
                        · replace hx139 := ifb_t c141 hx139
                          have c141g := c141
                          try simp at c141g
                          refine AWp.regF hV (some [83, 84, 85, 86]) [0, 1, 2, 7, 8, 10, 11, 13, 58, 59, 60] fun K k142 => ?_
                          simp [c141, c141g]
                          repeat refine And.intro (by first | omega | (simp [*]; done) | grind) ?_
                          refine kcong (s' := ⟨[(0, .d (enc (l : (List Event)))), (1, .d (enc (more : (List Event)))), (2, .d (enc (stand : Int))), (7, .d (enc (z4u7 : Bool))), (8, .d (enc ((knownR l stand).1 : Int))), (10, .row 0), (11, .d (enc (true : Bool))), (13, .ptr 1 0), (58, .d (enc (l : (List Event)))), (59, .d (enc ((l.length : Int) : Int))), (60, .d (enc (z4u60 : Int)))], [.row 42 14 ((y125u10 : List Event).map enc), .var 42 (cellsT (.d (enc (x122 : Event))))]⟩) (by first | rfl | (simp [c141, c141g]; done) | (simp [c141, c141g]; grind)) (k142 _ ?_)
                          have hx139 := Option.some.inj hx139
                          subst hx139
                          refine k140 _ ?_
                          show Sub _ ⟨[(0, .d (enc (l : (List Event)))), (1, .d (enc (more : (List Event)))), (2, .d (enc (stand : Int))), (7, .d (enc (z4u7 : Bool))), (8, .d (enc ((knownR l stand).1 : Int))), (10, .row 0), (11, .d (enc (true : Bool))), (13, .ptr 1 0), (58, .d (enc (l : (List Event)))), (59, .d (enc ((l.length : Int) : Int))), (60, .d (enc (z4u60 : Int)))], [.row 42 14 ((y125u10 : List Event).map enc), .var 42 (cellsT (.d (enc (x122 : Event))))]⟩
                          exact Sub.ren [0, 1] (by decide) (by first | rfl | simp [renL, AO.ren, forgetsR, T.ren, idx, Eva.get]) (by first | exact ⟨rfl, rfl, rfl, rfl, rfl, rfl, rfl, rfl, rfl, rfl, rfl, trivial⟩ | (simp [renL, AO.ren, forgetsR, T.ren, idx, Eva.get]; done) | (simp [renL, AO.ren, forgetsR, T.ren, idx, Eva.get]; grind))
                        · replace hx139 := ifb_f c141 hx139
                          have c141g := c141
                          try simp at c141g
                          refine AWp.regF hV (some []) [0, 1, 2, 7, 8, 10, 11, 13, 58, 59, 60] fun K k143 => ?_
                          simp [c141, c141g]
                          repeat refine And.intro (by first | omega | (simp [*]; done) | grind) ?_
                          refine kcong (s' := ⟨[(0, .d (enc (l : (List Event)))), (1, .d (enc (more : (List Event)))), (2, .d (enc (stand : Int))), (7, .d (enc (z4u7 : Bool))), (8, .d (enc ((knownR l stand).1 : Int))), (10, .row 0), (11, .d (enc ((decide (x122.n = (knownR l stand).1)) : Bool))), (13, .ptr 1 0), (58, .d (enc (l : (List Event)))), (59, .d (enc ((l.length : Int) : Int))), (60, .d (enc (z4u60 : Int)))], [.row 42 14 ((y125u10 : List Event).map enc), .var 42 (cellsT (.d (enc (x122 : Event))))]⟩) (by first | rfl | (simp [c141, c141g]; done) | (simp [c141, c141g]; grind)) (k143 _ ?_)
                          have hx139 := Option.some.inj hx139
                          subst hx139
                          refine k140 _ ?_
                          show Sub _ ⟨[(0, .d (enc (l : (List Event)))), (1, .d (enc (more : (List Event)))), (2, .d (enc (stand : Int))), (7, .d (enc (z4u7 : Bool))), (8, .d (enc ((knownR l stand).1 : Int))), (10, .row 0), (11, .d (enc ((decide (x122.n = (knownR l stand).1)) : Bool))), (13, .ptr 1 0), (58, .d (enc (l : (List Event)))), (59, .d (enc ((l.length : Int) : Int))), (60, .d (enc (z4u60 : Int)))], [.row 42 14 ((y125u10 : List Event).map enc), .var 42 (cellsT (.d (enc (x122 : Event))))]⟩
                          exact Sub.ren [0, 1] (by decide) (by first | rfl | simp [renL, AO.ren, forgetsR, T.ren, idx, Eva.get]) (by first | exact ⟨rfl, rfl, rfl, rfl, rfl, rfl, rfl, rfl, rfl, rfl, rfl, trivial⟩ | (simp [renL, AO.ren, forgetsR, T.ren, idx, Eva.get]; done) | (simp [renL, AO.ren, forgetsR, T.ren, idx, Eva.get]; grind))
                      · intro s' hs
                        refine AWp.sub hs ?_
                        clear hs s'
                        obtain ⟨y144u7, hx145, hg⟩ := bnd_some hg
                        unfold lawKnown_r20 at hx145
                        refine AWp.mid (t := ⟨[(0, .d (enc (l : (List Event)))), (1, .d (enc (more : (List Event)))), (2, .d (enc (stand : Int))), (7, .d (enc (y144u7 : Bool))), (8, .d (enc ((knownR l stand).1 : Int))), (10, .row 0), (11, .d (enc (y138u11 : Bool))), (58, .d (enc (l : (List Event)))), (59, .d (enc ((l.length : Int) : Int))), (60, .d (enc (z4u60 : Int)))], [.row 42 14 ((y125u10 : List Event).map enc)]⟩) (fun _ k146 => ?_) ?_
                        · rcases Bool.eq_false_or_eq_true z4u7 with c147 | c147
                          · replace hx145 := ifb_t c147 hx145
                            have c147g := c147
                            try simp at c147g
                            refine AWp.regF hV (some []) [0, 1, 2, 7, 8, 10, 11, 58, 59, 60] fun K k148 => ?_
                            simp [c147, c147g]
                            repeat refine And.intro (by first | omega | (simp [*]; done) | grind) ?_
                            refine kcong (s' := ⟨[(0, .d (enc (l : (List Event)))), (1, .d (enc (more : (List Event)))), (2, .d (enc (stand : Int))), (7, .d (enc ((decide (x122.n ≤ (knownR l stand).1)) : Bool))), (8, .d (enc ((knownR l stand).1 : Int))), (10, .row 0), (11, .d (enc (y138u11 : Bool))), (58, .d (enc (l : (List Event)))), (59, .d (enc ((l.length : Int) : Int))), (60, .d (enc (z4u60 : Int)))], [.row 42 14 ((y125u10 : List Event).map enc), .var 42 (cellsT (.d (enc (x122 : Event))))]⟩) (by first | rfl | (simp [c147, c147g]; done) | (simp [c147, c147g]; grind)) (k148 _ ?_)
                            have hx145 := Option.some.inj hx145
                            subst hx145
                            refine k146 _ ?_
                            show Sub _ ⟨[(0, .d (enc (l : (List Event)))), (1, .d (enc (more : (List Event)))), (2, .d (enc (stand : Int))), (7, .d (enc ((decide (x122.n ≤ (knownR l stand).1)) : Bool))), (8, .d (enc ((knownR l stand).1 : Int))), (10, .row 0), (11, .d (enc (y138u11 : Bool))), (58, .d (enc (l : (List Event)))), (59, .d (enc ((l.length : Int) : Int))), (60, .d (enc (z4u60 : Int)))], [.row 42 14 ((y125u10 : List Event).map enc)]⟩
                            exact Sub.ren [0] (by decide) (by first | rfl | simp [renL, AO.ren, forgetsR, T.ren, idx, Eva.get]) (by first | exact ⟨rfl, rfl, rfl, rfl, rfl, rfl, rfl, rfl, rfl, rfl, trivial⟩ | (simp [renL, AO.ren, forgetsR, T.ren, idx, Eva.get]; done) | (simp [renL, AO.ren, forgetsR, T.ren, idx, Eva.get]; grind))
                          · replace hx145 := ifb_f c147 hx145
                            have c147g := c147
                            try simp at c147g
                            refine AWp.regF hV (some [90, 91, 92, 93]) [0, 1, 2, 7, 8, 10, 11, 58, 59, 60] fun K k149 => ?_
                            simp [c147, c147g]
                            repeat refine And.intro (by first | omega | (simp [*]; done) | grind) ?_
                            refine kcong (s' := ⟨[(0, .d (enc (l : (List Event)))), (1, .d (enc (more : (List Event)))), (2, .d (enc (stand : Int))), (7, .d (enc (false : Bool))), (8, .d (enc ((knownR l stand).1 : Int))), (10, .row 0), (11, .d (enc (y138u11 : Bool))), (58, .d (enc (l : (List Event)))), (59, .d (enc ((l.length : Int) : Int))), (60, .d (enc (z4u60 : Int)))], [.row 42 14 ((y125u10 : List Event).map enc), .var 42 (cellsT (.d (enc (x122 : Event))))]⟩) (by first | rfl | (simp [c147, c147g]; done) | (simp [c147, c147g]; grind)) (k149 _ ?_)
                            have hx145 := Option.some.inj hx145
                            subst hx145
                            refine k146 _ ?_
                            show Sub _ ⟨[(0, .d (enc (l : (List Event)))), (1, .d (enc (more : (List Event)))), (2, .d (enc (stand : Int))), (7, .d (enc (false : Bool))), (8, .d (enc ((knownR l stand).1 : Int))), (10, .row 0), (11, .d (enc (y138u11 : Bool))), (58, .d (enc (l : (List Event)))), (59, .d (enc ((l.length : Int) : Int))), (60, .d (enc (z4u60 : Int)))], [.row 42 14 ((y125u10 : List Event).map enc)]⟩
                            exact Sub.ren [0] (by decide) (by first | rfl | simp [renL, AO.ren, forgetsR, T.ren, idx, Eva.get]) (by first | exact ⟨rfl, rfl, rfl, rfl, rfl, rfl, rfl, rfl, rfl, rfl, trivial⟩ | (simp [renL, AO.ren, forgetsR, T.ren, idx, Eva.get]; done) | (simp [renL, AO.ren, forgetsR, T.ren, idx, Eva.get]; grind))
                        · refine k121 _ (Exists.intro _ (Exists.intro _ (Exists.intro _ (And.intro hg ?_))))
                          show Sub _ ⟨[(0, .d (enc (l : (List Event)))), (1, .d (enc (more : (List Event)))), (2, .d (enc (stand : Int))), (7, .d (enc (y144u7 : Bool))), (8, .d (enc ((knownR l stand).1 : Int))), (10, .row 0), (11, .d (enc (y138u11 : Bool))), (58, .d (enc (l : (List Event)))), (59, .d (enc ((l.length : Int) : Int))), (60, .d (enc (z4u60 : Int)))], [.row 42 14 ((y125u10 : List Event).map enc)]⟩
                          exact Sub.ren [0] (by decide) (by first | rfl | simp [renL, AO.ren, forgetsR, T.ren, idx, Eva.get]) (by first | exact ⟨rfl, rfl, rfl, rfl, rfl, rfl, rfl, rfl, rfl, rfl, trivial⟩ | (simp [renL, AO.ren, forgetsR, T.ren, idx, Eva.get]; done) | (simp [renL, AO.ren, forgetsR, T.ren, idx, Eva.get]; grind))
                    · replace hg := ifb_f h137 hg
                      refine AWp.skip ?_
                      refine k121 _ (Exists.intro _ (Exists.intro _ (Exists.intro _ (And.intro hg ?_))))
                      show Sub _ ⟨[(0, .d (enc (l : (List Event)))), (1, .d (enc (more : (List Event)))), (2, .d (enc (stand : Int))), (7, .d (enc (z4u7 : Bool))), (8, .d (enc ((knownR l stand).1 : Int))), (10, .row 0), (11, .d (enc (z4u11 : Bool))), (58, .d (enc (l : (List Event)))), (59, .d (enc ((l.length : Int) : Int))), (60, .d (enc (z4u60 : Int)))], [.row 42 14 ((y125u10 : List Event).map enc)]⟩
                      exact Sub.ren [0] (by decide) (by first | rfl | simp [renL, AO.ren, forgetsR, T.ren, idx, Eva.get]) (by first | exact ⟨rfl, rfl, rfl, rfl, rfl, rfl, rfl, rfl, rfl, rfl, trivial⟩ | (simp [renL, AO.ren, forgetsR, T.ren, idx, Eva.get]; done) | (simp [renL, AO.ren, forgetsR, T.ren, idx, Eva.get]; grind))
              · rintro s' ⟨y120u7, y120u10, y120u11, hg, hs⟩
                unfold lawKnown_j16 at hg
                refine AWp.sub hs ?_
                obtain ⟨g150, hg⟩ := grd_some hg
                unfold inI at g150
                refine AWp.regF hV none [0, 1, 2, 7, 8, 10, 11, 58, 59, 60] fun K k151 => ?_
                simp
                repeat refine And.intro (by first | omega | (simp [*]; done) | grind) ?_
                refine kcong (s' := ⟨[(0, .d (enc (l : (List Event)))), (1, .d (enc (more : (List Event)))), (2, .d (enc (stand : Int))), (7, .d (enc (y120u7 : Bool))), (8, .d (enc ((knownR l stand).1 : Int))), (10, .row 0), (11, .d (enc (y120u11 : Bool))), (58, .d (enc (l : (List Event)))), (59, .d (enc ((l.length : Int) : Int))), (60, .d (enc ((z4u60 + 1) : Int)))], [.row 42 14 ((y120u10 : List Event).map enc)]⟩) (by first | rfl | (simp []; done) | (simp []; grind)) (k151 _ ?_)
                refine k39 _ _ (Option.some.inj hg).symm ?_
                show Sub _ ⟨[(0, .d (enc (l : (List Event)))), (1, .d (enc (more : (List Event)))), (2, .d (enc (stand : Int))), (7, .d (enc (y120u7 : Bool))), (8, .d (enc ((knownR l stand).1 : Int))), (10, .row 0), (11, .d (enc (y120u11 : Bool))), (58, .d (enc (l : (List Event)))), (59, .d (enc ((l.length : Int) : Int))), (60, .d (enc ((z4u60 + 1) : Int)))], [.row 42 14 ((y120u10 : List Event).map enc)]⟩
                exact Sub.ren [0] (by decide) (by first | rfl | simp [renL, AO.ren, forgetsR, T.ren, idx, Eva.get]) (by first | exact ⟨rfl, rfl, rfl, rfl, rfl, rfl, rfl, rfl, rfl, rfl, trivial⟩ | (simp [renL, AO.ren, forgetsR, T.ren, idx, Eva.get]; done) | (simp [renL, AO.ren, forgetsR, T.ren, idx, Eva.get]; grind))
            · replace hg := ifb_f h119 hg
              refine AWp.exit ?_
              have e152 := hx114 _ (Option.some.inj hg).symm
              subst e152
              have hg := hq116
              try dsimp only at hg
              refine k37 _ (Exists.intro _ (Exists.intro _ (Exists.intro _ (And.intro hg ?_))))
              show Sub _ ⟨[(0, .d (enc (l : (List Event)))), (1, .d (enc (more : (List Event)))), (2, .d (enc (stand : Int))), (7, .d (enc (z4u7 : Bool))), (8, .d (enc ((knownR l stand).1 : Int))), (10, .row 0), (11, .d (enc (z4u11 : Bool)))], [.row 42 14 ((z4u10 : List Event).map enc)]⟩
              exact Sub.ren [0] (by decide) (by first | rfl | simp [renL, AO.ren, forgetsR, T.ren, idx, Eva.get]) (by first | exact ⟨rfl, rfl, rfl, rfl, rfl, rfl, rfl, trivial⟩ | (simp [renL, AO.ren, forgetsR, T.ren, idx, Eva.get]; done) | (simp [renL, AO.ren, forgetsR, T.ren, idx, Eva.get]; grind))
          · rintro s' ⟨y36u7, y36u10, y36u11, hg, hs⟩
            unfold lawKnown_j3 at hg
            refine AWp.sub hs ?_
            obtain ⟨g154, hg⟩ := grd_some hg
            refine AWp.rS hV none [0, 1, 2, 7, 8, 11, 14, 15] fun K k155 => ?_
            simp [sp19]
            repeat refine And.intro (by first | omega | (simp [*]; done) | grind) ?_
            refine kcong (s' := ⟨[(0, .d (enc (l : (List Event)))), (1, .d (enc (more : (List Event)))), (2, .d (enc (stand : Int))), (7, .d (enc (y36u7 : Bool))), (8, .d (enc ((knownR l stand).1 : Int))), (11, .d (enc (y36u11 : Bool))), (14, .d (enc ((knownR y36u10 stand).1 : Int))), (15, .d (enc ((knownR y36u10 stand).2 : Int)))], [.frow 42 14 ((y36u10 : List Event).map enc)]⟩) (by first | rfl | (simp [sp19]; done) | (simp [sp19]; grind)) (k155 _ ?_)
            obtain ⟨⟨x156, x157⟩, h158, hg⟩ := bnd_some hg
            try dsimp only at hg
            have h158g := h158
            try simp at h158g
            refine AWp.rS hV none [2, 7, 8, 11, 14, 15, 16, 17] fun K k159 => ?_
            simp [sp11, h158, h158g]
            repeat refine And.intro (by first | omega | (simp [*]; done) | grind) ?_
            refine kcong (s' := ⟨[(2, .d (enc (stand : Int))), (7, .d (enc (y36u7 : Bool))), (8, .d (enc ((knownR l stand).1 : Int))), (11, .d (enc (y36u11 : Bool))), (14, .d (enc ((knownR y36u10 stand).1 : Int))), (15, .d (enc ((knownR y36u10 stand).2 : Int))), (16, .d (enc (x156 : (List Event)))), (17, .d (enc (x157 : Int)))], [.frow 42 14 ((y36u10 : List Event).map enc)]⟩) (by first | rfl | (simp [sp11, h158, h158g]; done) | (simp [sp11, h158, h158g]; grind)) (k159 _ ?_)
            refine AWp.seqG fun _ k160 => ?_
            obtain ⟨y161u118, hx162, hg⟩ := bnd_some hg
            unfold lawKnown_r21 at hx162
            refine AWp.seqJ (fun s' => Sub s' ⟨[(2, .d (enc (stand : Int))), (7, .d (enc (y36u7 : Bool))), (8, .d (enc ((knownR l stand).1 : Int))), (16, .d (enc (x156 : (List Event)))), (17, .d (enc (x157 : Int))), (118, .d (enc (y161u118 : Bool)))], []⟩) (fun _ k163 => ?_) ?_
            · rcases Bool.eq_false_or_eq_true (!decide ((knownR y36u10 stand).2 = 0)) with c164 | c164
              · replace hx162 := ifb_t c164 hx162
                have c164g := c164
                try simp at c164g
                refine AWp.regF hV (some [111, 112, 113, 116, 117]) [2, 7, 8, 16, 17, 118] fun K k165 => ?_
                simp [c164, c164g]
                repeat refine And.intro (by first | omega | (simp [*]; done) | grind) ?_
                refine kcong (s' := ⟨[(2, .d (enc (stand : Int))), (7, .d (enc (y36u7 : Bool))), (8, .d (enc ((knownR l stand).1 : Int))), (16, .d (enc (x156 : (List Event)))), (17, .d (enc (x157 : Int))), (118, .d (enc (true : Bool)))], [.frow 42 14 ((y36u10 : List Event).map enc)]⟩) (by first | rfl | (simp [c164, c164g]; done) | (simp [c164, c164g]; grind)) (k165 _ ?_)
                have hx162 := Option.some.inj hx162
                subst hx162
                refine k163 _ ?_
                show Sub _ ⟨[(2, .d (enc (stand : Int))), (7, .d (enc (y36u7 : Bool))), (8, .d (enc ((knownR l stand).1 : Int))), (16, .d (enc (x156 : (List Event)))), (17, .d (enc (x157 : Int))), (118, .d (enc (true : Bool)))], []⟩
                exact Sub.ren [] (by decide) (by first | rfl | simp [renL, AO.ren, forgetsR, T.ren, idx, Eva.get]) (by first | exact ⟨rfl, rfl, rfl, rfl, rfl, rfl, trivial⟩ | (simp [renL, AO.ren, forgetsR, T.ren, idx, Eva.get]; done) | (simp [renL, AO.ren, forgetsR, T.ren, idx, Eva.get]; grind))
              · replace hx162 := ifb_f c164 hx162
                have c164g := c164
                try simp at c164g
                rcases Bool.eq_false_or_eq_true (!decide ((knownR y36u10 stand).1 = (knownR l stand).1)) with c166 | c166
                · replace hx162 := ifb_t c166 hx162
                  have c166g := c166
                  try simp at c166g
                  refine AWp.regF hV (some [116, 117]) [2, 7, 8, 16, 17, 118] fun K k167 => ?_
                  simp [c164, c164g, c166, c166g]
                  repeat refine And.intro (by first | omega | (simp [*]; done) | grind) ?_
                  refine kcong (s' := ⟨[(2, .d (enc (stand : Int))), (7, .d (enc (y36u7 : Bool))), (8, .d (enc ((knownR l stand).1 : Int))), (16, .d (enc (x156 : (List Event)))), (17, .d (enc (x157 : Int))), (118, .d (enc (true : Bool)))], [.frow 42 14 ((y36u10 : List Event).map enc)]⟩) (by first | rfl | (simp [c164, c164g, c166, c166g]; done) | (simp [c164, c164g, c166, c166g]; grind)) (k167 _ ?_)
                  have hx162 := Option.some.inj hx162
                  subst hx162
                  refine k163 _ ?_
                  show Sub _ ⟨[(2, .d (enc (stand : Int))), (7, .d (enc (y36u7 : Bool))), (8, .d (enc ((knownR l stand).1 : Int))), (16, .d (enc (x156 : (List Event)))), (17, .d (enc (x157 : Int))), (118, .d (enc (true : Bool)))], []⟩
                  exact Sub.ren [] (by decide) (by first | rfl | simp [renL, AO.ren, forgetsR, T.ren, idx, Eva.get]) (by first | exact ⟨rfl, rfl, rfl, rfl, rfl, rfl, trivial⟩ | (simp [renL, AO.ren, forgetsR, T.ren, idx, Eva.get]; done) | (simp [renL, AO.ren, forgetsR, T.ren, idx, Eva.get]; grind))
                · replace hx162 := ifb_f c166 hx162
                  have c166g := c166
                  try simp at c166g
                  refine AWp.regF hV (some []) [2, 7, 8, 16, 17, 118] fun K k168 => ?_
                  simp [c164, c164g, c166, c166g]
                  repeat refine And.intro (by first | omega | (simp [*]; done) | grind) ?_
                  refine kcong (s' := ⟨[(2, .d (enc (stand : Int))), (7, .d (enc (y36u7 : Bool))), (8, .d (enc ((knownR l stand).1 : Int))), (16, .d (enc (x156 : (List Event)))), (17, .d (enc (x157 : Int))), (118, .d (enc ((!y36u11) : Bool)))], [.frow 42 14 ((y36u10 : List Event).map enc)]⟩) (by first | rfl | (simp [c164, c164g, c166, c166g]; done) | (simp [c164, c164g, c166, c166g]; grind)) (k168 _ ?_)
                  have hx162 := Option.some.inj hx162
                  subst hx162
                  refine k163 _ ?_
                  show Sub _ ⟨[(2, .d (enc (stand : Int))), (7, .d (enc (y36u7 : Bool))), (8, .d (enc ((knownR l stand).1 : Int))), (16, .d (enc (x156 : (List Event)))), (17, .d (enc (x157 : Int))), (118, .d (enc ((!y36u11) : Bool)))], []⟩
                  exact Sub.ren [] (by decide) (by first | rfl | simp [renL, AO.ren, forgetsR, T.ren, idx, Eva.get]) (by first | exact ⟨rfl, rfl, rfl, rfl, rfl, rfl, trivial⟩ | (simp [renL, AO.ren, forgetsR, T.ren, idx, Eva.get]; done) | (simp [renL, AO.ren, forgetsR, T.ren, idx, Eva.get]; grind))
            · intro s' hs
              refine AWp.sub hs ?_
              clear hs s'
              refine AWp.cond (b := y161u118) rfl (fun h169 => ?_) fun h169 => ?_
              · replace hg := ifb_t h169 hg
                refine AWp.rS hV none [6] fun K k170 => ?_
                simp
                repeat refine And.intro (by first | omega | (simp [*]; done) | grind) ?_
                refine kcong (s' := ⟨[(6, .d (enc (false : Bool)))], []⟩) (by first | rfl | (simp []; done) | (simp []; grind)) (k170 _ ?_)
                refine AWp.ret ?_
                refine hQ _ _ (.inl rfl) ?_
                have hg := Option.some.inj hg
                subst hg
                first | (simp [retOk, resT, loadAs]; done) | (simp [retOk, resT, loadAs]; grind)
              · replace hg := ifb_f h169 hg
                refine AWp.skip ?_
                refine k160 _ ?_
                refine AWp.seqG fun _ k171 => ?_
                refine AWp.rS hV none [2, 7, 8, 16, 17, 120] fun K k172 => ?_
                simp
                repeat refine And.intro (by first | omega | (simp [*]; done) | grind) ?_
                refine kcong (s' := ⟨[(2, .d (enc (stand : Int))), (7, .d (enc (y36u7 : Bool))), (8, .d (enc ((knownR l stand).1 : Int))), (16, .d (enc (x156 : (List Event)))), (17, .d (enc (x157 : Int))), (120, .d (enc ((!decide (x157 = 0)) : Bool)))], []⟩) (by first | rfl | (simp []; done) | (simp []; grind)) (k172 _ ?_)
                refine AWp.cond (b := (!decide (x157 = 0))) rfl (fun h173 => ?_) fun h173 => ?_
                · replace hg := ifb_t h173 hg
                  obtain ⟨y174u6, hx175, hg⟩ := bnd_some hg
                  unfold lawKnown_r22 at hx175
                  refine AWp.seqJ (fun s' => Sub s' ⟨[(6, .d (enc (y174u6 : Bool)))], []⟩) (fun _ k176 => ?_) ?_
                  · rcases Bool.eq_false_or_eq_true y36u7 with c177 | c177
                    · replace hx175 := ifb_t c177 hx175
                      have c177g := c177
                      try simp at c177g
                      refine AWp.regF hV (some []) [6] fun K k178 => ?_
                      simp [c177, c177g]
                      repeat refine And.intro (by first | omega | (simp [*]; done) | grind) ?_
                      refine kcong (s' := ⟨[(6, .d (enc ((decide (x157 = 61)) : Bool)))], []⟩) (by first | rfl | (simp [c177, c177g]; done) | (simp [c177, c177g]; grind)) (k178 _ ?_)
                      have hx175 := Option.some.inj hx175
                      subst hx175
                      refine k176 _ ?_
                      show Sub _ ⟨[(6, .d (enc ((decide (x157 = 61)) : Bool)))], []⟩
                      exact Sub.ren [] (by decide) (by first | rfl | simp [renL, AO.ren, forgetsR, T.ren, idx, Eva.get]) (by first | exact ⟨rfl, trivial⟩ | (simp [renL, AO.ren, forgetsR, T.ren, idx, Eva.get]; done) | (simp [renL, AO.ren, forgetsR, T.ren, idx, Eva.get]; grind))
                    · replace hx175 := ifb_f c177 hx175
                      have c177g := c177
                      try simp at c177g
                      refine AWp.regF hV (some [123, 124]) [6] fun K k179 => ?_
                      simp [c177, c177g]
                      repeat refine And.intro (by first | omega | (simp [*]; done) | grind) ?_
                      refine kcong (s' := ⟨[(6, .d (enc (false : Bool)))], []⟩) (by first | rfl | (simp [c177, c177g]; done) | (simp [c177, c177g]; grind)) (k179 _ ?_)
                      have hx175 := Option.some.inj hx175
                      subst hx175
                      refine k176 _ ?_
                      show Sub _ ⟨[(6, .d (enc (false : Bool)))], []⟩
                      exact Sub.ren [] (by decide) (by first | rfl | simp [renL, AO.ren, forgetsR, T.ren, idx, Eva.get]) (by first | exact ⟨rfl, trivial⟩ | (simp [renL, AO.ren, forgetsR, T.ren, idx, Eva.get]; done) | (simp [renL, AO.ren, forgetsR, T.ren, idx, Eva.get]; grind))
                  · intro s' hs
                    refine AWp.sub hs ?_
                    clear hs s'
                    refine AWp.ret ?_
                    refine hQ _ _ (.inl rfl) ?_
                    have hg := Option.some.inj hg
                    subst hg
                    first | (simp [retOk, resT, loadAs]; done) | (simp [retOk, resT, loadAs]; grind)
                · replace hg := ifb_f h173 hg
                  refine AWp.skip ?_
                  refine k171 _ ?_
                  obtain ⟨g180, hg⟩ := grd_some hg
                  refine AWp.rS hV none [7, 8, 18, 19] fun K k181 => ?_
                  simp [sp19]
                  repeat refine And.intro (by first | omega | (simp [*]; done) | grind) ?_
                  refine kcong (s' := ⟨[(7, .d (enc (y36u7 : Bool))), (8, .d (enc ((knownR l stand).1 : Int))), (18, .d (enc ((knownR x156 stand).1 : Int))), (19, .d (enc ((knownR x156 stand).2 : Int)))], []⟩) (by first | rfl | (simp [sp19]; done) | (simp [sp19]; grind)) (k181 _ ?_)
                  obtain ⟨y182u6, hx183, hg⟩ := bnd_some hg
                  unfold lawKnown_r23 at hx183
                  refine AWp.seqJ (fun s' => Sub s' ⟨[(6, .d (enc (y182u6 : Bool)))], []⟩) (fun _ k184 => ?_) ?_
                  · rcases Bool.eq_false_or_eq_true y36u7 with c185 | c185
                    · replace hx183 := ifb_t c185 hx183
                      have c185g := c185
                      try simp at c185g
                      rcases Bool.eq_false_or_eq_true (decide ((knownR x156 stand).2 = 0)) with c186 | c186
                      · replace hx183 := ifb_t c186 hx183
                        have c186g := c186
                        try simp at c186g
                        refine AWp.regF hV (some []) [6] fun K k187 => ?_
                        simp [c185, c185g, c186, c186g]
                        repeat refine And.intro (by first | omega | (simp [*]; done) | grind) ?_
                        refine kcong (s' := ⟨[(6, .d (enc ((decide ((knownR l stand).1 ≤ (knownR x156 stand).1)) : Bool)))], []⟩) (by first | rfl | (simp [c185, c185g, c186, c186g]; done) | (simp [c185, c185g, c186, c186g]; grind)) (k187 _ ?_)
                        have hx183 := Option.some.inj hx183
                        subst hx183
                        refine k184 _ ?_
                        show Sub _ ⟨[(6, .d (enc ((decide ((knownR l stand).1 ≤ (knownR x156 stand).1)) : Bool)))], []⟩
                        exact Sub.ren [] (by decide) (by first | rfl | simp [renL, AO.ren, forgetsR, T.ren, idx, Eva.get]) (by first | exact ⟨rfl, trivial⟩ | (simp [renL, AO.ren, forgetsR, T.ren, idx, Eva.get]; done) | (simp [renL, AO.ren, forgetsR, T.ren, idx, Eva.get]; grind))
                      · replace hx183 := ifb_f c186 hx183
                        have c186g := c186
                        try simp at c186g
                        refine AWp.regF hV (some [138, 139, 140]) [6] fun K k188 => ?_
                        simp [c185, c185g, c186, c186g]
                        repeat refine And.intro (by first | omega | (simp [*]; done) | grind) ?_
                        refine kcong (s' := ⟨[(6, .d (enc (false : Bool)))], []⟩) (by first | rfl | (simp [c185, c185g, c186, c186g]; done) | (simp [c185, c185g, c186, c186g]; grind)) (k188 _ ?_)
                        have hx183 := Option.some.inj hx183
                        subst hx183
                        refine k184 _ ?_
                        show Sub _ ⟨[(6, .d (enc (false : Bool)))], []⟩
                        exact Sub.ren [] (by decide) (by first | rfl | simp [renL, AO.ren, forgetsR, T.ren, idx, Eva.get]) (by first | exact ⟨rfl, trivial⟩ | (simp [renL, AO.ren, forgetsR, T.ren, idx, Eva.get]; done) | (simp [renL, AO.ren, forgetsR, T.ren, idx, Eva.get]; grind))
                    · replace hx183 := ifb_f c185 hx183
                      have c185g := c185
                      try simp at c185g
                      refine AWp.regF hV (some [134, 135, 138, 139, 140]) [6] fun K k189 => ?_
                      simp [c185, c185g]
                      repeat refine And.intro (by first | omega | (simp [*]; done) | grind) ?_
                      refine kcong (s' := ⟨[(6, .d (enc (false : Bool)))], []⟩) (by first | rfl | (simp [c185, c185g]; done) | (simp [c185, c185g]; grind)) (k189 _ ?_)
                      have hx183 := Option.some.inj hx183
                      subst hx183
                      refine k184 _ ?_
                      show Sub _ ⟨[(6, .d (enc (false : Bool)))], []⟩
                      exact Sub.ren [] (by decide) (by first | rfl | simp [renL, AO.ren, forgetsR, T.ren, idx, Eva.get]) (by first | exact ⟨rfl, trivial⟩ | (simp [renL, AO.ren, forgetsR, T.ren, idx, Eva.get]; done) | (simp [renL, AO.ren, forgetsR, T.ren, idx, Eva.get]; grind))
                  · intro s' hs
                    refine AWp.sub hs ?_
                    clear hs s'
                    refine AWp.ret ?_
                    refine hQ _ _ (.inl rfl) ?_
                    have hg := Option.some.inj hg
                    subst hg
                    first | (simp [retOk, resT, loadAs]; done) | (simp [retOk, resT, loadAs]; grind)
end Go.Proofs.Ytpbhcpeilgmkeaa

/-
  Plain laws, part 1: loops over lists; the reference's Marks; the program's Marks.
-/
namespace Go.Eva
open Go
/-- A loop that runs once for each element, by position. -/
theorem forO {σ ρ α Z : Type} (mk : σ → Int → Z) (step : Z → Option (Z ⊕ ρ)) (l : List α) (f : σ → α → σ) (a0 : σ) (Inv : Nat → σ → Prop) (fin : ρ)
    (h1 : ∀ i a x, l[i]? = some x → Inv i a → step (mk a i) = some (.inl (mk (f a x) ((i : Int) + 1))) ∧ Inv (i + 1) (f a x))
    (h2 : ∀ a, Inv l.length a → a = l.foldl f a0 → step (mk a l.length) = some (.inr fin)) (h0 : Inv 0 a0) : loopO step (mk a0 0) = some fin := by
  have key : ∀ n i, i + n = l.length → Inv i ((l.take i).foldl f a0) → loopO step (mk ((l.take i).foldl f a0) i) = some fin := by
    intro n
    induction n with
    | zero =>
      intro i hi hI
      have : i = l.length := by omega
      subst this
      rw [List.take_of_length_le (Nat.le_refl _)] at hI ⊢
      exact loopO_inr (h2 _ hI rfl)
    | succ n ih =>
      intro i hi hI
      have hx : l[i]? = some l[i] := List.getElem?_eq_getElem (by omega)
      obtain ⟨e1, e2⟩ := h1 i _ _ hx hI
      rw [loopO_inl e1]
      have ht : (l.take (i + 1)).foldl f a0 = f ((l.take i).foldl f a0) l[i] := by
        rw [List.take_add_one, hx, List.foldl_append]; rfl
      rw [← ht] at e2 ⊢
      exact ih (i + 1) (by omega) e2
  simpa using key l.length 0 (by omega) (by simpa using h0)
theorem at_nat {α : Type} {l : List α} {i : Nat} {x : α} (h : l[i]? = some x) : at? l (i : Int) = some x := by
  simp [at?, h]
theorem lt_of_get {α : Type} {l : List α} {i : Nat} {x : α} (h : l[i]? = some x) : i < l.length := (List.getElem?_eq_some_iff.1 h).1
theorem ifbT {β : Type} {c : Bool} {a b : Option β} (h : c = true) : ifb c a b = a := by subst h; rfl
theorem ifbF {β : Type} {c : Bool} {a b : Option β} (h : c = false) : ifb c a b = b := by subst h; rfl
end Go.Eva
namespace Go.Proofs.Ytpbhcpeilgmkeaa
open Go Go.Eva

theorem rInner (out : List Mark) (x : Event) (hl : out.length ≤ 1000000000) : ∀ z : Nat, z ≤ out.length → loopO (rMarks_s29 out x) (z : Int) = some ((mFrom (about x) out z : Nat) : Int)
  | 0, _ => by
    apply loopO_inr
    simp [rMarks_s29, rMarks_r30, mFrom, ifb, bnd]
  | z + 1, hz => by
    have hq : out[z]? = some out[z] := List.getElem?_eq_getElem (by omega)
    have ih := rInner out x hl z (by omega)
    have hr : rMarks_r30 out x ((z + 1 : Nat) : Int) = some (decide (about x ≤ out[z].id)) := by
      unfold rMarks_r30
      refine (ifbT (decide_eq_true (by omega))).trans ?_
      refine (grd_eq (by unfold inI; omega)).trans ?_
      rw [show ((z + 1 : Nat) : Int) - 1 = (z : Nat) by omega]
      exact bnd_eq (at_nat hq)
    by_cases hc : about x ≤ out[z].id
    · rw [loopO_inl (z' := (z : Int)), ih]
      · simp [mFrom, hq, hc]
      · unfold rMarks_s29
        refine (bnd_eq hr).trans ?_
        refine (ifbT (decide_eq_true hc)).trans ?_
        refine (grd_eq (by unfold inI; omega)).trans ?_
        rw [show ((z + 1 : Nat) : Int) - 1 = (z : Nat) by omega]
    · refine loopO_inr ?_
      unfold rMarks_s29
      refine (bnd_eq hr).trans ?_
      refine (ifbF (decide_eq_false hc)).trans ?_
      simp [mFrom, hq, hc]
theorem mFrom_le (id : Int) (out : List Mark) : ∀ z, mFrom id out z ≤ z
  | 0 => Nat.le_refl _
  | z + 1 => by
    have := mFrom_le id out z
    unfold mFrom
    split
    · split <;> omega
    · omega
def headIs (id : Int) : List Mark → Bool
  | [] => false
  | m :: _ => decide (m.id = id)
theorem rStep (l : List Event) (out : List Mark) (i : Nat) (x : Event) (hl : l.length ≤ 1000000000) (hx : l[i]? = some x) (ho : out.length ≤ i) :
    rMarks_s23 l (out, (i : Int)) = some (.inl (markStep out x, (i : Int) + 1)) := by
  have hi := lt_of_get hx
  have hj : ∀ o, rMarks_j24 (i : Int) o = some (.inl (o, (i : Int) + 1)) := fun o => by
    unfold rMarks_j24
    exact grd_eq (by unfold inI; omega)
  unfold rMarks_s23
  refine (ifbT (decide_eq_true (by omega))).trans ?_
  refine (bnd_eq (at_nat hx)).trans ?_
  by_cases ha : about x = 0
  · refine (ifbT (decide_eq_true ha)).trans ?_
    rw [hj]
    simp [markStep, ha]
  refine (ifbF (decide_eq_false ha)).trans ?_
  refine (bnd_eq (rInner out x (by omega) out.length (Nat.le_refl _))).trans ?_
  have hm := mFrom_le (about x) out out.length
  unfold markStep
  rw [if_neg ha]
  generalize mFrom (about x) out out.length = y at hm
  have hlen : ∀ (a b c : List Mark), a.length ≤ 1000000000 → b.length ≤ 1 → (a ++ b).length * 88 ≤ 140737488355328 := fun a b c h1 h2 => by simp; omega
  have h33 : ∀ (b c : List Mark), b.length ≤ 1000000001 → c.length ≤ 1000000000 → rMarks_j33 (i : Int) c b = some (.inl (b ++ c, (i : Int) + 1)) := fun b c h1 h2 => by
    unfold rMarks_j33
    exact (grd_eq (by simp; omega)).trans (hj _)
  have h31 : ∀ c : List Mark, c.length ≤ 1000000000 → rMarks_j31 l out (i : Int) (y : Int) c = some (.inl (out.take y ++ (if x.kind = 1 then [x.mark] else []) ++ c, (i : Int) + 1)) := fun c hc => by
    unfold rMarks_j31
    refine (grd_eq (by omega)).trans ?_
    simp only [Int.toNat_natCast]
    refine (grd_eq (by rw [List.length_take]; omega)).trans ?_
    refine (bnd_eq (at_nat hx)).trans ?_
    by_cases hk : x.kind = 1
    · refine (ifbT (decide_eq_true hk)).trans ?_
      refine (bnd_eq (at_nat hx)).trans ?_
      refine (grd_eq (by rw [List.length_append, List.length_take]; simp; omega)).trans ?_
      rw [h33 _ _ (by rw [List.length_append, List.length_take]; simp; omega) hc, if_pos hk]
    · refine (ifbF (decide_eq_false hk)).trans ?_
      rw [h33 _ _ (by rw [List.length_take]; omega) hc, if_neg hk]; simp
  unfold rMarks_j25
  refine (grd_eq (by omega)).trans ?_
  have h32 : rMarks_r32 out x (y : Int) = some (headIs (about x) (out.drop y)) := by
    unfold rMarks_r32
    show _ = some (headIs _ (out.drop (Int.toNat (y : Int))))
    generalize out.drop (Int.toNat (y : Int)) = dd
    cases dd with
    | nil => exact ifbF (by simp)
    | cons m r =>
      refine (ifbT (by simp)).trans ?_
      exact bnd_eq (at_nat (i := 0) (x := m) rfl)
  refine (bnd_eq h32).trans ?_
  have hdl : (out.drop y).length ≤ 1000000000 := by rw [List.length_drop]; omega
  change (out.drop (Int.toNat (y : Int))).length ≤ _ at hdl
  show _ = some (Sum.inl (_ ++ restOf _ (out.drop (Int.toNat (y : Int))), _))
  rw [show headIs (about x) (out.drop y) = headIs (about x) (out.drop (Int.toNat (y : Int))) from rfl]
  generalize out.drop (Int.toNat (y : Int)) = dd at hdl
  cases dd with
  | nil =>
    exact (ifbF rfl).trans (h31 [] hdl)
  | cons m r =>
    simp only [List.length_cons] at hdl
    by_cases hid : m.id = about x
    · refine (ifbT (decide_eq_true hid)).trans ?_
      refine (grd_eq (by simp; omega)).trans ?_
      rw [show List.drop (1 : Int).toNat (m :: r) = r from rfl, h31 r (by omega)]
      simp [restOf, hid]
    · refine (ifbF (decide_eq_false hid)).trans ?_
      rw [h31 (m :: r) hdl]
      simp [restOf, hid]
theorem rMarks_eq (l : List Event) (hl : l.length ≤ 1000000000) : rMarks l = some (marksR l) := by
  unfold rMarks marksR
  refine (grd_eq hl).trans ?_
  cases hv : validE l with
  | false => rfl
  | true =>
    refine (ifbF rfl).trans ?_
    refine (bnd_eq (x := marksOf l) (forO (fun a i => (a, i)) (rMarks_s23 l) l markStep [] (fun i a => a.length ≤ i) _ (fun i a x hx hI => ⟨rStep l a i x hl hx hI, ?_⟩) (fun a _ ha => ?_) (Nat.le_refl _))).trans rfl
    · have := markStep_length a x; omega
    · subst ha
      unfold rMarks_s23
      exact (ifbF (decide_eq_false (by omega))).trans rfl
end Go.Proofs.Ytpbhcpeilgmkeaa

/-
  Plain laws, part 2: maps of Lean's own data; the program's Marks is the reference's.
-/
namespace Go.Eva
open Go
section
variable {α : Type}
theorem midx_cons (n : Int) (p : Int × α) (m : List (Int × α)) : midx n (p :: m) = if n = p.1 then some 0 else (midx n m).map (· + 1) := by
  unfold midx
  rw [List.findIdx?_cons]
  by_cases h : n = p.1 <;> simp [h]
theorem mput_nil (n : Int) (v : α) : mput [] n v = [(n, v)] := rfl
theorem mput_cons (n : Int) (v : α) (p : Int × α) (m : List (Int × α)) : mput (p :: m) n v = if n = p.1 then (n, v) :: m else p :: mput m n v := by
  unfold mput
  rw [midx_cons]
  by_cases h : n = p.1
  · rw [if_pos h, if_pos h]; rfl
  · rw [if_neg h, if_neg h]
    cases midx n m <;> simp
theorem mdel_nil (n : Int) : mdel ([] : List (Int × α)) n = [] := rfl
theorem mdel_cons (n : Int) (p : Int × α) (m : List (Int × α)) : mdel (p :: m) n = if n = p.1 then m else p :: mdel m n := by
  unfold mdel
  rw [midx_cons]
  by_cases h : n = p.1
  · rw [if_pos h, if_pos h]; rfl
  · rw [if_neg h, if_neg h]
    cases midx n m <;> simp
theorem mgetD_cons (n : Int) (z : α) (p : Int × α) (m : List (Int × α)) : mgetD (p :: m) n z = if n = p.1 then p.2 else mgetD m n z := by
  unfold mgetD
  rw [midx_cons]
  by_cases h : n = p.1
  · rw [if_pos h, if_pos h]; rfl
  · rw [if_neg h, if_neg h]
    cases midx n m <;> simp
theorem mem_mput (n : Int) (v : α) : ∀ (m : List (Int × α)) (hn : (mkeys m).Nodup) (k : Int) (u : α), (k, u) ∈ mput m n v ↔ (k = n ∧ u = v) ∨ (k ≠ n ∧ (k, u) ∈ m)
  | [], _, k, u => by simp [mput_nil]
  | (a, b) :: m, hn, k, u => by
    simp only [mkeys, List.map_cons, List.nodup_cons] at hn
    have ih := mem_mput n v m hn.2 k u
    have hb : ∀ u, (a, u) ∈ m → False := fun u hu => hn.1 (List.mem_map.2 ⟨_, hu, rfl⟩)
    rw [mput_cons]
    by_cases h : n = a
    · subst h
      simp only [if_true, List.mem_cons, Prod.mk.injEq]
      constructor
      · rintro (h1 | h1)
        · exact .inl h1
        · exact .inr ⟨fun e => hb u (e ▸ h1), .inr h1⟩
      · rintro (h1 | ⟨h1, h2 | h2⟩)
        · exact .inl h1
        · exact absurd h2.1 h1
        · exact .inr h2
    · simp only [if_neg h, List.mem_cons, Prod.mk.injEq, ih]
      constructor
      · rintro (h1 | h1 | h1)
        · exact .inr ⟨by rw [h1.1]; exact Ne.symm h, .inl h1⟩
        · exact .inl h1
        · exact .inr ⟨h1.1, .inr h1.2⟩
      · rintro (h1 | ⟨h1, h2 | h2⟩)
        · exact .inr (.inl h1)
        · exact .inl h2
        · exact .inr (.inr ⟨h1, h2⟩)
theorem keys_mput (n : Int) (v : α) : ∀ (m : List (Int × α)), (mkeys m).Nodup → (mkeys (mput m n v)).Nodup ∧ ∀ k, k ∈ mkeys (mput m n v) ↔ k = n ∨ k ∈ mkeys m
  | [], _ => by simp [mput_nil, mkeys]
  | (a, b) :: m, hn => by
    have hn' := hn
    simp only [mkeys, List.map_cons, List.nodup_cons] at hn
    obtain ⟨h1, h2⟩ := keys_mput n v m hn.2
    rw [mput_cons]
    by_cases h : n = a
    · subst h
      simp only [if_true]
      refine ⟨by simpa [mkeys] using hn', fun k => by simp [mkeys]⟩
    · simp only [if_neg h]
      refine ⟨?_, fun k => ?_⟩
      · simp only [mkeys, List.map_cons, List.nodup_cons]
        refine ⟨fun hm => ?_, h1⟩
        rcases (h2 a).1 hm with h3 | h3
        · exact h h3.symm
        · exact hn.1 h3
      · simp only [mkeys, List.map_cons, List.mem_cons]
        have := h2 k
        simp only [mkeys] at this
        rw [this]
        constructor
        · rintro (h3 | h3 | h3)
          · exact .inr (.inl h3)
          · exact .inl h3
          · exact .inr (.inr h3)
        · rintro (h3 | h3 | h3)
          · exact .inr (.inl h3)
          · exact .inl h3
          · exact .inr (.inr h3)
theorem mdel_sub (n : Int) : ∀ (m : List (Int × α)), (mdel m n).Sublist m
  | [] => by simp [mdel_nil]
  | p :: m => by
    rw [mdel_cons]
    split
    · exact List.sublist_cons_self _ _
    · exact (mdel_sub n m).cons_cons p
theorem mem_mdel (n : Int) : ∀ (m : List (Int × α)) (hn : (mkeys m).Nodup) (k : Int) (u : α), (k, u) ∈ mdel m n ↔ k ≠ n ∧ (k, u) ∈ m
  | [], _, k, u => by simp [mdel_nil]
  | (a, b) :: m, hn, k, u => by
    simp only [mkeys, List.map_cons, List.nodup_cons] at hn
    have ih := mem_mdel n m hn.2 k u
    have hb : ∀ u, (a, u) ∈ m → False := fun u hu => hn.1 (List.mem_map.2 ⟨_, hu, rfl⟩)
    rw [mdel_cons]
    by_cases h : n = a
    · subst h
      simp only [if_true, List.mem_cons, Prod.mk.injEq]
      constructor
      · exact fun h1 => ⟨fun e => hb u (e ▸ h1), .inr h1⟩
      · rintro ⟨h1, h2 | h2⟩
        · exact absurd h2.1 h1
        · exact h2
    · simp only [if_neg h, List.mem_cons, Prod.mk.injEq, ih]
      constructor
      · rintro (h1 | h1)
        · exact ⟨by rw [h1.1]; exact Ne.symm h, .inl h1⟩
        · exact ⟨h1.1, .inr h1.2⟩
      · rintro ⟨h1, h2 | h2⟩
        · exact .inl h2
        · exact .inr ⟨h1, h2⟩
theorem mgetD_mem (z : α) : ∀ (m : List (Int × α)) (hn : (mkeys m).Nodup) (k : Int) (u : α), (k, u) ∈ m → mgetD m k z = u
  | [], _, k, u, h => by cases h
  | (a, b) :: m, hn, k, u, h => by
    simp only [mkeys, List.map_cons, List.nodup_cons] at hn
    rw [mgetD_cons]
    rcases List.mem_cons.1 h with h1 | h1
    · cases h1; simp
    · have : k ≠ a := fun e => hn.1 (List.mem_map.2 ⟨_, h1, e⟩)
      rw [if_neg this]
      exact mgetD_mem z m hn.2 k u h1
end
end Go.Eva
namespace Go.Proofs.Ytpbhcpeilgmkeaa
open Go Go.Eva

/-- Marks in order, none twice. -/
def inOrder (out : List Mark) : Prop := out.Pairwise fun a b => a.id < b.id
theorem mFrom_spec (id : Int) (out : List Mark) : ∀ z, z ≤ out.length → (∀ j, mFrom id out z ≤ j → ∀ m, j < z → out[j]? = some m → id ≤ m.id) ∧ (∀ m, 0 < mFrom id out z → out[mFrom id out z - 1]? = some m → m.id < id)
  | 0, _ => ⟨fun j _ m hj => by omega, fun m h => by simp [mFrom] at h⟩
  | z + 1, hz => by
    have hq : out[z]? = some out[z] := List.getElem?_eq_getElem (by omega)
    obtain ⟨h1, h2⟩ := mFrom_spec id out z (by omega)
    unfold mFrom
    rw [hq]
    simp only
    split
    · rename_i hc
      refine ⟨fun j hj m hjz hm => ?_, h2⟩
      by_cases he : j = z
      · subst he; rw [hq] at hm; cases hm; exact hc
      · exact h1 j hj m (by omega) hm
    · rename_i hc
      refine ⟨fun j hj m hjz hm => by omega, fun m _ hm => ?_⟩
      simp only [Nat.add_sub_cancel] at hm
      rw [hq] at hm; cases hm; omega
theorem mFrom_split {id : Int} {out : List Mark} (hs : inOrder out) : (∀ v ∈ out.take (mFrom id out out.length), v.id < id) ∧ (∀ v ∈ out.drop (mFrom id out out.length), id ≤ v.id) := by
  obtain ⟨h1, h2⟩ := mFrom_spec id out out.length (Nat.le_refl _)
  have hle := mFrom_le id out out.length
  generalize mFrom id out out.length = y at h1 h2 hle
  constructor
  · intro v hv
    obtain ⟨i, hi, rfl⟩ := List.mem_iff_getElem.1 hv
    have hi' : i < y := by have := hi; simp only [List.length_take] at this; omega
    simp only [List.getElem_take]
    have hq : out[y - 1]? = some (out[y - 1]'(by omega)) := List.getElem?_eq_getElem (by omega)
    have h3 := h2 _ (by omega) hq
    by_cases he : i = y - 1
    · subst he; exact h3
    · have := (List.pairwise_iff_getElem.1 hs) i (y - 1) (by omega) (by omega) (by omega)
      omega
  · intro v hv
    obtain ⟨i, hi, rfl⟩ := List.mem_iff_getElem.1 hv
    have hi' : y + i < out.length := by have := hi; simp only [List.length_drop] at this; omega
    simp only [List.getElem_drop]
    exact h1 (y + i) (by omega) _ hi' (List.getElem?_eq_getElem hi')
theorem restOf_sub (id : Int) (r : List Mark) : (restOf id r).Sublist r := by
  cases r with
  | nil => exact List.Sublist.slnil
  | cons m r => simp only [restOf]; split
                · exact List.sublist_cons_self _ _
                · exact List.Sublist.refl _
theorem restOf_mem {id : Int} {r : List Mark} (hs : inOrder r) (hid : ∀ v ∈ r, id ≤ v.id) (v : Mark) : v ∈ restOf id r ↔ v ∈ r ∧ v.id ≠ id := by
  cases r with
  | nil => simp [restOf]
  | cons m r =>
    unfold inOrder at hs
    rw [List.pairwise_cons] at hs
    have hm := hid m (by simp)
    simp only [restOf]
    split
    · rename_i h
      constructor
      · intro hv; exact ⟨by simp [hv], by have := hs.1 v hv; omega⟩
      · rintro ⟨h1, h2⟩
        rcases List.mem_cons.1 h1 with h3 | h3
        · subst h3; exact absurd h h2
        · exact h3
    · rename_i h
      constructor
      · intro hv
        refine ⟨hv, ?_⟩
        rcases List.mem_cons.1 hv with h3 | h3
        · subst h3; exact h
        · have := hs.1 v h3; omega
      · exact fun h1 => h1.1
theorem markStep_ok {out : List Mark} (hs : inOrder out) (e : Event) (he : about e ≠ 0) :
    inOrder (markStep out e) ∧ ∀ v, v ∈ markStep out e ↔ (e.kind = 1 ∧ v = e.mark) ∨ (v ∈ out ∧ v.id ≠ about e) := by
  obtain ⟨h1, h2⟩ := mFrom_split (id := about e) hs
  unfold markStep
  rw [if_neg he]
  generalize mFrom (about e) out out.length = y at h1 h2
  have hsd : inOrder (out.drop y) := List.Pairwise.sublist (List.drop_sublist _ _) hs
  have hst : inOrder (out.take y) := List.Pairwise.sublist (List.take_sublist _ _) hs
  have hr := restOf_mem hsd h2
  have hsr : inOrder (restOf (about e) (out.drop y)) := List.Pairwise.sublist (restOf_sub _ _) hsd
  have hk : e.kind = 1 → e.mark.id = about e := fun h => by simp [about, h]
  constructor
  · unfold inOrder
    rw [List.pairwise_append, List.pairwise_append]
    refine ⟨⟨hst, ?_, ?_⟩, hsr, ?_⟩
    · split <;> simp
    · intro a ha b hb
      split at hb
      · rename_i hke; simp at hb; subst hb; have := h1 a ha; rw [hk hke]; exact this
      · cases hb
    · intro a ha b hb
      have hb' := (hr b).1 hb
      have hb2 := h2 b hb'.1
      rcases List.mem_append.1 ha with h3 | h3
      · have := h1 a h3; omega
      · split at h3
        · rename_i hke; simp at h3; subst h3; rw [hk hke]; have := hb'.2; omega
        · cases h3
  · intro v
    rw [List.mem_append, List.mem_append, hr]
    have hv : v ∈ out ↔ v ∈ out.take y ∨ v ∈ out.drop y := by
      rw [← List.mem_append, List.take_append_drop]
    rw [hv]
    constructor
    · rintro ((h3 | h3) | h3)
      · exact .inr ⟨.inl h3, by have := h1 v h3; omega⟩
      · split at h3
        · rename_i hke; simp at h3; exact .inl ⟨hke, h3⟩
        · cases h3
      · exact .inr ⟨.inr h3.1, h3.2⟩
    · rintro (⟨h3, h4⟩ | ⟨h3 | h3, h4⟩)
      · exact .inl (.inr (by rw [if_pos h3]; simp [h4]))
      · exact .inl (.inl h3)
      · exact .inr ⟨h3, h4⟩
/-- How the map stands to the list. -/
structure Told (m : List (Int × Mark)) (out : List Mark) : Prop where
  nodup : (mkeys m).Nodup
  mem : ∀ k v, (k, v) ∈ m ↔ v ∈ out ∧ v.id = k
  order : inOrder out
  range : ∀ v ∈ out, 1 ≤ v.id ∧ v.id ≤ 1000000
def mapStep (m : List (Int × Mark)) (e : Event) : List (Int × Mark) := if e.kind = 1 then mput m e.mark.id e.mark else if e.kind = 2 then mdel m e.n else m
theorem isID_iff (a : Int) : isID a = true ↔ 1 ≤ a ∧ a ≤ 1000000 := by simp [isID, within]
theorem eventOk_about {e : Event} (h : eventOk e = true) : (e.kind = 1 → 1 ≤ e.mark.id ∧ e.mark.id ≤ 1000000) ∧ (e.kind = 2 → 1 ≤ e.n ∧ e.n ≤ 1000000) := by
  unfold eventOk at h
  simp only [Bool.and_eq_true] at h
  refine ⟨fun hk => ?_, fun hk => ?_⟩
  · rw [if_pos hk] at h
    simp only [markOk, Bool.and_eq_true, decide_eq_true_eq] at h
    exact (isID_iff _).1 h.2.1.1.1.1.1.2
  · rw [if_neg (by omega), if_pos hk] at h
    simp only [Bool.and_eq_true] at h
    exact (isID_iff _).1 h.2.1
theorem Told.step {m : List (Int × Mark)} {out : List Mark} (h : Told m out) {e : Event} (he : eventOk e = true) : Told (mapStep m e) (markStep out e) := by
  obtain ⟨h1, h2⟩ := eventOk_about he
  unfold mapStep
  by_cases hk : e.kind = 1
  · have ha : about e = e.mark.id := by simp [about, hk]
    have hb := h1 hk
    obtain ⟨s1, s2⟩ := markStep_ok h.order e (by omega)
    rw [if_pos hk]
    refine ⟨(keys_mput _ _ m h.nodup).1, fun k v => ?_, s1, fun v hv => ?_⟩
    · rw [mem_mput _ _ m h.nodup, s2, h.mem]
      constructor
      · rintro (⟨rfl, rfl⟩ | ⟨h3, h4, h5⟩)
        · exact ⟨.inl ⟨hk, rfl⟩, rfl⟩
        · exact ⟨.inr ⟨h4, by rw [h5, ha]; exact h3⟩, h5⟩
      · rintro ⟨⟨_, rfl⟩ | ⟨h3, h4⟩, h5⟩
        · exact .inl ⟨h5.symm, rfl⟩
        · exact .inr ⟨by rw [← h5, ← ha]; exact h4, h3, h5⟩
    · rcases (s2 v).1 hv with ⟨_, rfl⟩ | ⟨h3, _⟩
      · exact hb
      · exact h.range v h3
  · rw [if_neg hk]
    by_cases hk2 : e.kind = 2
    · have ha : about e = e.n := by simp [about, hk2]
      have hb := h2 hk2
      obtain ⟨s1, s2⟩ := markStep_ok h.order e (by omega)
      rw [if_pos hk2]
      refine ⟨List.Nodup.sublist ((mdel_sub _ m).map _) h.nodup, fun k v => ?_, s1, fun v hv => ?_⟩
      · rw [mem_mdel _ m h.nodup, s2, h.mem]
        constructor
        · rintro ⟨h3, h4, h5⟩
          exact ⟨.inr ⟨h4, by rw [h5, ha]; exact h3⟩, h5⟩
        · rintro ⟨⟨h3, _⟩ | ⟨h3, h4⟩, h5⟩
          · exact absurd h3 hk
          · exact ⟨by rw [← h5, ← ha]; exact h4, h3, h5⟩
      · rcases (s2 v).1 hv with ⟨h3, _⟩ | ⟨h3, _⟩
        · exact absurd h3 hk
        · exact h.range v h3
    · rw [if_neg hk2]
      have : markStep out e = out := by simp [markStep, about, hk, hk2]
      rw [this]; exact h
theorem Told.fold {l : List Event} (hl : l.all eventOk = true) : ∀ {m : List (Int × Mark)} {out : List Mark}, Told m out → Told (l.foldl mapStep m) (l.foldl markStep out) := by
  induction l with
  | nil => exact fun h => h
  | cons e l ih =>
    simp only [List.all_cons, Bool.and_eq_true] at hl
    exact fun h => ih hl.2 (h.step hl.1)
theorem Told.keys {m : List (Int × Mark)} {out : List Mark} (h : Told m out) : sortI (mkeys m) = out.map (·.id) ∧ m.length = out.length := by
  have hn : (out.map (·.id)).Nodup := by
    unfold List.Nodup
    rw [List.pairwise_map]
    exact h.order.imp fun {a b} h => by omega
  have hp : (mkeys m).Perm (out.map (·.id)) := (List.perm_ext_iff_of_nodup h.nodup hn).2 fun k => by
    simp only [mkeys, List.mem_map, Prod.exists]
    constructor
    · rintro ⟨a, b, h1, rfl⟩
      obtain ⟨h2, h3⟩ := (h.mem a b).1 h1
      exact ⟨b, h2, h3⟩
    · rintro ⟨v, h1, h2⟩
      exact ⟨k, v, (h.mem k v).2 ⟨h1, h2⟩, rfl⟩
  constructor
  · rw [sortI_perm hp]
    refine List.mergeSort_of_pairwise ?_
    rw [List.pairwise_map]
    exact h.order.imp fun {a b} h => by simp [leI]; omega
  · have := hp.length_eq; simpa [mkeys] using this
theorem mapStep_length (m : List (Int × Mark)) (e : Event) : (mapStep m e).length ≤ m.length + 1 := by
  unfold mapStep
  split
  · unfold mput; split <;> simp
  · split
    · have := (mdel_sub e.n m).length_le; omega
    · omega
theorem eStep (l : List Event) (m : List (Int × Mark)) (i : Nat) (x : Event) (hl : l.length ≤ 1000000000) (hx : l[i]? = some x) :
    eMarks_s5 l (m, (i : Int)) = some (.inl (mapStep m x, (i : Int) + 1)) := by
  have hi := lt_of_get hx
  have hj : ∀ o, eMarks_j6 (i : Int) o = some (.inl (o, (i : Int) + 1)) := fun o => by
    unfold eMarks_j6
    exact grd_eq (by unfold inI; omega)
  unfold eMarks_s5
  refine (ifbT (decide_eq_true (by omega))).trans ?_
  refine (bnd_eq (at_nat hx)).trans ?_
  unfold mapStep
  by_cases hk : x.kind = 1
  · refine (ifbT (decide_eq_true hk)).trans ?_
    rw [hj, if_pos hk]
  · refine (ifbF (decide_eq_false hk)).trans ?_
    rw [if_neg hk]
    by_cases hk2 : x.kind = 2
    · refine (ifbT (decide_eq_true hk2)).trans ?_
      rw [hj, if_pos hk2]
    · refine (ifbF (decide_eq_false hk2)).trans ?_
      rw [hj, if_neg hk2]
theorem foldl_snoc {α β : Type} (f : α → β) : ∀ (l : List α) (a : List β), l.foldl (fun out k => out ++ [f k]) a = a ++ l.map f
  | [], a => by simp
  | x :: l, a => by rw [List.foldl_cons, foldl_snoc f l]; simp
theorem eMarks_eq (l : List Event) (hl : l.length ≤ 1000000000) : eMarks l = some (marksR l) := by
  unfold eMarks marksR
  refine (grd_eq hl).trans ?_
  cases hv : validE l with
  | false => rfl
  | true =>
    have hall : l.all eventOk = true := by simp only [validE, Bool.and_eq_true] at hv; exact hv.1.1
    have ht : Told (l.foldl mapStep []) (l.foldl markStep []) := Told.fold hall ⟨by simp [mkeys], by simp, by simp [inOrder], by simp⟩
    refine (ifbF rfl).trans ?_
    refine (bnd_eq (x := l.foldl mapStep []) (forO (fun a i => (a, i)) (eMarks_s5 l) l mapStep [] (fun i a => True) _ (fun i a x hx hI => ⟨eStep l a i x hl hx, trivial⟩) (fun a _ ha => ?_) trivial)).trans ?_
    · subst ha
      unfold eMarks_s5
      exact (ifbF (decide_eq_false (by omega))).trans rfl
    change _ = some (l.foldl markStep [], (0 : Int))
    have hlen : (l.foldl markStep []).length ≤ l.length := by
      have : ∀ (l : List Event) (o : List Mark), (l.foldl markStep o).length ≤ o.length + l.length := by
        intro l
        induction l with
        | nil => intro o; simp
        | cons e l ih => intro o; have := ih (markStep o e); have := markStep_length o e; simp only [List.foldl_cons, List.length_cons]; omega
      simpa using this l []
    generalize l.foldl mapStep [] = m at ht
    generalize l.foldl markStep [] = out at ht hlen
    obtain ⟨k1, k2⟩ := ht.keys
    have hget : ∀ v ∈ out, mgetD m v.id (⟨0, 0, 0, ⟨0, 0, 0⟩, 0, 0, 0, ⟨#[]⟩⟩ : Mark) = v := fun v hv => mgetD_mem _ m ht.nodup _ _ ((ht.mem _ _).2 ⟨hv, rfl⟩)
    have hks : ∀ x ∈ mkeys m, inI x := fun x hx => by
      simp only [mkeys, List.mem_map, Prod.exists] at hx
      obtain ⟨a, b, h1, rfl⟩ := hx
      obtain ⟨h2, h3⟩ := (ht.mem a b).1 h1
      have := ht.range b h2
      unfold inI; omega
    unfold eMarks_j1
    refine (grd_eq ⟨hks, by omega⟩).trans ?_
    let f : List Mark → Int → List Mark := fun o k => o ++ [mgetD m k (⟨0, 0, 0, ⟨0, 0, 0⟩, 0, 0, 0, ⟨#[]⟩⟩ : Mark)]
    have hf : (sortI (mkeys m)).foldl f [] = out := by
      rw [foldl_snoc (fun k => mgetD m k (⟨0, 0, 0, ⟨0, 0, 0⟩, 0, 0, 0, ⟨#[]⟩⟩ : Mark)), k1, List.map_map, List.nil_append]
      conv => rhs; rw [← List.map_id out]
      exact List.map_congr_left fun v hv => hget v hv
    have hL : (sortI (mkeys m)).length ≤ 1000000000 := by rw [k1, List.length_map]; omega
    refine (bnd_eq (x := out) (forO (fun a i => (a, i)) (eMarks_s11 m) (sortI (mkeys m)) f [] (fun i a => a.length = i) _ (fun i a x hx hI => ⟨?_, by simp [f, hI]⟩) (fun a _ ha => ?_) rfl)).trans rfl
    · have hi := lt_of_get hx
      unfold eMarks_s11
      refine (ifbT (decide_eq_true (by omega))).trans ?_
      refine (bnd_eq (at_nat hx)).trans ?_
      refine (grd_eq (by rw [List.length_append, hI]; simp; omega)).trans ?_
      unfold eMarks_j12
      exact grd_eq (by unfold inI; omega)
    · rw [hf] at ha; subst ha
      unfold eMarks_s11
      exact (ifbF (decide_eq_false (by omega))).trans rfl
end Go.Proofs.Ytpbhcpeilgmkeaa

/-
  Plain laws, part 3: the program's Add is the reference's.
-/
namespace Go.Proofs.Ytpbhcpeilgmkeaa
open Go Go.Eva

def strict (l : List Event) : Prop := l.Pairwise fun a b => before a b = true
def weak (l : List Event) : Prop := l.Pairwise fun a b => before b a = false
theorem before_iff (a b : Event) : before a b = true ↔ a.clock < b.clock ∨ (a.clock = b.clock ∧ a.stand < b.stand) := by
  simp [before]
theorem before_no (a b : Event) : before a b = false ↔ ¬ (a.clock < b.clock ∨ (a.clock = b.clock ∧ a.stand < b.stand)) := by
  rw [← before_iff]; simp
theorem forks_iff (a b : Event) : forks a b = true ↔ a.clock = b.clock ∧ a.stand = b.stand ∧ a ≠ b := by
  simp [forks, and_assoc]
theorem forks_no {a b : Event} (h : ¬ (a.clock = b.clock ∧ a.stand = b.stand ∧ a ≠ b)) : forks a b = false := by
  rw [← forks_iff] at h; simpa using h
theorem before_trans {a b c : Event} (h : before a b = true) (k : before b c = true) : before a c = true := by
  rw [before_iff] at *; omega
theorem order_zero (a b : Event) : order a b = 0 ↔ a.clock = b.clock ∧ a.stand = b.stand := by
  simp only [order, compare]; grind
theorem order_le (a b : Event) : order a b ≤ 0 ↔ before b a = false := by
  rw [before_no]; simp only [order, compare]; grind
theorem chain_pair {α : Type} {r : α → α → Bool} (ht : ∀ a b c, r a b = true → r b c = true → r a c = true) : ∀ {l : List α}, chain r l = true → l.Pairwise fun a b => r a b = true
  | [], _ => .nil
  | [a], _ => List.pairwise_singleton _ _
  | a :: b :: t, h => by
    simp only [chain, Bool.and_eq_true] at h
    have ih := chain_pair ht h.2
    rw [List.pairwise_cons]
    refine ⟨fun c hc => ?_, ih⟩
    rcases List.mem_cons.1 hc with h1 | h1
    · subst h1; exact h.1
    · exact ht a b c h.1 ((List.pairwise_cons.1 ih).1 c h1)
theorem validE_strict {l : List Event} (h : validE l = true) : strict l := by
  simp only [validE, Bool.and_eq_true] at h
  exact chain_pair (r := before) (fun a b c => before_trans) h.2
theorem strict_weak {l : List Event} (h : strict l) : weak l := h.imp fun {a b} h => by
  rw [before_iff] at h; rw [before_no]; omega
/-- Strictly ordered lists of the same members are one list. -/
theorem strict_ext {l m : List Event} (hl : strict l) (hm : strict m) (h : ∀ x, x ∈ l ↔ x ∈ m) : l = m := by
  have nd : ∀ {l : List Event}, strict l → l.Nodup := fun h => h.imp fun {a b} h e => by subst e; rw [before_iff] at h; omega
  have hp : l.Perm m := (List.perm_ext_iff_of_nodup (nd hl) (nd hm)).2 h
  refine List.Perm.eq_of_pairwise (le := fun a b => before a b = true) (fun a b _ _ h1 h2 => ?_) hl hm hp
  rw [before_iff] at h1 h2; omega
theorem strict_fork {l : List Event} (h : strict l) {x y : Event} (hx : x ∈ l) (hy : y ∈ l) : forks x y = false := by
  obtain ⟨i, hi, rfl⟩ := List.mem_iff_getElem.1 hx
  obtain ⟨j, hj, rfl⟩ := List.mem_iff_getElem.1 hy
  refine forks_no fun ⟨h1, h2, h3⟩ => ?_
  have hp := List.pairwise_iff_getElem.1 h
  rcases Nat.lt_trichotomy i j with h4 | h4 | h4
  · have := hp i j hi hj h4; rw [before_iff] at this; omega
  · subst h4; exact h3 rfl
  · have := hp j i hj hi h4; rw [before_iff] at this; omega
theorem noFork_iff (a : List Event) : noFork a = true ↔ ∀ x ∈ a, ∀ y ∈ a, forks x y = false := by
  constructor
  · intro h x hx y hy
    obtain ⟨i, hi, rfl⟩ := List.mem_iff_getElem.1 hx
    obtain ⟨j, hj, rfl⟩ := List.mem_iff_getElem.1 hy
    have key : ∀ i j (hi : i < a.length) (hj : j < a.length), i < j → forks a[i] a[j] = false := fun i j hi hj hij => by
      cases hf : forks a[i] a[j] with
      | false => rfl
      | true => rw [noFork_bad (List.getElem?_eq_getElem hj) (List.getElem?_eq_getElem hi) hij hf] at h; cases h
    rcases Nat.lt_trichotomy i j with h4 | h4 | h4
    · exact key i j hi hj h4
    · subst h4; exact forks_no fun h => h.2.2 rfl
    · have := key j i hj hi h4
      refine forks_no fun ⟨h1, h2, h3⟩ => ?_
      rw [(forks_iff _ _).2 ⟨h1.symm, h2.symm, Ne.symm h3⟩] at this; cases this
  · intro h
    unfold noFork
    rw [List.all_eq_true]
    intro i hi
    have hi' : i < a.length := List.mem_range.1 hi
    rw [rowOk_at (List.getElem?_eq_getElem hi'), List.all_eq_true]
    intro y hy
    rw [h y (List.mem_of_mem_take hy) _ (List.getElem_mem hi')]; rfl

theorem stepE_some {out : List Event} (hs : strict out) {x : Event} (hx : ∀ q ∈ out, before x q = false) {o : List Event} (h : stepE out x = some o) : strict o ∧ ∀ y, y ∈ o ↔ y ∈ out ∨ y = x := by
  unfold stepE at h
  rcases List.eq_nil_or_concat out with rfl | ⟨t, q, rfl⟩
  · simp at h; subst h; exact ⟨List.pairwise_singleton _ _, by simp⟩
  · simp only [List.concat_eq_append] at hs hx h ⊢
    rw [List.getLast?_concat] at h
    simp only at h
    have hq := hx q (by simp)
    split at h
    · rename_i hz
      split at h
      · rename_i he
        cases h; subst he
        exact ⟨hs, fun y => by simp only [List.mem_append, List.mem_singleton]; grind⟩
      · cases h
    · rename_i hz
      cases h
      rw [order_zero] at hz
      refine ⟨?_, fun y => by simp [or_assoc]⟩
      have hqx : before q x = true := by rw [before_no] at hq; rw [before_iff]; omega
      refine List.pairwise_append.2 ⟨hs, List.pairwise_singleton _ _, fun a ha b hb => ?_⟩
      simp at hb; subst hb
      rcases List.mem_append.1 ha with h1 | h1
      · exact before_trans ((List.pairwise_append.1 hs).2.2 a h1 q (by simp)) hqx
      · simp at h1; subst h1; exact hqx
theorem stepE_none {out : List Event} {x : Event} (h : stepE out x = none) : ∃ q ∈ out, forks q x = true := by
  unfold stepE at h
  rcases List.eq_nil_or_concat out with rfl | ⟨t, q, rfl⟩
  · simp at h
  · simp only [List.concat_eq_append] at h ⊢
    rw [List.getLast?_concat] at h
    simp only at h
    split at h
    · rename_i hz
      split at h
      · cases h
      · rename_i he
        rw [order_zero] at hz
        exact ⟨q, by simp, (forks_iff _ _).2 ⟨hz.1, hz.2, he⟩⟩
    · cases h
theorem pickE_spec {a b : List Event} (ha : weak a) (hb : weak b) : (pickE a b = none ∧ a = [] ∧ b = []) ∨ ∃ x a' b', pickE a b = some (x, a', b') ∧ weak a' ∧ weak b' ∧ a.length + b.length = a'.length + b'.length + 1 ∧ (∀ y, y ∈ a ∨ y ∈ b ↔ y = x ∨ y ∈ a' ∨ y ∈ b') ∧ ∀ y, y ∈ a' ∨ y ∈ b' → before y x = false := by
  unfold weak at ha hb
  rcases a with _ | ⟨x, a⟩ <;> rcases b with _ | ⟨y, b⟩
  · exact .inl ⟨rfl, rfl, rfl⟩
  · rw [List.pairwise_cons] at hb
    exact .inr ⟨y, [], b, rfl, .nil, hb.2, by simp, by simp, fun z hz => hb.1 z (by simpa using hz)⟩
  · rw [List.pairwise_cons] at ha
    exact .inr ⟨x, a, [], rfl, ha.2, .nil, by simp, by simp, fun z hz => ha.1 z (by simpa using hz)⟩
  · have ha' := List.pairwise_cons.1 ha
    have hb' := List.pairwise_cons.1 hb
    by_cases h : order x y ≤ 0
    · refine .inr ⟨x, a, y :: b, by simp [pickE, h], ha'.2, hb, by simp; omega, fun z => by simp only [List.mem_cons]; grind, fun z hz => ?_⟩
      rw [order_le] at h
      rcases hz with h1 | h1
      · exact ha'.1 z h1
      · rcases List.mem_cons.1 h1 with h2 | h2
        · subst h2; exact h
        · have := hb'.1 z h2; rw [before_no] at *; omega
    · refine .inr ⟨y, x :: a, b, by simp [pickE, h], ha, hb'.2, by simp; omega, fun z => by simp only [List.mem_cons]; grind, fun z hz => ?_⟩
      rw [order_le] at h
      have h' : before y x = true := by simpa using h
      rcases hz with h1 | h1
      · rcases List.mem_cons.1 h1 with h2 | h2
        · subst h2; rw [before_iff] at h'; rw [before_no]; omega
        · have := ha'.1 z h2; rw [before_iff] at h'; rw [before_no] at *; omega
      · exact hb'.1 z h1
theorem mergeF_spec : ∀ (n : Nat) (a b out : List Event), a.length + b.length ≤ n → weak a → weak b → strict out → (∀ q ∈ out, ∀ x, x ∈ a ∨ x ∈ b → before x q = false) →
    (∀ r, mergeF n a b out = some r → strict r ∧ ∀ x, x ∈ r ↔ x ∈ out ∨ x ∈ a ∨ x ∈ b) ∧ (mergeF n a b out = none → ∃ x y, (x ∈ out ∨ x ∈ a ∨ x ∈ b) ∧ (y ∈ out ∨ y ∈ a ∨ y ∈ b) ∧ forks x y = true)
  | 0, a, b, out, hn, _, _, hs, _ => by
    have h1 : a = [] := List.length_eq_zero_iff.1 (by omega)
    have h2 : b = [] := List.length_eq_zero_iff.1 (by omega)
    subst h1; subst h2
    exact ⟨fun r h => (by cases h; exact ⟨hs, by simp⟩), fun h => (by cases h)⟩
  | n + 1, a, b, out, hn, ha, hb, hs, hq => by
    unfold mergeF
    rcases pickE_spec ha hb with ⟨hp, rfl, rfl⟩ | ⟨x, a', b', hp, ha', hb', hlen, hm, hle⟩
    · rw [hp]
      exact ⟨fun r h => (by cases h; exact ⟨hs, by simp⟩), fun h => (by cases h)⟩
    · rw [hp]
      simp only
      have hx : x ∈ a ∨ x ∈ b := (hm x).2 (.inl rfl)
      cases ho : stepE out x with
      | none =>
        refine ⟨fun r h => (by cases h), fun _ => ?_⟩
        obtain ⟨q, h1, h2⟩ := stepE_none ho
        exact ⟨q, x, .inl h1, .inr hx, h2⟩
      | some o =>
        obtain ⟨s1, s2⟩ := stepE_some hs (fun q h => hq q h x hx) ho
        obtain ⟨i1, i2⟩ := mergeF_spec n a' b' o (by omega) ha' hb' s1 (fun q h y hy => by
          rcases (s2 q).1 h with h1 | h1
          · exact hq q h1 y ((hm y).2 (.inr hy))
          · subst h1; exact hle y hy)
        refine ⟨fun r h => ?_, fun h => ?_⟩
        · obtain ⟨k1, k2⟩ := i1 r h
          exact ⟨k1, fun y => by rw [k2, s2, hm]; grind⟩
        · obtain ⟨y, z, k1, k2, k3⟩ := i2 h
          refine ⟨y, z, ?_, ?_, k3⟩
          · rw [hm]; rw [s2] at k1; grind
          · rw [hm]; rw [s2] at k2; grind

theorem putFrom_le (e : Event) (l : List Event) : ∀ z, putFrom e l z ≤ z
  | 0 => Nat.le_refl _
  | z + 1 => by
    have := putFrom_le e l z
    unfold putFrom
    split
    · split <;> omega
    · omega
theorem putFrom_spec (e : Event) (l : List Event) : ∀ z, z ≤ l.length → (∀ j, putFrom e l z ≤ j → ∀ m, j < z → l[j]? = some m → before e m = true) ∧ (∀ m, 0 < putFrom e l z → l[putFrom e l z - 1]? = some m → before e m = false)
  | 0, _ => ⟨fun j _ m hj => by omega, fun m h => by simp [putFrom] at h⟩
  | z + 1, hz => by
    have hq : l[z]? = some l[z] := List.getElem?_eq_getElem (by omega)
    obtain ⟨h1, h2⟩ := putFrom_spec e l z (by omega)
    unfold putFrom
    rw [hq]
    simp only
    split
    · rename_i hc
      refine ⟨fun j hj m hjz hm => ?_, h2⟩
      by_cases he : j = z
      · subst he; rw [hq] at hm; cases hm; exact hc
      · exact h1 j hj m (by omega) hm
    · rename_i hc
      refine ⟨fun j hj m hjz hm => by omega, fun m _ hm => ?_⟩
      simp only [Nat.add_sub_cancel] at hm
      rw [hq] at hm; cases hm; simpa using hc
theorem putFrom_split {e : Event} {l : List Event} (hs : strict l) : (∀ v ∈ l.take (putFrom e l l.length), before e v = false) ∧ (∀ v ∈ l.drop (putFrom e l l.length), before e v = true) := by
  obtain ⟨h1, h2⟩ := putFrom_spec e l l.length (Nat.le_refl _)
  have hle := putFrom_le e l l.length
  generalize putFrom e l l.length = y at h1 h2 hle
  constructor
  · intro v hv
    obtain ⟨i, hi, rfl⟩ := List.mem_iff_getElem.1 hv
    have hi' : i < y := by have := hi; simp only [List.length_take] at this; omega
    simp only [List.getElem_take]
    have hq : l[y - 1]? = some (l[y - 1]'(by omega)) := List.getElem?_eq_getElem (by omega)
    have h3 := h2 _ (by omega) hq
    by_cases he : i = y - 1
    · subst he; exact h3
    · have := (List.pairwise_iff_getElem.1 hs) i (y - 1) (by omega) (by omega) (by omega)
      rw [before_iff] at this; rw [before_no] at *; omega
  · intro v hv
    obtain ⟨i, hi, rfl⟩ := List.mem_iff_getElem.1 hv
    have hi' : y + i < l.length := by have := hi; simp only [List.length_drop] at this; omega
    simp only [List.getElem_drop]
    exact h1 (y + i) (by omega) _ hi' (List.getElem?_eq_getElem hi')
theorem put_spec {l : List Event} (hs : strict l) {e : Event} (hf : ∀ q ∈ l, forks q e = false) : strict (put l e) ∧ ∀ x, x ∈ put l e ↔ x ∈ l ∨ x = e := by
  obtain ⟨h1, h2⟩ := putFrom_split (e := e) hs
  have hle := putFrom_le e l l.length
  unfold put
  generalize putFrom e l l.length = y at h1 h2 hle
  have hmem : ∀ x, x ∈ l ↔ x ∈ l.take y ∨ x ∈ l.drop y := fun x => by rw [← List.mem_append, List.take_append_drop]
  split
  · rename_i h
    have : e ∈ l := List.mem_of_getElem? h.2
    exact ⟨hs, fun x => by grind⟩
  · rename_i h
    have hb : ∀ q ∈ l.take y, before q e = true := fun q hq => by
      have h3 := h1 q hq
      have h4 := hf q ((hmem q).2 (.inl hq))
      by_cases hk : q.clock = e.clock ∧ q.stand = e.stand
      · exfalso
        have hqe : q = e := by
          refine Classical.byContradiction fun hne => ?_
          rw [(forks_iff q e).2 ⟨hk.1, hk.2, hne⟩] at h4; cases h4
        subst hqe
        obtain ⟨i, hi, hie⟩ := List.mem_iff_getElem.1 hq
        have hi' : i < y := by have := hi; simp only [List.length_take] at this; omega
        simp only [List.getElem_take] at hie
        by_cases he : i = y - 1
        · exact h ⟨by omega, by rw [← he, ← hie]; exact List.getElem?_eq_getElem _⟩
        · have h5 := (List.pairwise_iff_getElem.1 hs) i (y - 1) (by omega) (by omega) (by omega)
          rw [hie] at h5
          have h6 := h1 (l[y - 1]'(by omega)) (List.mem_iff_getElem.2 ⟨y - 1, by rw [List.length_take]; omega, by simp⟩)
          rw [h5] at h6; cases h6
      · rw [before_no] at h3; rw [before_iff]; omega
    refine ⟨?_, fun x => by simp only [List.mem_append, List.mem_singleton]; rw [hmem]; grind⟩
    unfold strict
    rw [List.pairwise_append, List.pairwise_append]
    refine ⟨⟨List.Pairwise.sublist (List.take_sublist _ _) hs, List.pairwise_singleton _ _, fun a ha b hb' => ?_⟩, List.Pairwise.sublist (List.drop_sublist _ _) hs, fun a ha b hb' => ?_⟩
    · simp at hb'; subst hb'; exact hb a ha
    · rcases List.mem_append.1 ha with h3 | h3
      · exact before_trans (hb a h3) (h2 b hb')
      · simp at h3; subst h3; exact h2 b hb'
theorem foldl_put {l : List Event} : ∀ {m acc : List Event}, strict acc → (∀ x ∈ acc ++ m, ∀ y ∈ acc ++ m, forks x y = false) → strict (m.foldl put acc) ∧ ∀ x, x ∈ m.foldl put acc ↔ x ∈ acc ∨ x ∈ m
  | [], acc, hs, _ => ⟨hs, by simp⟩
  | e :: m, acc, hs, hf => by
    obtain ⟨h1, h2⟩ := put_spec hs (e := e) fun q hq => hf q (by simp [hq]) e (by simp)
    have hsub : ∀ x, x ∈ put acc e ++ m → x ∈ acc ++ e :: m := fun x hx => by
      simp only [List.mem_append, h2, List.mem_cons] at hx ⊢; grind
    obtain ⟨h3, h4⟩ := foldl_put (l := l) h1 fun x hx y hy => hf x (hsub x hx) y (hsub y hy)
    refine ⟨h3, fun x => ?_⟩
    rw [List.foldl_cons, h4, h2]; simp only [List.mem_cons]; grind
theorem sortE_perm (m : List Event) : (sortE m).Perm m := by
  have := (sortA_perm m.toArray).1
  have h1 := this.1
  have h3 := this.2.2
  simp only [← h1, Array.extract_size] at h3
  rw [h1, Array.extract_size] at h3
  simpa [sortE] using h3
theorem sortE_weak (m : List Event) : weak (sortE m) := by
  have hs := (sortA_perm m.toArray).2
  have h1 := (sortA_perm m.toArray).1.1
  refine List.pairwise_iff_getElem.2 fun i j hi hj hij => ?_
  have hi' : i < (sortA m.toArray).size := by simpa [sortE] using hi
  have hj' : j < (sortA m.toArray).size := by simpa [sortE] using hj
  have := hs i j (Nat.zero_le _) hij (by omega)
  rw [ltOf_order, getElem!_pos (sortA m.toArray) i hi', getElem!_pos (sortA m.toArray) j hj'] at this
  exact this

/-- The merge of both, or a fork. -/
theorem mergeL_spec {l m : List Event} (hv : strict l) : if noFork (l ++ m) = true then mergeL l (sortE m) = (m.foldl put l, true) else (mergeL l (sortE m)).2 = false := by
  obtain ⟨k1, k2⟩ := mergeF_spec (l.length + (sortE m).length) l (sortE m) [] (Nat.le_refl _) (strict_weak hv) (sortE_weak m) .nil (by simp)
  have hp : ∀ x, x ∈ sortE m ↔ x ∈ m := fun x => (sortE_perm m).mem_iff
  unfold mergeL mergeR
  split
  · rename_i hn
    rw [noFork_iff] at hn
    obtain ⟨f1, f2⟩ := foldl_put (l := l) hv hn
    cases hr : mergeF (l.length + (sortE m).length) l (sortE m) [] with
    | none =>
      exfalso
      obtain ⟨x, y, h1, h2, h3⟩ := k2 hr
      have := hn x (by simpa [hp] using h1) y (by simpa [hp] using h2)
      rw [h3] at this; cases this
    | some out =>
      obtain ⟨g1, g2⟩ := k1 out hr
      have : out = m.foldl put l := strict_ext g1 f1 fun x => by rw [g2, f2, hp]; simp
      rw [this]
  · rename_i hn
    cases hr : mergeF (l.length + (sortE m).length) l (sortE m) [] with
    | none => rfl
    | some out =>
      exfalso
      obtain ⟨g1, g2⟩ := k1 out hr
      apply hn
      rw [noFork_iff]
      exact fun x hx y hy => strict_fork g1 ((g2 x).2 (by simpa [hp] using hx)) ((g2 y).2 (by simpa [hp] using hy))
theorem any_wrong (m : List Event) : m.any wrongE = !m.all eventOk := by
  induction m with
  | nil => rfl
  | cons e m ih => simp [wrongE, ih]
theorem foldl_put_le (m : List Event) : ∀ l : List Event, (m.foldl put l).length ≤ l.length + m.length := by
  induction m with
  | nil => simp
  | cons e m ih => intro l; have := ih (put l e); have := put_length l e; simp only [List.foldl_cons, List.length_cons]; omega
theorem eAdd_eq (l m : List Event) (hl : l.length ≤ 10000000) (hm : m.length ≤ 10000000) : eAdd l m = some (radd l m) := by
  have hr1 : eAdd_r1 l m = some (!(validE l && m.all eventOk)) := by
    unfold eAdd_r1
    refine (grd_eq (by omega)).trans ?_
    cases hv : validE l with
    | false => rfl
    | true =>
      refine (ifbF rfl).trans ?_
      refine (grd_eq (by omega)).trans ?_
      rw [any_wrong]; rfl
  unfold eAdd radd
  refine (bnd_eq hr1).trans ?_
  cases hc : (validE l && m.all eventOk) with
  | false => rfl
  | true =>
    refine (ifbF rfl).trans ?_
    simp only [Bool.and_eq_true] at hc
    have hs := mergeL_spec (l := l) (m := m) (validE_strict hc.1)
    refine (grd_eq (by omega)).trans ?_
    refine (grd_eq (by omega)).trans ?_
    refine (grd_eq (by have := (sortE_perm m).length_eq; omega)).trans ?_
    rw [if_pos rfl]
    by_cases hn : noFork (l ++ m) = true
    · rw [if_pos hn] at hs
      rw [hs, if_pos hn]
      refine (ifbF rfl).trans ?_
      by_cases h2 : 20000 < (m.foldl put l).length
      · refine (ifbT (decide_eq_true (by simp only; omega))).trans ?_
        rw [if_pos h2]
      · refine (ifbF (decide_eq_false (by simp only; omega))).trans ?_
        unfold eAdd_j2
        rw [hs, if_neg h2]
    · rw [if_neg hn] at hs
      rw [if_neg hn]
      exact ifbT (by rw [hs]; rfl)
end Go.Proofs.Ytpbhcpeilgmkeaa

/-
  Plain laws, part 5: head; EventsMatchesReference.
-/
namespace Go.Proofs.Ytpbhcpeilgmkeaa
open Go Go.Eva

def hn (c s k n : Int) : Event := ⟨c, s, k, n, ⟨0, 0, 0, ⟨0, 0, 0⟩, 0, 0, 0, ⟨#[]⟩⟩⟩
def five : List Event := [hn 6 4 2 8, made 5 3 1, made 6 3 2, hn 1 4 3 2, made 5 3 1]
def four : List Event := [hn 1 4 3 2, made 5 3 1, made 6 3 2, hn 6 4 2 8]
theorem radd5 : radd [] five = (four, 0) := by decide +kernel
theorem marks4 : marksR four = ([], 0) := by decide +kernel
theorem marks3 : marksR (four.take 3) = ([(made 6 3 2).mark], 0) := by decide +kernel
theorem raddf : radd four [made 5 3 9] = ([], 61) := by decide +kernel
theorem radd0 : radd four [hn 0 0 0 0] = ([], 1) := by decide +kernel
theorem known4 : knownR four 4 = (2, 0) ∧ knownR four 3 = (0, 0) := by decide +kernel
theorem valid4 : validE four = true ∧ validE [made 5 3 1, made 5 3 1] = false := by decide +kernel
theorem bnd2 {α β γ : Type} {o : Option (α × β)} {f : α × β → Option γ} {x : α × β} {r : Option γ} (h : o = some x) (k : f (x.1, x.2) = r) : bnd o f = r := (bnd_eq h).trans k
theorem head_eq : headP = some true := by
  unfold headP
  refine bnd2 ((eAdd_eq _ _ (by decide) (by decide)).trans (congrArg some radd5)) ?_
  refine bnd2 ((eMarks_eq four (by decide)).trans (congrArg some marks4)) ?_
  refine (grd_eq (by decide)).trans ?_
  refine bnd2 ((eMarks_eq (four.take 3) (by decide)).trans (congrArg some marks3)) ?_
  refine (grd_eq (by decide)).trans ?_
  refine (grd_eq (by decide)).trans ?_
  refine bnd2 ((eAdd_eq four _ (by decide) (by decide)).trans (congrArg some raddf)) ?_
  refine bnd2 ((eAdd_eq four _ (by decide) (by decide)).trans (congrArg some radd0)) ?_
  refine (bnd_eq (x := true) ?_).trans ?_
  · unfold headP_r1
    show ifb _ _ _ = _
    rw [known4.1, known4.2]; rfl
  refine (bnd_eq (x := true) ?_).trans rfl
  unfold headP_r2
  refine (ifbT rfl).trans ?_
  refine (grd_eq (by decide)).trans ?_
  refine (ifbT (by decide +kernel)).trans ?_
  refine (ifbT (by decide)).trans ?_
  refine (grd_eq (by decide)).trans ?_
  refine (ifbT (by decide +kernel)).trans ?_
  refine (ifbT (by show decide ((knownR four 4).1 = 2) = true; rw [known4.1]; rfl)).trans ?_
  refine (ifbT (by show decide ((knownR four 3).1 = 0) = true; rw [known4.2]; rfl)).trans ?_
  refine (grd_eq (by decide)).trans ?_
  refine (ifbT valid4.1).trans ?_
  refine (grd_eq (by decide)).trans ?_
  rw [valid4.2]; rfl
theorem matches_eq (l more : List Event) (stand : Int) : lawMatches l more stand = some true := by
  unfold lawMatches
  refine (bnd_eq head_eq).trans ?_
  rcases Nat.lt_or_ge 60 l.length with hl | hl
  · refine (bnd_eq (x := true) ?_).trans rfl
    unfold lawMatches_r1
    exact ifbT (by simp; omega)
  rcases Nat.lt_or_ge 60 more.length with hm | hm
  · refine (bnd_eq (x := true) ?_).trans rfl
    unfold lawMatches_r1
    exact (ifbF (by simp; omega)).trans (by simp; omega)
  refine (bnd_eq (x := false) ?_).trans ?_
  · unfold lawMatches_r1
    exact (ifbF (by simp; omega)).trans (by simp; omega)
  refine (ifbF rfl).trans ?_
  refine bnd2 (eAdd_eq l more (by omega) (by omega)) ?_
  refine (grd_eq (by omega)).trans ?_
  have hlen : (radd l more).1.length ≤ 1000000000 := by
    have := foldl_put_le more l
    unfold radd
    split
    · split
      · split
        · simp
        · simp; omega
      · simp
    · simp
  have hmk : (marksR l).1.length ≤ 1000000000 := by
    have : ∀ (l : List Event) (o : List Mark), (l.foldl markStep o).length ≤ o.length + l.length := by
      intro l
      induction l with
      | nil => intro o; simp
      | cons e l ih => intro o; have := ih (markStep o e); have := markStep_length o e; simp only [List.foldl_cons, List.length_cons]; omega
    have := this l []
    unfold marksR marksOf
    split
    · simp at this ⊢; omega
    · simp
  refine (bnd_eq (x := true) ?_).trans ?_
  · unfold lawMatches_r2
    refine (ifbT rfl).trans ?_
    refine (grd_eq (by omega)).trans ?_
    refine (grd_eq (by omega)).trans ?_
    refine (grd_eq hlen).trans ?_
    refine (ifbT (decide_eq_true rfl)).trans ?_
    simp
  refine bnd2 (eMarks_eq l (by omega)) ?_
  refine bnd2 (rMarks_eq l (by omega)) ?_
  refine (bnd_eq (x := true) ?_).trans ?_
  · unfold lawMatches_r3
    refine (ifbT rfl).trans ?_
    refine (grd_eq hmk).trans ?_
    refine (ifbT (decide_eq_true rfl)).trans ?_
    simp
  refine (grd_eq (by omega)).trans ?_
  refine (grd_eq (by omega)).trans ?_
  rfl
end Go.Proofs.Ytpbhcpeilgmkeaa

/-
  Plain laws, part 6: EventsKnown.
-/
namespace Go.Eva
open Go
/-- A loop over positions that ends at the first element that does not hold. -/
theorem allO {ρ α : Type} (step : Int → Option (Int ⊕ ρ)) (l : List α) (p : α → Bool) (good bad : ρ)
    (h1 : ∀ i x, l[i]? = some x → step (i : Nat) = if p x then some (.inl ((i : Int) + 1)) else some (.inr bad))
    (h2 : step (l.length : Nat) = some (.inr good)) : loopO step 0 = some (if l.all p then good else bad) := by
  have key : ∀ n i, i + n = l.length → loopO step (i : Nat) = some (if (l.drop i).all p then good else bad) := by
    intro n
    induction n with
    | zero =>
      intro i hi
      have : i = l.length := by omega
      subst this
      rw [loopO_inr h2]; simp
    | succ n ih =>
      intro i hi
      have hx : l[i]? = some l[i] := List.getElem?_eq_getElem (by omega)
      have hs := h1 i _ hx
      have hd : l.drop i = l[i] :: l.drop (i + 1) := List.drop_eq_getElem_cons (by omega)
      cases hp : p l[i] with
      | true =>
        rw [hp, if_pos rfl] at hs
        rw [loopO_inl hs, hd, List.all_cons, hp, Bool.true_and]
        exact ih (i + 1) (by omega)
      | false =>
        rw [hp] at hs
        rw [loopO_inr hs, hd, List.all_cons, hp]; rfl
  simpa using key l.length 0 (by omega)
end Go.Eva
namespace Go.Proofs.Ytpbhcpeilgmkeaa
open Go Go.Eva
theorem formed_eq (l : List Event) : formedP l = some (decide (l.length ≤ 60) && l.all eventOk) := by
  unfold formedP
  rcases Nat.lt_or_ge 60 l.length with hl | hl
  · refine (ifbT (by simp; omega)).trans ?_
    rw [decide_eq_false (by omega)]; rfl
  · refine (ifbF (by simp; omega)).trans ?_
    refine (bnd_eq (allO (formedP_s5 l) l eventOk (.inr ()) (.inl false) (fun i x hx => ?_) ?_)).trans ?_
    · have hi := lt_of_get hx
      unfold formedP_s5
      refine (ifbT (decide_eq_true (by omega))).trans ?_
      refine (bnd_eq (at_nat hx)).trans ?_
      cases eventOk x with
      | false => rfl
      | true =>
        refine (ifbF rfl).trans ?_
        unfold formedP_j6
        exact grd_eq (by unfold inI; omega)
    · unfold formedP_s5
      exact (ifbF (decide_eq_false (by omega))).trans rfl
    · rw [decide_eq_true hl]
      cases l.all eventOk <;> rfl

/-- Of the events that tell what a stand knows. -/
def says (s : Int) (e : Event) : Bool := decide (e.kind = 3) && decide (e.stand = s)
def knownFrom (s : Int) (m : Int) (l : List Event) : Int := l.foldl (fun m e => if e.kind = 3 ∧ e.stand = s then max m e.n else m) m
theorem known_from (s : Int) (l : List Event) : known s l = knownFrom s 0 l := rfl
theorem knownFrom_spec (s : Int) : ∀ (l : List Event) (m : Int), m ≤ knownFrom s m l ∧ (∀ x ∈ l, x.kind = 3 → x.stand = s → x.n ≤ knownFrom s m l) ∧ (knownFrom s m l = m ∨ ∃ x ∈ l, x.kind = 3 ∧ x.stand = s ∧ x.n = knownFrom s m l)
  | [], m => ⟨Int.le_refl _, by simp, .inl rfl⟩
  | e :: l, m => by
    unfold knownFrom
    rw [List.foldl_cons]
    by_cases h : e.kind = 3 ∧ e.stand = s
    · rw [if_pos h]
      obtain ⟨h1, h2, h3⟩ := knownFrom_spec s l (max m e.n)
      unfold knownFrom at h1 h2 h3
      generalize List.foldl (fun m e => if e.kind = 3 ∧ e.stand = s then max m e.n else m) (max m e.n) l = k at h1 h2 h3
      refine ⟨by omega, fun x hx hk hs => ?_, ?_⟩
      · rcases List.mem_cons.1 hx with h4 | h4
        · subst h4; omega
        · exact h2 x h4 hk hs
      · rcases h3 with h4 | ⟨x, h4, h5, h6, h7⟩
        · by_cases h5 : m ≤ e.n
          · exact .inr ⟨e, by simp, h.1, h.2, by omega⟩
          · exact .inl (by omega)
        · exact .inr ⟨x, by simp [h4], h5, h6, h7⟩
    · rw [if_neg h]
      obtain ⟨h1, h2, h3⟩ := knownFrom_spec s l m
      unfold knownFrom at h1 h2 h3
      refine ⟨h1, fun x hx hk hs => ?_, ?_⟩
      · rcases List.mem_cons.1 hx with h4 | h4
        · subst h4; exact absurd ⟨hk, hs⟩ h
        · exact h2 x h4 hk hs
      · rcases h3 with h4 | ⟨x, h4, h5, h6, h7⟩
        · exact .inl h4
        · exact .inr ⟨x, by simp [h4], h5, h6, h7⟩
theorem known_nonneg (s : Int) (l : List Event) : 0 ≤ known s l := (knownFrom_spec s l 0).1
theorem known_ge (s : Int) {l : List Event} {x : Event} (hx : x ∈ l) (hk : x.kind = 3) (hs : x.stand = s) : x.n ≤ known s l := (knownFrom_spec s l 0).2.1 x hx hk hs
theorem known_at (s : Int) (l : List Event) : known s l = 0 ∨ ∃ x ∈ l, x.kind = 3 ∧ x.stand = s ∧ x.n = known s l := (knownFrom_spec s l 0).2.2
theorem known_mono (s : Int) {l m : List Event} (h : ∀ x ∈ l, x.stand = s → x ∈ m) : known s l ≤ known s m := by
  rcases known_at s l with h1 | ⟨x, h1, h2, h3, h4⟩
  · rw [h1]; exact known_nonneg s m
  · rw [← h4]; exact known_ge s (h x h1 h3) h2 h3
theorem eventOk_n {e : Event} (h : eventOk e = true) (hk : e.kind = 3) : 0 ≤ e.n ∧ e.n ≤ 1000 := by
  unfold eventOk at h
  simp only [Bool.and_eq_true] at h
  rw [if_neg (by omega), if_neg (by omega), if_pos hk] at h
  simp only [Bool.and_eq_true, within, decide_eq_true_eq] at h
  exact h.2.1
theorem known_le (s : Int) {l : List Event} (h : l.all eventOk = true) : known s l ≤ 1000 := by
  rcases known_at s l with h1 | ⟨x, h1, h2, h3, h4⟩
  · omega
  · have := (eventOk_n (List.all_eq_true.1 h x h1) h2).2; omega
theorem pair_chain {α : Type} {r : α → α → Bool} : ∀ {l : List α}, (l.Pairwise fun a b => r a b = true) → chain r l = true
  | [], _ => rfl
  | [a], _ => rfl
  | a :: b :: t, h => by
    rw [List.pairwise_cons] at h
    simp only [chain, Bool.and_eq_true]
    exact ⟨h.1 b (by simp), pair_chain h.2⟩
theorem validE_iff (l : List Event) : validE l = true ↔ l.all eventOk = true ∧ l.length ≤ 20000 ∧ strict l := by
  constructor
  · intro h
    have hs := validE_strict h
    simp only [validE, Bool.and_eq_true, decide_eq_true_eq] at h
    exact ⟨h.1.1, h.1.2, hs⟩
  · rintro ⟨h1, h2, h3⟩
    simp only [validE, Bool.and_eq_true, decide_eq_true_eq]
    exact ⟨⟨h1, h2⟩, pair_chain h3⟩
theorem validE_sub {l m : List Event} (h : validE m = true) (hs : l.Sublist m) : validE l = true := by
  rw [validE_iff] at *
  refine ⟨List.all_eq_true.2 fun x hx => List.all_eq_true.1 h.1 x (hs.subset hx), by have := hs.length_le; omega, List.Pairwise.sublist hs h.2.2⟩
/-- What radd gives. -/
theorem radd_cases (l m : List Event) (hl : l.length ≤ 5000) (hm : m.length ≤ 5000) (hv : validE l = true) (hw : m.all eventOk = true) :
    (noFork (l ++ m) = true ∧ radd l m = (m.foldl put l, 0) ∧ validE (m.foldl put l) = true ∧ (∀ x, x ∈ m.foldl put l ↔ x ∈ l ∨ x ∈ m)) ∨ (noFork (l ++ m) = false ∧ radd l m = ([], 61)) := by
  unfold radd
  rw [hv, hw]
  simp only [Bool.and_self, if_true]
  cases hn : noFork (l ++ m) with
  | false => exact .inr ⟨rfl, rfl⟩
  | true =>
    rw [noFork_iff] at hn
    obtain ⟨f1, f2⟩ := foldl_put (l := l) (validE_strict hv) hn
    have hlen := foldl_put_le m l
    refine .inl ⟨rfl, ?_, ?_, f2⟩
    · simp only [if_true]
      rw [if_neg (by omega)]
    · rw [validE_iff] at hv ⊢
      refine ⟨List.all_eq_true.2 fun x hx => ?_, by omega, f1⟩
      rcases (f2 x).1 hx with h1 | h1
      · exact List.all_eq_true.1 hv.1 x h1
      · exact List.all_eq_true.1 hw x h1

abbrev KS := Bool × List Event × Bool
def kstep (v s : Int) (a : KS) (x : Event) : KS :=
  (if says s x then a.1 && decide (x.n ≤ v) else a.1, if x.stand = s then a.2.1 ++ [x] else a.2.1, if says s x then a.2.2 || decide (x.n = v) else a.2.2)
theorem kfold (v s : Int) : ∀ (l : List Event) (a : KS), (∀ x ∈ l, x.kind = 3 → x.stand = s → x.n ≤ v) →
    l.foldl (kstep v s) a = (a.1, a.2.1 ++ l.filter (fun x => decide (x.stand = s)), a.2.2 || l.any fun x => says s x && decide (x.n = v))
  | [], a, _ => by simp
  | x :: l, a, h => by
    rw [List.foldl_cons, kfold v s l _ fun y hy => h y (by simp [hy])]
    have hx := h x (by simp)
    unfold kstep says
    by_cases h1 : x.stand = s <;> by_cases h2 : x.kind = 3 <;> simp [h1, h2, Bool.or_assoc]
    exact fun _ => hx h2 h1
theorem kStep (l : List Event) (s : Int) (a : KS) (i : Nat) (x : Event) (hl : l.length ≤ 1000) (hx : l[i]? = some x) (ho : a.2.1.length ≤ i) :
    lawKnown_s15 l s (a.1, a.2.1, a.2.2, (i : Int)) = some (.inl ((kstep (knownR l s).1 s a x).1, (kstep (knownR l s).1 s a x).2.1, (kstep (knownR l s).1 s a x).2.2, (i : Int) + 1)) := by
  have hi := lt_of_get hx
  have hj : ∀ p q r, lawKnown_j16 (i : Int) p q r = some (.inl (p, q, r, (i : Int) + 1)) := fun p q r => by
    unfold lawKnown_j16
    exact grd_eq (by unfold inI; omega)
  generalize hv : (knownR l s).1 = v
  have h17 : ∀ q, lawKnown_j17 l s a.1 a.2.2 (i : Int) x q = some (.inl (if says s x then a.1 && decide (x.n ≤ v) else a.1, q, if says s x then a.2.2 || decide (x.n = v) else a.2.2, (i : Int) + 1)) := fun q => by
    unfold lawKnown_j17
    have h18 : lawKnown_r18 s x = some (says s x) := by
      unfold lawKnown_r18 says
      by_cases h1 : x.stand = s
      · exact (ifbT (decide_eq_true h1)).trans (by simp [h1])
      · exact (ifbF (decide_eq_false h1)).trans (by simp [h1])
    refine (bnd_eq h18).trans ?_
    cases hs : says s x with
    | false => refine (ifbF rfl).trans ?_; rw [hj]; rfl
    | true =>
      refine (ifbT rfl).trans ?_
      refine (bnd_eq (x := a.2.2 || decide (x.n = v)) ?_).trans ?_
      · unfold lawKnown_r19; rw [hv]; cases a.2.2 <;> rfl
      refine (bnd_eq (x := a.1 && decide (x.n ≤ v)) ?_).trans ?_
      · unfold lawKnown_r20; rw [hv]; cases a.1 <;> rfl
      rw [hj]; rfl
  unfold lawKnown_s15
  refine (ifbT (decide_eq_true (by omega))).trans ?_
  refine (bnd_eq (at_nat hx)).trans ?_
  unfold kstep
  by_cases h1 : x.stand = s
  · refine (ifbT (decide_eq_true h1)).trans ?_
    refine (grd_eq (by rw [List.length_append]; simp; omega)).trans ?_
    rw [h17, if_pos h1]
  · refine (ifbF (decide_eq_false h1)).trans ?_
    rw [h17, if_neg h1]
theorem known_eq (l more : List Event) (stand : Int) : lawKnown l more stand = some true := by
  unfold lawKnown
  refine (bnd_eq head_eq).trans ?_
  by_cases hc : l.length ≤ 60 ∧ validE l = true ∧ (more.length ≤ 60 ∧ more.all eventOk = true) ∧ isID stand = true
  · obtain ⟨hl, hv, ⟨hm, hw⟩, hid⟩ := hc
    refine (bnd_eq (x := false) ?_).trans ?_
    · unfold lawKnown_r1
      refine (ifbF (by simp; omega)).trans ?_
      refine (grd_eq (by omega)).trans ?_
      refine (ifbF (by rw [hv]; rfl)).trans ?_
      refine (bnd_eq (formed_eq more)).trans ?_
      refine (ifbF (by simp [hm]; simpa using hw)).trans ?_
      rw [hid]; rfl
    refine (ifbF rfl).trans ?_
    refine (grd_eq (by omega)).trans ?_
    have hk : knownR l stand = (known stand l, 0) := by unfold knownR; rw [hv, hid]; rfl
    have hall := ((validE_iff l).1 hv).1
    have h0 := known_nonneg stand l
    have h1 := known_le stand hall
    refine (bnd_eq (x := false) ?_).trans ?_
    · unfold lawKnown_r2
      rw [hk]
      refine (ifbF (by simp)).trans ?_
      refine (ifbF (decide_eq_false (by simp only; omega))).trans ?_
      rw [decide_eq_false (by simp only; omega)]
    refine (ifbF rfl).trans ?_
    let a0 : KS := (true, [], decide ((knownR l stand).1 = 0))
    have hfold : l.foldl (kstep (knownR l stand).1 stand) a0 = (true, l.filter (fun x => decide (x.stand = stand)), true) := by
      rw [kfold _ _ l a0 fun x hx h2 h3 => by rw [hk]; exact known_ge stand hx h2 h3]
      simp only [a0, List.nil_append, hk]
      congr 2
      rcases known_at stand l with h2 | ⟨x, h2, h3, h4, h5⟩
      · rw [h2]; rfl
      · rw [Bool.or_eq_true]
        exact .inr (List.any_eq_true.2 ⟨x, h2, by simp [says, h3, h4, h5]⟩)
    have hloop : loopO (lawKnown_s15 l stand) (true, [], (decide ((knownR l stand).1 = 0)), 0) = some (true, l.filter (fun x => decide (x.stand = stand)), true) := by
      refine forO (fun (a : KS) i => (a.1, a.2.1, a.2.2, i)) (lawKnown_s15 l stand) l (kstep (knownR l stand).1 stand) a0 (fun i a => a.2.1.length ≤ i) _ (fun i a x hx hI => ⟨kStep l stand a i x (by omega) hx hI, ?_⟩) (fun a _ ha => ?_) (Nat.le_refl _)
      · unfold kstep
        simp only
        split
        · simp; omega
        · omega
      · rw [hfold] at ha; subst ha
        unfold lawKnown_s15
        exact (ifbF (decide_eq_false (by omega))).trans rfl
    refine (bnd_eq hloop).trans ?_
    simp only
    have hfs : (l.filter fun x => decide (x.stand = stand)).Sublist l := List.filter_sublist
    have hvf := validE_sub hv hfs
    have hkf : knownR (l.filter fun x => decide (x.stand = stand)) stand = (known stand l, 0) := by
      unfold knownR; rw [hvf, hid]
      simp only [Bool.and_self, if_true, Prod.mk.injEq, and_true]
      have m1 := known_mono stand (l := l) (m := l.filter fun x => decide (x.stand = stand)) fun x hx hs => List.mem_filter.2 ⟨hx, by simp [hs]⟩
      have m2 := known_mono stand (l := l.filter fun x => decide (x.stand = stand)) (m := l) fun x hx _ => hfs.subset hx
      omega
    unfold lawKnown_j3
    refine (grd_eq (by have := hfs.length_le; omega)).trans ?_
    refine bnd2 (eAdd_eq l more (by omega) (by omega)) ?_
    refine (bnd_eq (x := false) ?_).trans ?_
    · unfold lawKnown_r21
      rw [hkf, hk]
      exact (ifbF (by simp)).trans ((ifbF (by simp)).trans rfl)
    refine (ifbF rfl).trans ?_
    rcases radd_cases l more (by omega) (by omega) hv hw with ⟨_, hr, hrv, hmem⟩ | ⟨_, hr⟩
    · rw [hr]
      refine (ifbF rfl).trans ?_
      have hlen := foldl_put_le more l
      refine (grd_eq (by simp only; omega)).trans ?_
      refine (bnd_eq (x := true) ?_).trans rfl
      unfold lawKnown_r23
      have hks : knownR (more.foldl put l) stand = (known stand (more.foldl put l), 0) := by unfold knownR; rw [hrv, hid]; rfl
      simp only
      rw [hks, hk]
      refine (ifbT rfl).trans ?_
      refine (ifbT rfl).trans ?_
      have := known_mono stand (l := l) (m := more.foldl put l) fun x hx _ => (hmem x).2 (.inl hx)
      simpa using this
    · rw [hr]
      rfl
  · refine (bnd_eq (x := true) ?_).trans rfl
    unfold lawKnown_r1
    by_cases hl : l.length ≤ 60
    · refine (ifbF (by simp; omega)).trans ?_
      refine (grd_eq (by omega)).trans ?_
      cases hv : validE l with
      | false => rfl
      | true =>
        refine (ifbF rfl).trans ?_
        refine (bnd_eq (formed_eq more)).trans ?_
        cases hf : (decide (more.length ≤ 60) && more.all eventOk) with
        | false => rfl
        | true =>
          refine (ifbF rfl).trans ?_
          cases hid : isID stand with
          | false => rfl
          | true =>
            exfalso
            simp only [Bool.and_eq_true, decide_eq_true_eq] at hf
            exact hc ⟨hl, hv, hf, hid⟩
    · exact ifbT (by simp; omega)
end Go.Proofs.Ytpbhcpeilgmkeaa

/-
  Plain laws, part 7: EventsJoin.
-/
namespace Go.Proofs.Ytpbhcpeilgmkeaa
open Go Go.Eva

/-- What is joined depends on the members alone. -/
theorem radd_ext {a b c d : List Event} (ha : a.length ≤ 5000) (hb : b.length ≤ 5000) (hc : c.length ≤ 5000) (hd : d.length ≤ 5000) (va : validE a = true) (vb : b.all eventOk = true) (vc : validE c = true) (vd : d.all eventOk = true)
    (h : ∀ x, (x ∈ a ∨ x ∈ b) ↔ (x ∈ c ∨ x ∈ d)) : radd a b = radd c d := by
  have hn : noFork (a ++ b) = noFork (c ++ d) := by
    have : (noFork (a ++ b) = true) ↔ (noFork (c ++ d) = true) := by
      rw [noFork_iff, noFork_iff]
      simp only [List.mem_append]
      constructor
      · exact fun k x hx y hy => k x ((h x).2 hx) y ((h y).2 hy)
      · exact fun k x hx y hy => k x ((h x).1 hx) y ((h y).1 hy)
    cases h1 : noFork (a ++ b) <;> cases h2 : noFork (c ++ d) <;> simp_all
  rcases radd_cases a b ha hb va vb with ⟨n1, r1, v1, m1⟩ | ⟨n1, r1⟩ <;> rcases radd_cases c d hc hd vc vd with ⟨n2, r2, v2, m2⟩ | ⟨n2, r2⟩
  · rw [r1, r2, strict_ext (validE_strict v1) (validE_strict v2) fun x => by rw [m1, m2, h]]
  · rw [hn, n2] at n1; cases n1
  · rw [hn, n2] at n1; cases n1
  · rw [r1, r2]
theorem radd_in {a b : List Event} (ha : a.length ≤ 5000) (hb : b.length ≤ 5000) (va : validE a = true) (h : ∀ x ∈ b, x ∈ a) : radd a b = (a, 0) := by
  have vb : b.all eventOk = true := List.all_eq_true.2 fun x hx => List.all_eq_true.1 ((validE_iff a).1 va).1 x (h x hx)
  rcases radd_cases a b ha hb va vb with ⟨n1, r1, v1, m1⟩ | ⟨n1, r1⟩
  · rw [r1, strict_ext (validE_strict v1) (validE_strict va) fun x => by rw [m1]; grind]
  · exfalso
    have : noFork (a ++ b) = true := by
      rw [noFork_iff]
      have hs := validE_strict va
      intro x hx y hy
      refine strict_fork hs ?_ ?_
      · rcases List.mem_append.1 hx with h1 | h1
        · exact h1
        · exact h x h1
      · rcases List.mem_append.1 hy with h1 | h1
        · exact h1
        · exact h y h1
    rw [n1] at this; cases this
theorem validE_nil : validE [] = true := by decide
/-- A set of events in order, or none. -/
theorem radd_nil {l : List Event} (hl : l.length ≤ 60) (h : l.all eventOk = true) : (∃ a, radd [] l = (a, 0) ∧ validE a = true ∧ a.length ≤ 60 ∧ ∀ x, x ∈ a ↔ x ∈ l) ∨ radd [] l = ([], 61) := by
  rcases radd_cases [] l (by simp) (by omega) validE_nil h with ⟨_, r1, v1, m1⟩ | ⟨_, r1⟩
  · exact .inl ⟨_, r1, v1, by have := foldl_put_le l []; simp at this; omega, fun x => by rw [m1]; simp⟩
  · exact .inr r1
theorem join_eq (l m n : List Event) (part : IntK .u8) (h0 : 0 ≤ part.n) (h1 : part.n ≤ 255) : lawJoin l m n part = some true := by
  unfold lawJoin
  refine (bnd_eq head_eq).trans ?_
  have hr1 : lawJoin_r1 l m n = some (!((decide (l.length ≤ 60) && l.all eventOk) && (decide (m.length ≤ 60) && m.all eventOk) && (decide (n.length ≤ 60) && n.all eventOk))) := by
    unfold lawJoin_r1
    refine (bnd_eq (formed_eq l)).trans ?_
    cases (decide (l.length ≤ 60) && l.all eventOk) with
    | false => rfl
    | true =>
      refine (ifbF rfl).trans ?_
      refine (bnd_eq (formed_eq m)).trans ?_
      cases (decide (m.length ≤ 60) && m.all eventOk) with
      | false => rfl
      | true =>
        refine (ifbF rfl).trans ?_
        exact (bnd_eq (formed_eq n)).trans rfl
  refine (bnd_eq hr1).trans ?_
  cases hc : ((decide (l.length ≤ 60) && l.all eventOk) && (decide (m.length ≤ 60) && m.all eventOk) && (decide (n.length ≤ 60) && n.all eventOk)) with
  | false => rfl
  | true =>
    simp only [Bool.and_eq_true, decide_eq_true_eq] at hc
    obtain ⟨⟨⟨hl, wl⟩, hm, wm⟩, hn, wn⟩ := hc
    refine (ifbF rfl).trans ?_
    refine bnd2 (eAdd_eq [] l (by simp) (by omega)) ?_
    refine bnd2 (eAdd_eq [] m (by simp) (by omega)) ?_
    refine bnd2 (eAdd_eq [] n (by simp) (by omega)) ?_
    rcases radd_nil hl wl with ⟨a, ra, va, la, ma⟩ | ra
    rotate_left
    · rw [ra]; exact (bnd_eq (x := true) rfl).trans rfl
    rcases radd_nil hm wm with ⟨b, rb, vb, lb, mb⟩ | rb
    rotate_left
    · rw [ra, rb]; exact (bnd_eq (x := true) rfl).trans rfl
    rcases radd_nil hn wn with ⟨c, rc, vc, lc, mc⟩ | rc
    rotate_left
    · rw [ra, rb, rc]; exact (bnd_eq (x := true) rfl).trans rfl
    rw [ra, rb, rc]
    refine (bnd_eq (x := false) rfl).trans ?_
    refine (ifbF rfl).trans ?_
    refine bnd2 ((eAdd_eq a a (by omega) (by omega)).trans (congrArg some (radd_in (by omega) (by omega) va fun x hx => hx))) ?_
    refine (grd_eq (by unfold inI; omega)).trans ?_
    have hw : IntKind.i64.wrap part.n = part.n := wrap_small _ h0 (by omega)
    rw [hw]
    have hmod : 0 ≤ part.n % ((l.length : Int) + 1) ∧ part.n % ((l.length : Int) + 1) ≤ (l.length : Int) := ⟨Int.emod_nonneg _ (by omega), by have := Int.emod_lt_of_pos part.n (b := (l.length : Int) + 1) (by omega); omega⟩
    refine (grd_eq (by omega)).trans ?_
    refine (grd_eq hmod).trans ?_
    refine bnd2 ((eAdd_eq a (l.take (part.n % ((l.length : Int) + 1)).toNat) (by omega) (by rw [List.length_take]; omega)).trans (congrArg some (radd_in (by omega) (by rw [List.length_take]; omega) va fun x hx => (ma x).2 (List.mem_of_mem_take hx)))) ?_
    have wa := ((validE_iff a).1 va).1
    have wb := ((validE_iff b).1 vb).1
    have wc := ((validE_iff c).1 vc).1
    have hab : radd a b = radd b a := radd_ext (by omega) (by omega) (by omega) (by omega) va wb vb wa fun x => Or.comm
    refine bnd2 (eAdd_eq a b (by omega) (by omega)) ?_
    refine bnd2 ((eAdd_eq b a (by omega) (by omega)).trans (congrArg some hab.symm)) ?_
    have hlab : (radd a b).1.length ≤ 120 := by
      rcases radd_cases a b (by omega) (by omega) va wb with ⟨_, r, _, _⟩ | ⟨_, r⟩
      · rw [r]; have := foldl_put_le b a; simp only; omega
      · rw [r]; simp
    refine (bnd_eq (x := false) ?_).trans ?_
    · unfold lawJoin_r3
      refine (ifbF rfl).trans ?_
      refine (ifbF rfl).trans ?_
      refine (grd_eq (by simp only; omega)).trans ?_
      refine (ifbF (by simp)).trans ?_
      refine (grd_eq (by simp only; omega)).trans ?_
      refine (ifbF (by simp)).trans ?_
      refine (ifbF (by simp)).trans ?_
      refine (grd_eq (by omega)).trans ?_
      simp
    refine (ifbF rfl).trans ?_
    refine bnd2 (eAdd_eq b c (by omega) (by omega)) ?_
    rcases radd_cases a b (by omega) (by omega) va wb with ⟨_, rab, vab, mab⟩ | ⟨_, rab⟩
    rotate_left
    · rw [rab]; exact (bnd_eq (x := true) rfl).trans rfl
    rcases radd_cases b c (by omega) (by omega) vb wc with ⟨_, rbc, vbc, mbc⟩ | ⟨_, rbc⟩
    rotate_left
    · rw [rab, rbc]; exact (bnd_eq (x := true) rfl).trans rfl
    have lab := foldl_put_le b a
    have lbc := foldl_put_le c b
    rw [rab, rbc]
    generalize b.foldl put a = ab at *
    generalize c.foldl put b = bc at *
    refine (bnd_eq (x := false) rfl).trans ?_
    refine (ifbF rfl).trans ?_
    have wbc := ((validE_iff bc).1 vbc).1
    have he : radd a bc = radd ab c := radd_ext (by omega) (by omega) (by omega) (by omega) va wbc vab wc fun x => by rw [mab, mbc]; grind
    refine bnd2 (eAdd_eq ab c (by omega) (by omega)) ?_
    refine bnd2 ((eAdd_eq a bc (by omega) (by omega)).trans (congrArg some he)) ?_
    have hl2 : (radd ab c).1.length ≤ 1000000000 := by
      rcases radd_cases ab c (by omega) (by omega) vab wc with ⟨_, r, _, _⟩ | ⟨_, r⟩
      · rw [r]; have := foldl_put_le c ab; simp only; omega
      · rw [r]; simp
    refine (bnd_eq (x := true) ?_).trans rfl
    unfold lawJoin_r5
    refine (ifbT rfl).trans ?_
    refine (ifbT (by simp)).trans ?_
    refine (grd_eq hl2).trans ?_
    simp
end Go.Proofs.Ytpbhcpeilgmkeaa
