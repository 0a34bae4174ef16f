/-
  The evaluator, the printed walks and the plain laws, part 12 of 12.
-/
import Derived.Test.YtpbhcpeilgmkeaaX11
set_option linter.all false
set_option linter.unnecessarySimpa false
set_option linter.deprecated false
set_option linter.unusedVariables false
set_option linter.unusedSimpArgs false
set_option linter.unusedSectionVars false

/-
  Walks of the events: printed by gen2.py (extraction).
-/
namespace Go.Proofs.Ytpbhcpeilgmkeaa
open Go Go.Eva Enc
set_option linter.unusedSectionVars false
set_option linter.unusedSimpArgs false
set_option linter.unusedVariables false
set_option maxRecDepth 4000
attribute [local congr] AWp.congrS
attribute [local simp] evalSeq opRes guardPc evalOp evT Eva.get startT strip putT Eva.after constT typed obAll holds dstOk R.ok R.bad ofD binD unD pickT subL subP Op.operands Call.operands toD argsD callD callT typedAll cfind quietT spec0 spec1 spec2 spec3 enc_int enc_bool enc_str enc_fn enc_list dec_int dec_bool dec_str dec_fn dec_list size_int size_str enc_R enc_M enc_E dec_R dec_M dec_E size_R size_M size_E eta_R eta_M eta_E enc_rune size_rune dec_rune eta_rune runesD_eq map_dec_enc map_dec_comp cellsT D.cells T.oneT D.one mkT unD1 setAt loadAs loadEl storeAs fieldP fieldV sizeE intOfT indexP appendT lenT sliceT elemSize arith lfsOk lfOk beqL_R beqL_M beqL_E beqL_R0 beqL_M0 isAggD mkD fillD placeS TD.agg env restr List.map keyIdx mapTy lookT mapPutT mapDelT mapOf indexS convT evalPure range1 range2 range3 range4 eqT4 eqT38 eqT40 eqT42 te1 te2 te3 te4 te5 te6 te7 te8 te9 te10 te11 te12 te13 te14 te15 te16 te17 te18 te19 te21 te22 te23 te24 te25 te27 te28 te29 te31 te32 te34 te35 te36 te37 te38 te39 te40 te41 te42 te43 te44 te45 te46 te47 te49 te50 te51 te52 te53 te54 te55 te56 te57 te59 te60 te61 te62 te63 te64 te65 te66 te67 te68 te69 te70 te71 te72 te73 te74 te75 te76 te77 te78 te79 te80 te82 te83 te84 te85 te86 te87 te88 te90 te91 te92 te94 te95 te96 te97 te98 te99 te100 te101 te102 te103 te104 te105 te106 te107 te108 te109 te110 te111 te112 te113 te114 te116 te117 te118 te119 te120 te121 te122 te123 te124 te125 te126 te127 te128 te129 te130 te131 te132 te133 te134 enc_intk size_intk dec_intk eta_intk range5 range6 range7 range8 keysInt_nil keyIdx_E keysInt_E okKeys_E isE_iff put_E del_E get_E getok_E mkeys_E mkeys_E' mkeys_enc specO0 specO1 specO2 specO3 specO4 opD skips gone List.contains_cons List.contains_nil envF fenv

noncomputable def sp7 : Eva.Spec := specO4 fun (l : (List Event)) (id : Int) (m : Mark) (stand : Int) => (lawErase l id m stand).map fun r => enc r
set_option maxHeartbeats 4000000 in
theorem ok7 : SpecOk Try.prog 7 sp7 := by
  have hV : VOk Try.prog (envF [(9, sp9), (14, sp14), (23, sp23), (24, sp24), (16, sp16), (11, sp11), (18, sp18)]) := envF_ok ⟨ok9, ok14, ok23, ok24, ok16, ok11, ok18, trivial⟩
  refine SpecOk.ofO4 (Enters.of Try.func7 (by decide)) ?_
  intro l id m stand rr hr
  obtain ⟨r, hg, rfl⟩ := Option.map_eq_some_iff.1 hr
  clear hr
  refine PureCon.ofQ hV Try.func7 rfl (by rw [Try.ntmps7]; simp) fun w0 I0 Q hQ => ?_
  rw [Try.ntmps7]
  unfold lawErase at hg
  refine AWp.rS hV none [0, 1, 3, 6] fun K k1 => ?_
  simp
  repeat refine And.intro (by first | omega | (simp [*]; done) | grind) ?_
  refine kcong (s' := ⟨[(0, .d (enc (l : (List Event)))), (1, .d (enc (id : Int))), (3, .d (enc (stand : Int))), (6, .ptr 0 0)], [.var 40 (cellsT (.d (enc (m : Mark))))]⟩) (by first | rfl | (simp []; done) | (simp []; grind)) (k1 _ ?_)
  obtain ⟨x2, h3, hg⟩ := bnd_some hg
  have h3g := h3
  try simp at h3g
  refine AWp.rS hV none [0, 1, 3, 6, 9] fun K k4 => ?_
  simp [sp9, h3, h3g]
  repeat refine And.intro (by first | omega | (simp [*]; done) | grind) ?_
  refine kcong (s' := ⟨[(0, .d (enc (l : (List Event)))), (1, .d (enc (id : Int))), (3, .d (enc (stand : Int))), (6, .ptr 0 0), (9, .d (enc (x2 : Bool)))], [.var 40 (cellsT (.d (enc (m : Mark))))]⟩) (by first | rfl | (simp [sp9, h3, h3g]; done) | (simp [sp9, h3, h3g]; grind)) (k4 _ ?_)
  refine AWp.seqG fun _ k5 => ?_
  obtain ⟨y7u55, hx8, hg⟩ := bnd_some hg
  unfold lawErase_r1 at hx8
  refine AWp.seqJ (fun s' => Sub s' ⟨[(0, .d (enc (l : (List Event)))), (1, .d (enc (id : Int))), (3, .d (enc (stand : Int))), (6, .ptr 0 0), (9, .d (enc (x2 : Bool))), (55, .d (enc (y7u55 : Bool)))], [.var 40 (cellsT (.d (enc (m : Mark))))]⟩) (fun _ k9 => ?_) ?_
  · rcases Bool.eq_false_or_eq_true (decide (58 < (l.length : Int))) with c10 | c10
    · replace hx8 := ifb_t c10 hx8
      have c10g := c10
      try simp at c10g
      refine AWp.regF hV (some [31, 32, 33, 36, 37, 38, 41, 42, 43, 46, 47, 48, 51, 52, 53, 54]) [0, 1, 3, 6, 9, 55] fun K k11 => ?_
      simp [sp14, sp23, sp24, c10, c10g]
      repeat refine And.intro (by first | omega | (simp [*]; done) | grind) ?_
      refine kcong (s' := ⟨[(0, .d (enc (l : (List Event)))), (1, .d (enc (id : Int))), (3, .d (enc (stand : Int))), (6, .ptr 0 0), (9, .d (enc (x2 : Bool))), (55, .d (enc (true : Bool)))], [.var 40 (cellsT (.d (enc (m : Mark))))]⟩) (by first | rfl | (simp [sp14, sp23, sp24, c10, c10g]; done) | (simp [sp14, sp23, sp24, c10, c10g]; grind)) (k11 _ ?_)
      have hx8 := Option.some.inj hx8
      subst hx8
      refine k9 _ ?_
      show Sub _ ⟨[(0, .d (enc (l : (List Event)))), (1, .d (enc (id : Int))), (3, .d (enc (stand : Int))), (6, .ptr 0 0), (9, .d (enc (x2 : Bool))), (55, .d (enc (true : Bool)))], [.var 40 (cellsT (.d (enc (m : Mark))))]⟩
      exact Sub.ren [0] (by decide) (by first | rfl | simp [renL, AO.ren, forgetsR, T.ren, idx, Eva.get]) (by first | exact ⟨rfl, rfl, rfl, rfl, rfl, rfl, trivial⟩ | (simp [renL, AO.ren, forgetsR, T.ren, idx, Eva.get]; done) | (simp [renL, AO.ren, forgetsR, T.ren, idx, Eva.get]; grind))
    · replace hx8 := ifb_f c10 hx8
      have c10g := c10
      try simp at c10g
      obtain ⟨g6, hx8⟩ := grd_some hx8
      rcases Bool.eq_false_or_eq_true (!(validE l)) with c12 | c12
      · replace hx8 := ifb_t c12 hx8
        have c12g := c12
        try simp at c12g
        refine AWp.regF hV (some [36, 37, 38, 41, 42, 43, 46, 47, 48, 51, 52, 53, 54]) [0, 1, 3, 6, 9, 55] fun K k13 => ?_
        simp [sp14, sp23, sp24, c10, c10g, c12, c12g]
        repeat refine And.intro (by first | omega | (simp [*]; done) | grind) ?_
        refine kcong (s' := ⟨[(0, .d (enc (l : (List Event)))), (1, .d (enc (id : Int))), (3, .d (enc (stand : Int))), (6, .ptr 0 0), (9, .d (enc (x2 : Bool))), (55, .d (enc (true : Bool)))], [.var 40 (cellsT (.d (enc (m : Mark))))]⟩) (by first | rfl | (simp [sp14, sp23, sp24, c10, c10g, c12, c12g]; done) | (simp [sp14, sp23, sp24, c10, c10g, c12, c12g]; grind)) (k13 _ ?_)
        have hx8 := Option.some.inj hx8
        subst hx8
        refine k9 _ ?_
        show Sub _ ⟨[(0, .d (enc (l : (List Event)))), (1, .d (enc (id : Int))), (3, .d (enc (stand : Int))), (6, .ptr 0 0), (9, .d (enc (x2 : Bool))), (55, .d (enc (true : Bool)))], [.var 40 (cellsT (.d (enc (m : Mark))))]⟩
        exact Sub.ren [0] (by decide) (by first | rfl | simp [renL, AO.ren, forgetsR, T.ren, idx, Eva.get]) (by first | exact ⟨rfl, rfl, rfl, rfl, rfl, rfl, trivial⟩ | (simp [renL, AO.ren, forgetsR, T.ren, idx, Eva.get]; done) | (simp [renL, AO.ren, forgetsR, T.ren, idx, Eva.get]; grind))
      · replace hx8 := ifb_f c12 hx8
        have c12g := c12
        try simp at c12g
        rcases Bool.eq_false_or_eq_true (!(isID id)) with c14 | c14
        · replace hx8 := ifb_t c14 hx8
          have c14g := c14
          try simp at c14g
          refine AWp.regF hV (some [41, 42, 43, 46, 47, 48, 51, 52, 53, 54]) [0, 1, 3, 6, 9, 55] fun K k15 => ?_
          simp [sp14, sp23, sp24, c10, c10g, c12, c12g, c14, c14g]
          repeat refine And.intro (by first | omega | (simp [*]; done) | grind) ?_
          refine kcong (s' := ⟨[(0, .d (enc (l : (List Event)))), (1, .d (enc (id : Int))), (3, .d (enc (stand : Int))), (6, .ptr 0 0), (9, .d (enc (x2 : Bool))), (55, .d (enc (true : Bool)))], [.var 40 (cellsT (.d (enc (m : Mark))))]⟩) (by first | rfl | (simp [sp14, sp23, sp24, c10, c10g, c12, c12g, c14, c14g]; done) | (simp [sp14, sp23, sp24, c10, c10g, c12, c12g, c14, c14g]; grind)) (k15 _ ?_)
          have hx8 := Option.some.inj hx8
          subst hx8
          refine k9 _ ?_
          show Sub _ ⟨[(0, .d (enc (l : (List Event)))), (1, .d (enc (id : Int))), (3, .d (enc (stand : Int))), (6, .ptr 0 0), (9, .d (enc (x2 : Bool))), (55, .d (enc (true : Bool)))], [.var 40 (cellsT (.d (enc (m : Mark))))]⟩
          exact Sub.ren [0] (by decide) (by first | rfl | simp [renL, AO.ren, forgetsR, T.ren, idx, Eva.get]) (by first | exact ⟨rfl, rfl, rfl, rfl, rfl, rfl, trivial⟩ | (simp [renL, AO.ren, forgetsR, T.ren, idx, Eva.get]; done) | (simp [renL, AO.ren, forgetsR, T.ren, idx, Eva.get]; grind))
        · replace hx8 := ifb_f c14 hx8
          have c14g := c14
          try simp at c14g
          rcases Bool.eq_false_or_eq_true (!(isID stand)) with c16 | c16
          · replace hx8 := ifb_t c16 hx8
            have c16g := c16
            try simp at c16g
            refine AWp.regF hV (some [46, 47, 48, 51, 52, 53, 54]) [0, 1, 3, 6, 9, 55] fun K k17 => ?_
            simp [sp14, sp23, sp24, c10, c10g, c12, c12g, c14, c14g, c16, c16g]
            repeat refine And.intro (by first | omega | (simp [*]; done) | grind) ?_
            refine kcong (s' := ⟨[(0, .d (enc (l : (List Event)))), (1, .d (enc (id : Int))), (3, .d (enc (stand : Int))), (6, .ptr 0 0), (9, .d (enc (x2 : Bool))), (55, .d (enc (true : Bool)))], [.var 40 (cellsT (.d (enc (m : Mark))))]⟩) (by first | rfl | (simp [sp14, sp23, sp24, c10, c10g, c12, c12g, c14, c14g, c16, c16g]; done) | (simp [sp14, sp23, sp24, c10, c10g, c12, c12g, c14, c14g, c16, c16g]; grind)) (k17 _ ?_)
            have hx8 := Option.some.inj hx8
            subst hx8
            refine k9 _ ?_
            show Sub _ ⟨[(0, .d (enc (l : (List Event)))), (1, .d (enc (id : Int))), (3, .d (enc (stand : Int))), (6, .ptr 0 0), (9, .d (enc (x2 : Bool))), (55, .d (enc (true : Bool)))], [.var 40 (cellsT (.d (enc (m : Mark))))]⟩
            exact Sub.ren [0] (by decide) (by first | rfl | simp [renL, AO.ren, forgetsR, T.ren, idx, Eva.get]) (by first | exact ⟨rfl, rfl, rfl, rfl, rfl, rfl, trivial⟩ | (simp [renL, AO.ren, forgetsR, T.ren, idx, Eva.get]; done) | (simp [renL, AO.ren, forgetsR, T.ren, idx, Eva.get]; grind))
          · replace hx8 := ifb_f c16 hx8
            have c16g := c16
            try simp at c16g
            rcases Bool.eq_false_or_eq_true (!(markOk m)) with c18 | c18
            · replace hx8 := ifb_t c18 hx8
              have c18g := c18
              try simp at c18g
              refine AWp.regF hV (some [51, 52, 53, 54]) [0, 1, 3, 6, 9, 55] fun K k19 => ?_
              simp [sp14, sp23, sp24, c10, c10g, c12, c12g, c14, c14g, c16, c16g, c18, c18g]
              repeat refine And.intro (by first | omega | (simp [*]; done) | grind) ?_
              refine kcong (s' := ⟨[(0, .d (enc (l : (List Event)))), (1, .d (enc (id : Int))), (3, .d (enc (stand : Int))), (6, .ptr 0 0), (9, .d (enc (x2 : Bool))), (55, .d (enc (true : Bool)))], [.var 40 (cellsT (.d (enc (m : Mark))))]⟩) (by first | rfl | (simp [sp14, sp23, sp24, c10, c10g, c12, c12g, c14, c14g, c16, c16g, c18, c18g]; done) | (simp [sp14, sp23, sp24, c10, c10g, c12, c12g, c14, c14g, c16, c16g, c18, c18g]; grind)) (k19 _ ?_)
              have hx8 := Option.some.inj hx8
              subst hx8
              refine k9 _ ?_
              show Sub _ ⟨[(0, .d (enc (l : (List Event)))), (1, .d (enc (id : Int))), (3, .d (enc (stand : Int))), (6, .ptr 0 0), (9, .d (enc (x2 : Bool))), (55, .d (enc (true : Bool)))], [.var 40 (cellsT (.d (enc (m : Mark))))]⟩
              exact Sub.ren [0] (by decide) (by first | rfl | simp [renL, AO.ren, forgetsR, T.ren, idx, Eva.get]) (by first | exact ⟨rfl, rfl, rfl, rfl, rfl, rfl, trivial⟩ | (simp [renL, AO.ren, forgetsR, T.ren, idx, Eva.get]; done) | (simp [renL, AO.ren, forgetsR, T.ren, idx, Eva.get]; grind))
            · replace hx8 := ifb_f c18 hx8
              have c18g := c18
              try simp at c18g
              refine AWp.regF hV (some []) [0, 1, 3, 6, 9, 55] fun K k20 => ?_
              simp [sp14, sp23, sp24, c10, c10g, c12, c12g, c14, c14g, c16, c16g, c18, c18g]
              repeat refine And.intro (by first | omega | (simp [*]; done) | grind) ?_
              refine kcong (s' := ⟨[(0, .d (enc (l : (List Event)))), (1, .d (enc (id : Int))), (3, .d (enc (stand : Int))), (6, .ptr 0 0), (9, .d (enc (x2 : Bool))), (55, .d (enc ((!decide (m.id = id)) : Bool)))], [.var 40 (cellsT (.d (enc (m : Mark))))]⟩) (by first | rfl | (simp [sp14, sp23, sp24, c10, c10g, c12, c12g, c14, c14g, c16, c16g, c18, c18g]; done) | (simp [sp14, sp23, sp24, c10, c10g, c12, c12g, c14, c14g, c16, c16g, c18, c18g]; grind)) (k20 _ ?_)
              have hx8 := Option.some.inj hx8
              subst hx8
              refine k9 _ ?_
              show Sub _ ⟨[(0, .d (enc (l : (List Event)))), (1, .d (enc (id : Int))), (3, .d (enc (stand : Int))), (6, .ptr 0 0), (9, .d (enc (x2 : Bool))), (55, .d (enc ((!decide (m.id = id)) : Bool)))], [.var 40 (cellsT (.d (enc (m : Mark))))]⟩
              exact Sub.ren [0] (by decide) (by first | rfl | simp [renL, AO.ren, forgetsR, T.ren, idx, Eva.get]) (by first | exact ⟨rfl, rfl, rfl, rfl, rfl, rfl, trivial⟩ | (simp [renL, AO.ren, forgetsR, T.ren, idx, Eva.get]; done) | (simp [renL, AO.ren, forgetsR, T.ren, idx, Eva.get]; grind))
  · intro s' hs
    refine AWp.sub hs ?_
    clear hs s'
    refine AWp.cond (b := y7u55) rfl (fun h21 => ?_) fun h21 => ?_
    · replace hg := ifb_t h21 hg
      refine AWp.rS hV none [8] fun K k22 => ?_
      simp
      repeat refine And.intro (by first | omega | (simp [*]; done) | grind) ?_
      refine kcong (s' := ⟨[(8, .d (enc (x2 : Bool)))], [.var 40 (cellsT (.d (enc (m : Mark))))]⟩) (by first | rfl | (simp []; done) | (simp []; grind)) (k22 _ ?_)
      refine AWp.ret ?_
      refine hQ _ _ (.inl rfl) ?_
      have hg := Option.some.inj hg
      subst hg
      first | (simp [retOk, resT, loadAs]; done) | (simp [retOk, resT, loadAs]; grind)
    · replace hg := ifb_f h21 hg
      refine AWp.skip ?_
      refine k5 _ ?_
      refine AWp.rS hV none [0, 1, 3, 6, 9, 10] fun K k23 => ?_
      simp
      repeat refine And.intro (by first | omega | (simp [*]; done) | grind) ?_
      refine kcong (s' := ⟨[(0, .d (enc (l : (List Event)))), (1, .d (enc (id : Int))), (3, .d (enc (stand : Int))), (6, .ptr 0 0), (9, .d (enc (x2 : Bool))), (10, .d (enc (1 : Int)))], [.var 40 (cellsT (.d (enc (m : Mark))))]⟩) (by first | rfl | (simp []; done) | (simp []; grind)) (k23 _ ?_)
      refine AWp.seqJ (fun s' => ∃ y24u10 : Int, lawErase_j2 l id m stand x2 y24u10 = some r ∧ Sub s' ⟨[(0, .d (enc (l : (List Event)))), (1, .d (enc (id : Int))), (3, .d (enc (stand : Int))), (6, .ptr 0 0), (9, .d (enc (x2 : Bool))), (10, .d (enc (y24u10 : Int)))], [.var 40 (cellsT (.d (enc (m : Mark))))]⟩) (fun _ k25 => ?_) ?_
      · refine AWp.rS hV none [0, 1, 3, 6, 9, 10, 59] fun K k26 => ?_
        simp
        repeat refine And.intro (by first | omega | (simp [*]; done) | grind) ?_
        refine kcong (s' := ⟨[(0, .d (enc (l : (List Event)))), (1, .d (enc (id : Int))), (3, .d (enc (stand : Int))), (6, .ptr 0 0), (9, .d (enc (x2 : Bool))), (10, .d (enc (1 : Int))), (59, .d (enc ((decide (0 < (l.length : Int))) : Bool)))], [.var 40 (cellsT (.d (enc (m : Mark))))]⟩) (by first | rfl | (simp []; done) | (simp []; grind)) (k26 _ ?_)
        refine AWp.cond (b := (decide (0 < (l.length : Int)))) rfl (fun h27 => ?_) fun h27 => ?_
        · replace hg := ifb_t h27 hg
          obtain ⟨g28, hg⟩ := grd_some hg
          unfold inI at g28
          obtain ⟨x29, h30, hg⟩ := bnd_some hg
          obtain ⟨h30a, h30b, h30c⟩ := at_some h30
          have h30f := elAt_enc h30c
          have h30g := h30f
          try simp at h30g
          obtain ⟨g31, hg⟩ := grd_some hg
          unfold inI at g31
          refine AWp.regF hV none [0, 1, 3, 6, 9, 10] fun K k32 => ?_
          simp [h30f, h30g]
          repeat refine And.intro (by first | omega | (simp [*]; done) | grind) ?_
          refine kcong (s' := ⟨[(0, .d (enc (l : (List Event)))), (1, .d (enc (id : Int))), (3, .d (enc (stand : Int))), (6, .ptr 0 0), (9, .d (enc (x2 : Bool))), (10, .d (enc ((x29.clock + 1) : Int)))], [.var 40 (cellsT (.d (enc (m : Mark))))]⟩) (by first | rfl | (simp [h30f, h30g]; done) | (simp [h30f, h30g]; grind)) (k32 _ ?_)
          refine k25 _ (Exists.intro _ (And.intro hg ?_))
          show Sub _ ⟨[(0, .d (enc (l : (List Event)))), (1, .d (enc (id : Int))), (3, .d (enc (stand : Int))), (6, .ptr 0 0), (9, .d (enc (x2 : Bool))), (10, .d (enc ((x29.clock + 1) : Int)))], [.var 40 (cellsT (.d (enc (m : Mark))))]⟩
          exact Sub.ren [0] (by decide) (by first | rfl | simp [renL, AO.ren, forgetsR, T.ren, idx, Eva.get]) (by first | exact ⟨rfl, rfl, rfl, rfl, rfl, rfl, trivial⟩ | (simp [renL, AO.ren, forgetsR, T.ren, idx, Eva.get]; done) | (simp [renL, AO.ren, forgetsR, T.ren, idx, Eva.get]; grind))
        · replace hg := ifb_f h27 hg
          refine AWp.skip ?_
          refine k25 _ (Exists.intro _ (And.intro hg ?_))
          show Sub _ ⟨[(0, .d (enc (l : (List Event)))), (1, .d (enc (id : Int))), (3, .d (enc (stand : Int))), (6, .ptr 0 0), (9, .d (enc (x2 : Bool))), (10, .d (enc (1 : Int)))], [.var 40 (cellsT (.d (enc (m : Mark))))]⟩
          exact Sub.ren [0] (by decide) (by first | rfl | simp [renL, AO.ren, forgetsR, T.ren, idx, Eva.get]) (by first | exact ⟨rfl, rfl, rfl, rfl, rfl, rfl, trivial⟩ | (simp [renL, AO.ren, forgetsR, T.ren, idx, Eva.get]; done) | (simp [renL, AO.ren, forgetsR, T.ren, idx, Eva.get]; grind))
      · rintro s' ⟨y24u10, hg, hs⟩
        unfold lawErase_j2 at hg
        refine AWp.sub hs ?_
        refine AWp.seqG fun _ k33 => ?_
        obtain ⟨g34, hg⟩ := grd_some hg
        unfold inI at g34
        refine AWp.rS hV none [0, 1, 3, 6, 9, 10, 70] fun K k35 => ?_
        simp
        repeat refine And.intro (by first | omega | (simp [*]; done) | grind) ?_
        refine kcong (s' := ⟨[(0, .d (enc (l : (List Event)))), (1, .d (enc (id : Int))), (3, .d (enc (stand : Int))), (6, .ptr 0 0), (9, .d (enc (x2 : Bool))), (10, .d (enc (y24u10 : Int))), (70, .d (enc ((decide (1000000000 < (y24u10 + 1))) : Bool)))], [.var 40 (cellsT (.d (enc (m : Mark))))]⟩) (by first | rfl | (simp []; done) | (simp []; grind)) (k35 _ ?_)
        refine AWp.cond (b := (decide (1000000000 < (y24u10 + 1)))) rfl (fun h36 => ?_) fun h36 => ?_
        · replace hg := ifb_t h36 hg
          refine AWp.rS hV none [8] fun K k37 => ?_
          simp
          repeat refine And.intro (by first | omega | (simp [*]; done) | grind) ?_
          refine kcong (s' := ⟨[(8, .d (enc (x2 : Bool)))], [.var 40 (cellsT (.d (enc (m : Mark))))]⟩) (by first | rfl | (simp []; done) | (simp []; grind)) (k37 _ ?_)
          refine AWp.ret ?_
          refine hQ _ _ (.inl rfl) ?_
          have hg := Option.some.inj hg
          subst hg
          first | (simp [retOk, resT, loadAs]; done) | (simp [retOk, resT, loadAs]; grind)
        · replace hg := ifb_f h36 hg
          refine AWp.skip ?_
          refine k33 _ ?_
          obtain ⟨⟨x38, x39⟩, h40, hg⟩ := bnd_some hg
          try dsimp only at hg
          have h40g := h40
          try simp at h40g
          refine AWp.rS hV none [0, 1, 3, 6, 9, 10, 11, 12] fun K k41 => ?_
          simp [sp16, h40, h40g]
          repeat refine And.intro (by first | omega | (simp [*]; done) | grind) ?_
          refine kcong (s' := ⟨[(0, .d (enc (l : (List Event)))), (1, .d (enc (id : Int))), (3, .d (enc (stand : Int))), (6, .ptr 0 0), (9, .d (enc (x2 : Bool))), (10, .d (enc (y24u10 : Int))), (11, .d (enc (x38 : (List Mark)))), (12, .d (enc (x39 : Int)))], [.var 40 (cellsT (.d (enc (m : Mark))))]⟩) (by first | rfl | (simp [sp16, h40, h40g]; done) | (simp [sp16, h40, h40g]; grind)) (k41 _ ?_)
          obtain ⟨⟨x42, x43⟩, h44, hg⟩ := bnd_some hg
          try dsimp only at hg
          have h44g := h44
          try simp at h44g
          refine AWp.rS hV none [1, 3, 6, 9, 10, 11, 12, 13, 14] fun K k45 => ?_
          simp [sp11, h44, h44g]
          repeat refine And.intro (by first | omega | (simp [*]; done) | grind) ?_
          refine kcong (s' := ⟨[(1, .d (enc (id : Int))), (3, .d (enc (stand : Int))), (6, .ptr 0 0), (9, .d (enc (x2 : Bool))), (10, .d (enc (y24u10 : Int))), (11, .d (enc (x38 : (List Mark)))), (12, .d (enc (x39 : Int))), (13, .d (enc (x42 : (List Event)))), (14, .d (enc (x43 : Int)))], [.var 40 (cellsT (.d (enc (m : Mark))))]⟩) (by first | rfl | (simp [sp11, h44, h44g]; done) | (simp [sp11, h44, h44g]; grind)) (k45 _ ?_)
          obtain ⟨⟨x46, x47⟩, h48, hg⟩ := bnd_some hg
          try dsimp only at hg
          have h48g := h48
          try simp at h48g
          refine AWp.rS hV none [1, 3, 6, 9, 10, 11, 12, 13, 14, 15, 16] fun K k49 => ?_
          simp [sp16, h48, h48g]
          repeat refine And.intro (by first | omega | (simp [*]; done) | grind) ?_
          refine kcong (s' := ⟨[(1, .d (enc (id : Int))), (3, .d (enc (stand : Int))), (6, .ptr 0 0), (9, .d (enc (x2 : Bool))), (10, .d (enc (y24u10 : Int))), (11, .d (enc (x38 : (List Mark)))), (12, .d (enc (x39 : Int))), (13, .d (enc (x42 : (List Event)))), (14, .d (enc (x43 : Int))), (15, .d (enc (x46 : (List Mark)))), (16, .d (enc (x47 : Int)))], [.var 40 (cellsT (.d (enc (m : Mark))))]⟩) (by first | rfl | (simp [sp16, h48, h48g]; done) | (simp [sp16, h48, h48g]; grind)) (k49 _ ?_)
          obtain ⟨g50, hg⟩ := grd_some hg
          unfold inI at g50
          obtain ⟨⟨x51, x52⟩, h53, hg⟩ := bnd_some hg
          try dsimp only at hg
          have h53g := h53
          try simp at h53g
          refine AWp.rS hV none [1, 6, 9, 11, 12, 14, 15, 16, 17, 18] fun K k54 => ?_
          simp [sp11, h53, h53g]
          repeat refine And.intro (by first | omega | (simp [*]; done) | grind) ?_
          refine kcong (s' := ⟨[(1, .d (enc (id : Int))), (6, .ptr 0 0), (9, .d (enc (x2 : Bool))), (11, .d (enc (x38 : (List Mark)))), (12, .d (enc (x39 : Int))), (14, .d (enc (x43 : Int))), (15, .d (enc (x46 : (List Mark)))), (16, .d (enc (x47 : Int))), (17, .d (enc (x51 : (List Event)))), (18, .d (enc (x52 : Int)))], [.var 40 (cellsT (.d (enc (m : Mark))))]⟩) (by first | rfl | (simp [sp11, h53, h53g]; done) | (simp [sp11, h53, h53g]; grind)) (k54 _ ?_)
          obtain ⟨⟨x55, x56⟩, h57, hg⟩ := bnd_some hg
          try dsimp only at hg
          have h57g := h57
          try simp at h57g
          refine AWp.rS hV none [1, 6, 9, 11, 12, 14, 15, 16, 18, 19, 20] fun K k58 => ?_
          simp [sp16, h57, h57g]
          repeat refine And.intro (by first | omega | (simp [*]; done) | grind) ?_
          refine kcong (s' := ⟨[(1, .d (enc (id : Int))), (6, .ptr 0 0), (9, .d (enc (x2 : Bool))), (11, .d (enc (x38 : (List Mark)))), (12, .d (enc (x39 : Int))), (14, .d (enc (x43 : Int))), (15, .d (enc (x46 : (List Mark)))), (16, .d (enc (x47 : Int))), (18, .d (enc (x52 : Int))), (19, .d (enc (x55 : (List Mark)))), (20, .d (enc (x56 : Int)))], [.var 40 (cellsT (.d (enc (m : Mark))))]⟩) (by first | rfl | (simp [sp16, h57, h57g]; done) | (simp [sp16, h57, h57g]; grind)) (k58 _ ?_)
          refine AWp.seqG fun _ k59 => ?_
          obtain ⟨y60u125, hx61, hg⟩ := bnd_some hg
          unfold lawErase_r3 at hx61
          refine AWp.seqJ (fun s' => Sub s' ⟨[(1, .d (enc (id : Int))), (6, .ptr 0 0), (9, .d (enc (x2 : Bool))), (11, .d (enc (x38 : (List Mark)))), (15, .d (enc (x46 : (List Mark)))), (19, .d (enc (x55 : (List Mark)))), (125, .d (enc (y60u125 : Bool)))], [.var 40 (cellsT (.d (enc (m : Mark))))]⟩) (fun _ k62 => ?_) ?_
          · rcases Bool.eq_false_or_eq_true (!decide (x39 = 0)) with c63 | c63
            · replace hx61 := ifb_t c63 hx61
              have c63g := c63
              try simp at c63g
              refine AWp.regF hV (some [111, 112, 115, 116, 119, 120, 123, 124]) [1, 6, 9, 11, 15, 19, 125] fun K k64 => ?_
              simp [c63, c63g]
              repeat refine And.intro (by first | omega | (simp [*]; done) | grind) ?_
              refine kcong (s' := ⟨[(1, .d (enc (id : Int))), (6, .ptr 0 0), (9, .d (enc (x2 : Bool))), (11, .d (enc (x38 : (List Mark)))), (15, .d (enc (x46 : (List Mark)))), (19, .d (enc (x55 : (List Mark)))), (125, .d (enc (true : Bool)))], [.var 40 (cellsT (.d (enc (m : Mark))))]⟩) (by first | rfl | (simp [c63, c63g]; done) | (simp [c63, c63g]; grind)) (k64 _ ?_)
              have hx61 := Option.some.inj hx61
              subst hx61
              refine k62 _ ?_
              show Sub _ ⟨[(1, .d (enc (id : Int))), (6, .ptr 0 0), (9, .d (enc (x2 : Bool))), (11, .d (enc (x38 : (List Mark)))), (15, .d (enc (x46 : (List Mark)))), (19, .d (enc (x55 : (List Mark)))), (125, .d (enc (true : Bool)))], [.var 40 (cellsT (.d (enc (m : Mark))))]⟩
              exact Sub.ren [0] (by decide) (by first | rfl | simp [renL, AO.ren, forgetsR, T.ren, idx, Eva.get]) (by first | exact ⟨rfl, rfl, rfl, rfl, rfl, rfl, rfl, trivial⟩ | (simp [renL, AO.ren, forgetsR, T.ren, idx, Eva.get]; done) | (simp [renL, AO.ren, forgetsR, T.ren, idx, Eva.get]; grind))
            · replace hx61 := ifb_f c63 hx61
              have c63g := c63
              try simp at c63g
              rcases Bool.eq_false_or_eq_true (!decide (x43 = 0)) with c65 | c65
              · replace hx61 := ifb_t c65 hx61
                have c65g := c65
                try simp at c65g
                refine AWp.regF hV (some [115, 116, 119, 120, 123, 124]) [1, 6, 9, 11, 15, 19, 125] fun K k66 => ?_
                simp [c63, c63g, c65, c65g]
                repeat refine And.intro (by first | omega | (simp [*]; done) | grind) ?_
                refine kcong (s' := ⟨[(1, .d (enc (id : Int))), (6, .ptr 0 0), (9, .d (enc (x2 : Bool))), (11, .d (enc (x38 : (List Mark)))), (15, .d (enc (x46 : (List Mark)))), (19, .d (enc (x55 : (List Mark)))), (125, .d (enc (true : Bool)))], [.var 40 (cellsT (.d (enc (m : Mark))))]⟩) (by first | rfl | (simp [c63, c63g, c65, c65g]; done) | (simp [c63, c63g, c65, c65g]; grind)) (k66 _ ?_)
                have hx61 := Option.some.inj hx61
                subst hx61
                refine k62 _ ?_
                show Sub _ ⟨[(1, .d (enc (id : Int))), (6, .ptr 0 0), (9, .d (enc (x2 : Bool))), (11, .d (enc (x38 : (List Mark)))), (15, .d (enc (x46 : (List Mark)))), (19, .d (enc (x55 : (List Mark)))), (125, .d (enc (true : Bool)))], [.var 40 (cellsT (.d (enc (m : Mark))))]⟩
                exact Sub.ren [0] (by decide) (by first | rfl | simp [renL, AO.ren, forgetsR, T.ren, idx, Eva.get]) (by first | exact ⟨rfl, rfl, rfl, rfl, rfl, rfl, rfl, trivial⟩ | (simp [renL, AO.ren, forgetsR, T.ren, idx, Eva.get]; done) | (simp [renL, AO.ren, forgetsR, T.ren, idx, Eva.get]; grind))
              · replace hx61 := ifb_f c65 hx61
                have c65g := c65
                try simp at c65g
                rcases Bool.eq_false_or_eq_true (!decide (x47 = 0)) with c67 | c67
                · replace hx61 := ifb_t c67 hx61
                  have c67g := c67
                  try simp at c67g
                  refine AWp.regF hV (some [119, 120, 123, 124]) [1, 6, 9, 11, 15, 19, 125] fun K k68 => ?_
                  simp [c63, c63g, c65, c65g, c67, c67g]
                  repeat refine And.intro (by first | omega | (simp [*]; done) | grind) ?_
                  refine kcong (s' := ⟨[(1, .d (enc (id : Int))), (6, .ptr 0 0), (9, .d (enc (x2 : Bool))), (11, .d (enc (x38 : (List Mark)))), (15, .d (enc (x46 : (List Mark)))), (19, .d (enc (x55 : (List Mark)))), (125, .d (enc (true : Bool)))], [.var 40 (cellsT (.d (enc (m : Mark))))]⟩) (by first | rfl | (simp [c63, c63g, c65, c65g, c67, c67g]; done) | (simp [c63, c63g, c65, c65g, c67, c67g]; grind)) (k68 _ ?_)
                  have hx61 := Option.some.inj hx61
                  subst hx61
                  refine k62 _ ?_
                  show Sub _ ⟨[(1, .d (enc (id : Int))), (6, .ptr 0 0), (9, .d (enc (x2 : Bool))), (11, .d (enc (x38 : (List Mark)))), (15, .d (enc (x46 : (List Mark)))), (19, .d (enc (x55 : (List Mark)))), (125, .d (enc (true : Bool)))], [.var 40 (cellsT (.d (enc (m : Mark))))]⟩
                  exact Sub.ren [0] (by decide) (by first | rfl | simp [renL, AO.ren, forgetsR, T.ren, idx, Eva.get]) (by first | exact ⟨rfl, rfl, rfl, rfl, rfl, rfl, rfl, trivial⟩ | (simp [renL, AO.ren, forgetsR, T.ren, idx, Eva.get]; done) | (simp [renL, AO.ren, forgetsR, T.ren, idx, Eva.get]; grind))
                · replace hx61 := ifb_f c67 hx61
                  have c67g := c67
                  try simp at c67g
                  rcases Bool.eq_false_or_eq_true (!decide (x52 = 0)) with c69 | c69
                  · replace hx61 := ifb_t c69 hx61
                    have c69g := c69
                    try simp at c69g
                    refine AWp.regF hV (some [123, 124]) [1, 6, 9, 11, 15, 19, 125] fun K k70 => ?_
                    simp [c63, c63g, c65, c65g, c67, c67g, c69, c69g]
                    repeat refine And.intro (by first | omega | (simp [*]; done) | grind) ?_
                    refine kcong (s' := ⟨[(1, .d (enc (id : Int))), (6, .ptr 0 0), (9, .d (enc (x2 : Bool))), (11, .d (enc (x38 : (List Mark)))), (15, .d (enc (x46 : (List Mark)))), (19, .d (enc (x55 : (List Mark)))), (125, .d (enc (true : Bool)))], [.var 40 (cellsT (.d (enc (m : Mark))))]⟩) (by first | rfl | (simp [c63, c63g, c65, c65g, c67, c67g, c69, c69g]; done) | (simp [c63, c63g, c65, c65g, c67, c67g, c69, c69g]; grind)) (k70 _ ?_)
                    have hx61 := Option.some.inj hx61
                    subst hx61
                    refine k62 _ ?_
                    show Sub _ ⟨[(1, .d (enc (id : Int))), (6, .ptr 0 0), (9, .d (enc (x2 : Bool))), (11, .d (enc (x38 : (List Mark)))), (15, .d (enc (x46 : (List Mark)))), (19, .d (enc (x55 : (List Mark)))), (125, .d (enc (true : Bool)))], [.var 40 (cellsT (.d (enc (m : Mark))))]⟩
                    exact Sub.ren [0] (by decide) (by first | rfl | simp [renL, AO.ren, forgetsR, T.ren, idx, Eva.get]) (by first | exact ⟨rfl, rfl, rfl, rfl, rfl, rfl, rfl, trivial⟩ | (simp [renL, AO.ren, forgetsR, T.ren, idx, Eva.get]; done) | (simp [renL, AO.ren, forgetsR, T.ren, idx, Eva.get]; grind))
                  · replace hx61 := ifb_f c69 hx61
                    have c69g := c69
                    try simp at c69g
                    refine AWp.regF hV (some []) [1, 6, 9, 11, 15, 19, 125] fun K k71 => ?_
                    simp [c63, c63g, c65, c65g, c67, c67g, c69, c69g]
                    repeat refine And.intro (by first | omega | (simp [*]; done) | grind) ?_
                    refine kcong (s' := ⟨[(1, .d (enc (id : Int))), (6, .ptr 0 0), (9, .d (enc (x2 : Bool))), (11, .d (enc (x38 : (List Mark)))), (15, .d (enc (x46 : (List Mark)))), (19, .d (enc (x55 : (List Mark)))), (125, .d (enc ((!decide (x56 = 0)) : Bool)))], [.var 40 (cellsT (.d (enc (m : Mark))))]⟩) (by first | rfl | (simp [c63, c63g, c65, c65g, c67, c67g, c69, c69g]; done) | (simp [c63, c63g, c65, c65g, c67, c67g, c69, c69g]; grind)) (k71 _ ?_)
                    have hx61 := Option.some.inj hx61
                    subst hx61
                    refine k62 _ ?_
                    show Sub _ ⟨[(1, .d (enc (id : Int))), (6, .ptr 0 0), (9, .d (enc (x2 : Bool))), (11, .d (enc (x38 : (List Mark)))), (15, .d (enc (x46 : (List Mark)))), (19, .d (enc (x55 : (List Mark)))), (125, .d (enc ((!decide (x56 = 0)) : Bool)))], [.var 40 (cellsT (.d (enc (m : Mark))))]⟩
                    exact Sub.ren [0] (by decide) (by first | rfl | simp [renL, AO.ren, forgetsR, T.ren, idx, Eva.get]) (by first | exact ⟨rfl, rfl, rfl, rfl, rfl, rfl, rfl, trivial⟩ | (simp [renL, AO.ren, forgetsR, T.ren, idx, Eva.get]; done) | (simp [renL, AO.ren, forgetsR, T.ren, idx, Eva.get]; grind))
          · intro s' hs
            refine AWp.sub hs ?_
            clear hs s'
            refine AWp.cond (b := y60u125) rfl (fun h72 => ?_) fun h72 => ?_
            · replace hg := ifb_t h72 hg
              refine AWp.rS hV none [8] fun K k73 => ?_
              simp
              repeat refine And.intro (by first | omega | (simp [*]; done) | grind) ?_
              refine kcong (s' := ⟨[(8, .d (enc (false : Bool)))], [.var 40 (cellsT (.d (enc (m : Mark))))]⟩) (by first | rfl | (simp []; done) | (simp []; grind)) (k73 _ ?_)
              refine AWp.ret ?_
              refine hQ _ _ (.inl rfl) ?_
              have hg := Option.some.inj hg
              subst hg
              first | (simp [retOk, resT, loadAs]; done) | (simp [retOk, resT, loadAs]; grind)
            · replace hg := ifb_f h72 hg
              refine AWp.skip ?_
              refine k59 _ ?_
              refine AWp.rS hV none [1, 6, 9, 11, 15, 19, 21, 22] fun K k74 => ?_
              simp
              repeat refine And.intro (by first | omega | (simp [*]; done) | grind) ?_
              refine kcong (s' := ⟨[(1, .d (enc (id : Int))), (6, .ptr 0 0), (9, .d (enc (x2 : Bool))), (11, .d (enc (x38 : (List Mark)))), (15, .d (enc (x46 : (List Mark)))), (19, .d (enc (x55 : (List Mark)))), (21, .nils 10), (22, .nils 10)], [.var 40 (cellsT (.d (enc (m : Mark))))]⟩) (by first | rfl | (simp []; done) | (simp []; grind)) (k74 _ ?_)
              refine AWp.rS hV none [1, 6, 9, 11, 15, 19, 21, 22, 23] fun K k75 => ?_
              simp
              repeat refine And.intro (by first | omega | (simp [*]; done) | grind) ?_
              refine kcong (s' := ⟨[(1, .d (enc (id : Int))), (6, .ptr 0 0), (9, .d (enc (x2 : Bool))), (11, .d (enc (x38 : (List Mark)))), (15, .d (enc (x46 : (List Mark)))), (19, .d (enc (x55 : (List Mark)))), (21, .nils 10), (22, .nils 10), (23, .d (enc (false : Bool)))], [.var 40 (cellsT (.d (enc (m : Mark))))]⟩) (by first | rfl | (simp []; done) | (simp []; grind)) (k75 _ ?_)
              refine AWp.seqJ (fun s' => ∃ y76u21 : (List Mark), ∃ y76u22 : (List Mark), ∃ y76u23 : Bool, lawErase_j4 m x2 x46 x55 y76u21 y76u22 y76u23 = some r ∧ Sub s' ⟨[(6, .ptr 0 0), (9, .d (enc (x2 : Bool))), (15, .d (enc (x46 : (List Mark)))), (19, .d (enc (x55 : (List Mark)))), (21, .row 1), (22, .row 2), (23, .d (enc (y76u23 : Bool)))], [.var 40 (cellsT (.d (enc (m : Mark)))), .row 40 10 ((y76u21 : List Mark).map enc), .row 40 10 ((y76u22 : List Mark).map enc)]⟩) (fun _ k77 => ?_) ?_
              · refine AWp.rS hV none [1, 6, 9, 15, 19, 21, 22, 23, 126, 127, 128] fun K k78 => ?_
                simp
                repeat refine And.intro (by first | omega | (simp [*]; done) | grind) ?_
                refine kcong (s' := ⟨[(1, .d (enc (id : Int))), (6, .ptr 0 0), (9, .d (enc (x2 : Bool))), (15, .d (enc (x46 : (List Mark)))), (19, .d (enc (x55 : (List Mark)))), (21, .nils 10), (22, .nils 10), (23, .d (enc (false : Bool))), (126, .d (enc (x38 : (List Mark)))), (127, .d (enc ((x38.length : Int) : Int))), (128, .d (enc (0 : Int)))], [.var 40 (cellsT (.d (enc (m : Mark))))]⟩) (by first | rfl | (simp []; done) | (simp []; grind)) (k78 _ ?_)
                refine AWp.block ?_
                obtain ⟨o134, hl135, hg⟩ := bnd_some hg
                refine AWp.loopO (fun ((z5u21, z5u22, z5u23, z5u128) : (List Mark) × (List Mark) × Bool × Int) => ⟨[(1, .d (enc (id : Int))), (6, .ptr 0 0), (9, .d (enc (x2 : Bool))), (15, .d (enc (x46 : (List Mark)))), (19, .d (enc (x55 : (List Mark)))), (21, .row 1), (22, .row 2), (23, .d (enc (z5u23 : Bool))), (126, .d (enc (x38 : (List Mark)))), (127, .d (enc ((x38.length : Int) : Int))), (128, .d (enc (z5u128 : Int)))], [.var 40 (cellsT (.d (enc (m : Mark)))), .row 40 10 ((z5u21 : List Mark).map enc), .row 40 10 ((z5u22 : List Mark).map enc)]⟩) (lawErase_s12 id m x38) ([], [], false, 0) hl135 ?_ fun z136 w139 _ ho137 hx138 k79 => ?_
                · show Sub _ ⟨[(1, .d (enc (id : Int))), (6, .ptr 0 0), (9, .d (enc (x2 : Bool))), (15, .d (enc (x46 : (List Mark)))), (19, .d (enc (x55 : (List Mark)))), (21, .row 1), (22, .row 2), (23, .d (enc (false : Bool))), (126, .d (enc (x38 : (List Mark)))), (127, .d (enc ((x38.length : Int) : Int))), (128, .d (enc (0 : Int)))], [.var 40 (cellsT (.d (enc (m : Mark)))), .row 40 10 (([] : List Mark).map enc), .row 40 10 (([] : List Mark).map enc)]⟩
                  exact Sub.trans (Sub.adopt 21 40 10 rfl) (Sub.trans (Sub.adopt 22 40 10 rfl) (Sub.ren [0, 1, 2] (by decide) (by first | rfl | simp [renL, AO.ren, forgetsR, T.ren, idx, Eva.get]) (by first | exact ⟨rfl, rfl, rfl, rfl, rfl, rfl, rfl, rfl, rfl, rfl, rfl, trivial⟩ | (simp [renL, AO.ren, forgetsR, T.ren, idx, Eva.get]; done) | (simp [renL, AO.ren, forgetsR, T.ren, idx, Eva.get]; grind))))
                obtain ⟨z5u21, z5u22, z5u23, z5u128⟩ := z136
                unfold lawErase_s12 at ho137
                try dsimp only at ho137
                have hq140 := hg
                clear hg
                have hg := ho137
                clear ho137
                show AWp _ _ _ _ _ ⟨[(1, .d (enc (id : Int))), (6, .ptr 0 0), (9, .d (enc (x2 : Bool))), (15, .d (enc (x46 : (List Mark)))), (19, .d (enc (x55 : (List Mark)))), (21, .row 1), (22, .row 2), (23, .d (enc (z5u23 : Bool))), (126, .d (enc (x38 : (List Mark)))), (127, .d (enc ((x38.length : Int) : Int))), (128, .d (enc (z5u128 : Int)))], [.var 40 (cellsT (.d (enc (m : Mark)))), .row 40 10 ((z5u21 : List Mark).map enc), .row 40 10 ((z5u22 : List Mark).map enc)]⟩ _
                refine AWp.rS hV none [1, 6, 9, 15, 19, 21, 22, 23, 126, 127, 128, 129] fun K k141 => ?_
                simp
                repeat refine And.intro (by first | omega | (simp [*]; done) | grind) ?_
                refine kcong (s' := ⟨[(1, .d (enc (id : Int))), (6, .ptr 0 0), (9, .d (enc (x2 : Bool))), (15, .d (enc (x46 : (List Mark)))), (19, .d (enc (x55 : (List Mark)))), (21, .row 1), (22, .row 2), (23, .d (enc (z5u23 : Bool))), (126, .d (enc (x38 : (List Mark)))), (127, .d (enc ((x38.length : Int) : Int))), (128, .d (enc (z5u128 : Int))), (129, .d (enc ((decide (z5u128 < (x38.length : Int))) : Bool)))], [.var 40 (cellsT (.d (enc (m : Mark)))), .row 40 10 ((z5u21 : List Mark).map enc), .row 40 10 ((z5u22 : List Mark).map enc)]⟩) (by first | rfl | (simp []; done) | (simp []; grind)) (k141 _ ?_)
                refine AWp.seqG fun _ k142 => ?_
                refine AWp.cond (b := (decide (z5u128 < (x38.length : Int)))) rfl (fun h143 => ?_) fun h143 => ?_
                · replace hg := ifb_t h143 hg
                  refine AWp.skip ?_
                  refine k142 _ ?_
                  refine AWp.seqJ (fun s' => ∃ y144u21 : (List Mark), ∃ y144u22 : (List Mark), ∃ y144u23 : Bool, lawErase_j13 z5u128 y144u21 y144u22 y144u23 = some w139 ∧ Sub s' ⟨[(1, .d (enc (id : Int))), (6, .ptr 0 0), (9, .d (enc (x2 : Bool))), (15, .d (enc (x46 : (List Mark)))), (19, .d (enc (x55 : (List Mark)))), (21, .row 1), (22, .row 2), (23, .d (enc (y144u23 : Bool))), (126, .d (enc (x38 : (List Mark)))), (127, .d (enc ((x38.length : Int) : Int))), (128, .d (enc (z5u128 : Int)))], [.var 40 (cellsT (.d (enc (m : Mark)))), .row 40 10 ((y144u21 : List Mark).map enc), .row 40 10 ((y144u22 : List Mark).map enc)]⟩) (fun _ k145 => ?_) ?_
                  · refine AWp.block ?_
                    obtain ⟨x146, h147, hg⟩ := bnd_some hg
                    obtain ⟨h147a, h147b, h147c⟩ := at_some h147
                    have h147f := elAt_enc h147c
                    have h147g := h147f
                    try simp at h147g
                    refine AWp.rS hV none [1, 6, 9, 15, 19, 21, 22, 23, 25, 126, 127, 128] fun K k148 => ?_
                    simp [h147f, h147g]
                    repeat refine And.intro (by first | omega | (simp [*]; done) | grind) ?_
                    refine kcong (s' := ⟨[(1, .d (enc (id : Int))), (6, .ptr 0 0), (9, .d (enc (x2 : Bool))), (15, .d (enc (x46 : (List Mark)))), (19, .d (enc (x55 : (List Mark)))), (21, .row 1), (22, .row 2), (23, .d (enc (z5u23 : Bool))), (25, .ptr 3 0), (126, .d (enc (x38 : (List Mark)))), (127, .d (enc ((x38.length : Int) : Int))), (128, .d (enc (z5u128 : Int)))], [.var 40 (cellsT (.d (enc (m : Mark)))), .row 40 10 ((z5u21 : List Mark).map enc), .row 40 10 ((z5u22 : List Mark).map enc), .var 40 (cellsT (.d (enc (x146 : Mark))))]⟩) (by first | rfl | (simp [h147f, h147g]; done) | (simp [h147f, h147g]; grind)) (k148 _ ?_)
                    refine AWp.seqG fun _ k149 => ?_
                    refine AWp.rS hV none [1, 6, 9, 15, 19, 21, 22, 23, 25, 126, 127, 128, 135] fun K k150 => ?_
                    simp
                    repeat refine And.intro (by first | omega | (simp [*]; done) | grind) ?_
                    refine kcong (s' := ⟨[(1, .d (enc (id : Int))), (6, .ptr 0 0), (9, .d (enc (x2 : Bool))), (15, .d (enc (x46 : (List Mark)))), (19, .d (enc (x55 : (List Mark)))), (21, .row 1), (22, .row 2), (23, .d (enc (z5u23 : Bool))), (25, .ptr 3 0), (126, .d (enc (x38 : (List Mark)))), (127, .d (enc ((x38.length : Int) : Int))), (128, .d (enc (z5u128 : Int))), (135, .d (enc ((decide (x146.id = id)) : Bool)))], [.var 40 (cellsT (.d (enc (m : Mark)))), .row 40 10 ((z5u21 : List Mark).map enc), .row 40 10 ((z5u22 : List Mark).map enc), .var 40 (cellsT (.d (enc (x146 : Mark))))]⟩) (by first | rfl | (simp []; done) | (simp []; grind)) (k150 _ ?_)
                    refine AWp.cond (b := (decide (x146.id = id))) rfl (fun h151 => ?_) fun h151 => ?_
                    · replace hg := ifb_t h151 hg
                      refine AWp.exit ?_
                      refine k145 _ (Exists.intro _ (Exists.intro _ (Exists.intro _ (And.intro hg ?_))))
                      show Sub _ ⟨[(1, .d (enc (id : Int))), (6, .ptr 0 0), (9, .d (enc (x2 : Bool))), (15, .d (enc (x46 : (List Mark)))), (19, .d (enc (x55 : (List Mark)))), (21, .row 1), (22, .row 2), (23, .d (enc (z5u23 : Bool))), (126, .d (enc (x38 : (List Mark)))), (127, .d (enc ((x38.length : Int) : Int))), (128, .d (enc (z5u128 : Int)))], [.var 40 (cellsT (.d (enc (m : Mark)))), .row 40 10 ((z5u21 : List Mark).map enc), .row 40 10 ((z5u22 : List Mark).map enc)]⟩
                      exact Sub.ren [0, 1, 2] (by decide) (by first | rfl | simp [renL, AO.ren, forgetsR, T.ren, idx, Eva.get]) (by first | exact ⟨rfl, rfl, rfl, rfl, rfl, rfl, rfl, rfl, rfl, rfl, rfl, trivial⟩ | (simp [renL, AO.ren, forgetsR, T.ren, idx, Eva.get]; done) | (simp [renL, AO.ren, forgetsR, T.ren, idx, Eva.get]; grind))
                    · replace hg := ifb_f h151 hg
                      refine AWp.skip ?_
                      refine k149 _ ?_
                      refine AWp.seqJ (fun s' => ∃ y152u22 : (List Mark), ∃ y152u23 : Bool, lawErase_j14 z5u21 z5u128 x146 y152u22 y152u23 = some w139 ∧ Sub s' ⟨[(1, .d (enc (id : Int))), (6, .ptr 0 0), (9, .d (enc (x2 : Bool))), (15, .d (enc (x46 : (List Mark)))), (19, .d (enc (x55 : (List Mark)))), (21, .row 1), (22, .row 2), (23, .d (enc (y152u23 : Bool))), (25, .ptr 3 0), (126, .d (enc (x38 : (List Mark)))), (127, .d (enc ((x38.length : Int) : Int))), (128, .d (enc (z5u128 : Int)))], [.var 40 (cellsT (.d (enc (m : Mark)))), .row 40 10 ((z5u21 : List Mark).map enc), .row 40 10 ((y152u22 : List Mark).map enc), .var 40 (cellsT (.d (enc (x146 : Mark))))]⟩) (fun _ k153 => ?_) ?_
                      · obtain ⟨y154u143, hx155, hg⟩ := bnd_some hg
                        unfold lawErase_r15 at hx155
                        refine AWp.seqJ (fun s' => Sub s' ⟨[(1, .d (enc (id : Int))), (6, .ptr 0 0), (9, .d (enc (x2 : Bool))), (15, .d (enc (x46 : (List Mark)))), (19, .d (enc (x55 : (List Mark)))), (21, .row 1), (22, .row 2), (23, .d (enc (z5u23 : Bool))), (25, .ptr 3 0), (126, .d (enc (x38 : (List Mark)))), (127, .d (enc ((x38.length : Int) : Int))), (128, .d (enc (z5u128 : Int))), (143, .d (enc (y154u143 : Bool)))], [.var 40 (cellsT (.d (enc (m : Mark)))), .row 40 10 ((z5u21 : List Mark).map enc), .row 40 10 ((z5u22 : List Mark).map enc), .var 40 (cellsT (.d (enc (x146 : Mark))))]⟩) (fun _ k156 => ?_) ?_
                        · rcases Bool.eq_false_or_eq_true (decide (id < x146.id)) with c157 | c157
                          · replace hx155 := ifb_t c157 hx155
                            have c157g := c157
                            try simp at c157g
                            refine AWp.regF hV (some []) [1, 6, 9, 15, 19, 21, 22, 23, 25, 126, 127, 128, 143] fun K k158 => ?_
                            simp [c157, c157g]
                            repeat refine And.intro (by first | omega | (simp [*]; done) | grind) ?_
                            refine kcong (s' := ⟨[(1, .d (enc (id : Int))), (6, .ptr 0 0), (9, .d (enc (x2 : Bool))), (15, .d (enc (x46 : (List Mark)))), (19, .d (enc (x55 : (List Mark)))), (21, .row 1), (22, .row 2), (23, .d (enc (z5u23 : Bool))), (25, .ptr 3 0), (126, .d (enc (x38 : (List Mark)))), (127, .d (enc ((x38.length : Int) : Int))), (128, .d (enc (z5u128 : Int))), (143, .d (enc ((!z5u23) : Bool)))], [.var 40 (cellsT (.d (enc (m : Mark)))), .row 40 10 ((z5u21 : List Mark).map enc), .row 40 10 ((z5u22 : List Mark).map enc), .var 40 (cellsT (.d (enc (x146 : Mark))))]⟩) (by first | rfl | (simp [c157, c157g]; done) | (simp [c157, c157g]; grind)) (k158 _ ?_)
                            have hx155 := Option.some.inj hx155
                            subst hx155
                            refine k156 _ ?_
                            show Sub _ ⟨[(1, .d (enc (id : Int))), (6, .ptr 0 0), (9, .d (enc (x2 : Bool))), (15, .d (enc (x46 : (List Mark)))), (19, .d (enc (x55 : (List Mark)))), (21, .row 1), (22, .row 2), (23, .d (enc (z5u23 : Bool))), (25, .ptr 3 0), (126, .d (enc (x38 : (List Mark)))), (127, .d (enc ((x38.length : Int) : Int))), (128, .d (enc (z5u128 : Int))), (143, .d (enc ((!z5u23) : Bool)))], [.var 40 (cellsT (.d (enc (m : Mark)))), .row 40 10 ((z5u21 : List Mark).map enc), .row 40 10 ((z5u22 : List Mark).map enc), .var 40 (cellsT (.d (enc (x146 : Mark))))]⟩
                            exact Sub.ren [0, 1, 2, 3] (by decide) (by first | rfl | simp [renL, AO.ren, forgetsR, T.ren, idx, Eva.get]) (by first | exact ⟨rfl, rfl, rfl, rfl, rfl, rfl, rfl, rfl, rfl, rfl, rfl, rfl, rfl, trivial⟩ | (simp [renL, AO.ren, forgetsR, T.ren, idx, Eva.get]; done) | (simp [renL, AO.ren, forgetsR, T.ren, idx, Eva.get]; grind))
                          · replace hx155 := ifb_f c157 hx155
                            have c157g := c157
                            try simp at c157g
                            refine AWp.regF hV (some [141, 142]) [1, 6, 9, 15, 19, 21, 22, 23, 25, 126, 127, 128, 143] fun K k159 => ?_
                            simp [c157, c157g]
                            repeat refine And.intro (by first | omega | (simp [*]; done) | grind) ?_
                            refine kcong (s' := ⟨[(1, .d (enc (id : Int))), (6, .ptr 0 0), (9, .d (enc (x2 : Bool))), (15, .d (enc (x46 : (List Mark)))), (19, .d (enc (x55 : (List Mark)))), (21, .row 1), (22, .row 2), (23, .d (enc (z5u23 : Bool))), (25, .ptr 3 0), (126, .d (enc (x38 : (List Mark)))), (127, .d (enc ((x38.length : Int) : Int))), (128, .d (enc (z5u128 : Int))), (143, .d (enc (false : Bool)))], [.var 40 (cellsT (.d (enc (m : Mark)))), .row 40 10 ((z5u21 : List Mark).map enc), .row 40 10 ((z5u22 : List Mark).map enc), .var 40 (cellsT (.d (enc (x146 : Mark))))]⟩) (by first | rfl | (simp [c157, c157g]; done) | (simp [c157, c157g]; grind)) (k159 _ ?_)
                            have hx155 := Option.some.inj hx155
                            subst hx155
                            refine k156 _ ?_
                            show Sub _ ⟨[(1, .d (enc (id : Int))), (6, .ptr 0 0), (9, .d (enc (x2 : Bool))), (15, .d (enc (x46 : (List Mark)))), (19, .d (enc (x55 : (List Mark)))), (21, .row 1), (22, .row 2), (23, .d (enc (z5u23 : Bool))), (25, .ptr 3 0), (126, .d (enc (x38 : (List Mark)))), (127, .d (enc ((x38.length : Int) : Int))), (128, .d (enc (z5u128 : Int))), (143, .d (enc (false : Bool)))], [.var 40 (cellsT (.d (enc (m : Mark)))), .row 40 10 ((z5u21 : List Mark).map enc), .row 40 10 ((z5u22 : List Mark).map enc), .var 40 (cellsT (.d (enc (x146 : Mark))))]⟩
                            exact Sub.ren [0, 1, 2, 3] (by decide) (by first | rfl | simp [renL, AO.ren, forgetsR, T.ren, idx, Eva.get]) (by first | exact ⟨rfl, rfl, rfl, rfl, rfl, rfl, rfl, rfl, rfl, rfl, rfl, rfl, rfl, trivial⟩ | (simp [renL, AO.ren, forgetsR, T.ren, idx, Eva.get]; done) | (simp [renL, AO.ren, forgetsR, T.ren, idx, Eva.get]; grind))
                        · intro s' hs
                          refine AWp.sub hs ?_
                          clear hs s'
                          refine AWp.cond (b := y154u143) rfl (fun h160 => ?_) fun h160 => ?_
                          · replace hg := ifb_t h160 hg
                            obtain ⟨g161, hg⟩ := grd_some hg
                            refine AWp.regF hV none [1, 6, 9, 15, 19, 21, 22, 23, 25, 126, 127, 128] fun K k162 => ?_
                            simp
                            repeat refine And.intro (by first | omega | (simp [*]; done) | grind) ?_
                            refine kcong (s' := ⟨[(1, .d (enc (id : Int))), (6, .ptr 0 0), (9, .d (enc (x2 : Bool))), (15, .d (enc (x46 : (List Mark)))), (19, .d (enc (x55 : (List Mark)))), (21, .row 1), (22, .row 4), (23, .d (enc (true : Bool))), (25, .ptr 3 0), (126, .d (enc (x38 : (List Mark)))), (127, .d (enc ((x38.length : Int) : Int))), (128, .d (enc (z5u128 : Int)))], [.var 40 (cellsT (.d (enc (m : Mark)))), .row 40 10 ((z5u21 : List Mark).map enc), .dead, .var 40 (cellsT (.d (enc (x146 : Mark)))), .row 40 10 (((z5u22 ++ [m]) : List Mark).map enc)]⟩) (by first | rfl | (simp []; done) | (simp []; grind)) (k162 _ ?_)
                            refine k153 _ (Exists.intro _ (Exists.intro _ (And.intro hg ?_)))
                            show Sub _ ⟨[(1, .d (enc (id : Int))), (6, .ptr 0 0), (9, .d (enc (x2 : Bool))), (15, .d (enc (x46 : (List Mark)))), (19, .d (enc (x55 : (List Mark)))), (21, .row 1), (22, .row 2), (23, .d (enc (true : Bool))), (25, .ptr 3 0), (126, .d (enc (x38 : (List Mark)))), (127, .d (enc ((x38.length : Int) : Int))), (128, .d (enc (z5u128 : Int)))], [.var 40 (cellsT (.d (enc (m : Mark)))), .row 40 10 ((z5u21 : List Mark).map enc), .row 40 10 (((z5u22 ++ [m]) : List Mark).map enc), .var 40 (cellsT (.d (enc (x146 : Mark))))]⟩
                            exact Sub.ren [0, 1, 4, 3] (by decide) (by first | rfl | simp [renL, AO.ren, forgetsR, T.ren, idx, Eva.get]) (by first | exact ⟨rfl, rfl, rfl, rfl, rfl, rfl, rfl, rfl, rfl, rfl, rfl, rfl, trivial⟩ | (simp [renL, AO.ren, forgetsR, T.ren, idx, Eva.get]; done) | (simp [renL, AO.ren, forgetsR, T.ren, idx, Eva.get]; grind))
                          · replace hg := ifb_f h160 hg
                            refine AWp.skip ?_
                            refine k153 _ (Exists.intro _ (Exists.intro _ (And.intro hg ?_)))
                            show Sub _ ⟨[(1, .d (enc (id : Int))), (6, .ptr 0 0), (9, .d (enc (x2 : Bool))), (15, .d (enc (x46 : (List Mark)))), (19, .d (enc (x55 : (List Mark)))), (21, .row 1), (22, .row 2), (23, .d (enc (z5u23 : Bool))), (25, .ptr 3 0), (126, .d (enc (x38 : (List Mark)))), (127, .d (enc ((x38.length : Int) : Int))), (128, .d (enc (z5u128 : Int)))], [.var 40 (cellsT (.d (enc (m : Mark)))), .row 40 10 ((z5u21 : List Mark).map enc), .row 40 10 ((z5u22 : List Mark).map enc), .var 40 (cellsT (.d (enc (x146 : Mark))))]⟩
                            exact Sub.ren [0, 1, 2, 3] (by decide) (by first | rfl | simp [renL, AO.ren, forgetsR, T.ren, idx, Eva.get]) (by first | exact ⟨rfl, rfl, rfl, rfl, rfl, rfl, rfl, rfl, rfl, rfl, rfl, rfl, trivial⟩ | (simp [renL, AO.ren, forgetsR, T.ren, idx, Eva.get]; done) | (simp [renL, AO.ren, forgetsR, T.ren, idx, Eva.get]; grind))
                      · rintro s' ⟨y152u22, y152u23, hg, hs⟩
                        unfold lawErase_j14 at hg
                        refine AWp.sub hs ?_
                        obtain ⟨g163, hg⟩ := grd_some hg
                        obtain ⟨g164, hg⟩ := grd_some hg
                        refine AWp.regDP hV mixed none [0, 1, 2, 4, 5, 6, 3, 7, 8, 9] 6 [3, 4, 5] [1, 6, 9, 15, 19, 21, 22, 23, 126, 127, 128] (by decide) (by decide) (by first | rfl | decide | simp [floatPtr]) fun K k165 => ?_
                        simp only [permOps, reOp, posIn, List.filterMap_cons, List.filterMap_nil, List.getElem?_cons_zero, List.getElem?_cons_succ, Option.map_some, Option.map_none, List.map_cons, List.map_nil, List.findIdx_cons]
                        simp
                        repeat refine And.intro (by first | omega | (simp [*]; done) | grind) ?_
                        refine kcong (s' := ⟨[(1, .d (enc (id : Int))), (6, .ptr 0 0), (9, .d (enc (x2 : Bool))), (15, .d (enc (x46 : (List Mark)))), (19, .d (enc (x55 : (List Mark)))), (21, .row 4), (22, .row 5), (23, .d (enc (y152u23 : Bool))), (126, .d (enc (x38 : (List Mark)))), (127, .d (enc ((x38.length : Int) : Int))), (128, .d (enc (z5u128 : Int)))], [.var 40 (cellsT (.d (enc (m : Mark)))), .dead, .dead, .var 40 (cellsT (.d (enc (x146 : Mark)))), .row 40 10 (((z5u21 ++ [x146]) : List Mark).map enc), .row 40 10 (((y152u22 ++ [x146]) : List Mark).map enc)]⟩) (by first | rfl | (simp []; done) | (simp []; grind)) (k165 _ ?_)
                        refine k145 _ (Exists.intro _ (Exists.intro _ (Exists.intro _ (And.intro hg ?_))))
                        show Sub _ ⟨[(1, .d (enc (id : Int))), (6, .ptr 0 0), (9, .d (enc (x2 : Bool))), (15, .d (enc (x46 : (List Mark)))), (19, .d (enc (x55 : (List Mark)))), (21, .row 1), (22, .row 2), (23, .d (enc (y152u23 : Bool))), (126, .d (enc (x38 : (List Mark)))), (127, .d (enc ((x38.length : Int) : Int))), (128, .d (enc (z5u128 : Int)))], [.var 40 (cellsT (.d (enc (m : Mark)))), .row 40 10 (((z5u21 ++ [x146]) : List Mark).map enc), .row 40 10 (((y152u22 ++ [x146]) : List Mark).map enc)]⟩
                        exact Sub.ren [0, 4, 5] (by decide) (by first | rfl | simp [renL, AO.ren, forgetsR, T.ren, idx, Eva.get]) (by first | exact ⟨rfl, rfl, rfl, rfl, rfl, rfl, rfl, rfl, rfl, rfl, rfl, trivial⟩ | (simp [renL, AO.ren, forgetsR, T.ren, idx, Eva.get]; done) | (simp [renL, AO.ren, forgetsR, T.ren, idx, Eva.get]; grind))
                  · rintro s' ⟨y144u21, y144u22, y144u23, hg, hs⟩
                    unfold lawErase_j13 at hg
                    refine AWp.sub hs ?_
                    obtain ⟨g166, hg⟩ := grd_some hg
                    unfold inI at g166
                    refine AWp.regF hV none [1, 6, 9, 15, 19, 21, 22, 23, 126, 127, 128] fun K k167 => ?_
                    simp
                    repeat refine And.intro (by first | omega | (simp [*]; done) | grind) ?_
                    refine kcong (s' := ⟨[(1, .d (enc (id : Int))), (6, .ptr 0 0), (9, .d (enc (x2 : Bool))), (15, .d (enc (x46 : (List Mark)))), (19, .d (enc (x55 : (List Mark)))), (21, .row 1), (22, .row 2), (23, .d (enc (y144u23 : Bool))), (126, .d (enc (x38 : (List Mark)))), (127, .d (enc ((x38.length : Int) : Int))), (128, .d (enc ((z5u128 + 1) : Int)))], [.var 40 (cellsT (.d (enc (m : Mark)))), .row 40 10 ((y144u21 : List Mark).map enc), .row 40 10 ((y144u22 : List Mark).map enc)]⟩) (by first | rfl | (simp []; done) | (simp []; grind)) (k167 _ ?_)
                    refine k79 _ _ (Option.some.inj hg).symm ?_
                    show Sub _ ⟨[(1, .d (enc (id : Int))), (6, .ptr 0 0), (9, .d (enc (x2 : Bool))), (15, .d (enc (x46 : (List Mark)))), (19, .d (enc (x55 : (List Mark)))), (21, .row 1), (22, .row 2), (23, .d (enc (y144u23 : Bool))), (126, .d (enc (x38 : (List Mark)))), (127, .d (enc ((x38.length : Int) : Int))), (128, .d (enc ((z5u128 + 1) : Int)))], [.var 40 (cellsT (.d (enc (m : Mark)))), .row 40 10 ((y144u21 : List Mark).map enc), .row 40 10 ((y144u22 : List Mark).map enc)]⟩
                    exact Sub.ren [0, 1, 2] (by decide) (by first | rfl | simp [renL, AO.ren, forgetsR, T.ren, idx, Eva.get]) (by first | exact ⟨rfl, rfl, rfl, rfl, rfl, rfl, rfl, rfl, rfl, rfl, rfl, trivial⟩ | (simp [renL, AO.ren, forgetsR, T.ren, idx, Eva.get]; done) | (simp [renL, AO.ren, forgetsR, T.ren, idx, Eva.get]; grind))
                · replace hg := ifb_f h143 hg
                  refine AWp.exit ?_
                  have e168 := hx138 _ (Option.some.inj hg).symm
                  subst e168
                  have hg := hq140
                  try dsimp only at hg
                  refine k77 _ (Exists.intro _ (Exists.intro _ (Exists.intro _ (And.intro hg ?_))))
                  show Sub _ ⟨[(6, .ptr 0 0), (9, .d (enc (x2 : Bool))), (15, .d (enc (x46 : (List Mark)))), (19, .d (enc (x55 : (List Mark)))), (21, .row 1), (22, .row 2), (23, .d (enc (z5u23 : Bool)))], [.var 40 (cellsT (.d (enc (m : Mark)))), .row 40 10 ((z5u21 : List Mark).map enc), .row 40 10 ((z5u22 : List Mark).map enc)]⟩
                  exact Sub.ren [0, 1, 2] (by decide) (by first | rfl | simp [renL, AO.ren, forgetsR, T.ren, idx, Eva.get]) (by first | exact ⟨rfl, rfl, rfl, rfl, rfl, rfl, rfl, trivial⟩ | (simp [renL, AO.ren, forgetsR, T.ren, idx, Eva.get]; done) | (simp [renL, AO.ren, forgetsR, T.ren, idx, Eva.get]; grind))
              · rintro s' ⟨y76u21, y76u22, y76u23, hg, hs⟩
                unfold lawErase_j4 at hg
                refine AWp.sub hs ?_
                refine AWp.seqJ (fun s' => ∃ y170u22 : (List Mark), lawErase_j16 x2 x46 x55 y76u21 y170u22 = some r ∧ Sub s' ⟨[(9, .d (enc (x2 : Bool))), (15, .d (enc (x46 : (List Mark)))), (19, .d (enc (x55 : (List Mark)))), (21, .row 0), (22, .row 1)], [.row 40 10 ((y76u21 : List Mark).map enc), .row 40 10 ((y170u22 : List Mark).map enc)]⟩) (fun _ k171 => ?_) ?_
                · refine AWp.rS hV none [6, 9, 15, 19, 21, 22, 158] fun K k172 => ?_
                  simp
                  repeat refine And.intro (by first | omega | (simp [*]; done) | grind) ?_
                  refine kcong (s' := ⟨[(6, .ptr 0 0), (9, .d (enc (x2 : Bool))), (15, .d (enc (x46 : (List Mark)))), (19, .d (enc (x55 : (List Mark)))), (21, .row 1), (22, .row 2), (158, .d (enc ((!y76u23) : Bool)))], [.var 40 (cellsT (.d (enc (m : Mark)))), .row 40 10 ((y76u21 : List Mark).map enc), .row 40 10 ((y76u22 : List Mark).map enc)]⟩) (by first | rfl | (simp []; done) | (simp []; grind)) (k172 _ ?_)
                  refine AWp.cond (b := (!y76u23)) rfl (fun h173 => ?_) fun h173 => ?_
                  · replace hg := ifb_t h173 hg
                    obtain ⟨g174, hg⟩ := grd_some hg
                    refine AWp.regF hV none [9, 15, 19, 21, 22] fun K k175 => ?_
                    simp
                    repeat refine And.intro (by first | omega | (simp [*]; done) | grind) ?_
                    refine kcong (s' := ⟨[(9, .d (enc (x2 : Bool))), (15, .d (enc (x46 : (List Mark)))), (19, .d (enc (x55 : (List Mark)))), (21, .row 1), (22, .row 3)], [.var 40 (cellsT (.d (enc (m : Mark)))), .row 40 10 ((y76u21 : List Mark).map enc), .dead, .row 40 10 (((y76u22 ++ [m]) : List Mark).map enc)]⟩) (by first | rfl | (simp []; done) | (simp []; grind)) (k175 _ ?_)
                    refine k171 _ (Exists.intro _ (And.intro hg ?_))
                    show Sub _ ⟨[(9, .d (enc (x2 : Bool))), (15, .d (enc (x46 : (List Mark)))), (19, .d (enc (x55 : (List Mark)))), (21, .row 0), (22, .row 1)], [.row 40 10 ((y76u21 : List Mark).map enc), .row 40 10 (((y76u22 ++ [m]) : List Mark).map enc)]⟩
                    exact Sub.ren [1, 3] (by decide) (by first | rfl | simp [renL, AO.ren, forgetsR, T.ren, idx, Eva.get]) (by first | exact ⟨rfl, rfl, rfl, rfl, rfl, trivial⟩ | (simp [renL, AO.ren, forgetsR, T.ren, idx, Eva.get]; done) | (simp [renL, AO.ren, forgetsR, T.ren, idx, Eva.get]; grind))
                  · replace hg := ifb_f h173 hg
                    refine AWp.skip ?_
                    refine k171 _ (Exists.intro _ (And.intro hg ?_))
                    show Sub _ ⟨[(9, .d (enc (x2 : Bool))), (15, .d (enc (x46 : (List Mark)))), (19, .d (enc (x55 : (List Mark)))), (21, .row 0), (22, .row 1)], [.row 40 10 ((y76u21 : List Mark).map enc), .row 40 10 ((y76u22 : List Mark).map enc)]⟩
                    exact Sub.ren [1, 2] (by decide) (by first | rfl | simp [renL, AO.ren, forgetsR, T.ren, idx, Eva.get]) (by first | exact ⟨rfl, rfl, rfl, rfl, rfl, trivial⟩ | (simp [renL, AO.ren, forgetsR, T.ren, idx, Eva.get]; done) | (simp [renL, AO.ren, forgetsR, T.ren, idx, Eva.get]; grind))
                · rintro s' ⟨y170u22, hg, hs⟩
                  unfold lawErase_j16 at hg
                  refine AWp.sub hs ?_
                  obtain ⟨y178u8, hx179, hg⟩ := bnd_some hg
                  unfold lawErase_r17 at hx179
                  refine AWp.seqJ (fun s' => Sub s' ⟨[(8, .d (enc (y178u8 : Bool)))], []⟩) (fun _ k180 => ?_) ?_
                  · rcases Bool.eq_false_or_eq_true x2 with c181 | c181
                    · replace hx179 := ifb_t c181 hx179
                      have c181g := c181
                      try simp at c181g
                      obtain ⟨g176, hx179⟩ := grd_some hx179
                      rcases Bool.eq_false_or_eq_true (decide (x46 = y76u21)) with c182 | c182
                      · replace hx179 := ifb_t c182 hx179
                        have c182g := c182
                        try simp at c182g
                        obtain ⟨g177, hx179⟩ := grd_some hx179
                        refine AWp.regF hV (some []) [8] fun K k183 => ?_
                        simp [sp18, c181, c181g, c182, c182g]
                        repeat refine And.intro (by first | omega | (simp [*]; done) | grind) ?_
                        refine kcong (s' := ⟨[(8, .d (enc ((decide (x55 = y170u22)) : Bool)))], [.frow 40 10 ((y76u21 : List Mark).map enc), .frow 40 10 ((y170u22 : List Mark).map enc)]⟩) (by first | rfl | (simp [sp18, c181, c181g, c182, c182g]; done) | (simp [sp18, c181, c181g, c182, c182g]; grind)) (k183 _ ?_)
                        have hx179 := Option.some.inj hx179
                        subst hx179
                        refine k180 _ ?_
                        show Sub _ ⟨[(8, .d (enc ((decide (x55 = y170u22)) : Bool)))], []⟩
                        exact Sub.ren [] (by decide) (by first | rfl | simp [renL, AO.ren, forgetsR, T.ren, idx, Eva.get]) (by first | exact ⟨rfl, trivial⟩ | (simp [renL, AO.ren, forgetsR, T.ren, idx, Eva.get]; done) | (simp [renL, AO.ren, forgetsR, T.ren, idx, Eva.get]; grind))
                      · replace hx179 := ifb_f c182 hx179
                        have c182g := c182
                        try simp at c182g
                        refine AWp.regF hV (some [170, 171, 172]) [8] fun K k184 => ?_
                        simp [sp18, c181, c181g, c182, c182g]
                        repeat refine And.intro (by first | omega | (simp [*]; done) | grind) ?_
                        refine kcong (s' := ⟨[(8, .d (enc (false : Bool)))], [.frow 40 10 ((y76u21 : List Mark).map enc), .row 40 10 ((y170u22 : List Mark).map enc)]⟩) (by first | rfl | (simp [sp18, c181, c181g, c182, c182g]; done) | (simp [sp18, c181, c181g, c182, c182g]; grind)) (k184 _ ?_)
                        have hx179 := Option.some.inj hx179
                        subst hx179
                        refine k180 _ ?_
                        show Sub _ ⟨[(8, .d (enc (false : Bool)))], []⟩
                        exact Sub.ren [] (by decide) (by first | rfl | simp [renL, AO.ren, forgetsR, T.ren, idx, Eva.get]) (by first | exact ⟨rfl, trivial⟩ | (simp [renL, AO.ren, forgetsR, T.ren, idx, Eva.get]; done) | (simp [renL, AO.ren, forgetsR, T.ren, idx, Eva.get]; grind))
                    · replace hx179 := ifb_f c181 hx179
                      have c181g := c181
                      try simp at c181g
                      refine AWp.regF hV (some [165, 166, 167, 170, 171, 172]) [8] fun K k185 => ?_
                      simp [sp18, c181, c181g]
                      repeat refine And.intro (by first | omega | (simp [*]; done) | grind) ?_
                      refine kcong (s' := ⟨[(8, .d (enc (false : Bool)))], [.row 40 10 ((y76u21 : List Mark).map enc), .row 40 10 ((y170u22 : List Mark).map enc)]⟩) (by first | rfl | (simp [sp18, c181, c181g]; done) | (simp [sp18, c181, c181g]; grind)) (k185 _ ?_)
                      have hx179 := Option.some.inj hx179
                      subst hx179
                      refine k180 _ ?_
                      show Sub _ ⟨[(8, .d (enc (false : Bool)))], []⟩
                      exact Sub.ren [] (by decide) (by first | rfl | simp [renL, AO.ren, forgetsR, T.ren, idx, Eva.get]) (by first | exact ⟨rfl, trivial⟩ | (simp [renL, AO.ren, forgetsR, T.ren, idx, Eva.get]; done) | (simp [renL, AO.ren, forgetsR, T.ren, idx, Eva.get]; grind))
                  · intro s' hs
                    refine AWp.sub hs ?_
                    clear hs s'
                    refine AWp.ret ?_
                    refine hQ _ _ (.inl rfl) ?_
                    have hg := Option.some.inj hg
                    subst hg
                    first | (simp [retOk, resT, loadAs]; done) | (simp [retOk, resT, loadAs]; grind)
end Go.Proofs.Ytpbhcpeilgmkeaa
