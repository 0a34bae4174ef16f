/-
  The evaluator, the printed walks and the plain laws, part 11 of 12.
-/
import Derived.Test.YtpbhcpeilgmkeaaX10
set_option linter.all false
set_option linter.unnecessarySimpa false
set_option linter.deprecated false
set_option linter.unusedVariables false
set_option linter.unusedSimpArgs false
set_option linter.unusedSectionVars false

/-
  Walks of the events: printed by gen2.py (extraction).
-/
namespace Go.Proofs.Ytpbhcpeilgmkeaa
open Go Go.Eva Enc
set_option linter.unusedSectionVars false
set_option linter.unusedSimpArgs false
set_option linter.unusedVariables false
set_option maxRecDepth 4000
attribute [local congr] AWp.congrS
attribute [local simp] evalSeq opRes guardPc evalOp evT Eva.get startT strip putT Eva.after constT typed obAll holds dstOk R.ok R.bad ofD binD unD pickT subL subP Op.operands Call.operands toD argsD callD callT typedAll cfind quietT spec0 spec1 spec2 spec3 enc_int enc_bool enc_str enc_fn enc_list dec_int dec_bool dec_str dec_fn dec_list size_int size_str enc_R enc_M enc_E dec_R dec_M dec_E size_R size_M size_E eta_R eta_M eta_E enc_rune size_rune dec_rune eta_rune runesD_eq map_dec_enc map_dec_comp cellsT D.cells T.oneT D.one mkT unD1 setAt loadAs loadEl storeAs fieldP fieldV sizeE intOfT indexP appendT lenT sliceT elemSize arith lfsOk lfOk beqL_R beqL_M beqL_E beqL_R0 beqL_M0 isAggD mkD fillD placeS TD.agg env restr List.map keyIdx mapTy lookT mapPutT mapDelT mapOf indexS convT evalPure range1 range2 range3 range4 eqT4 eqT38 eqT40 eqT42 te1 te2 te3 te4 te5 te6 te7 te8 te9 te10 te11 te12 te13 te14 te15 te16 te17 te18 te19 te21 te22 te23 te24 te25 te27 te28 te29 te31 te32 te34 te35 te36 te37 te38 te39 te40 te41 te42 te43 te44 te45 te46 te47 te49 te50 te51 te52 te53 te54 te55 te56 te57 te59 te60 te61 te62 te63 te64 te65 te66 te67 te68 te69 te70 te71 te72 te73 te74 te75 te76 te77 te78 te79 te80 te82 te83 te84 te85 te86 te87 te88 te90 te91 te92 te94 te95 te96 te97 te98 te99 te100 te101 te102 te103 te104 te105 te106 te107 te108 te109 te110 te111 te112 te113 te114 te116 te117 te118 te119 te120 te121 te122 te123 te124 te125 te126 te127 te128 te129 te130 te131 te132 te133 te134 enc_intk size_intk dec_intk eta_intk range5 range6 range7 range8 keysInt_nil keyIdx_E keysInt_E okKeys_E isE_iff put_E del_E get_E getok_E mkeys_E mkeys_E' mkeys_enc specO0 specO1 specO2 specO3 specO4 opD skips gone List.contains_cons List.contains_nil envF fenv

noncomputable def sp6 : Eva.Spec := specO1 fun (l : (List Event)) => (lawLast l).map fun r => enc r
set_option maxHeartbeats 4000000 in
theorem ok6 : SpecOk Try.prog 6 sp6 := by
  have hV : VOk Try.prog (envF [(9, sp9), (10, sp10), (14, sp14), (16, sp16), (22, sp22)]) := envF_ok ⟨ok9, ok10, ok14, ok16, ok22, trivial⟩
  refine SpecOk.ofO1 (Enters.of Try.func6 (by decide)) ?_
  intro l rr hr
  obtain ⟨r, hg, rfl⟩ := Option.map_eq_some_iff.1 hr
  clear hr
  refine PureCon.ofQ hV Try.func6 rfl (by rw [Try.ntmps6]; simp) fun w0 I0 Q hQ => ?_
  rw [Try.ntmps6]
  unfold lawLast at hg
  refine AWp.rS hV none [0] fun K k1 => ?_
  simp
  repeat refine And.intro (by first | omega | (simp [*]; done) | grind) ?_
  refine kcong (s' := ⟨[(0, .d (enc (l : (List Event))))], []⟩) (by first | rfl | (simp []; done) | (simp []; grind)) (k1 _ ?_)
  obtain ⟨x2, h3, hg⟩ := bnd_some hg
  have h3g := h3
  try simp at h3g
  refine AWp.rS hV none [0, 3] fun K k4 => ?_
  simp [sp9, h3, h3g]
  repeat refine And.intro (by first | omega | (simp [*]; done) | grind) ?_
  refine kcong (s' := ⟨[(0, .d (enc (l : (List Event)))), (3, .d (enc (x2 : Bool)))], []⟩) (by first | rfl | (simp [sp9, h3, h3g]; done) | (simp [sp9, h3, h3g]; grind)) (k4 _ ?_)
  refine AWp.seqG fun _ k5 => ?_
  obtain ⟨y7u25, hx8, hg⟩ := bnd_some hg
  unfold lawLast_r1 at hx8
  refine AWp.seqJ (fun s' => Sub s' ⟨[(0, .d (enc (l : (List Event)))), (3, .d (enc (x2 : Bool))), (25, .d (enc (y7u25 : Bool)))], []⟩) (fun _ k9 => ?_) ?_
  · rcases Bool.eq_false_or_eq_true (!(decide ((l : List Event).length ≤ 60))) with c10 | c10
    · replace hx8 := ifb_t c10 hx8
      have c10g := c10
      try simp at c10g
      refine AWp.regF hV (some [22, 23, 24]) [0, 3, 25] fun K k11 => ?_
      simp [sp10, sp14, c10, c10g]
      repeat refine And.intro (by first | omega | (simp [*]; done) | grind) ?_
      refine kcong (s' := ⟨[(0, .d (enc (l : (List Event)))), (3, .d (enc (x2 : Bool))), (25, .d (enc (true : Bool)))], []⟩) (by first | rfl | (simp [sp10, sp14, c10, c10g]; done) | (simp [sp10, sp14, c10, c10g]; grind)) (k11 _ ?_)
      have hx8 := Option.some.inj hx8
      subst hx8
      refine k9 _ ?_
      show Sub _ ⟨[(0, .d (enc (l : (List Event)))), (3, .d (enc (x2 : Bool))), (25, .d (enc (true : Bool)))], []⟩
      exact Sub.ren [] (by decide) (by first | rfl | simp [renL, AO.ren, forgetsR, T.ren, idx, Eva.get]) (by first | exact ⟨rfl, rfl, rfl, trivial⟩ | (simp [renL, AO.ren, forgetsR, T.ren, idx, Eva.get]; done) | (simp [renL, AO.ren, forgetsR, T.ren, idx, Eva.get]; grind))
    · replace hx8 := ifb_f c10 hx8
      have c10g := c10
      try simp at c10g
      obtain ⟨g6, hx8⟩ := grd_some hx8
      refine AWp.regF hV (some []) [0, 3, 25] fun K k12 => ?_
      simp [sp10, sp14, c10, c10g]
      repeat refine And.intro (by first | omega | (simp [*]; done) | grind) ?_
      refine kcong (s' := ⟨[(0, .d (enc (l : (List Event)))), (3, .d (enc (x2 : Bool))), (25, .d (enc ((!(validE l)) : Bool)))], []⟩) (by first | rfl | (simp [sp10, sp14, c10, c10g]; done) | (simp [sp10, sp14, c10, c10g]; grind)) (k12 _ ?_)
      have hx8 := Option.some.inj hx8
      subst hx8
      refine k9 _ ?_
      show Sub _ ⟨[(0, .d (enc (l : (List Event)))), (3, .d (enc (x2 : Bool))), (25, .d (enc ((!(validE l)) : Bool)))], []⟩
      exact Sub.ren [] (by decide) (by first | rfl | simp [renL, AO.ren, forgetsR, T.ren, idx, Eva.get]) (by first | exact ⟨rfl, rfl, rfl, trivial⟩ | (simp [renL, AO.ren, forgetsR, T.ren, idx, Eva.get]; done) | (simp [renL, AO.ren, forgetsR, T.ren, idx, Eva.get]; grind))
  · intro s' hs
    refine AWp.sub hs ?_
    clear hs s'
    refine AWp.cond (b := y7u25) rfl (fun h13 => ?_) fun h13 => ?_
    · replace hg := ifb_t h13 hg
      refine AWp.rS hV none [2] fun K k14 => ?_
      simp
      repeat refine And.intro (by first | omega | (simp [*]; done) | grind) ?_
      refine kcong (s' := ⟨[(2, .d (enc (x2 : Bool)))], []⟩) (by first | rfl | (simp []; done) | (simp []; grind)) (k14 _ ?_)
      refine AWp.ret ?_
      refine hQ _ _ (.inl rfl) ?_
      have hg := Option.some.inj hg
      subst hg
      first | (simp [retOk, resT, loadAs]; done) | (simp [retOk, resT, loadAs]; grind)
    · replace hg := ifb_f h13 hg
      refine AWp.skip ?_
      refine k5 _ ?_
      obtain ⟨⟨x15, x16⟩, h17, hg⟩ := bnd_some hg
      try dsimp only at hg
      have h17g := h17
      try simp at h17g
      refine AWp.rS hV none [0, 3, 4, 5] fun K k18 => ?_
      simp [sp16, h17, h17g]
      repeat refine And.intro (by first | omega | (simp [*]; done) | grind) ?_
      refine kcong (s' := ⟨[(0, .d (enc (l : (List Event)))), (3, .d (enc (x2 : Bool))), (4, .d (enc (x15 : (List Mark)))), (5, .d (enc (x16 : Int)))], []⟩) (by first | rfl | (simp [sp16, h17, h17g]; done) | (simp [sp16, h17, h17g]; grind)) (k18 _ ?_)
      refine AWp.seqG fun _ k19 => ?_
      refine AWp.rS hV none [0, 3, 4, 33] fun K k20 => ?_
      simp
      repeat refine And.intro (by first | omega | (simp [*]; done) | grind) ?_
      refine kcong (s' := ⟨[(0, .d (enc (l : (List Event)))), (3, .d (enc (x2 : Bool))), (4, .d (enc (x15 : (List Mark)))), (33, .d (enc ((!decide (x16 = 0)) : Bool)))], []⟩) (by first | rfl | (simp []; done) | (simp []; grind)) (k20 _ ?_)
      refine AWp.cond (b := (!decide (x16 = 0))) rfl (fun h21 => ?_) fun h21 => ?_
      · replace hg := ifb_t h21 hg
        refine AWp.rS hV none [2] fun K k22 => ?_
        simp
        repeat refine And.intro (by first | omega | (simp [*]; done) | grind) ?_
        refine kcong (s' := ⟨[(2, .d (enc (false : Bool)))], []⟩) (by first | rfl | (simp []; done) | (simp []; grind)) (k22 _ ?_)
        refine AWp.ret ?_
        refine hQ _ _ (.inl rfl) ?_
        have hg := Option.some.inj hg
        subst hg
        first | (simp [retOk, resT, loadAs]; done) | (simp [retOk, resT, loadAs]; grind)
      · replace hg := ifb_f h21 hg
        refine AWp.skip ?_
        refine k19 _ ?_
        refine AWp.rS hV none [0, 3, 4, 6] fun K k23 => ?_
        simp
        repeat refine And.intro (by first | omega | (simp [*]; done) | grind) ?_
        refine kcong (s' := ⟨[(0, .d (enc (l : (List Event)))), (3, .d (enc (x2 : Bool))), (4, .d (enc (x15 : (List Mark)))), (6, .map 0)], [.map (([] : (List (Int × Event))).map kE) (([] : (List (Int × Event))).map vE)]⟩) (by first | rfl | (simp []; done) | (simp []; grind)) (k23 _ ?_)
        refine AWp.seqJ (fun s' => ∃ y24u6 : (List (Int × Event)), lawLast_j2 x2 x15 y24u6 = some r ∧ Sub s' ⟨[(3, .d (enc (x2 : Bool))), (4, .d (enc (x15 : (List Mark)))), (6, .map 0)], [.map ((y24u6 : (List (Int × Event))).map kE) ((y24u6 : (List (Int × Event))).map vE)]⟩) (fun _ k25 => ?_) ?_
        · refine AWp.rS hV none [3, 4, 6, 35, 36, 37] fun K k26 => ?_
          simp
          repeat refine And.intro (by first | omega | (simp [*]; done) | grind) ?_
          refine kcong (s' := ⟨[(3, .d (enc (x2 : Bool))), (4, .d (enc (x15 : (List Mark)))), (6, .map 0), (35, .d (enc (l : (List Event)))), (36, .d (enc ((l.length : Int) : Int))), (37, .d (enc (0 : Int)))], [.map (([] : (List (Int × Event))).map kE) (([] : (List (Int × Event))).map vE)]⟩) (by first | rfl | (simp []; done) | (simp []; grind)) (k26 _ ?_)
          refine AWp.block ?_
          obtain ⟨o56, hl57, hg⟩ := bnd_some hg
          refine AWp.loopO (fun ((z3u6, z3u37) : (List (Int × Event)) × Int) => ⟨[(3, .d (enc (x2 : Bool))), (4, .d (enc (x15 : (List Mark)))), (6, .map 0), (35, .d (enc (l : (List Event)))), (36, .d (enc ((l.length : Int) : Int))), (37, .d (enc (z3u37 : Int)))], [.map ((z3u6 : (List (Int × Event))).map kE) ((z3u6 : (List (Int × Event))).map vE)]⟩) (lawLast_s6 l) ([], 0) hl57 ?_ fun z58 w61 _ ho59 hx60 k27 => ?_
          · show Sub _ ⟨[(3, .d (enc (x2 : Bool))), (4, .d (enc (x15 : (List Mark)))), (6, .map 0), (35, .d (enc (l : (List Event)))), (36, .d (enc ((l.length : Int) : Int))), (37, .d (enc (0 : Int)))], [.map (([] : (List (Int × Event))).map kE) (([] : (List (Int × Event))).map vE)]⟩
            exact Sub.ren [0] (by decide) (by first | rfl | simp [renL, AO.ren, forgetsR, T.ren, idx, Eva.get]) (by first | exact ⟨rfl, rfl, rfl, rfl, rfl, rfl, trivial⟩ | (simp [renL, AO.ren, forgetsR, T.ren, idx, Eva.get]; done) | (simp [renL, AO.ren, forgetsR, T.ren, idx, Eva.get]; grind))
          obtain ⟨z3u6, z3u37⟩ := z58
          unfold lawLast_s6 at ho59
          try dsimp only at ho59
          have hq62 := hg
          clear hg
          have hg := ho59
          clear ho59
          show AWp _ _ _ _ _ ⟨[(3, .d (enc (x2 : Bool))), (4, .d (enc (x15 : (List Mark)))), (6, .map 0), (35, .d (enc (l : (List Event)))), (36, .d (enc ((l.length : Int) : Int))), (37, .d (enc (z3u37 : Int)))], [.map ((z3u6 : (List (Int × Event))).map kE) ((z3u6 : (List (Int × Event))).map vE)]⟩ _
          refine AWp.rS hV none [3, 4, 6, 35, 36, 37, 38] fun K k63 => ?_
          simp
          repeat refine And.intro (by first | omega | (simp [*]; done) | grind) ?_
          refine kcong (s' := ⟨[(3, .d (enc (x2 : Bool))), (4, .d (enc (x15 : (List Mark)))), (6, .map 0), (35, .d (enc (l : (List Event)))), (36, .d (enc ((l.length : Int) : Int))), (37, .d (enc (z3u37 : Int))), (38, .d (enc ((decide (z3u37 < (l.length : Int))) : Bool)))], [.map ((z3u6 : (List (Int × Event))).map kE) ((z3u6 : (List (Int × Event))).map vE)]⟩) (by first | rfl | (simp []; done) | (simp []; grind)) (k63 _ ?_)
          refine AWp.seqG fun _ k64 => ?_
          refine AWp.cond (b := (decide (z3u37 < (l.length : Int)))) rfl (fun h65 => ?_) fun h65 => ?_
          · replace hg := ifb_t h65 hg
            refine AWp.skip ?_
            refine k64 _ ?_
            refine AWp.seqJ (fun s' => ∃ y66u6 : (List (Int × Event)), lawLast_j7 z3u37 y66u6 = some w61 ∧ Sub s' ⟨[(3, .d (enc (x2 : Bool))), (4, .d (enc (x15 : (List Mark)))), (6, .map 0), (35, .d (enc (l : (List Event)))), (36, .d (enc ((l.length : Int) : Int))), (37, .d (enc (z3u37 : Int)))], [.map ((y66u6 : (List (Int × Event))).map kE) ((y66u6 : (List (Int × Event))).map vE)]⟩) (fun _ k67 => ?_) ?_
            · refine AWp.block ?_
              obtain ⟨x68, h69, hg⟩ := bnd_some hg
              obtain ⟨h69a, h69b, h69c⟩ := at_some h69
              have h69f := elAt_enc h69c
              have h69g := h69f
              try simp at h69g
              refine AWp.rS hV none [3, 4, 6, 8, 35, 36, 37] fun K k70 => ?_
              simp [h69f, h69g]
              repeat refine And.intro (by first | omega | (simp [*]; done) | grind) ?_
              refine kcong (s' := ⟨[(3, .d (enc (x2 : Bool))), (4, .d (enc (x15 : (List Mark)))), (6, .map 0), (8, .ptr 1 0), (35, .d (enc (l : (List Event)))), (36, .d (enc ((l.length : Int) : Int))), (37, .d (enc (z3u37 : Int)))], [.map ((z3u6 : (List (Int × Event))).map kE) ((z3u6 : (List (Int × Event))).map vE), .var 42 (cellsT (.d (enc (x68 : Event))))]⟩) (by first | rfl | (simp [h69f, h69g]; done) | (simp [h69f, h69g]; grind)) (k70 _ ?_)
              refine AWp.rS hV none [3, 4, 6, 8, 9, 35, 36, 37] fun K k71 => ?_
              simp [sp22]
              repeat refine And.intro (by first | omega | (simp [*]; done) | grind) ?_
              refine kcong (s' := ⟨[(3, .d (enc (x2 : Bool))), (4, .d (enc (x15 : (List Mark)))), (6, .map 0), (8, .ptr 1 0), (9, .d (enc ((about x68) : Int))), (35, .d (enc (l : (List Event)))), (36, .d (enc ((l.length : Int) : Int))), (37, .d (enc (z3u37 : Int)))], [.map ((z3u6 : (List (Int × Event))).map kE) ((z3u6 : (List (Int × Event))).map vE), .var 42 (cellsT (.d (enc (x68 : Event))))]⟩) (by first | rfl | (simp [sp22]; done) | (simp [sp22]; grind)) (k71 _ ?_)
              refine AWp.rS hV none [3, 4, 6, 8, 9, 35, 36, 37, 44] fun K k72 => ?_
              simp
              repeat refine And.intro (by first | omega | (simp [*]; done) | grind) ?_
              refine kcong (s' := ⟨[(3, .d (enc (x2 : Bool))), (4, .d (enc (x15 : (List Mark)))), (6, .map 0), (8, .ptr 1 0), (9, .d (enc ((about x68) : Int))), (35, .d (enc (l : (List Event)))), (36, .d (enc ((l.length : Int) : Int))), (37, .d (enc (z3u37 : Int))), (44, .d (enc ((decide (0 < (about x68))) : Bool)))], [.map ((z3u6 : (List (Int × Event))).map kE) ((z3u6 : (List (Int × Event))).map vE), .var 42 (cellsT (.d (enc (x68 : Event))))]⟩) (by first | rfl | (simp []; done) | (simp []; grind)) (k72 _ ?_)
              refine AWp.cond (b := (decide (0 < (about x68)))) rfl (fun h73 => ?_) fun h73 => ?_
              · replace hg := ifb_t h73 hg
                refine AWp.regF hV none [3, 4, 6, 35, 36, 37] fun K k74 => ?_
                simp
                repeat refine And.intro (by first | omega | (simp [*]; done) | grind) ?_
                refine kcong (s' := ⟨[(3, .d (enc (x2 : Bool))), (4, .d (enc (x15 : (List Mark)))), (6, .map 0), (35, .d (enc (l : (List Event)))), (36, .d (enc ((l.length : Int) : Int))), (37, .d (enc (z3u37 : Int)))], [.map (((mput z3u6 (about x68) x68) : (List (Int × Event))).map kE) (((mput z3u6 (about x68) x68) : (List (Int × Event))).map vE), .var 42 (cellsT (.d (enc (x68 : Event))))]⟩) (by first | rfl | (simp []; done) | (simp []; grind)) (k74 _ ?_)
                refine k67 _ (Exists.intro _ (And.intro hg ?_))
                show Sub _ ⟨[(3, .d (enc (x2 : Bool))), (4, .d (enc (x15 : (List Mark)))), (6, .map 0), (35, .d (enc (l : (List Event)))), (36, .d (enc ((l.length : Int) : Int))), (37, .d (enc (z3u37 : Int)))], [.map (((mput z3u6 (about x68) x68) : (List (Int × Event))).map kE) (((mput z3u6 (about x68) x68) : (List (Int × Event))).map vE)]⟩
                exact Sub.ren [0] (by decide) (by first | rfl | simp [renL, AO.ren, forgetsR, T.ren, idx, Eva.get]) (by first | exact ⟨rfl, rfl, rfl, rfl, rfl, rfl, trivial⟩ | (simp [renL, AO.ren, forgetsR, T.ren, idx, Eva.get]; done) | (simp [renL, AO.ren, forgetsR, T.ren, idx, Eva.get]; grind))
              · replace hg := ifb_f h73 hg
                refine AWp.skip ?_
                refine k67 _ (Exists.intro _ (And.intro hg ?_))
                show Sub _ ⟨[(3, .d (enc (x2 : Bool))), (4, .d (enc (x15 : (List Mark)))), (6, .map 0), (35, .d (enc (l : (List Event)))), (36, .d (enc ((l.length : Int) : Int))), (37, .d (enc (z3u37 : Int)))], [.map ((z3u6 : (List (Int × Event))).map kE) ((z3u6 : (List (Int × Event))).map vE)]⟩
                exact Sub.ren [0] (by decide) (by first | rfl | simp [renL, AO.ren, forgetsR, T.ren, idx, Eva.get]) (by first | exact ⟨rfl, rfl, rfl, rfl, rfl, rfl, trivial⟩ | (simp [renL, AO.ren, forgetsR, T.ren, idx, Eva.get]; done) | (simp [renL, AO.ren, forgetsR, T.ren, idx, Eva.get]; grind))
            · rintro s' ⟨y66u6, hg, hs⟩
              unfold lawLast_j7 at hg
              refine AWp.sub hs ?_
              obtain ⟨g75, hg⟩ := grd_some hg
              unfold inI at g75
              refine AWp.regF hV none [3, 4, 6, 35, 36, 37] fun K k76 => ?_
              simp
              repeat refine And.intro (by first | omega | (simp [*]; done) | grind) ?_
              refine kcong (s' := ⟨[(3, .d (enc (x2 : Bool))), (4, .d (enc (x15 : (List Mark)))), (6, .map 0), (35, .d (enc (l : (List Event)))), (36, .d (enc ((l.length : Int) : Int))), (37, .d (enc ((z3u37 + 1) : Int)))], [.map ((y66u6 : (List (Int × Event))).map kE) ((y66u6 : (List (Int × Event))).map vE)]⟩) (by first | rfl | (simp []; done) | (simp []; grind)) (k76 _ ?_)
              refine k27 _ _ (Option.some.inj hg).symm ?_
              show Sub _ ⟨[(3, .d (enc (x2 : Bool))), (4, .d (enc (x15 : (List Mark)))), (6, .map 0), (35, .d (enc (l : (List Event)))), (36, .d (enc ((l.length : Int) : Int))), (37, .d (enc ((z3u37 + 1) : Int)))], [.map ((y66u6 : (List (Int × Event))).map kE) ((y66u6 : (List (Int × Event))).map vE)]⟩
              exact Sub.ren [0] (by decide) (by first | rfl | simp [renL, AO.ren, forgetsR, T.ren, idx, Eva.get]) (by first | exact ⟨rfl, rfl, rfl, rfl, rfl, rfl, trivial⟩ | (simp [renL, AO.ren, forgetsR, T.ren, idx, Eva.get]; done) | (simp [renL, AO.ren, forgetsR, T.ren, idx, Eva.get]; grind))
          · replace hg := ifb_f h65 hg
            refine AWp.exit ?_
            have e77 := hx60 _ (Option.some.inj hg).symm
            subst e77
            have hg := hq62
            try dsimp only at hg
            refine k25 _ (Exists.intro _ (And.intro hg ?_))
            show Sub _ ⟨[(3, .d (enc (x2 : Bool))), (4, .d (enc (x15 : (List Mark)))), (6, .map 0)], [.map ((z3u6 : (List (Int × Event))).map kE) ((z3u6 : (List (Int × Event))).map vE)]⟩
            exact Sub.ren [0] (by decide) (by first | rfl | simp [renL, AO.ren, forgetsR, T.ren, idx, Eva.get]) (by first | exact ⟨rfl, rfl, rfl, trivial⟩ | (simp [renL, AO.ren, forgetsR, T.ren, idx, Eva.get]; done) | (simp [renL, AO.ren, forgetsR, T.ren, idx, Eva.get]; grind))
        · rintro s' ⟨y24u6, hg, hs⟩
          unfold lawLast_j2 at hg
          refine AWp.sub hs ?_
          refine AWp.rS hV none [3, 4, 6, 10] fun K k79 => ?_
          simp
          repeat refine And.intro (by first | omega | (simp [*]; done) | grind) ?_
          refine kcong (s' := ⟨[(3, .d (enc (x2 : Bool))), (4, .d (enc (x15 : (List Mark)))), (6, .map 0), (10, .map 1)], [.map ((y24u6 : (List (Int × Event))).map kE) ((y24u6 : (List (Int × Event))).map vE), .map (([] : (List (Int × Mark))).map kE) (([] : (List (Int × Mark))).map vE)]⟩) (by first | rfl | (simp []; done) | (simp []; grind)) (k79 _ ?_)
          refine AWp.seqJ (fun s' => ∃ y80u10 : (List (Int × Mark)), lawLast_j8 x2 y24u6 y80u10 = some r ∧ Sub s' ⟨[(3, .d (enc (x2 : Bool))), (6, .map 0), (10, .map 1)], [.map ((y24u6 : (List (Int × Event))).map kE) ((y24u6 : (List (Int × Event))).map vE), .map ((y80u10 : (List (Int × Mark))).map kE) ((y80u10 : (List (Int × Mark))).map vE)]⟩) (fun _ k81 => ?_) ?_
          · refine AWp.rS hV none [3, 4, 6, 10, 50, 51, 52] fun K k82 => ?_
            simp
            repeat refine And.intro (by first | omega | (simp [*]; done) | grind) ?_
            refine kcong (s' := ⟨[(3, .d (enc (x2 : Bool))), (4, .d (enc (x15 : (List Mark)))), (6, .map 0), (10, .map 1), (50, .d (enc (x15 : (List Mark)))), (51, .d (enc ((x15.length : Int) : Int))), (52, .d (enc (0 : Int)))], [.map ((y24u6 : (List (Int × Event))).map kE) ((y24u6 : (List (Int × Event))).map vE), .map (([] : (List (Int × Mark))).map kE) (([] : (List (Int × Mark))).map vE)]⟩) (by first | rfl | (simp []; done) | (simp []; grind)) (k82 _ ?_)
            refine AWp.block ?_
            obtain ⟨o130, hl131, hg⟩ := bnd_some hg
            refine AWp.loopO (fun ((z9u10, z9u52) : (List (Int × Mark)) × Int) => ⟨[(3, .d (enc (x2 : Bool))), (4, .d (enc (x15 : (List Mark)))), (6, .map 0), (10, .map 1), (50, .d (enc (x15 : (List Mark)))), (51, .d (enc ((x15.length : Int) : Int))), (52, .d (enc (z9u52 : Int)))], [.map ((y24u6 : (List (Int × Event))).map kE) ((y24u6 : (List (Int × Event))).map vE), .map ((z9u10 : (List (Int × Mark))).map kE) ((z9u10 : (List (Int × Mark))).map vE)]⟩) (lawLast_s14 x15) ([], 0) hl131 ?_ fun z132 w135 _ ho133 hx134 k83 => ?_
            · show Sub _ ⟨[(3, .d (enc (x2 : Bool))), (4, .d (enc (x15 : (List Mark)))), (6, .map 0), (10, .map 1), (50, .d (enc (x15 : (List Mark)))), (51, .d (enc ((x15.length : Int) : Int))), (52, .d (enc (0 : Int)))], [.map ((y24u6 : (List (Int × Event))).map kE) ((y24u6 : (List (Int × Event))).map vE), .map (([] : (List (Int × Mark))).map kE) (([] : (List (Int × Mark))).map vE)]⟩
              exact Sub.ren [0, 1] (by decide) (by first | rfl | simp [renL, AO.ren, forgetsR, T.ren, idx, Eva.get]) (by first | exact ⟨rfl, rfl, rfl, rfl, rfl, rfl, rfl, trivial⟩ | (simp [renL, AO.ren, forgetsR, T.ren, idx, Eva.get]; done) | (simp [renL, AO.ren, forgetsR, T.ren, idx, Eva.get]; grind))
            obtain ⟨z9u10, z9u52⟩ := z132
            unfold lawLast_s14 at ho133
            try dsimp only at ho133
            have hq136 := hg
            clear hg
            have hg := ho133
            clear ho133
            show AWp _ _ _ _ _ ⟨[(3, .d (enc (x2 : Bool))), (4, .d (enc (x15 : (List Mark)))), (6, .map 0), (10, .map 1), (50, .d (enc (x15 : (List Mark)))), (51, .d (enc ((x15.length : Int) : Int))), (52, .d (enc (z9u52 : Int)))], [.map ((y24u6 : (List (Int × Event))).map kE) ((y24u6 : (List (Int × Event))).map vE), .map ((z9u10 : (List (Int × Mark))).map kE) ((z9u10 : (List (Int × Mark))).map vE)]⟩ _
            refine AWp.rS hV none [3, 4, 6, 10, 50, 51, 52, 53] fun K k137 => ?_
            simp
            repeat refine And.intro (by first | omega | (simp [*]; done) | grind) ?_
            refine kcong (s' := ⟨[(3, .d (enc (x2 : Bool))), (4, .d (enc (x15 : (List Mark)))), (6, .map 0), (10, .map 1), (50, .d (enc (x15 : (List Mark)))), (51, .d (enc ((x15.length : Int) : Int))), (52, .d (enc (z9u52 : Int))), (53, .d (enc ((decide (z9u52 < (x15.length : Int))) : Bool)))], [.map ((y24u6 : (List (Int × Event))).map kE) ((y24u6 : (List (Int × Event))).map vE), .map ((z9u10 : (List (Int × Mark))).map kE) ((z9u10 : (List (Int × Mark))).map vE)]⟩) (by first | rfl | (simp []; done) | (simp []; grind)) (k137 _ ?_)
            refine AWp.seqG fun _ k138 => ?_
            refine AWp.cond (b := (decide (z9u52 < (x15.length : Int)))) rfl (fun h139 => ?_) fun h139 => ?_
            · replace hg := ifb_t h139 hg
              refine AWp.skip ?_
              refine k138 _ ?_
              refine AWp.seqJ (fun s' => ∃ y140u10 : (List (Int × Mark)), lawLast_j15 z9u52 y140u10 = some w135 ∧ Sub s' ⟨[(3, .d (enc (x2 : Bool))), (4, .d (enc (x15 : (List Mark)))), (6, .map 0), (10, .map 1), (50, .d (enc (x15 : (List Mark)))), (51, .d (enc ((x15.length : Int) : Int))), (52, .d (enc (z9u52 : Int)))], [.map ((y24u6 : (List (Int × Event))).map kE) ((y24u6 : (List (Int × Event))).map vE), .map ((y140u10 : (List (Int × Mark))).map kE) ((y140u10 : (List (Int × Mark))).map vE)]⟩) (fun _ k141 => ?_) ?_
              · refine AWp.block ?_
                obtain ⟨x142, h143, hg⟩ := bnd_some hg
                obtain ⟨h143a, h143b, h143c⟩ := at_some h143
                have h143f := elAt_enc h143c
                have h143g := h143f
                try simp at h143g
                refine AWp.rS hV none [3, 4, 6, 10, 11, 12, 50, 51, 52] fun K k144 => ?_
                simp [h143f, h143g]
                repeat refine And.intro (by first | omega | (simp [*]; done) | grind) ?_
                refine kcong (s' := ⟨[(3, .d (enc (x2 : Bool))), (4, .d (enc (x15 : (List Mark)))), (6, .map 0), (10, .map 1), (11, .d (enc (z9u52 : Int))), (12, .ptr 2 0), (50, .d (enc (x15 : (List Mark)))), (51, .d (enc ((x15.length : Int) : Int))), (52, .d (enc (z9u52 : Int)))], [.map ((y24u6 : (List (Int × Event))).map kE) ((y24u6 : (List (Int × Event))).map vE), .map ((z9u10 : (List (Int × Mark))).map kE) ((z9u10 : (List (Int × Mark))).map vE), .var 40 (cellsT (.d (enc (x142 : Mark))))]⟩) (by first | rfl | (simp [h143f, h143g]; done) | (simp [h143f, h143g]; grind)) (k144 _ ?_)
                refine AWp.seqG fun _ k145 => ?_
                obtain ⟨y149u69, hx150, hg⟩ := bnd_some hg
                unfold lawLast_r16 at hx150
                refine AWp.seqJ (fun s' => Sub s' ⟨[(3, .d (enc (x2 : Bool))), (4, .d (enc (x15 : (List Mark)))), (6, .map 0), (10, .map 1), (12, .ptr 2 0), (50, .d (enc (x15 : (List Mark)))), (51, .d (enc ((x15.length : Int) : Int))), (52, .d (enc (z9u52 : Int))), (69, .d (enc (y149u69 : Bool)))], [.map ((y24u6 : (List (Int × Event))).map kE) ((y24u6 : (List (Int × Event))).map vE), .map ((z9u10 : (List (Int × Mark))).map kE) ((z9u10 : (List (Int × Mark))).map vE), .var 40 (cellsT (.d (enc (x142 : Mark))))]⟩) (fun _ k151 => ?_) ?_
                · rcases Bool.eq_false_or_eq_true (decide (0 < z9u52)) with c152 | c152
                  · replace hx150 := ifb_t c152 hx150
                    have c152g := c152
                    try simp at c152g
                    obtain ⟨g146, hx150⟩ := grd_some hx150
                    unfold inI at g146
                    obtain ⟨x147, h148, hx150⟩ := bnd_some hx150
                    obtain ⟨h148a, h148b, h148c⟩ := at_some h148
                    have h148f := elAt_enc h148c
                    have h148g := h148f
                    try simp at h148g
                    refine AWp.regDFF hV mixed (some []) 11 [] [3, 4, 6, 10, 12, 50, 51, 52, 69] (by decide) fun K k153 => ?_
                    simp [c152, c152g, h148f, h148g]
                    repeat refine And.intro (by first | omega | (simp [*]; done) | grind) ?_
                    refine kcong (s' := ⟨[(3, .d (enc (x2 : Bool))), (4, .d (enc (x15 : (List Mark)))), (6, .map 0), (10, .map 1), (12, .ptr 2 0), (50, .d (enc (x15 : (List Mark)))), (51, .d (enc ((x15.length : Int) : Int))), (52, .d (enc (z9u52 : Int))), (69, .d (enc ((decide (x142.id ≤ x147.id)) : Bool)))], [.map ((y24u6 : (List (Int × Event))).map kE) ((y24u6 : (List (Int × Event))).map vE), .map ((z9u10 : (List (Int × Mark))).map kE) ((z9u10 : (List (Int × Mark))).map vE), .var 40 (cellsT (.d (enc (x142 : Mark))))]⟩) (by first | rfl | (simp [c152, c152g, h148f, h148g]; done) | (simp [c152, c152g, h148f, h148g]; grind)) (k153 _ ?_)
                    have hx150 := Option.some.inj hx150
                    subst hx150
                    refine k151 _ ?_
                    show Sub _ ⟨[(3, .d (enc (x2 : Bool))), (4, .d (enc (x15 : (List Mark)))), (6, .map 0), (10, .map 1), (12, .ptr 2 0), (50, .d (enc (x15 : (List Mark)))), (51, .d (enc ((x15.length : Int) : Int))), (52, .d (enc (z9u52 : Int))), (69, .d (enc ((decide (x142.id ≤ x147.id)) : Bool)))], [.map ((y24u6 : (List (Int × Event))).map kE) ((y24u6 : (List (Int × Event))).map vE), .map ((z9u10 : (List (Int × Mark))).map kE) ((z9u10 : (List (Int × Mark))).map vE), .var 40 (cellsT (.d (enc (x142 : Mark))))]⟩
                    exact Sub.ren [0, 1, 2] (by decide) (by first | rfl | simp [renL, AO.ren, forgetsR, T.ren, idx, Eva.get]) (by first | exact ⟨rfl, rfl, rfl, rfl, rfl, rfl, rfl, rfl, rfl, trivial⟩ | (simp [renL, AO.ren, forgetsR, T.ren, idx, Eva.get]; done) | (simp [renL, AO.ren, forgetsR, T.ren, idx, Eva.get]; grind))
                  · replace hx150 := ifb_f c152 hx150
                    have c152g := c152
                    try simp at c152g
                    refine AWp.regDFF hV mixed (some [60, 61, 62, 63, 64, 65, 66, 67, 68]) 11 [] [3, 4, 6, 10, 12, 50, 51, 52, 69] (by decide) fun K k154 => ?_
                    simp [c152, c152g]
                    repeat refine And.intro (by first | omega | (simp [*]; done) | grind) ?_
                    refine kcong (s' := ⟨[(3, .d (enc (x2 : Bool))), (4, .d (enc (x15 : (List Mark)))), (6, .map 0), (10, .map 1), (12, .ptr 2 0), (50, .d (enc (x15 : (List Mark)))), (51, .d (enc ((x15.length : Int) : Int))), (52, .d (enc (z9u52 : Int))), (69, .d (enc (false : Bool)))], [.map ((y24u6 : (List (Int × Event))).map kE) ((y24u6 : (List (Int × Event))).map vE), .map ((z9u10 : (List (Int × Mark))).map kE) ((z9u10 : (List (Int × Mark))).map vE), .var 40 (cellsT (.d (enc (x142 : Mark))))]⟩) (by first | rfl | (simp [c152, c152g]; done) | (simp [c152, c152g]; grind)) (k154 _ ?_)
                    have hx150 := Option.some.inj hx150
                    subst hx150
                    refine k151 _ ?_
                    show Sub _ ⟨[(3, .d (enc (x2 : Bool))), (4, .d (enc (x15 : (List Mark)))), (6, .map 0), (10, .map 1), (12, .ptr 2 0), (50, .d (enc (x15 : (List Mark)))), (51, .d (enc ((x15.length : Int) : Int))), (52, .d (enc (z9u52 : Int))), (69, .d (enc (false : Bool)))], [.map ((y24u6 : (List (Int × Event))).map kE) ((y24u6 : (List (Int × Event))).map vE), .map ((z9u10 : (List (Int × Mark))).map kE) ((z9u10 : (List (Int × Mark))).map vE), .var 40 (cellsT (.d (enc (x142 : Mark))))]⟩
                    exact Sub.ren [0, 1, 2] (by decide) (by first | rfl | simp [renL, AO.ren, forgetsR, T.ren, idx, Eva.get]) (by first | exact ⟨rfl, rfl, rfl, rfl, rfl, rfl, rfl, rfl, rfl, trivial⟩ | (simp [renL, AO.ren, forgetsR, T.ren, idx, Eva.get]; done) | (simp [renL, AO.ren, forgetsR, T.ren, idx, Eva.get]; grind))
                · intro s' hs
                  refine AWp.sub hs ?_
                  clear hs s'
                  refine AWp.cond (b := y149u69) rfl (fun h155 => ?_) fun h155 => ?_
                  · replace hg := ifb_t h155 hg
                    refine AWp.rS hV none [2] fun K k156 => ?_
                    simp
                    repeat refine And.intro (by first | omega | (simp [*]; done) | grind) ?_
                    refine kcong (s' := ⟨[(2, .d (enc (false : Bool)))], [.map ((y24u6 : (List (Int × Event))).map kE) ((y24u6 : (List (Int × Event))).map vE), .map ((z9u10 : (List (Int × Mark))).map kE) ((z9u10 : (List (Int × Mark))).map vE), .var 40 (cellsT (.d (enc (x142 : Mark))))]⟩) (by first | rfl | (simp []; done) | (simp []; grind)) (k156 _ ?_)
                    refine AWp.ret ?_
                    have e157 := hx134 _ (Option.some.inj hg).symm
                    subst e157
                    have hg := hq136
                    try dsimp only at hg
                    refine hQ _ _ (.inl rfl) ?_
                    have hg := Option.some.inj hg
                    subst hg
                    first | (simp [retOk, resT, loadAs]; done) | (simp [retOk, resT, loadAs]; grind)
                  · replace hg := ifb_f h155 hg
                    refine AWp.skip ?_
                    refine k145 _ ?_
                    refine AWp.regF hV none [3, 4, 6, 10, 50, 51, 52] fun K k158 => ?_
                    simp
                    repeat refine And.intro (by first | omega | (simp [*]; done) | grind) ?_
                    refine kcong (s' := ⟨[(3, .d (enc (x2 : Bool))), (4, .d (enc (x15 : (List Mark)))), (6, .map 0), (10, .map 1), (50, .d (enc (x15 : (List Mark)))), (51, .d (enc ((x15.length : Int) : Int))), (52, .d (enc (z9u52 : Int)))], [.map ((y24u6 : (List (Int × Event))).map kE) ((y24u6 : (List (Int × Event))).map vE), .map (((mput z9u10 x142.id x142) : (List (Int × Mark))).map kE) (((mput z9u10 x142.id x142) : (List (Int × Mark))).map vE), .var 40 (cellsT (.d (enc (x142 : Mark))))]⟩) (by first | rfl | (simp []; done) | (simp []; grind)) (k158 _ ?_)
                    refine k141 _ (Exists.intro _ (And.intro hg ?_))
                    show Sub _ ⟨[(3, .d (enc (x2 : Bool))), (4, .d (enc (x15 : (List Mark)))), (6, .map 0), (10, .map 1), (50, .d (enc (x15 : (List Mark)))), (51, .d (enc ((x15.length : Int) : Int))), (52, .d (enc (z9u52 : Int)))], [.map ((y24u6 : (List (Int × Event))).map kE) ((y24u6 : (List (Int × Event))).map vE), .map (((mput z9u10 x142.id x142) : (List (Int × Mark))).map kE) (((mput z9u10 x142.id x142) : (List (Int × Mark))).map vE)]⟩
                    exact Sub.ren [0, 1] (by decide) (by first | rfl | simp [renL, AO.ren, forgetsR, T.ren, idx, Eva.get]) (by first | exact ⟨rfl, rfl, rfl, rfl, rfl, rfl, rfl, trivial⟩ | (simp [renL, AO.ren, forgetsR, T.ren, idx, Eva.get]; done) | (simp [renL, AO.ren, forgetsR, T.ren, idx, Eva.get]; grind))
              · rintro s' ⟨y140u10, hg, hs⟩
                unfold lawLast_j15 at hg
                refine AWp.sub hs ?_
                obtain ⟨g159, hg⟩ := grd_some hg
                unfold inI at g159
                refine AWp.regF hV none [3, 4, 6, 10, 50, 51, 52] fun K k160 => ?_
                simp
                repeat refine And.intro (by first | omega | (simp [*]; done) | grind) ?_
                refine kcong (s' := ⟨[(3, .d (enc (x2 : Bool))), (4, .d (enc (x15 : (List Mark)))), (6, .map 0), (10, .map 1), (50, .d (enc (x15 : (List Mark)))), (51, .d (enc ((x15.length : Int) : Int))), (52, .d (enc ((z9u52 + 1) : Int)))], [.map ((y24u6 : (List (Int × Event))).map kE) ((y24u6 : (List (Int × Event))).map vE), .map ((y140u10 : (List (Int × Mark))).map kE) ((y140u10 : (List (Int × Mark))).map vE)]⟩) (by first | rfl | (simp []; done) | (simp []; grind)) (k160 _ ?_)
                refine k83 _ _ (Option.some.inj hg).symm ?_
                show Sub _ ⟨[(3, .d (enc (x2 : Bool))), (4, .d (enc (x15 : (List Mark)))), (6, .map 0), (10, .map 1), (50, .d (enc (x15 : (List Mark)))), (51, .d (enc ((x15.length : Int) : Int))), (52, .d (enc ((z9u52 + 1) : Int)))], [.map ((y24u6 : (List (Int × Event))).map kE) ((y24u6 : (List (Int × Event))).map vE), .map ((y140u10 : (List (Int × Mark))).map kE) ((y140u10 : (List (Int × Mark))).map vE)]⟩
                exact Sub.ren [0, 1] (by decide) (by first | rfl | simp [renL, AO.ren, forgetsR, T.ren, idx, Eva.get]) (by first | exact ⟨rfl, rfl, rfl, rfl, rfl, rfl, rfl, trivial⟩ | (simp [renL, AO.ren, forgetsR, T.ren, idx, Eva.get]; done) | (simp [renL, AO.ren, forgetsR, T.ren, idx, Eva.get]; grind))
            · replace hg := ifb_f h139 hg
              refine AWp.exit ?_
              have e161 := hx134 _ (Option.some.inj hg).symm
              subst e161
              have hg := hq136
              try dsimp only at hg
              refine k81 _ (Exists.intro _ (And.intro hg ?_))
              show Sub _ ⟨[(3, .d (enc (x2 : Bool))), (6, .map 0), (10, .map 1)], [.map ((y24u6 : (List (Int × Event))).map kE) ((y24u6 : (List (Int × Event))).map vE), .map ((z9u10 : (List (Int × Mark))).map kE) ((z9u10 : (List (Int × Mark))).map vE)]⟩
              exact Sub.ren [0, 1] (by decide) (by first | rfl | simp [renL, AO.ren, forgetsR, T.ren, idx, Eva.get]) (by first | exact ⟨rfl, rfl, rfl, trivial⟩ | (simp [renL, AO.ren, forgetsR, T.ren, idx, Eva.get]; done) | (simp [renL, AO.ren, forgetsR, T.ren, idx, Eva.get]; grind))
          · rintro s' ⟨y80u10, hg, hs⟩
            unfold lawLast_j8 at hg
            refine AWp.sub hs ?_
            refine AWp.seqJ (fun s' => ∃ y164u10 : (List (Int × Mark)), lawLast_j17 x2 y164u10 = some r ∧ Sub s' ⟨[(3, .d (enc (x2 : Bool))), (10, .map 0)], [.map ((y164u10 : (List (Int × Mark))).map kE) ((y164u10 : (List (Int × Mark))).map vE)]⟩) (fun _ k165 => ?_) ?_
            · refine AWp.rS hV none [3, 10, 76] fun K k166 => ?_
              simp [rangeT, entryT, kE_pair, vE_pair]
              repeat refine And.intro (by first | omega | (simp [*]; done) | grind) ?_
              refine kcong (s' := ⟨[(3, .d (enc (x2 : Bool))), (10, .map 1), (76, .ptr 2 0)], [.fmap ((y24u6 : (List (Int × Event))).map kE) ((y24u6 : (List (Int × Event))).map vE), .map ((y80u10 : (List (Int × Mark))).map kE) ((y80u10 : (List (Int × Mark))).map vE), .iter ((y24u6 : (List (Int × Event))).map kE) ((y24u6 : (List (Int × Event))).map vE) []]⟩) (by first | rfl | (simp [rangeT, entryT, kE_pair, vE_pair]; done) | (simp [rangeT, entryT, kE_pair, vE_pair]; grind)) (k166 _ ?_)
              refine AWp.block ?_
              obtain ⟨o200, hl201, hg⟩ := bnd_some hg
              refine AWp.loopM y24u6 (fun dn167 (z18u10 : (List (Int × Mark))) => ⟨[(3, .d (enc (x2 : Bool))), (10, .map 0), (76, .ptr 1 0)], [.map ((z18u10 : (List (Int × Mark))).map kE) ((z18u10 : (List (Int × Mark))).map vE), .iter ((y24u6 : (List (Int × Event))).map kE) ((y24u6 : (List (Int × Event))).map vE) dn167]⟩) lawLast_m21 y80u10 hl201 ?_ fun dn167 z18u10 K203 hend204 hgo205 => ?_
              · show Sub _ ⟨[(3, .d (enc (x2 : Bool))), (10, .map 0), (76, .ptr 1 0)], [.map ((y80u10 : (List (Int × Mark))).map kE) ((y80u10 : (List (Int × Mark))).map vE), .iter ((y24u6 : (List (Int × Event))).map kE) ((y24u6 : (List (Int × Event))).map vE) []]⟩
                exact Sub.ren [1, 2] (by decide) (by first | rfl | simp [renL, AO.ren, forgetsR, T.ren, idx, Eva.get]) (by first | exact ⟨rfl, rfl, rfl, trivial⟩ | (simp [renL, AO.ren, forgetsR, T.ren, idx, Eva.get]; done) | (simp [renL, AO.ren, forgetsR, T.ren, idx, Eva.get]; grind))
              show AWp _ _ _ _ _ ⟨[(3, .d (enc (x2 : Bool))), (10, .map 0), (76, .ptr 1 0)], [.map ((z18u10 : (List (Int × Mark))).map kE) ((z18u10 : (List (Int × Mark))).map vE), .iter ((y24u6 : (List (Int × Event))).map kE) ((y24u6 : (List (Int × Event))).map vE) dn167]⟩ _
              refine AWp.mNext hV rfl rfl rfl rfl rfl rfl (by decide) (by decide) rfl rfl rfl rfl (fun i168 kd206 vd207 hk208 hv209 hn210 => ?_) fun hall211 => ?_
              · obtain ⟨⟨k169, v170⟩, he213, rfl, rfl⟩ := kv_get hk208 hv209
                obtain ⟨w214, ho215, hret216, hcont217⟩ := hgo205 i168 _ he213 hn210
                unfold lawLast_m21 at ho215
                try dsimp only at ho215
                have hq218 := hg
                clear hg
                have hg := ho215
                clear ho215
                show AWp _ _ _ _ _ ⟨[(3, .d (enc (x2 : Bool))), (10, .map 0), (76, .ptr 1 0)], [.map ((z18u10 : (List (Int × Mark))).map kE) ((z18u10 : (List (Int × Mark))).map vE), .iter ((y24u6 : (List (Int × Event))).map kE) ((y24u6 : (List (Int × Event))).map vE) (dn167 ++ [i168])]⟩ _
                refine AWp.block ?_
                refine AWp.rS hV none [3, 10, 13, 14, 76] fun K k219 => ?_
                simp [he213, rangeT, entryT, kE_pair, vE_pair]
                repeat refine And.intro (by first | omega | (simp [*]; done) | grind) ?_
                refine kcong (s' := ⟨[(3, .d (enc (x2 : Bool))), (10, .map 0), (13, .d (enc (k169 : Int))), (14, .ptr 2 0), (76, .ptr 1 0)], [.map ((z18u10 : (List (Int × Mark))).map kE) ((z18u10 : (List (Int × Mark))).map vE), .iter ((y24u6 : (List (Int × Event))).map kE) ((y24u6 : (List (Int × Event))).map vE) (dn167 ++ [i168]), .var 42 (cellsT (.d (enc (v170 : Event))))]⟩) (by first | rfl | (simp [he213, rangeT, entryT, kE_pair, vE_pair]; done) | (simp [he213, rangeT, entryT, kE_pair, vE_pair]; grind)) (k219 _ ?_)
                refine AWp.rS hV none [3, 10, 13, 14, 15, 16, 76] fun K k220 => ?_
                simp [he213]
                repeat refine And.intro (by first | omega | (simp [*]; done) | grind) ?_
                refine kcong (s' := ⟨[(3, .d (enc (x2 : Bool))), (10, .map 0), (13, .d (enc (k169 : Int))), (14, .ptr 2 0), (15, .ptr 3 0), (16, .d (enc ((mhas z18u10 k169) : Bool))), (76, .ptr 1 0)], [.map ((z18u10 : (List (Int × Mark))).map kE) ((z18u10 : (List (Int × Mark))).map vE), .iter ((y24u6 : (List (Int × Event))).map kE) ((y24u6 : (List (Int × Event))).map vE) (dn167 ++ [i168]), .var 42 (cellsT (.d (enc (v170 : Event)))), .var 40 (cellsT (.d (enc ((mgetD z18u10 k169 (⟨0, 0, 0, (⟨0, 0, 0⟩ : Reader), 0, 0, 0, ⟨#[]⟩⟩ : Mark)) : Mark))))]⟩) (by first | rfl | (simp [he213]; done) | (simp [he213]; grind)) (k220 _ ?_)
                refine AWp.seqG fun _ k221 => ?_
                obtain ⟨y222u101, hx223, hg⟩ := bnd_some hg
                unfold lawLast_r22 at hx223
                refine AWp.seqJ (fun s' => Sub s' ⟨[(3, .d (enc (x2 : Bool))), (10, .map 0), (13, .d (enc (k169 : Int))), (76, .ptr 1 0), (101, .d (enc (y222u101 : Bool)))], [.map ((z18u10 : (List (Int × Mark))).map kE) ((z18u10 : (List (Int × Mark))).map vE), .iter ((y24u6 : (List (Int × Event))).map kE) ((y24u6 : (List (Int × Event))).map vE) (dn167 ++ [i168])]⟩) (fun _ k224 => ?_) ?_
                · rcases Bool.eq_false_or_eq_true (!((mhas z18u10 k169) == (decide (v170.kind = 1)))) with c225 | c225
                  · replace hx223 := ifb_t c225 hx223
                    have c225g := c225
                    try simp at c225g
                    refine AWp.regF hV (some [94, 95, 96, 97, 98, 99, 100]) [3, 10, 13, 76, 101] fun K k226 => ?_
                    simp [he213, c225, c225g]
                    repeat refine And.intro (by first | omega | (simp [*]; done) | grind) ?_
                    refine kcong (s' := ⟨[(3, .d (enc (x2 : Bool))), (10, .map 0), (13, .d (enc (k169 : Int))), (76, .ptr 1 0), (101, .d (enc (true : Bool)))], [.map ((z18u10 : (List (Int × Mark))).map kE) ((z18u10 : (List (Int × Mark))).map vE), .iter ((y24u6 : (List (Int × Event))).map kE) ((y24u6 : (List (Int × Event))).map vE) (dn167 ++ [i168]), .var 42 (cellsT (.d (enc (v170 : Event)))), .var 40 (cellsT (.d (enc ((mgetD z18u10 k169 (⟨0, 0, 0, (⟨0, 0, 0⟩ : Reader), 0, 0, 0, ⟨#[]⟩⟩ : Mark)) : Mark))))]⟩) (by first | rfl | (simp [he213, c225, c225g]; done) | (simp [he213, c225, c225g]; grind)) (k226 _ ?_)
                    have hx223 := Option.some.inj hx223
                    subst hx223
                    refine k224 _ ?_
                    show Sub _ ⟨[(3, .d (enc (x2 : Bool))), (10, .map 0), (13, .d (enc (k169 : Int))), (76, .ptr 1 0), (101, .d (enc (true : Bool)))], [.map ((z18u10 : (List (Int × Mark))).map kE) ((z18u10 : (List (Int × Mark))).map vE), .iter ((y24u6 : (List (Int × Event))).map kE) ((y24u6 : (List (Int × Event))).map vE) (dn167 ++ [i168])]⟩
                    exact Sub.ren [0, 1] (by decide) (by first | rfl | simp [renL, AO.ren, forgetsR, T.ren, idx, Eva.get]) (by first | exact ⟨rfl, rfl, rfl, rfl, rfl, trivial⟩ | (simp [renL, AO.ren, forgetsR, T.ren, idx, Eva.get]; done) | (simp [renL, AO.ren, forgetsR, T.ren, idx, Eva.get]; grind))
                  · replace hx223 := ifb_f c225 hx223
                    have c225g := c225
                    try simp at c225g
                    rcases Bool.eq_false_or_eq_true (mhas z18u10 k169) with c227 | c227
                    · replace hx223 := ifb_t c227 hx223
                      have c227g := c227
                      try simp at c227g
                      refine AWp.regF hV (some []) [3, 10, 13, 76, 101] fun K k228 => ?_
                      simp [he213, c225, c225g, c227, c227g]
                      repeat refine And.intro (by first | omega | (simp [*]; done) | grind) ?_
                      refine kcong (s' := ⟨[(3, .d (enc (x2 : Bool))), (10, .map 0), (13, .d (enc (k169 : Int))), (76, .ptr 1 0), (101, .d (enc ((!decide ((mgetD z18u10 k169 (⟨0, 0, 0, (⟨0, 0, 0⟩ : Reader), 0, 0, 0, ⟨#[]⟩⟩ : Mark)) = v170.mark)) : Bool)))], [.map ((z18u10 : (List (Int × Mark))).map kE) ((z18u10 : (List (Int × Mark))).map vE), .iter ((y24u6 : (List (Int × Event))).map kE) ((y24u6 : (List (Int × Event))).map vE) (dn167 ++ [i168]), .var 42 (cellsT (.d (enc (v170 : Event)))), .var 40 (cellsT (.d (enc ((mgetD z18u10 k169 (⟨0, 0, 0, (⟨0, 0, 0⟩ : Reader), 0, 0, 0, ⟨#[]⟩⟩ : Mark)) : Mark))))]⟩) (by first | rfl | (simp [he213, c225, c225g, c227, c227g]; done) | (simp [he213, c225, c225g, c227, c227g]; grind)) (k228 _ ?_)
                      have hx223 := Option.some.inj hx223
                      subst hx223
                      refine k224 _ ?_
                      show Sub _ ⟨[(3, .d (enc (x2 : Bool))), (10, .map 0), (13, .d (enc (k169 : Int))), (76, .ptr 1 0), (101, .d (enc ((!decide ((mgetD z18u10 k169 (⟨0, 0, 0, (⟨0, 0, 0⟩ : Reader), 0, 0, 0, ⟨#[]⟩⟩ : Mark)) = v170.mark)) : Bool)))], [.map ((z18u10 : (List (Int × Mark))).map kE) ((z18u10 : (List (Int × Mark))).map vE), .iter ((y24u6 : (List (Int × Event))).map kE) ((y24u6 : (List (Int × Event))).map vE) (dn167 ++ [i168])]⟩
                      exact Sub.ren [0, 1] (by decide) (by first | rfl | simp [renL, AO.ren, forgetsR, T.ren, idx, Eva.get]) (by first | exact ⟨rfl, rfl, rfl, rfl, rfl, trivial⟩ | (simp [renL, AO.ren, forgetsR, T.ren, idx, Eva.get]; done) | (simp [renL, AO.ren, forgetsR, T.ren, idx, Eva.get]; grind))
                    · replace hx223 := ifb_f c227 hx223
                      have c227g := c227
                      try simp at c227g
                      refine AWp.regF hV (some [96, 97, 98, 99]) [3, 10, 13, 76, 101] fun K k229 => ?_
                      simp [he213, c225, c225g, c227, c227g]
                      repeat refine And.intro (by first | omega | (simp [*]; done) | grind) ?_
                      refine kcong (s' := ⟨[(3, .d (enc (x2 : Bool))), (10, .map 0), (13, .d (enc (k169 : Int))), (76, .ptr 1 0), (101, .d (enc (false : Bool)))], [.map ((z18u10 : (List (Int × Mark))).map kE) ((z18u10 : (List (Int × Mark))).map vE), .iter ((y24u6 : (List (Int × Event))).map kE) ((y24u6 : (List (Int × Event))).map vE) (dn167 ++ [i168]), .var 42 (cellsT (.d (enc (v170 : Event)))), .var 40 (cellsT (.d (enc ((mgetD z18u10 k169 (⟨0, 0, 0, (⟨0, 0, 0⟩ : Reader), 0, 0, 0, ⟨#[]⟩⟩ : Mark)) : Mark))))]⟩) (by first | rfl | (simp [he213, c225, c225g, c227, c227g]; done) | (simp [he213, c225, c225g, c227, c227g]; grind)) (k229 _ ?_)
                      have hx223 := Option.some.inj hx223
                      subst hx223
                      refine k224 _ ?_
                      show Sub _ ⟨[(3, .d (enc (x2 : Bool))), (10, .map 0), (13, .d (enc (k169 : Int))), (76, .ptr 1 0), (101, .d (enc (false : Bool)))], [.map ((z18u10 : (List (Int × Mark))).map kE) ((z18u10 : (List (Int × Mark))).map vE), .iter ((y24u6 : (List (Int × Event))).map kE) ((y24u6 : (List (Int × Event))).map vE) (dn167 ++ [i168])]⟩
                      exact Sub.ren [0, 1] (by decide) (by first | rfl | simp [renL, AO.ren, forgetsR, T.ren, idx, Eva.get]) (by first | exact ⟨rfl, rfl, rfl, rfl, rfl, trivial⟩ | (simp [renL, AO.ren, forgetsR, T.ren, idx, Eva.get]; done) | (simp [renL, AO.ren, forgetsR, T.ren, idx, Eva.get]; grind))
                · intro s' hs
                  refine AWp.sub hs ?_
                  clear hs s'
                  refine AWp.cond (b := y222u101) rfl (fun h230 => ?_) fun h230 => ?_
                  · replace hg := ifb_t h230 hg
                    refine AWp.rS hV none [2] fun K k231 => ?_
                    simp [he213]
                    repeat refine And.intro (by first | omega | (simp [*]; done) | grind) ?_
                    refine kcong (s' := ⟨[(2, .d (enc (false : Bool)))], [.map ((z18u10 : (List (Int × Mark))).map kE) ((z18u10 : (List (Int × Mark))).map vE), .iter ((y24u6 : (List (Int × Event))).map kE) ((y24u6 : (List (Int × Event))).map vE) (dn167 ++ [i168])]⟩) (by first | rfl | (simp [he213]; done) | (simp [he213]; grind)) (k231 _ ?_)
                    refine AWp.ret ?_
                    have e232 := hret216 _ (Option.some.inj hg).symm
                    subst e232
                    have hg := hq218
                    try dsimp only at hg
                    refine hQ _ _ (.inl rfl) ?_
                    have hg := Option.some.inj hg
                    subst hg
                    first | (simp [retOk, resT, loadAs]; done) | (simp [retOk, resT, loadAs]; grind)
                  · replace hg := ifb_f h230 hg
                    refine AWp.skip ?_
                    refine k221 _ ?_
                    refine AWp.regF hV none [3, 10, 76] fun K k233 => ?_
                    simp [he213]
                    repeat refine And.intro (by first | omega | (simp [*]; done) | grind) ?_
                    refine kcong (s' := ⟨[(3, .d (enc (x2 : Bool))), (10, .map 0), (76, .ptr 1 0)], [.map (((mdel z18u10 k169) : (List (Int × Mark))).map kE) (((mdel z18u10 k169) : (List (Int × Mark))).map vE), .iter ((y24u6 : (List (Int × Event))).map kE) ((y24u6 : (List (Int × Event))).map vE) (dn167 ++ [i168])]⟩) (by first | rfl | (simp [he213]; done) | (simp [he213]; grind)) (k233 _ ?_)
                    refine hcont217 _ _ (Option.some.inj hg).symm ?_
                    show Sub _ ⟨[(3, .d (enc (x2 : Bool))), (10, .map 0), (76, .ptr 1 0)], [.map (((mdel z18u10 k169) : (List (Int × Mark))).map kE) (((mdel z18u10 k169) : (List (Int × Mark))).map vE), .iter ((y24u6 : (List (Int × Event))).map kE) ((y24u6 : (List (Int × Event))).map vE) (dn167 ++ [i168])]⟩
                    exact Sub.ren [0, 1] (by decide) (by first | rfl | simp [renL, AO.ren, forgetsR, T.ren, idx, Eva.get]) (by first | exact ⟨rfl, rfl, rfl, trivial⟩ | (simp [renL, AO.ren, forgetsR, T.ren, idx, Eva.get]; done) | (simp [renL, AO.ren, forgetsR, T.ren, idx, Eva.get]; grind))
              · have e212 := hend204 (by simpa using hall211)
                subst e212
                try dsimp only at hg
                refine k165 _ (Exists.intro _ (And.intro hg ?_))
                show Sub _ ⟨[(3, .d (enc (x2 : Bool))), (10, .map 0)], [.map ((z18u10 : (List (Int × Mark))).map kE) ((z18u10 : (List (Int × Mark))).map vE)]⟩
                exact Sub.ren [0] (by decide) (by first | rfl | simp [renL, AO.ren, forgetsR, T.ren, idx, Eva.get]) (by first | exact ⟨rfl, rfl, trivial⟩ | (simp [renL, AO.ren, forgetsR, T.ren, idx, Eva.get]; done) | (simp [renL, AO.ren, forgetsR, T.ren, idx, Eva.get]; grind))
            · rintro s' ⟨y164u10, hg, hs⟩
              unfold lawLast_j17 at hg
              refine AWp.sub hs ?_
              obtain ⟨y235u2, hx236, hg⟩ := bnd_some hg
              unfold lawLast_r23 at hx236
              refine AWp.seqJ (fun s' => Sub s' ⟨[(2, .d (enc (y235u2 : Bool)))], []⟩) (fun _ k237 => ?_) ?_
              · rcases Bool.eq_false_or_eq_true x2 with c238 | c238
                · replace hx236 := ifb_t c238 hx236
                  have c238g := c238
                  try simp at c238g
                  refine AWp.regF hV (some []) [2] fun K k239 => ?_
                  simp [c238, c238g]
                  repeat refine And.intro (by first | omega | (simp [*]; done) | grind) ?_
                  refine kcong (s' := ⟨[(2, .d (enc ((decide ((y164u10.length : Int) = 0)) : Bool)))], [.map ((y164u10 : (List (Int × Mark))).map kE) ((y164u10 : (List (Int × Mark))).map vE)]⟩) (by first | rfl | (simp [c238, c238g]; done) | (simp [c238, c238g]; grind)) (k239 _ ?_)
                  have hx236 := Option.some.inj hx236
                  subst hx236
                  refine k237 _ ?_
                  show Sub _ ⟨[(2, .d (enc ((decide ((y164u10.length : Int) = 0)) : Bool)))], []⟩
                  exact Sub.ren [] (by decide) (by first | rfl | simp [renL, AO.ren, forgetsR, T.ren, idx, Eva.get]) (by first | exact ⟨rfl, trivial⟩ | (simp [renL, AO.ren, forgetsR, T.ren, idx, Eva.get]; done) | (simp [renL, AO.ren, forgetsR, T.ren, idx, Eva.get]; grind))
                · replace hx236 := ifb_f c238 hx236
                  have c238g := c238
                  try simp at c238g
                  refine AWp.regF hV (some [106, 107, 108]) [2] fun K k240 => ?_
                  simp [c238, c238g]
                  repeat refine And.intro (by first | omega | (simp [*]; done) | grind) ?_
                  refine kcong (s' := ⟨[(2, .d (enc (false : Bool)))], [.map ((y164u10 : (List (Int × Mark))).map kE) ((y164u10 : (List (Int × Mark))).map vE)]⟩) (by first | rfl | (simp [c238, c238g]; done) | (simp [c238, c238g]; grind)) (k240 _ ?_)
                  have hx236 := Option.some.inj hx236
                  subst hx236
                  refine k237 _ ?_
                  show Sub _ ⟨[(2, .d (enc (false : Bool)))], []⟩
                  exact Sub.ren [] (by decide) (by first | rfl | simp [renL, AO.ren, forgetsR, T.ren, idx, Eva.get]) (by first | exact ⟨rfl, trivial⟩ | (simp [renL, AO.ren, forgetsR, T.ren, idx, Eva.get]; done) | (simp [renL, AO.ren, forgetsR, T.ren, idx, Eva.get]; grind))
              · intro s' hs
                refine AWp.sub hs ?_
                clear hs s'
                refine AWp.ret ?_
                refine hQ _ _ (.inl rfl) ?_
                have hg := Option.some.inj hg
                subst hg
                first | (simp [retOk, resT, loadAs]; done) | (simp [retOk, resT, loadAs]; grind)
end Go.Proofs.Ytpbhcpeilgmkeaa

/-
  Programs of the events: printed by gen2.py (extraction).
-/
namespace Go.Proofs.Ytpbhcpeilgmkeaa
open Go Go.Eva Enc
set_option linter.unusedVariables false
noncomputable def lawErase_r1 (l : (List Event)) (id : Int) (m : Mark) (stand : Int) : Option Bool :=
  (ifb (decide (58 < (l.length : Int))) (some true) (grd ((l : List Event).length ≤ 1000000000) (ifb (!(validE l)) (some true) (ifb (!(isID id)) (some true) (ifb (!(isID stand)) (some true) (ifb (!(markOk m)) (some true) (some (!decide (m.id = id)))))))))
noncomputable def lawErase_r3 (x39 : Int) (x43 : Int) (x47 : Int) (x52 : Int) (x56 : Int) : Option Bool :=
  (ifb (!decide (x39 = 0)) (some true) (ifb (!decide (x43 = 0)) (some true) (ifb (!decide (x47 = 0)) (some true) (ifb (!decide (x52 = 0)) (some true) (some (!decide (x56 = 0)))))))
noncomputable def lawErase_r15 (id : Int) (z5u23 : Bool) (x146 : Mark) : Option Bool :=
  (ifb (decide (id < x146.id)) (some (!z5u23)) (some false))
noncomputable def lawErase_j13 (z5u128 : Int) (y144u21 : (List Mark)) (y144u22 : (List Mark)) (y144u23 : Bool) : Option (((List Mark) × (List Mark) × Bool × Int) ⊕ (((List Mark) × (List Mark) × Bool))) :=
  grd (inI (z5u128 + 1)) (some (.inl (y144u21, y144u22, y144u23, (z5u128 + 1))))
noncomputable def lawErase_j14 (z5u21 : (List Mark)) (z5u128 : Int) (x146 : Mark) (y152u22 : (List Mark)) (y152u23 : Bool) : Option (((List Mark) × (List Mark) × Bool × Int) ⊕ (((List Mark) × (List Mark) × Bool))) :=
  grd (((z5u21 ++ [x146]) : List Mark).length * 88 ≤ 140737488355328) (grd (((y152u22 ++ [x146]) : List Mark).length * 88 ≤ 140737488355328) (lawErase_j13 z5u128 (z5u21 ++ [x146]) (y152u22 ++ [x146]) y152u23))
noncomputable def lawErase_s12 (id : Int) (m : Mark) (x38 : (List Mark)) : ((List Mark) × (List Mark) × Bool × Int) → Option (((List Mark) × (List Mark) × Bool × Int) ⊕ (((List Mark) × (List Mark) × Bool))) := fun (z5u21, z5u22, z5u23, z5u128) =>
  ifb (decide (z5u128 < (x38.length : Int))) (bnd (at? x38 z5u128) fun x146 =>
  ifb (decide (x146.id = id)) (lawErase_j13 z5u128 z5u21 z5u22 z5u23)
  (bnd (lawErase_r15 id z5u23 x146) fun y154u143 =>
  ifb y154u143 (grd (((z5u22 ++ [m]) : List Mark).length * 88 ≤ 140737488355328) (lawErase_j14 z5u21 z5u128 x146 (z5u22 ++ [m]) true))
  (lawErase_j14 z5u21 z5u128 x146 z5u22 z5u23)))
  (some (.inr (z5u21, z5u22, z5u23)))
noncomputable def lawErase_r17 (x2 : Bool) (x46 : (List Mark)) (x55 : (List Mark)) (y76u21 : (List Mark)) (y170u22 : (List Mark)) : Option Bool :=
  (ifb x2 (grd ((x46 : List Mark).length ≤ 1000000000) (ifb (decide (x46 = y76u21)) (grd ((x55 : List Mark).length ≤ 1000000000) (some (decide (x55 = y170u22)))) (some false))) (some false))
noncomputable def lawErase_j16 (x2 : Bool) (x46 : (List Mark)) (x55 : (List Mark)) (y76u21 : (List Mark)) (y170u22 : (List Mark)) : Option Bool :=
  bnd (lawErase_r17 x2 x46 x55 y76u21 y170u22) fun y178u8 =>
  some y178u8
noncomputable def lawErase_j4 (m : Mark) (x2 : Bool) (x46 : (List Mark)) (x55 : (List Mark)) (y76u21 : (List Mark)) (y76u22 : (List Mark)) (y76u23 : Bool) : Option Bool :=
  ifb (!y76u23) (grd (((y76u22 ++ [m]) : List Mark).length * 88 ≤ 140737488355328) (lawErase_j16 x2 x46 x55 y76u21 (y76u22 ++ [m])))
  (lawErase_j16 x2 x46 x55 y76u21 y76u22)
noncomputable def lawErase_j2 (l : (List Event)) (id : Int) (m : Mark) (stand : Int) (x2 : Bool) (y24u10 : Int) : Option Bool :=
  grd (inI (y24u10 + 1)) (ifb (decide (1000000000 < (y24u10 + 1))) (some x2)
  (bnd (eMarks l) fun (x38, x39) =>
  bnd (eAdd l ([(⟨y24u10, stand, 2, id, (⟨0, 0, 0, (⟨0, 0, 0⟩ : Reader), 0, 0, 0, ⟨#[]⟩⟩ : Mark)⟩ : Event)])) fun (x42, x43) =>
  bnd (eMarks x42) fun (x46, x47) =>
  grd (inI (y24u10 + 1)) (bnd (eAdd x42 ([(⟨(y24u10 + 1), stand, 1, 0, m⟩ : Event)])) fun (x51, x52) =>
  bnd (eMarks x51) fun (x55, x56) =>
  bnd (lawErase_r3 x39 x43 x47 x52 x56) fun y60u125 =>
  ifb y60u125 (some false)
  (bnd (loopO (lawErase_s12 id m x38) ([], [], false, 0)) fun o134 =>
  match o134 with
  | (q169u21, q169u22, q169u23) => lawErase_j4 m x2 x46 x55 q169u21 q169u22 q169u23))))
noncomputable def lawErase (l : (List Event)) (id : Int) (m : Mark) (stand : Int) : Option Bool :=
  bnd (headP) fun x2 =>
  bnd (lawErase_r1 l id m stand) fun y7u55 =>
  ifb y7u55 (some x2)
  (ifb (decide (0 < (l.length : Int))) (grd (inI ((l.length : Int) - 1)) (bnd (at? l ((l.length : Int) - 1)) fun x29 =>
  grd (inI (x29.clock + 1)) (lawErase_j2 l id m stand x2 (x29.clock + 1))))
  (lawErase_j2 l id m stand x2 1))
end Go.Proofs.Ytpbhcpeilgmkeaa

/-
  Plain laws, part 9: EventsErase.
-/
namespace Go.Proofs.Ytpbhcpeilgmkeaa
open Go Go.Eva

theorem strict_snoc {l : List Event} (hs : strict l) {e : Event} (hb : ∀ x ∈ l, before x e = true) : strict (l ++ [e]) := by
  unfold strict
  rw [List.pairwise_append]
  exact ⟨hs, by simp, fun a ha b hb' => by simp at hb'; subst hb'; exact hb a ha⟩
theorem radd_snoc {l : List Event} (hl : l.length ≤ 1000) (hv : validE l = true) {e : Event} (he : eventOk e = true) (hb : ∀ x ∈ l, before x e = true) : radd l [e] = (l ++ [e], 0) ∧ validE (l ++ [e]) = true := by
  have hs := strict_snoc (validE_strict hv) hb
  rcases radd_cases l [e] (by omega) (by simp) hv (by simp [he]) with ⟨n1, r1, v1, m1⟩ | ⟨n1, r1⟩
  · have : List.foldl put l [e] = l ++ [e] := strict_ext (validE_strict v1) hs fun x => by rw [m1]; simp
    rw [this] at r1 v1
    exact ⟨r1, v1⟩
  · exfalso
    have : noFork (l ++ [e]) = true := by
      rw [noFork_iff]
      exact fun x hx y hy => strict_fork hs hx hy
    rw [n1] at this; cases this
theorem marksOf_snoc (l : List Event) (e : Event) : marksOf (l ++ [e]) = markStep (marksOf l) e := by simp [marksOf]
theorem marksOf_order {l : List Event} (hl : l.all eventOk = true) : inOrder (marksOf l) := by
  have : Told [] [] := ⟨by simp [mkeys], by simp, by simp [inOrder], by simp⟩
  exact (Told.fold hl this).order
theorem foldl_mark_length : ∀ (l : List Event) (out : List Mark), (l.foldl markStep out).length ≤ out.length + l.length
  | [], out => by simp
  | e :: l, out => by
    have h1 := foldl_mark_length l (markStep out e)
    have h2 := markStep_length out e
    simp only [List.foldl_cons, List.length_cons]; omega
theorem marksOf_length (l : List Event) : (marksOf l).length ≤ l.length := by
  have := foldl_mark_length l []
  simpa [marksOf] using this
theorem inOrder_ext {a b : List Mark} (ha : inOrder a) (hb : inOrder b) (h : ∀ x, x ∈ a ↔ x ∈ b) : a = b := by
  have hp : a.Perm b := (List.perm_ext_iff_of_nodup (ha.imp fun {x y} h => by intro e; subst e; omega) (hb.imp fun {x y} h => by intro e; subst e; omega)).2 h
  exact hp.eq_of_pairwise (fun x y _ _ h1 h2 => absurd h1 (by omega)) ha hb

/-- What the loop has, behind a part of the marks. -/
def eraW (id : Int) (p : List Mark) : List Mark := p.filter fun o => decide (o.id ≠ id)
def eraP (id : Int) (p : List Mark) : Bool := p.any fun o => decide (id < o.id)
def eraA (id : Int) (m : Mark) (p : List Mark) : List Mark := (p.filter fun o => decide (o.id < id)) ++ (if eraP id p = true then [m] else []) ++ p.filter fun o => decide (id < o.id)
theorem eraW_len (id : Int) (p : List Mark) : (eraW id p).length ≤ p.length := List.length_filter_le _ _
theorem eraA_len (id : Int) (m : Mark) (p : List Mark) : (eraA id m p).length ≤ 2 * p.length + 1 := by
  have h1 := List.length_filter_le (fun o : Mark => decide (o.id < id)) p
  have h2 := List.length_filter_le (fun o : Mark => decide (id < o.id)) p
  unfold eraA
  rw [List.length_append, List.length_append]
  split <;> simp <;> omega
theorem era_loop (id : Int) (m : Mark) (was : List Mark) (hw : was.length ≤ 1000) (ho : inOrder was) : loopO (lawErase_s12 id m was) ([], [], false, 0) = some (eraW id was, eraA id m was, eraP id was) := by
  obtain ⟨a, ha, h⟩ := forR (fun (a : List Mark × List Mark × Bool) i => (a.1, a.2.1, a.2.2, i)) (lawErase_s12 id m was) was (fun i a => a = (eraW id (was.take i), eraA id m (was.take i), eraP id (was.take i))) (fun a => a) (fun i a x hx hI => by
    have hi := lt_of_get hx
    subst hI
    have ht : was.take (i + 1) = was.take i ++ [x] := take_get hx
    have hlow : ∀ o ∈ was.take i, o.id < x.id := by
      have := ho
      rw [← List.take_append_drop i was] at this
      unfold inOrder at this
      rw [List.pairwise_append] at this
      exact fun o hm => this.2.2 o hm x (by rw [drop_get hx]; simp)
    have hj : ∀ a b c, lawErase_j13 (i : Int) a b c = some (.inl (a, b, c, (i : Int) + 1)) := fun a b c => by
      unfold lawErase_j13
      exact grd_eq (by unfold inI; omega)
    have hpl : (was.take i).length ≤ 1000 := by rw [List.length_take]; omega
    have hj14 : ∀ (a b : List Mark) (c : Bool), a.length ≤ 1000 → b.length ≤ 2010 → lawErase_j14 a (i : Int) x b c = some (.inl (a ++ [x], b ++ [x], c, (i : Int) + 1)) := fun a b c h1 h2 => by
      unfold lawErase_j14
      exact (grd_eq (by simp; omega)).trans ((grd_eq (by simp; omega)).trans (hj _ _ _))
    have hWl := eraW_len id (was.take i)
    have hAl := eraA_len id m (was.take i)
    generalize hp : was.take i = p at *
    refine ⟨_, ?_, rfl⟩
    rw [ht]
    unfold lawErase_s12
    refine (ifbT (decide_eq_true (by omega))).trans ?_
    refine (bnd_eq (at_nat hx)).trans ?_
    by_cases he : x.id = id
    · refine (ifbT (decide_eq_true he)).trans ?_
      rw [hj]
      simp [eraW, eraP, eraA, he]
    refine (ifbF (decide_eq_false he)).trans ?_
    have hr : lawErase_r15 id (eraP id p) x = some (decide (id < x.id) && !eraP id p) := by
      unfold lawErase_r15
      by_cases h : id < x.id
      · exact (ifbT (decide_eq_true h)).trans (by rw [decide_eq_true h]; rfl)
      · exact (ifbF (decide_eq_false h)).trans (by rw [decide_eq_false h]; rfl)
    refine (bnd_eq hr).trans ?_
    have hno : eraP id p = false → (p.filter fun o => decide (id < o.id)) = [] := fun h => by
      rw [List.filter_eq_nil_iff]
      unfold eraP at h
      rw [List.any_eq_false] at h
      exact fun o ho => h o ho
    cases hP : eraP id p with
    | true =>
      obtain ⟨o, hom, hoi⟩ := List.any_eq_true.1 hP
      have hxi : id < x.id := by have := hlow o hom; have := of_decide_eq_true hoi; omega
      refine (ifbF (by rw [decide_eq_true hxi]; rfl)).trans ?_
      rw [hj14 _ _ _ (by show (eraW id p).length ≤ 1000; omega) (by show (eraA id m p).length ≤ 2010; omega)]
      have hP' : eraP id (p ++ [x]) = true := by unfold eraP at hP ⊢; rw [List.any_append, hP]; rfl
      have hnx : ¬ x.id < id := by omega
      simp [eraW, eraA, hP, hP', he, hxi, hnx]
    | false =>
      by_cases hxi : id < x.id
      · refine (ifbT (by rw [decide_eq_true hxi]; rfl)).trans ?_
        refine (grd_eq (by simp; omega)).trans ?_
        rw [hj14 _ _ _ (by show (eraW id p).length ≤ 1000; omega) (by show (eraA id m p ++ [m]).length ≤ 2010; simp; omega)]
        have hP' : eraP id (p ++ [x]) = true := by unfold eraP; rw [List.any_append]; simp [hxi]
        have hnx : ¬ x.id < id := by omega
        simp [eraW, eraA, hP, hP', he, hxi, hnx, hno hP]
      · refine (ifbF (by rw [decide_eq_false hxi]; rfl)).trans ?_
        rw [hj14 _ _ _ (by show (eraW id p).length ≤ 1000; omega) (by show (eraA id m p).length ≤ 2010; omega)]
        have hP' : eraP id (p ++ [x]) = false := by unfold eraP at hP ⊢; rw [List.any_append, hP]; simp [hxi]
        have hnx : x.id < id := by omega
        simp [eraW, eraA, hP, hP', he, hxi, hnx, hno hP]) (fun a _ => by
      unfold lawErase_s12
      exact (ifbF (decide_eq_false (by omega))).trans rfl) ([], [], false) (by simp [eraW, eraA, eraP])
  rw [List.take_of_length_le (Nat.le_refl _)] at ha
  subst ha
  exact h
theorem eraW_eq {id : Int} (hid : 0 < id) {was : List Mark} (ho : inOrder was) {e : Event} (hk : e.kind = 2) (hn : e.n = id) : markStep was e = eraW id was := by
  have ha : about e = id := by simp [about, hk, hn]
  obtain ⟨s1, s2⟩ := markStep_ok ho e (by omega)
  refine inOrder_ext s1 (List.Pairwise.sublist List.filter_sublist ho) fun x => ?_
  rw [s2, ha]
  unfold eraW
  rw [List.mem_filter]
  simp [hk]
theorem eraA_eq {id : Int} (hid : 0 < id) {was : List Mark} (ho : inOrder was) {m : Mark} (hm : m.id = id) {e : Event} (hk : e.kind = 1) (hn : e.mark = m) : markStep (eraW id was) e = (if eraP id was = true then eraA id m was else eraA id m was ++ [m]) := by
  have ha : about e = id := by simp [about, hk, hn, hm]
  have ho' : inOrder (eraW id was) := List.Pairwise.sublist List.filter_sublist ho
  obtain ⟨s1, s2⟩ := markStep_ok ho' e (by omega)
  have hno : eraP id was = false → (was.filter fun o => decide (id < o.id)) = [] := fun h => by
    rw [List.filter_eq_nil_iff]
    unfold eraP at h
    rw [List.any_eq_false] at h
    exact fun o ho => h o ho
  have hfull : (if eraP id was = true then eraA id m was else eraA id m was ++ [m]) = (was.filter fun o => decide (o.id < id)) ++ [m] ++ was.filter fun o => decide (id < o.id) := by
    cases hP : eraP id was with
    | true => simp [eraA, hP]
    | false => simp [eraA, hP, hno hP]
  rw [hfull]
  refine inOrder_ext s1 ?_ fun x => ?_
  · unfold inOrder
    rw [List.pairwise_append, List.pairwise_append]
    refine ⟨⟨List.Pairwise.sublist List.filter_sublist ho, by simp, ?_⟩, List.Pairwise.sublist List.filter_sublist ho, ?_⟩
    · intro a ha b hb
      simp at ha hb; subst hb; omega
    · intro a ha b hb
      simp at ha hb
      rcases ha with h | h
      · omega
      · subst h; omega
  · rw [s2, ha]
    unfold eraW
    simp only [List.mem_append, List.mem_filter, List.mem_singleton, decide_eq_true_eq, hk, hn, true_and]
    constructor
    · rintro (h | ⟨⟨h1, h2⟩, h3⟩)
      · exact .inl (.inr h)
      · rcases Int.lt_or_gt_of_ne h3 with h4 | h4
        · exact .inl (.inl ⟨h1, h4⟩)
        · exact .inr ⟨h1, h4⟩
    · rintro ((⟨h1, h2⟩ | h) | ⟨h1, h2⟩)
      · exact .inr ⟨⟨h1, by omega⟩, by omega⟩
      · exact .inl h
      · exact .inr ⟨⟨h1, by omega⟩, by omega⟩

theorem erase_j2 (l : List Event) (id : Int) (m : Mark) (stand c : Int) (hl : l.length ≤ 58) (hv : validE l = true) (hid : isID id = true) (hst : isID stand = true) (hm : markOk m = true) (hmi : m.id = id) (hc1 : 1 ≤ c) (hc : c ≤ 1000000001) (hlast : ∀ x ∈ l, x.clock < c) :
    lawErase_j2 l id m stand true c = some true := by
  unfold lawErase_j2
  refine (grd_eq (by unfold inI; omega)).trans ?_
  by_cases hbig : 1000000000 < c + 1
  · exact (ifbT (decide_eq_true hbig)).trans rfl
  refine (ifbF (decide_eq_false hbig)).trans ?_
  have hid' := (isID_iff _).1 hid
  have hw := (validE_iff l).1 hv
  have hml := marksOf_length l
  have mOf : ∀ l : List Event, validE l = true → marksR l = (marksOf l, 0) := fun l h => by simp [marksR, h]
  refine bnd2 ((eMarks_eq l (by omega)).trans (congrArg some (mOf l hv))) ?_
  generalize he1 : (⟨c, stand, 2, id, _⟩ : Event) = e1
  have k1 : e1.kind = 2 ∧ e1.n = id ∧ e1.clock = c ∧ eventOk e1 = true := by
    subst he1
    refine ⟨rfl, rfl, rfl, ?_⟩
    simp [eventOk, hst, hid, within]
    refine ⟨by omega, ?_⟩
    first | rfl | decide | simp [noMark]
  have hb1 : ∀ x ∈ l, before x e1 = true := fun x hx => (before_iff _ _).2 (.inl (by rw [k1.2.2.1]; exact hlast x hx))
  obtain ⟨r1, v1⟩ := radd_snoc (by omega) hv k1.2.2.2 hb1
  refine bnd2 ((eAdd_eq l [e1] (by omega) (by simp)).trans (congrArg some r1)) ?_
  refine bnd2 ((eMarks_eq (l ++ [e1]) (by simp; omega)).trans (congrArg some (mOf _ v1))) ?_
  refine (grd_eq (by unfold inI; omega)).trans ?_
  generalize he2 : (⟨c + 1, stand, 1, 0, m⟩ : Event) = e2
  have k2 : e2.kind = 1 ∧ e2.mark = m ∧ e2.clock = c + 1 ∧ eventOk e2 = true := by
    subst he2
    refine ⟨rfl, rfl, rfl, ?_⟩
    simp [eventOk, hst, hm, within]
    omega
  have hb2 : ∀ x ∈ l ++ [e1], before x e2 = true := fun x hx => (before_iff _ _).2 (.inl (by
    rw [k2.2.2.1]
    rcases List.mem_append.1 hx with h | h
    · have := hlast x h; omega
    · simp at h; subst h; rw [k1.2.2.1]; omega))
  obtain ⟨r2, v2⟩ := radd_snoc (by simp; omega) v1 k2.2.2.2 hb2
  refine bnd2 ((eAdd_eq (l ++ [e1]) [e2] (by simp; omega) (by simp)).trans (congrArg some r2)) ?_
  refine bnd2 ((eMarks_eq (l ++ [e1] ++ [e2]) (by simp; omega)).trans (congrArg some (mOf _ v2))) ?_
  refine (bnd_eq (x := false) rfl).trans ((ifbF rfl).trans ?_)
  have ho := marksOf_order hw.1
  refine (bnd_eq (era_loop id m (marksOf l) (by omega) ho)).trans ?_
  have hx46 : marksOf (l ++ [e1]) = eraW id (marksOf l) := by rw [marksOf_snoc, eraW_eq (by omega) ho k1.1 k1.2.1]
  have hx55 : marksOf (l ++ [e1] ++ [e2]) = (if eraP id (marksOf l) = true then eraA id m (marksOf l) else eraA id m (marksOf l) ++ [m]) := by rw [marksOf_snoc, hx46, eraA_eq (by omega) ho hmi k2.1 k2.2.1]
  have hAl := eraA_len id m (marksOf l)
  have h16 : ∀ b, marksOf (l ++ [e1] ++ [e2]) = b → lawErase_j16 true (marksOf (l ++ [e1])) (marksOf (l ++ [e1] ++ [e2])) (eraW id (marksOf l)) b = some true := fun b hb => by
    unfold lawErase_j16
    refine (bnd_eq (x := true) ?_).trans rfl
    unfold lawErase_r17
    have g1 := marksOf_length (l ++ [e1])
    have g2 := marksOf_length (l ++ [e1] ++ [e2])
    simp only [List.length_append, List.length_singleton] at g1 g2
    refine (ifbT rfl).trans ((grd_eq (by omega)).trans ((ifbT (decide_eq_true hx46)).trans ((grd_eq (by omega)).trans ?_)))
    rw [decide_eq_true hb]
  show lawErase_j4 _ _ _ _ _ _ _ = _
  unfold lawErase_j4
  cases hP : eraP id (marksOf l) with
  | true => exact (ifbF rfl).trans (h16 _ (by rw [hx55, if_pos hP]))
  | false => exact (ifbT rfl).trans ((grd_eq (by simp; omega)).trans (h16 _ (by rw [hx55, if_neg (by rw [hP]; simp)])))

theorem erase_eq (l : List Event) (id : Int) (m : Mark) (stand : Int) : lawErase l id m stand = some true := by
  unfold lawErase
  refine (bnd_eq head_eq).trans ?_
  have hr1 : lawErase_r1 l id m stand = some (!(decide (l.length ≤ 58) && validE l && isID id && isID stand && markOk m && decide (m.id = id))) := by
    unfold lawErase_r1
    by_cases h1 : l.length ≤ 58
    · refine (ifbF (decide_eq_false (by omega))).trans ((grd_eq (by omega)).trans ?_)
      rw [decide_eq_true h1]
      cases validE l <;> cases isID id <;> cases isID stand <;> cases markOk m <;> rfl
    · refine (ifbT (decide_eq_true (by omega))).trans ?_
      rw [decide_eq_false h1]; rfl
  refine (bnd_eq hr1).trans ?_
  cases hc : (decide (l.length ≤ 58) && validE l && isID id && isID stand && markOk m && decide (m.id = id)) with
  | false => rfl
  | true =>
    simp only [Bool.and_eq_true, decide_eq_true_eq] at hc
    obtain ⟨⟨⟨⟨⟨h1, h2⟩, h3⟩, h4⟩, h5⟩, h6⟩ := hc
    refine (ifbF rfl).trans ?_
    by_cases hn : 0 < l.length
    · refine (ifbT (decide_eq_true (by omega))).trans ?_
      refine (grd_eq (by unfold inI; omega)).trans ?_
      have hq : l[l.length - 1]? = some l[l.length - 1] := List.getElem?_eq_getElem (by omega)
      rw [show (l.length : Int) - 1 = (l.length - 1 : Nat) by omega]
      refine (bnd_eq (at_nat hq)).trans ?_
      have hw := (validE_iff l).1 h2
      have hck : ∀ x ∈ l, 0 ≤ x.clock ∧ x.clock ≤ 1000000000 := fun x hx => by
        have := List.all_eq_true.1 hw.1 x hx
        simp only [eventOk, Bool.and_eq_true, within, decide_eq_true_eq] at this
        exact this.1.1
      have hqm := hck _ (List.getElem_mem (show l.length - 1 < l.length by omega))
      refine (grd_eq (by unfold inI; omega)).trans ?_
      refine erase_j2 l id m stand _ h1 h2 h3 h4 h5 h6 (by omega) (by omega) fun x hx => ?_
      obtain ⟨i, hi, rfl⟩ := List.mem_iff_getElem.1 hx
      by_cases hil : i = l.length - 1
      · subst hil; omega
      · have := List.pairwise_iff_getElem.1 hw.2.2 i (l.length - 1) hi (by omega) (by omega)
        have := (before_iff _ _).1 this
        omega
    · refine (ifbF (decide_eq_false (by omega))).trans ?_
      exact erase_j2 l id m stand 1 h1 h2 h3 h4 h5 h6 (by omega) (by omega) fun x hx => by
        have : l = [] := List.length_eq_zero_iff.1 (by omega)
        subst this; cases hx
end Go.Proofs.Ytpbhcpeilgmkeaa

/-
  Plain laws, part 10: EventsLast.
-/
namespace Go.Proofs.Ytpbhcpeilgmkeaa
open Go Go.Eva

theorem mhas_iff {α : Type} (n : Int) : ∀ (m : List (Int × α)), mhas m n = true ↔ n ∈ mkeys m
  | [] => by simp [mhas, midx, mkeys]
  | p :: m => by
    have ih := mhas_iff n m
    simp only [mhas, midx_cons, mkeys, List.map_cons, List.mem_cons] at ih ⊢
    by_cases h : n = p.1
    · simp [h]
    · simp only [h, if_false, false_or, Option.isSome_map]; exact ih
theorem mput_new {α : Type} {m : List (Int × α)} {n : Int} (v : α) (h : n ∉ mkeys m) : mput m n v = m ++ [(n, v)] := by
  have : midx n m = none := by
    have := mt (mhas_iff n m).1 h
    unfold mhas at this
    cases hx : midx n m with
    | none => rfl
    | some j => rw [hx] at this; simp at this
  simp [mput, this]

def lastStep (m : List (Int × Event)) (x : Event) : List (Int × Event) := if 0 < about x then mput m (about x) x else m
/-- How the last events stand to the marks. -/
structure Lasts (La : List (Int × Event)) (out : List Mark) : Prop where
  nodup : (mkeys La).Nodup
  order : inOrder out
  from_ : ∀ v ∈ out, ∃ e, (v.id, e) ∈ La
  one : ∀ k e, (k, e) ∈ La → e.kind = 1 → e.mark ∈ out ∧ e.mark.id = k
  not1 : ∀ k e, (k, e) ∈ La → e.kind ≠ 1 → ∀ v ∈ out, v.id ≠ k
theorem Lasts.step {La : List (Int × Event)} {out : List Mark} (h : Lasts La out) {x : Event} (hx : eventOk x = true) : Lasts (lastStep La x) (markStep out x) := by
  obtain ⟨h1, h2⟩ := eventOk_about hx
  unfold lastStep
  by_cases ha : 0 < about x
  · rw [if_pos ha]
    obtain ⟨s1, s2⟩ := markStep_ok h.order x (by omega)
    have hk1 : x.kind = 1 → x.mark.id = about x := fun hk => by simp [about, hk]
    have hm := mem_mput (about x) x La h.nodup
    refine ⟨(keys_mput _ _ La h.nodup).1, s1, fun v hv => ?_, fun k e he hk => ?_, fun k e he hk v hv => ?_⟩
    · rcases (s2 v).1 hv with ⟨g1, rfl⟩ | ⟨g1, g2⟩
      · exact ⟨x, (hm _ _).2 (.inl ⟨hk1 g1, rfl⟩)⟩
      · obtain ⟨e, he⟩ := h.from_ v g1
        exact ⟨e, (hm _ _).2 (.inr ⟨g2, he⟩)⟩
    · rcases (hm _ _).1 he with ⟨rfl, rfl⟩ | ⟨g1, g2⟩
      · exact ⟨(s2 _).2 (.inl ⟨hk, rfl⟩), hk1 hk⟩
      · obtain ⟨q1, q2⟩ := h.one k e g2 hk
        exact ⟨(s2 _).2 (.inr ⟨q1, by rw [q2]; exact g1⟩), q2⟩
    · rcases (hm _ _).1 he with ⟨rfl, rfl⟩ | ⟨g1, g2⟩
      · rcases (s2 v).1 hv with ⟨q1, _⟩ | ⟨_, q2⟩
        · exact absurd q1 hk
        · exact q2
      · rcases (s2 v).1 hv with ⟨q1, rfl⟩ | ⟨q1, q2⟩
        · rw [hk1 q1]; exact fun e => g1 e.symm
        · exact h.not1 k e g2 hk v q1
  · rw [if_neg ha]
    have h0 : about x = 0 := by
      unfold about at ha ⊢
      split at ha
      · rename_i hk; have := h1 hk; omega
      · split at ha
        · rename_i hk; have := h2 hk; omega
        · rename_i g1 g2; rw [if_neg g1, if_neg g2]
    have : markStep out x = out := by simp [markStep, h0]
    rw [this]; exact h
theorem Lasts.fold {l : List Event} (hl : l.all eventOk = true) : ∀ {La : List (Int × Event)} {out : List Mark}, Lasts La out → Lasts (l.foldl lastStep La) (l.foldl markStep out) := by
  induction l with
  | nil => exact fun h => h
  | cons e l ih =>
    simp only [List.all_cons, Bool.and_eq_true] at hl
    exact fun h => ih hl.2 (h.step hl.1)

theorem last_iter {out : List Mark} : ∀ (rem : List (Int × Event)) (T : List (Int × Mark)), (mkeys T).Nodup → (∀ k v, (k, v) ∈ T ↔ v ∈ out ∧ v.id = k ∧ k ∈ mkeys rem) → (mkeys rem).Nodup → inOrder out →
    (∀ k e, (k, e) ∈ rem → (e.kind = 1 → e.mark ∈ out ∧ e.mark.id = k) ∧ (e.kind ≠ 1 → ∀ v ∈ out, v.id ≠ k)) → iterM lawLast_m21 rem T = some (.inl [])
  | [], T, _, h2, _, _, _ => by
    have : T = [] := List.eq_nil_iff_forall_not_mem.2 fun p hp => by
      have := (h2 p.1 p.2).1 hp
      simp [mkeys] at this
    rw [this]; rfl
  | (k, e) :: rem, T, h1, h2, h3, ho, h4 => by
    obtain ⟨g1, g2⟩ := h4 k e (by simp)
    have hk3 := List.nodup_cons.1 h3
    have hhas : mhas T k = decide (e.kind = 1) := by
      by_cases hk : e.kind = 1
      · rw [decide_eq_true hk, mhas_iff]
        obtain ⟨q1, q2⟩ := g1 hk
        exact List.mem_map.2 ⟨(k, e.mark), (h2 _ _).2 ⟨q1, q2, by simp [mkeys]⟩, rfl⟩
      · rw [decide_eq_false hk, Bool.eq_false_iff]
        intro hh
        obtain ⟨p, hp, hpk⟩ := List.mem_map.1 ((mhas_iff k T).1 hh)
        obtain ⟨q1, q2, _⟩ := (h2 p.1 p.2).1 hp
        exact g2 hk p.2 q1 (q2.trans hpk)
    have hr : lawLast_r22 T k e = some false := by
      unfold lawLast_r22
      rw [hhas]
      refine (ifbF (by simp)).trans ?_
      by_cases hk : e.kind = 1
      · refine (ifbT (decide_eq_true hk)).trans ?_
        obtain ⟨q1, q2⟩ := g1 hk
        rw [mgetD_mem _ T h1 k e.mark ((h2 _ _).2 ⟨q1, q2, by simp [mkeys]⟩)]
        simp
      · exact (ifbF (decide_eq_false hk)).trans rfl
    have hstep : lawLast_m21 T (k, e) = some (.inl (mdel T k)) := by
      unfold lawLast_m21
      exact (bnd_eq hr).trans ((ifbF rfl).trans rfl)
    simp only [iterM, hstep]
    refine last_iter rem (mdel T k) (List.Nodup.sublist ((mdel_sub k T).map _) h1) (fun k' v => ?_) hk3.2 ho fun k' e' he' => h4 k' e' (by simp [he'])
    rw [mem_mdel k T h1, h2]
    simp only [mkeys, List.map_cons, List.mem_cons]
    constructor
    · rintro ⟨a, b, c, d⟩
      exact ⟨b, c, d.resolve_left a⟩
    · rintro ⟨a, b, c⟩
      exact ⟨fun hh => hk3.1 (by rw [← hh]; exact c), a, b, .inr c⟩

theorem last_eq (l : List Event) : lawLast l = some true := by
  unfold lawLast
  refine (bnd_eq head_eq).trans ?_
  have hr1 : lawLast_r1 l = some (!(decide (l.length ≤ 60) && validE l)) := by
    unfold lawLast_r1
    by_cases h : l.length ≤ 60
    · refine (ifbF (by simp [h])).trans ((grd_eq (by omega)).trans ?_)
      rw [decide_eq_true h]; rfl
    · refine (ifbT (by simp [h])).trans ?_
      rw [decide_eq_false h]; rfl
  refine (bnd_eq hr1).trans ?_
  cases hc : (decide (l.length ≤ 60) && validE l) with
  | false => rfl
  | true =>
    simp only [Bool.and_eq_true, decide_eq_true_eq] at hc
    obtain ⟨h1, hv⟩ := hc
    refine (ifbF rfl).trans ?_
    refine bnd2 ((eMarks_eq l (by omega)).trans (congrArg some (show marksR l = (marksOf l, 0) by simp [marksR, hv]))) ?_
    refine (ifbF rfl).trans ?_
    have hw := (validE_iff l).1 hv
    have hLa : Lasts (l.foldl lastStep []) (marksOf l) := Lasts.fold hw.1 ⟨by simp [mkeys], by simp [inOrder], by simp, by simp, by simp⟩
    -- the last events
    obtain ⟨La, hI, hloop⟩ := forR (fun (a : List (Int × Event)) i => (a, i)) (lawLast_s6 l) l (fun i a => a = (l.take i).foldl lastStep []) (fun a => a) (fun i a x hx hI => by
      have hi := lt_of_get hx
      have hj : ∀ o, lawLast_j7 (i : Int) o = some (.inl (o, (i : Int) + 1)) := fun o => by
        unfold lawLast_j7
        exact grd_eq (by unfold inI; omega)
      refine ⟨lastStep a x, ?_, ?_⟩
      · unfold lawLast_s6 lastStep
        refine (ifbT (decide_eq_true (by omega))).trans ?_
        refine (bnd_eq (at_nat hx)).trans ?_
        by_cases ha : 0 < about x
        · rw [if_pos ha]; exact (ifbT (decide_eq_true ha)).trans (hj _)
        · rw [if_neg ha]; exact (ifbF (decide_eq_false ha)).trans (hj _)
      · rw [take_get hx, List.foldl_append, hI]; rfl) (fun a _ => by
      unfold lawLast_s6
      exact (ifbF (decide_eq_false (by omega))).trans rfl) [] (by simp)
    rw [List.take_of_length_le (Nat.le_refl _)] at hI
    rw [← hI] at hLa
    refine (bnd_eq hloop).trans ?_
    clear hloop hI
    have hml := marksOf_length l
    generalize marksOf l = out at hLa hml
    unfold lawLast_j2
    -- the marks that are there
    obtain ⟨T, hI, hloop⟩ := forR (fun (a : List (Int × Mark)) i => (a, i)) (lawLast_s14 out) out (fun i a => a = (out.take i).map fun m => (m.id, m)) (fun a => (.inr a : Bool ⊕ List (Int × Mark))) (fun i a x hx hI => by
      have hi := lt_of_get hx
      subst hI
      have hlow : ∀ o ∈ out.take i, o.id < x.id := by
        have := hLa.order
        rw [← List.take_append_drop i out] at this
        unfold inOrder at this
        rw [List.pairwise_append] at this
        exact fun o hm => this.2.2 o hm x (by rw [drop_get hx]; simp)
      refine ⟨_, ?_, rfl⟩
      unfold lawLast_s14
      refine (ifbT (decide_eq_true (by omega))).trans ?_
      refine (bnd_eq (at_nat hx)).trans ?_
      have hr : lawLast_r16 out (i : Int) x = some false := by
        unfold lawLast_r16
        by_cases h0 : 0 < i
        · refine (ifbT (decide_eq_true (by omega))).trans ?_
          refine (grd_eq (by unfold inI; omega)).trans ?_
          have hq : out[i - 1]? = some out[i - 1] := List.getElem?_eq_getElem (by omega)
          rw [show (i : Int) - 1 = (i - 1 : Nat) by omega]
          refine (bnd_eq (at_nat hq)).trans ?_
          have := hlow out[i - 1] (List.mem_iff_getElem.2 ⟨i - 1, by rw [List.length_take]; omega, by simp⟩)
          rw [decide_eq_false (by omega)]
        · exact (ifbF (decide_eq_false (by omega))).trans rfl
      refine (bnd_eq hr).trans ((ifbF rfl).trans ?_)
      unfold lawLast_j15
      refine (grd_eq (by unfold inI; omega)).trans ?_
      rw [mput_new, take_get hx]
      · simp
      · intro hm
        simp only [mkeys, List.map_map, List.mem_map, Function.comp] at hm
        obtain ⟨o, ho, he⟩ := hm
        have := hlow o ho; omega) (fun a _ => by
      unfold lawLast_s14
      exact (ifbF (decide_eq_false (by omega))).trans rfl) [] (by simp)
    rw [List.take_of_length_le (Nat.le_refl _)] at hI
    refine (bnd_eq hloop).trans ?_
    clear hloop
    show lawLast_j8 true La T = _
    unfold lawLast_j8
    have hTk : mkeys T = out.map (·.id) := by rw [hI]; simp [mkeys, Function.comp_def]
    have hTn : (mkeys T).Nodup := by
      rw [hTk]; unfold List.Nodup; rw [List.pairwise_map]
      exact hLa.order.imp fun {a b} h => by omega
    have hTm : ∀ k v, (k, v) ∈ T ↔ v ∈ out ∧ v.id = k := fun k v => by
      rw [hI]
      simp only [List.mem_map, Prod.mk.injEq]
      constructor
      · rintro ⟨m, hm, rfl, rfl⟩; exact ⟨hm, rfl⟩
      · rintro ⟨hm, rfl⟩; exact ⟨v, hm, rfl, rfl⟩
    refine (bnd_eq (loopM_of (r := .inl []) fun l' hp => ?_)).trans ?_
    · refine last_iter l' T hTn (fun k v => ?_) ((hp.map _).nodup_iff.2 hLa.nodup) hLa.order fun k e he => ?_
      · rw [hTm]
        constructor
        · rintro ⟨a, b⟩
          obtain ⟨e, he⟩ := hLa.from_ v a
          exact ⟨a, b, List.mem_map.2 ⟨(k, e), hp.mem_iff.2 (by rw [← b]; exact he), rfl⟩⟩
        · rintro ⟨a, b, _⟩; exact ⟨a, b⟩
      · have he' := hp.mem_iff.1 he
        exact ⟨hLa.one k e he', hLa.not1 k e he'⟩
    · show lawLast_j17 true [] = _
      unfold lawLast_j17
      exact (bnd_eq (x := true) rfl).trans rfl
end Go.Proofs.Ytpbhcpeilgmkeaa
