/-
  The evaluator, the printed walks and the plain laws, part 8 of 12.
-/
import Derived.Test.YtpbhcpeilgmkeaaX7
set_option linter.all false
set_option linter.unnecessarySimpa false
set_option linter.deprecated false
set_option linter.unusedVariables false
set_option linter.unusedSimpArgs false
set_option linter.unusedSectionVars false

/-
  Walks of the events: printed by gen2.py (extraction).
-/
namespace Go.Proofs.Ytpbhcpeilgmkeaa
open Go Go.Eva Enc
set_option linter.unusedSectionVars false
set_option linter.unusedSimpArgs false
set_option linter.unusedVariables false
set_option maxRecDepth 4000
attribute [local congr] AWp.congrS
attribute [local simp] evalSeq opRes guardPc evalOp evT Eva.get startT strip putT Eva.after constT typed obAll holds dstOk R.ok R.bad ofD binD unD pickT subL subP Op.operands Call.operands toD argsD callD callT typedAll cfind quietT spec0 spec1 spec2 spec3 enc_int enc_bool enc_str enc_fn enc_list dec_int dec_bool dec_str dec_fn dec_list size_int size_str enc_R enc_M enc_E dec_R dec_M dec_E size_R size_M size_E eta_R eta_M eta_E enc_rune size_rune dec_rune eta_rune runesD_eq map_dec_enc map_dec_comp cellsT D.cells T.oneT D.one mkT unD1 setAt loadAs loadEl storeAs fieldP fieldV sizeE intOfT indexP appendT lenT sliceT elemSize arith lfsOk lfOk beqL_R beqL_M beqL_E beqL_R0 beqL_M0 isAggD mkD fillD placeS TD.agg env restr List.map keyIdx mapTy lookT mapPutT mapDelT mapOf indexS convT evalPure range1 range2 range3 range4 eqT4 eqT38 eqT40 eqT42 te1 te2 te3 te4 te5 te6 te7 te8 te9 te10 te11 te12 te13 te14 te15 te16 te17 te18 te19 te21 te22 te23 te24 te25 te27 te28 te29 te31 te32 te34 te35 te36 te37 te38 te39 te40 te41 te42 te43 te44 te45 te46 te47 te49 te50 te51 te52 te53 te54 te55 te56 te57 te59 te60 te61 te62 te63 te64 te65 te66 te67 te68 te69 te70 te71 te72 te73 te74 te75 te76 te77 te78 te79 te80 te82 te83 te84 te85 te86 te87 te88 te90 te91 te92 te94 te95 te96 te97 te98 te99 te100 te101 te102 te103 te104 te105 te106 te107 te108 te109 te110 te111 te112 te113 te114 te116 te117 te118 te119 te120 te121 te122 te123 te124 te125 te126 te127 te128 te129 te130 te131 te132 te133 te134 enc_intk size_intk dec_intk eta_intk range5 range6 range7 range8 keysInt_nil keyIdx_E keysInt_E okKeys_E isE_iff put_E del_E get_E getok_E mkeys_E mkeys_E' mkeys_enc specO0 specO1 specO2 specO3 specO4 opD skips gone List.contains_cons List.contains_nil envF fenv

noncomputable def tp21 : Eva.Spec := specO1 fun (l : (List Event)) => (formedP l).map fun r => enc r
theorem tk21 : SpecOk Try.prog 21 tp21 := by
  have hV : VOk Try.prog (envF [(10, sp10), (41, sp41)]) := envF_ok ⟨ok10, ok41, trivial⟩
  refine SpecOk.ofO1 (Enters.of Try.func21 (by decide)) ?_
  intro l rr hr
  obtain ⟨r, hg, rfl⟩ := Option.map_eq_some_iff.1 hr
  clear hr
  refine PureCon.ofQ hV Try.func21 rfl (by rw [Try.ntmps21]; simp) fun w0 I0 Q hQ => ?_
  rw [Try.ntmps21]
  unfold formedP at hg
  refine AWp.rS hV none [0] fun K k1 => ?_
  simp
  repeat refine And.intro (by first | omega | (simp [*]; done) | grind) ?_
  refine kcong (s' := ⟨[(0, .d (enc (l : (List Event))))], []⟩) (by first | rfl | (simp []; done) | (simp []; grind)) (k1 _ ?_)
  refine AWp.seqG fun _ k2 => ?_
  refine AWp.rS hV none [0, 7] fun K k3 => ?_
  simp [sp10]
  repeat refine And.intro (by first | omega | (simp [*]; done) | grind) ?_
  refine kcong (s' := ⟨[(0, .d (enc (l : (List Event)))), (7, .d (enc ((!(decide ((l : List Event).length ≤ 60))) : Bool)))], []⟩) (by first | rfl | (simp [sp10]; done) | (simp [sp10]; grind)) (k3 _ ?_)
  refine AWp.cond (b := (!(decide ((l : List Event).length ≤ 60)))) rfl (fun h4 => ?_) fun h4 => ?_
  · replace hg := ifb_t h4 hg
    refine AWp.rS hV none [2] fun K k5 => ?_
    simp
    repeat refine And.intro (by first | omega | (simp [*]; done) | grind) ?_
    refine kcong (s' := ⟨[(2, .d (enc (false : Bool)))], []⟩) (by first | rfl | (simp []; done) | (simp []; grind)) (k5 _ ?_)
    refine AWp.ret ?_
    refine hQ _ _ (.inl rfl) ?_
    have hg := Option.some.inj hg
    subst hg
    first | (simp [retOk, resT, loadAs]; done) | (simp [retOk, resT, loadAs]; grind)
  · replace hg := ifb_f h4 hg
    refine AWp.skip ?_
    refine k2 _ ?_
    refine AWp.seqJ (fun s' => formedP_j1 = some r ∧ Sub s' ⟨[], []⟩) (fun _ k7 => ?_) ?_
    · refine AWp.rS hV none [8, 9, 10] fun K k8 => ?_
      simp
      repeat refine And.intro (by first | omega | (simp [*]; done) | grind) ?_
      refine kcong (s' := ⟨[(8, .d (enc (l : (List Event)))), (9, .d (enc ((l.length : Int) : Int))), (10, .d (enc (0 : Int)))], []⟩) (by first | rfl | (simp []; done) | (simp []; grind)) (k8 _ ?_)
      refine AWp.block ?_
      obtain ⟨o36, hl37, hg⟩ := bnd_some hg
      refine AWp.loopO (fun (z2u10 : Int) => ⟨[(8, .d (enc (l : (List Event)))), (9, .d (enc ((l.length : Int) : Int))), (10, .d (enc (z2u10 : Int)))], []⟩) (formedP_s5 l) 0 hl37 ?_ fun z2u10 w41 _ ho39 hx40 k9 => ?_
      · show Sub _ ⟨[(8, .d (enc (l : (List Event)))), (9, .d (enc ((l.length : Int) : Int))), (10, .d (enc (0 : Int)))], []⟩
        exact Sub.ren [] (by decide) (by first | rfl | simp [renL, AO.ren, forgetsR, T.ren, idx, Eva.get]) (by first | exact ⟨rfl, rfl, rfl, trivial⟩ | (simp [renL, AO.ren, forgetsR, T.ren, idx, Eva.get]; done) | (simp [renL, AO.ren, forgetsR, T.ren, idx, Eva.get]; grind))
      unfold formedP_s5 at ho39
      try dsimp only at ho39
      have hq42 := hg
      clear hg
      have hg := ho39
      clear ho39
      show AWp _ _ _ _ _ ⟨[(8, .d (enc (l : (List Event)))), (9, .d (enc ((l.length : Int) : Int))), (10, .d (enc (z2u10 : Int)))], []⟩ _
      refine AWp.rS hV none [8, 9, 10, 11] fun K k43 => ?_
      simp
      repeat refine And.intro (by first | omega | (simp [*]; done) | grind) ?_
      refine kcong (s' := ⟨[(8, .d (enc (l : (List Event)))), (9, .d (enc ((l.length : Int) : Int))), (10, .d (enc (z2u10 : Int))), (11, .d (enc ((decide (z2u10 < (l.length : Int))) : Bool)))], []⟩) (by first | rfl | (simp []; done) | (simp []; grind)) (k43 _ ?_)
      refine AWp.seqG fun _ k44 => ?_
      refine AWp.cond (b := (decide (z2u10 < (l.length : Int)))) rfl (fun h45 => ?_) fun h45 => ?_
      · replace hg := ifb_t h45 hg
        refine AWp.skip ?_
        refine k44 _ ?_
        refine AWp.seqJ (fun s' => formedP_j6 z2u10 = some w41 ∧ Sub s' ⟨[(8, .d (enc (l : (List Event)))), (9, .d (enc ((l.length : Int) : Int))), (10, .d (enc (z2u10 : Int)))], []⟩) (fun _ k47 => ?_) ?_
        · refine AWp.block ?_
          obtain ⟨x48, h49, hg⟩ := bnd_some hg
          obtain ⟨h49a, h49b, h49c⟩ := at_some h49
          have h49f := elAt_enc h49c
          have h49g := h49f
          try simp at h49g
          refine AWp.rS hV none [4, 8, 9, 10] fun K k50 => ?_
          simp [h49f, h49g]
          repeat refine And.intro (by first | omega | (simp [*]; done) | grind) ?_
          refine kcong (s' := ⟨[(4, .ptr 0 0), (8, .d (enc (l : (List Event)))), (9, .d (enc ((l.length : Int) : Int))), (10, .d (enc (z2u10 : Int)))], [.var 42 (cellsT (.d (enc (x48 : Event))))]⟩) (by first | rfl | (simp [h49f, h49g]; done) | (simp [h49f, h49g]; grind)) (k50 _ ?_)
          refine AWp.rS hV none [8, 9, 10, 16] fun K k51 => ?_
          simp [sp41]
          repeat refine And.intro (by first | omega | (simp [*]; done) | grind) ?_
          refine kcong (s' := ⟨[(8, .d (enc (l : (List Event)))), (9, .d (enc ((l.length : Int) : Int))), (10, .d (enc (z2u10 : Int))), (16, .d (enc ((!(eventOk x48)) : Bool)))], [.var 42 (cellsT (.d (enc (x48 : Event))))]⟩) (by first | rfl | (simp [sp41]; done) | (simp [sp41]; grind)) (k51 _ ?_)
          refine AWp.cond (b := (!(eventOk x48))) rfl (fun h52 => ?_) fun h52 => ?_
          · replace hg := ifb_t h52 hg
            refine AWp.rS hV none [2] fun K k53 => ?_
            simp
            repeat refine And.intro (by first | omega | (simp [*]; done) | grind) ?_
            refine kcong (s' := ⟨[(2, .d (enc (false : Bool)))], [.var 42 (cellsT (.d (enc (x48 : Event))))]⟩) (by first | rfl | (simp []; done) | (simp []; grind)) (k53 _ ?_)
            refine AWp.ret ?_
            have e54 := hx40 _ (Option.some.inj hg).symm
            subst e54
            have hg := hq42
            try dsimp only at hg
            refine hQ _ _ (.inl rfl) ?_
            have hg := Option.some.inj hg
            subst hg
            first | (simp [retOk, resT, loadAs]; done) | (simp [retOk, resT, loadAs]; grind)
          · replace hg := ifb_f h52 hg
            refine AWp.skip ?_
            refine k47 _ (And.intro hg ?_)
            show Sub _ ⟨[(8, .d (enc (l : (List Event)))), (9, .d (enc ((l.length : Int) : Int))), (10, .d (enc (z2u10 : Int)))], []⟩
            exact Sub.ren [] (by decide) (by first | rfl | simp [renL, AO.ren, forgetsR, T.ren, idx, Eva.get]) (by first | exact ⟨rfl, rfl, rfl, trivial⟩ | (simp [renL, AO.ren, forgetsR, T.ren, idx, Eva.get]; done) | (simp [renL, AO.ren, forgetsR, T.ren, idx, Eva.get]; grind))
        · rintro s' ⟨hg, hs⟩
          unfold formedP_j6 at hg
          refine AWp.sub hs ?_
          obtain ⟨g55, hg⟩ := grd_some hg
          unfold inI at g55
          refine AWp.regF hV none [8, 9, 10] fun K k56 => ?_
          simp
          repeat refine And.intro (by first | omega | (simp [*]; done) | grind) ?_
          refine kcong (s' := ⟨[(8, .d (enc (l : (List Event)))), (9, .d (enc ((l.length : Int) : Int))), (10, .d (enc ((z2u10 + 1) : Int)))], []⟩) (by first | rfl | (simp []; done) | (simp []; grind)) (k56 _ ?_)
          refine k9 _ _ (Option.some.inj hg).symm ?_
          show Sub _ ⟨[(8, .d (enc (l : (List Event)))), (9, .d (enc ((l.length : Int) : Int))), (10, .d (enc ((z2u10 + 1) : Int)))], []⟩
          exact Sub.ren [] (by decide) (by first | rfl | simp [renL, AO.ren, forgetsR, T.ren, idx, Eva.get]) (by first | exact ⟨rfl, rfl, rfl, trivial⟩ | (simp [renL, AO.ren, forgetsR, T.ren, idx, Eva.get]; done) | (simp [renL, AO.ren, forgetsR, T.ren, idx, Eva.get]; grind))
      · replace hg := ifb_f h45 hg
        refine AWp.exit ?_
        have e57 := hx40 _ (Option.some.inj hg).symm
        subst e57
        have hg := hq42
        try dsimp only at hg
        refine k7 _ (And.intro hg ?_)
        show Sub _ ⟨[], []⟩
        exact Sub.ren [] (by decide) (by first | rfl | simp [renL, AO.ren, forgetsR, T.ren, idx, Eva.get]) (by first | exact ⟨trivial⟩ | (simp [renL, AO.ren, forgetsR, T.ren, idx, Eva.get]; done) | (simp [renL, AO.ren, forgetsR, T.ren, idx, Eva.get]; grind))
    · rintro s' ⟨hg, hs⟩
      unfold formedP_j1 at hg
      refine AWp.sub hs ?_
      refine AWp.rS hV none [2] fun K k60 => ?_
      simp
      repeat refine And.intro (by first | omega | (simp [*]; done) | grind) ?_
      refine kcong (s' := ⟨[(2, .d (enc (true : Bool)))], []⟩) (by first | rfl | (simp []; done) | (simp []; grind)) (k60 _ ?_)
      refine AWp.ret ?_
      refine hQ _ _ (.inl rfl) ?_
      have hg := Option.some.inj hg
      subst hg
      first | (simp [retOk, resT, loadAs]; done) | (simp [retOk, resT, loadAs]; grind)
noncomputable def sp9 : Eva.Spec := specO0 (headP.map fun r => enc r)
set_option maxHeartbeats 4000000 in
theorem ok9 : SpecOk Try.prog 9 sp9 := by
  have hV : VOk Try.prog (envF [(25, sp25), (11, sp11), (16, sp16), (19, sp19), (15, sp15), (18, sp18), (13, sp13)]) := envF_ok ⟨ok25, ok11, ok16, ok19, ok15, ok18, ok13, trivial⟩
  refine SpecOk.ofO0 (Enters.of Try.func9 (by decide)) ?_
  intro rr hr
  obtain ⟨r, hg, rfl⟩ := Option.map_eq_some_iff.1 hr
  clear hr
  refine PureCon.ofQ hV Try.func9 rfl (by rw [Try.ntmps9]; simp) fun w0 I0 Q hQ => ?_
  rw [Try.ntmps9]
  unfold headP at hg
  refine AWp.rS hV none [] fun K k1 => ?_
  simp
  repeat refine And.intro (by first | omega | (simp [*]; done) | grind) ?_
  refine kcong (s' := ⟨[], []⟩) (by first | rfl | (simp []; done) | (simp []; grind)) (k1 _ ?_)
  refine AWp.rS hV none [1, 2, 3, 4] fun K k2 => ?_
  simp [sp25]
  repeat refine And.intro (by first | omega | (simp [*]; done) | grind) ?_
  refine kcong (s' := ⟨[(1, .ptr 0 0), (2, .ptr 1 0), (3, .ptr 2 0), (4, .ptr 3 0)], [.var 42 (cellsT (.d (enc ((made 5 3 1) : Event)))), .var 42 (cellsT (.d (enc ((made 6 3 2) : Event)))), .var 42 (cellsT (.d (enc ((⟨6, 4, 2, 8, (⟨0, 0, 0, (⟨0, 0, 0⟩ : Reader), 0, 0, 0, ⟨#[]⟩⟩ : Mark)⟩ : Event) : Event)))), .var 42 (cellsT (.d (enc ((⟨1, 4, 3, 2, (⟨0, 0, 0, (⟨0, 0, 0⟩ : Reader), 0, 0, 0, ⟨#[]⟩⟩ : Mark)⟩ : Event) : Event))))]⟩) (by first | rfl | (simp [sp25]; done) | (simp [sp25]; grind)) (k2 _ ?_)
  obtain ⟨⟨x3, x4⟩, h5, hg⟩ := bnd_some hg
  try dsimp only at hg
  have h5g := h5
  try simp at h5g
  refine AWp.rS hV none [1, 2, 3, 4, 5, 6] fun K k6 => ?_
  simp [sp11, h5, h5g]
  repeat refine And.intro (by first | omega | (simp [*]; done) | grind) ?_
  refine kcong (s' := ⟨[(1, .ptr 0 0), (2, .ptr 1 0), (3, .ptr 2 0), (4, .ptr 3 0), (5, .d (enc (x3 : (List Event)))), (6, .d (enc (x4 : Int)))], [.var 42 (cellsT (.d (enc ((made 5 3 1) : Event)))), .var 42 (cellsT (.d (enc ((made 6 3 2) : Event)))), .var 42 (cellsT (.d (enc ((⟨6, 4, 2, 8, (⟨0, 0, 0, (⟨0, 0, 0⟩ : Reader), 0, 0, 0, ⟨#[]⟩⟩ : Mark)⟩ : Event) : Event)))), .var 42 (cellsT (.d (enc ((⟨1, 4, 3, 2, (⟨0, 0, 0, (⟨0, 0, 0⟩ : Reader), 0, 0, 0, ⟨#[]⟩⟩ : Mark)⟩ : Event) : Event))))]⟩) (by first | rfl | (simp [sp11, h5, h5g]; done) | (simp [sp11, h5, h5g]; grind)) (k6 _ ?_)
  obtain ⟨⟨x7, x8⟩, h9, hg⟩ := bnd_some hg
  try dsimp only at hg
  have h9g := h9
  try simp at h9g
  refine AWp.rS hV none [1, 2, 3, 4, 5, 6, 7, 8] fun K k10 => ?_
  simp [sp16, h9, h9g]
  repeat refine And.intro (by first | omega | (simp [*]; done) | grind) ?_
  refine kcong (s' := ⟨[(1, .ptr 0 0), (2, .ptr 1 0), (3, .ptr 2 0), (4, .ptr 3 0), (5, .d (enc (x3 : (List Event)))), (6, .d (enc (x4 : Int))), (7, .d (enc (x7 : (List Mark)))), (8, .d (enc (x8 : Int)))], [.var 42 (cellsT (.d (enc ((made 5 3 1) : Event)))), .var 42 (cellsT (.d (enc ((made 6 3 2) : Event)))), .var 42 (cellsT (.d (enc ((⟨6, 4, 2, 8, (⟨0, 0, 0, (⟨0, 0, 0⟩ : Reader), 0, 0, 0, ⟨#[]⟩⟩ : Mark)⟩ : Event) : Event)))), .var 42 (cellsT (.d (enc ((⟨1, 4, 3, 2, (⟨0, 0, 0, (⟨0, 0, 0⟩ : Reader), 0, 0, 0, ⟨#[]⟩⟩ : Mark)⟩ : Event) : Event))))]⟩) (by first | rfl | (simp [sp16, h9, h9g]; done) | (simp [sp16, h9, h9g]; grind)) (k10 _ ?_)
  obtain ⟨g11, hg⟩ := grd_some hg
  obtain ⟨⟨x12, x13⟩, h14, hg⟩ := bnd_some hg
  try dsimp only at hg
  have h14g := h14
  try simp at h14g
  refine AWp.rS hV none [1, 2, 3, 4, 5, 6, 7, 8, 9, 10] fun K k15 => ?_
  simp [sp16, h14, h14g]
  repeat refine And.intro (by first | omega | (simp [*]; done) | grind) ?_
  refine kcong (s' := ⟨[(1, .ptr 0 0), (2, .ptr 1 0), (3, .ptr 2 0), (4, .ptr 3 0), (5, .d (enc (x3 : (List Event)))), (6, .d (enc (x4 : Int))), (7, .d (enc (x7 : (List Mark)))), (8, .d (enc (x8 : Int))), (9, .d (enc (x12 : (List Mark)))), (10, .d (enc (x13 : Int)))], [.var 42 (cellsT (.d (enc ((made 5 3 1) : Event)))), .var 42 (cellsT (.d (enc ((made 6 3 2) : Event)))), .var 42 (cellsT (.d (enc ((⟨6, 4, 2, 8, (⟨0, 0, 0, (⟨0, 0, 0⟩ : Reader), 0, 0, 0, ⟨#[]⟩⟩ : Mark)⟩ : Event) : Event)))), .var 42 (cellsT (.d (enc ((⟨1, 4, 3, 2, (⟨0, 0, 0, (⟨0, 0, 0⟩ : Reader), 0, 0, 0, ⟨#[]⟩⟩ : Mark)⟩ : Event) : Event))))]⟩) (by first | rfl | (simp [sp16, h14, h14g]; done) | (simp [sp16, h14, h14g]; grind)) (k15 _ ?_)
  obtain ⟨g16, hg⟩ := grd_some hg
  refine AWp.rS hV none [1, 2, 3, 4, 5, 6, 7, 8, 9, 10, 11, 12] fun K k17 => ?_
  simp [sp19]
  repeat refine And.intro (by first | omega | (simp [*]; done) | grind) ?_
  refine kcong (s' := ⟨[(1, .ptr 0 0), (2, .ptr 1 0), (3, .ptr 2 0), (4, .ptr 3 0), (5, .d (enc (x3 : (List Event)))), (6, .d (enc (x4 : Int))), (7, .d (enc (x7 : (List Mark)))), (8, .d (enc (x8 : Int))), (9, .d (enc (x12 : (List Mark)))), (10, .d (enc (x13 : Int))), (11, .d (enc ((knownR x3 4).1 : Int))), (12, .d (enc ((knownR x3 4).2 : Int)))], [.var 42 (cellsT (.d (enc ((made 5 3 1) : Event)))), .var 42 (cellsT (.d (enc ((made 6 3 2) : Event)))), .var 42 (cellsT (.d (enc ((⟨6, 4, 2, 8, (⟨0, 0, 0, (⟨0, 0, 0⟩ : Reader), 0, 0, 0, ⟨#[]⟩⟩ : Mark)⟩ : Event) : Event)))), .var 42 (cellsT (.d (enc ((⟨1, 4, 3, 2, (⟨0, 0, 0, (⟨0, 0, 0⟩ : Reader), 0, 0, 0, ⟨#[]⟩⟩ : Mark)⟩ : Event) : Event))))]⟩) (by first | rfl | (simp [sp19]; done) | (simp [sp19]; grind)) (k17 _ ?_)
  obtain ⟨g18, hg⟩ := grd_some hg
  refine AWp.rS hV none [1, 2, 3, 4, 5, 6, 7, 8, 9, 10, 11, 12, 13, 14] fun K k19 => ?_
  simp [sp19]
  repeat refine And.intro (by first | omega | (simp [*]; done) | grind) ?_
  refine kcong (s' := ⟨[(1, .ptr 0 0), (2, .ptr 1 0), (3, .ptr 2 0), (4, .ptr 3 0), (5, .d (enc (x3 : (List Event)))), (6, .d (enc (x4 : Int))), (7, .d (enc (x7 : (List Mark)))), (8, .d (enc (x8 : Int))), (9, .d (enc (x12 : (List Mark)))), (10, .d (enc (x13 : Int))), (11, .d (enc ((knownR x3 4).1 : Int))), (12, .d (enc ((knownR x3 4).2 : Int))), (13, .d (enc ((knownR x3 3).1 : Int))), (14, .d (enc ((knownR x3 3).2 : Int)))], [.var 42 (cellsT (.d (enc ((made 5 3 1) : Event)))), .var 42 (cellsT (.d (enc ((made 6 3 2) : Event)))), .var 42 (cellsT (.d (enc ((⟨6, 4, 2, 8, (⟨0, 0, 0, (⟨0, 0, 0⟩ : Reader), 0, 0, 0, ⟨#[]⟩⟩ : Mark)⟩ : Event) : Event)))), .var 42 (cellsT (.d (enc ((⟨1, 4, 3, 2, (⟨0, 0, 0, (⟨0, 0, 0⟩ : Reader), 0, 0, 0, ⟨#[]⟩⟩ : Mark)⟩ : Event) : Event))))]⟩) (by first | rfl | (simp [sp19]; done) | (simp [sp19]; grind)) (k19 _ ?_)
  obtain ⟨⟨x20, x21⟩, h22, hg⟩ := bnd_some hg
  try dsimp only at hg
  have h22g := h22
  try simp at h22g
  refine AWp.rS hV none [1, 2, 3, 4, 5, 6, 7, 8, 9, 10, 11, 12, 13, 14, 16] fun K k23 => ?_
  simp [sp25, sp11, h22, h22g]
  repeat refine And.intro (by first | omega | (simp [*]; done) | grind) ?_
  refine kcong (s' := ⟨[(1, .ptr 0 0), (2, .ptr 1 0), (3, .ptr 2 0), (4, .ptr 3 0), (5, .d (enc (x3 : (List Event)))), (6, .d (enc (x4 : Int))), (7, .d (enc (x7 : (List Mark)))), (8, .d (enc (x8 : Int))), (9, .d (enc (x12 : (List Mark)))), (10, .d (enc (x13 : Int))), (11, .d (enc ((knownR x3 4).1 : Int))), (12, .d (enc ((knownR x3 4).2 : Int))), (13, .d (enc ((knownR x3 3).1 : Int))), (14, .d (enc ((knownR x3 3).2 : Int))), (16, .d (enc (x21 : Int)))], [.var 42 (cellsT (.d (enc ((made 5 3 1) : Event)))), .var 42 (cellsT (.d (enc ((made 6 3 2) : Event)))), .var 42 (cellsT (.d (enc ((⟨6, 4, 2, 8, (⟨0, 0, 0, (⟨0, 0, 0⟩ : Reader), 0, 0, 0, ⟨#[]⟩⟩ : Mark)⟩ : Event) : Event)))), .var 42 (cellsT (.d (enc ((⟨1, 4, 3, 2, (⟨0, 0, 0, (⟨0, 0, 0⟩ : Reader), 0, 0, 0, ⟨#[]⟩⟩ : Mark)⟩ : Event) : Event))))]⟩) (by first | rfl | (simp [sp25, sp11, h22, h22g]; done) | (simp [sp25, sp11, h22, h22g]; grind)) (k23 _ ?_)
  obtain ⟨⟨x24, x25⟩, h26, hg⟩ := bnd_some hg
  try dsimp only at hg
  have h26g := h26
  try simp at h26g
  refine AWp.rS hV none [1, 2, 3, 4, 5, 6, 7, 8, 9, 10, 11, 12, 13, 14, 16, 18] fun K k27 => ?_
  simp [sp11, h26, h26g]
  repeat refine And.intro (by first | omega | (simp [*]; done) | grind) ?_
  refine kcong (s' := ⟨[(1, .ptr 0 0), (2, .ptr 1 0), (3, .ptr 2 0), (4, .ptr 3 0), (5, .d (enc (x3 : (List Event)))), (6, .d (enc (x4 : Int))), (7, .d (enc (x7 : (List Mark)))), (8, .d (enc (x8 : Int))), (9, .d (enc (x12 : (List Mark)))), (10, .d (enc (x13 : Int))), (11, .d (enc ((knownR x3 4).1 : Int))), (12, .d (enc ((knownR x3 4).2 : Int))), (13, .d (enc ((knownR x3 3).1 : Int))), (14, .d (enc ((knownR x3 3).2 : Int))), (16, .d (enc (x21 : Int))), (18, .d (enc (x25 : Int)))], [.var 42 (cellsT (.d (enc ((made 5 3 1) : Event)))), .var 42 (cellsT (.d (enc ((made 6 3 2) : Event)))), .var 42 (cellsT (.d (enc ((⟨6, 4, 2, 8, (⟨0, 0, 0, (⟨0, 0, 0⟩ : Reader), 0, 0, 0, ⟨#[]⟩⟩ : Mark)⟩ : Event) : Event)))), .var 42 (cellsT (.d (enc ((⟨1, 4, 3, 2, (⟨0, 0, 0, (⟨0, 0, 0⟩ : Reader), 0, 0, 0, ⟨#[]⟩⟩ : Mark)⟩ : Event) : Event))))]⟩) (by first | rfl | (simp [sp11, h26, h26g]; done) | (simp [sp11, h26, h26g]; grind)) (k27 _ ?_)
  obtain ⟨y28u19, hx29, hg⟩ := bnd_some hg
  unfold headP_r1 at hx29
  refine AWp.seqJ (fun s' => Sub s' ⟨[(1, .ptr 0 0), (2, .ptr 1 0), (3, .ptr 2 0), (4, .ptr 3 0), (5, .d (enc (x3 : (List Event)))), (7, .d (enc (x7 : (List Mark)))), (9, .d (enc (x12 : (List Mark)))), (11, .d (enc ((knownR x3 4).1 : Int))), (13, .d (enc ((knownR x3 3).1 : Int))), (19, .d (enc (y28u19 : Bool)))], [.var 42 (cellsT (.d (enc ((made 5 3 1) : Event)))), .var 42 (cellsT (.d (enc ((made 6 3 2) : Event)))), .var 42 (cellsT (.d (enc ((⟨6, 4, 2, 8, (⟨0, 0, 0, (⟨0, 0, 0⟩ : Reader), 0, 0, 0, ⟨#[]⟩⟩ : Mark)⟩ : Event) : Event)))), .var 42 (cellsT (.d (enc ((⟨1, 4, 3, 2, (⟨0, 0, 0, (⟨0, 0, 0⟩ : Reader), 0, 0, 0, ⟨#[]⟩⟩ : Mark)⟩ : Event) : Event))))]⟩) (fun _ k30 => ?_) ?_
  · rcases Bool.eq_false_or_eq_true (decide (x4 = 0)) with c31 | c31
    · replace hx29 := ifb_t c31 hx29
      have c31g := c31
      try simp at c31g
      rcases Bool.eq_false_or_eq_true (decide (x8 = 0)) with c32 | c32
      · replace hx29 := ifb_t c32 hx29
        have c32g := c32
        try simp at c32g
        rcases Bool.eq_false_or_eq_true (decide (x13 = 0)) with c33 | c33
        · replace hx29 := ifb_t c33 hx29
          have c33g := c33
          try simp at c33g
          rcases Bool.eq_false_or_eq_true (decide ((knownR x3 4).2 = 0)) with c34 | c34
          · replace hx29 := ifb_t c34 hx29
            have c34g := c34
            try simp at c34g
            rcases Bool.eq_false_or_eq_true (decide ((knownR x3 3).2 = 0)) with c35 | c35
            · replace hx29 := ifb_t c35 hx29
              have c35g := c35
              try simp at c35g
              rcases Bool.eq_false_or_eq_true (decide (x21 = 61)) with c36 | c36
              · replace hx29 := ifb_t c36 hx29
                have c36g := c36
                try simp at c36g
                refine AWp.regF hV (some []) [1, 2, 3, 4, 5, 7, 9, 11, 13, 19] fun K k37 => ?_
                simp [c31, c31g, c32, c32g, c33, c33g, c34, c34g, c35, c35g, c36, c36g]
                repeat refine And.intro (by first | omega | (simp [*]; done) | grind) ?_
                refine kcong (s' := ⟨[(1, .ptr 0 0), (2, .ptr 1 0), (3, .ptr 2 0), (4, .ptr 3 0), (5, .d (enc (x3 : (List Event)))), (7, .d (enc (x7 : (List Mark)))), (9, .d (enc (x12 : (List Mark)))), (11, .d (enc ((knownR x3 4).1 : Int))), (13, .d (enc ((knownR x3 3).1 : Int))), (19, .d (enc ((decide (x25 = 1)) : Bool)))], [.var 42 (cellsT (.d (enc ((made 5 3 1) : Event)))), .var 42 (cellsT (.d (enc ((made 6 3 2) : Event)))), .var 42 (cellsT (.d (enc ((⟨6, 4, 2, 8, (⟨0, 0, 0, (⟨0, 0, 0⟩ : Reader), 0, 0, 0, ⟨#[]⟩⟩ : Mark)⟩ : Event) : Event)))), .var 42 (cellsT (.d (enc ((⟨1, 4, 3, 2, (⟨0, 0, 0, (⟨0, 0, 0⟩ : Reader), 0, 0, 0, ⟨#[]⟩⟩ : Mark)⟩ : Event) : Event))))]⟩) (by first | rfl | (simp [c31, c31g, c32, c32g, c33, c33g, c34, c34g, c35, c35g, c36, c36g]; done) | (simp [c31, c31g, c32, c32g, c33, c33g, c34, c34g, c35, c35g, c36, c36g]; grind)) (k37 _ ?_)
                have hx29 := Option.some.inj hx29
                subst hx29
                refine k30 _ ?_
                show Sub _ ⟨[(1, .ptr 0 0), (2, .ptr 1 0), (3, .ptr 2 0), (4, .ptr 3 0), (5, .d (enc (x3 : (List Event)))), (7, .d (enc (x7 : (List Mark)))), (9, .d (enc (x12 : (List Mark)))), (11, .d (enc ((knownR x3 4).1 : Int))), (13, .d (enc ((knownR x3 3).1 : Int))), (19, .d (enc ((decide (x25 = 1)) : Bool)))], [.var 42 (cellsT (.d (enc ((made 5 3 1) : Event)))), .var 42 (cellsT (.d (enc ((made 6 3 2) : Event)))), .var 42 (cellsT (.d (enc ((⟨6, 4, 2, 8, (⟨0, 0, 0, (⟨0, 0, 0⟩ : Reader), 0, 0, 0, ⟨#[]⟩⟩ : Mark)⟩ : Event) : Event)))), .var 42 (cellsT (.d (enc ((⟨1, 4, 3, 2, (⟨0, 0, 0, (⟨0, 0, 0⟩ : Reader), 0, 0, 0, ⟨#[]⟩⟩ : Mark)⟩ : Event) : Event))))]⟩
                exact Sub.ren [0, 1, 2, 3] (by decide) (by first | rfl | simp [renL, AO.ren, forgetsR, T.ren, idx, Eva.get]) (by first | exact ⟨rfl, rfl, rfl, rfl, rfl, rfl, rfl, rfl, rfl, rfl, trivial⟩ | (simp [renL, AO.ren, forgetsR, T.ren, idx, Eva.get]; done) | (simp [renL, AO.ren, forgetsR, T.ren, idx, Eva.get]; grind))
              · replace hx29 := ifb_f c36 hx29
                have c36g := c36
                try simp at c36g
                refine AWp.regF hV (some [95, 96]) [1, 2, 3, 4, 5, 7, 9, 11, 13, 19] fun K k38 => ?_
                simp [c31, c31g, c32, c32g, c33, c33g, c34, c34g, c35, c35g, c36, c36g]
                repeat refine And.intro (by first | omega | (simp [*]; done) | grind) ?_
                refine kcong (s' := ⟨[(1, .ptr 0 0), (2, .ptr 1 0), (3, .ptr 2 0), (4, .ptr 3 0), (5, .d (enc (x3 : (List Event)))), (7, .d (enc (x7 : (List Mark)))), (9, .d (enc (x12 : (List Mark)))), (11, .d (enc ((knownR x3 4).1 : Int))), (13, .d (enc ((knownR x3 3).1 : Int))), (19, .d (enc (false : Bool)))], [.var 42 (cellsT (.d (enc ((made 5 3 1) : Event)))), .var 42 (cellsT (.d (enc ((made 6 3 2) : Event)))), .var 42 (cellsT (.d (enc ((⟨6, 4, 2, 8, (⟨0, 0, 0, (⟨0, 0, 0⟩ : Reader), 0, 0, 0, ⟨#[]⟩⟩ : Mark)⟩ : Event) : Event)))), .var 42 (cellsT (.d (enc ((⟨1, 4, 3, 2, (⟨0, 0, 0, (⟨0, 0, 0⟩ : Reader), 0, 0, 0, ⟨#[]⟩⟩ : Mark)⟩ : Event) : Event))))]⟩) (by first | rfl | (simp [c31, c31g, c32, c32g, c33, c33g, c34, c34g, c35, c35g, c36, c36g]; done) | (simp [c31, c31g, c32, c32g, c33, c33g, c34, c34g, c35, c35g, c36, c36g]; grind)) (k38 _ ?_)
                have hx29 := Option.some.inj hx29
                subst hx29
                refine k30 _ ?_
                show Sub _ ⟨[(1, .ptr 0 0), (2, .ptr 1 0), (3, .ptr 2 0), (4, .ptr 3 0), (5, .d (enc (x3 : (List Event)))), (7, .d (enc (x7 : (List Mark)))), (9, .d (enc (x12 : (List Mark)))), (11, .d (enc ((knownR x3 4).1 : Int))), (13, .d (enc ((knownR x3 3).1 : Int))), (19, .d (enc (false : Bool)))], [.var 42 (cellsT (.d (enc ((made 5 3 1) : Event)))), .var 42 (cellsT (.d (enc ((made 6 3 2) : Event)))), .var 42 (cellsT (.d (enc ((⟨6, 4, 2, 8, (⟨0, 0, 0, (⟨0, 0, 0⟩ : Reader), 0, 0, 0, ⟨#[]⟩⟩ : Mark)⟩ : Event) : Event)))), .var 42 (cellsT (.d (enc ((⟨1, 4, 3, 2, (⟨0, 0, 0, (⟨0, 0, 0⟩ : Reader), 0, 0, 0, ⟨#[]⟩⟩ : Mark)⟩ : Event) : Event))))]⟩
                exact Sub.ren [0, 1, 2, 3] (by decide) (by first | rfl | simp [renL, AO.ren, forgetsR, T.ren, idx, Eva.get]) (by first | exact ⟨rfl, rfl, rfl, rfl, rfl, rfl, rfl, rfl, rfl, rfl, trivial⟩ | (simp [renL, AO.ren, forgetsR, T.ren, idx, Eva.get]; done) | (simp [renL, AO.ren, forgetsR, T.ren, idx, Eva.get]; grind))
            · replace hx29 := ifb_f c35 hx29
              have c35g := c35
              try simp at c35g
              refine AWp.regF hV (some [91, 92, 95, 96]) [1, 2, 3, 4, 5, 7, 9, 11, 13, 19] fun K k39 => ?_
              simp [c31, c31g, c32, c32g, c33, c33g, c34, c34g, c35, c35g]
              repeat refine And.intro (by first | omega | (simp [*]; done) | grind) ?_
              refine kcong (s' := ⟨[(1, .ptr 0 0), (2, .ptr 1 0), (3, .ptr 2 0), (4, .ptr 3 0), (5, .d (enc (x3 : (List Event)))), (7, .d (enc (x7 : (List Mark)))), (9, .d (enc (x12 : (List Mark)))), (11, .d (enc ((knownR x3 4).1 : Int))), (13, .d (enc ((knownR x3 3).1 : Int))), (19, .d (enc (false : Bool)))], [.var 42 (cellsT (.d (enc ((made 5 3 1) : Event)))), .var 42 (cellsT (.d (enc ((made 6 3 2) : Event)))), .var 42 (cellsT (.d (enc ((⟨6, 4, 2, 8, (⟨0, 0, 0, (⟨0, 0, 0⟩ : Reader), 0, 0, 0, ⟨#[]⟩⟩ : Mark)⟩ : Event) : Event)))), .var 42 (cellsT (.d (enc ((⟨1, 4, 3, 2, (⟨0, 0, 0, (⟨0, 0, 0⟩ : Reader), 0, 0, 0, ⟨#[]⟩⟩ : Mark)⟩ : Event) : Event))))]⟩) (by first | rfl | (simp [c31, c31g, c32, c32g, c33, c33g, c34, c34g, c35, c35g]; done) | (simp [c31, c31g, c32, c32g, c33, c33g, c34, c34g, c35, c35g]; grind)) (k39 _ ?_)
              have hx29 := Option.some.inj hx29
              subst hx29
              refine k30 _ ?_
              show Sub _ ⟨[(1, .ptr 0 0), (2, .ptr 1 0), (3, .ptr 2 0), (4, .ptr 3 0), (5, .d (enc (x3 : (List Event)))), (7, .d (enc (x7 : (List Mark)))), (9, .d (enc (x12 : (List Mark)))), (11, .d (enc ((knownR x3 4).1 : Int))), (13, .d (enc ((knownR x3 3).1 : Int))), (19, .d (enc (false : Bool)))], [.var 42 (cellsT (.d (enc ((made 5 3 1) : Event)))), .var 42 (cellsT (.d (enc ((made 6 3 2) : Event)))), .var 42 (cellsT (.d (enc ((⟨6, 4, 2, 8, (⟨0, 0, 0, (⟨0, 0, 0⟩ : Reader), 0, 0, 0, ⟨#[]⟩⟩ : Mark)⟩ : Event) : Event)))), .var 42 (cellsT (.d (enc ((⟨1, 4, 3, 2, (⟨0, 0, 0, (⟨0, 0, 0⟩ : Reader), 0, 0, 0, ⟨#[]⟩⟩ : Mark)⟩ : Event) : Event))))]⟩
              exact Sub.ren [0, 1, 2, 3] (by decide) (by first | rfl | simp [renL, AO.ren, forgetsR, T.ren, idx, Eva.get]) (by first | exact ⟨rfl, rfl, rfl, rfl, rfl, rfl, rfl, rfl, rfl, rfl, trivial⟩ | (simp [renL, AO.ren, forgetsR, T.ren, idx, Eva.get]; done) | (simp [renL, AO.ren, forgetsR, T.ren, idx, Eva.get]; grind))
          · replace hx29 := ifb_f c34 hx29
            have c34g := c34
            try simp at c34g
            refine AWp.regF hV (some [87, 88, 91, 92, 95, 96]) [1, 2, 3, 4, 5, 7, 9, 11, 13, 19] fun K k40 => ?_
            simp [c31, c31g, c32, c32g, c33, c33g, c34, c34g]
            repeat refine And.intro (by first | omega | (simp [*]; done) | grind) ?_
            refine kcong (s' := ⟨[(1, .ptr 0 0), (2, .ptr 1 0), (3, .ptr 2 0), (4, .ptr 3 0), (5, .d (enc (x3 : (List Event)))), (7, .d (enc (x7 : (List Mark)))), (9, .d (enc (x12 : (List Mark)))), (11, .d (enc ((knownR x3 4).1 : Int))), (13, .d (enc ((knownR x3 3).1 : Int))), (19, .d (enc (false : Bool)))], [.var 42 (cellsT (.d (enc ((made 5 3 1) : Event)))), .var 42 (cellsT (.d (enc ((made 6 3 2) : Event)))), .var 42 (cellsT (.d (enc ((⟨6, 4, 2, 8, (⟨0, 0, 0, (⟨0, 0, 0⟩ : Reader), 0, 0, 0, ⟨#[]⟩⟩ : Mark)⟩ : Event) : Event)))), .var 42 (cellsT (.d (enc ((⟨1, 4, 3, 2, (⟨0, 0, 0, (⟨0, 0, 0⟩ : Reader), 0, 0, 0, ⟨#[]⟩⟩ : Mark)⟩ : Event) : Event))))]⟩) (by first | rfl | (simp [c31, c31g, c32, c32g, c33, c33g, c34, c34g]; done) | (simp [c31, c31g, c32, c32g, c33, c33g, c34, c34g]; grind)) (k40 _ ?_)
            have hx29 := Option.some.inj hx29
            subst hx29
            refine k30 _ ?_
            show Sub _ ⟨[(1, .ptr 0 0), (2, .ptr 1 0), (3, .ptr 2 0), (4, .ptr 3 0), (5, .d (enc (x3 : (List Event)))), (7, .d (enc (x7 : (List Mark)))), (9, .d (enc (x12 : (List Mark)))), (11, .d (enc ((knownR x3 4).1 : Int))), (13, .d (enc ((knownR x3 3).1 : Int))), (19, .d (enc (false : Bool)))], [.var 42 (cellsT (.d (enc ((made 5 3 1) : Event)))), .var 42 (cellsT (.d (enc ((made 6 3 2) : Event)))), .var 42 (cellsT (.d (enc ((⟨6, 4, 2, 8, (⟨0, 0, 0, (⟨0, 0, 0⟩ : Reader), 0, 0, 0, ⟨#[]⟩⟩ : Mark)⟩ : Event) : Event)))), .var 42 (cellsT (.d (enc ((⟨1, 4, 3, 2, (⟨0, 0, 0, (⟨0, 0, 0⟩ : Reader), 0, 0, 0, ⟨#[]⟩⟩ : Mark)⟩ : Event) : Event))))]⟩
            exact Sub.ren [0, 1, 2, 3] (by decide) (by first | rfl | simp [renL, AO.ren, forgetsR, T.ren, idx, Eva.get]) (by first | exact ⟨rfl, rfl, rfl, rfl, rfl, rfl, rfl, rfl, rfl, rfl, trivial⟩ | (simp [renL, AO.ren, forgetsR, T.ren, idx, Eva.get]; done) | (simp [renL, AO.ren, forgetsR, T.ren, idx, Eva.get]; grind))
        · replace hx29 := ifb_f c33 hx29
          have c33g := c33
          try simp at c33g
          refine AWp.regF hV (some [83, 84, 87, 88, 91, 92, 95, 96]) [1, 2, 3, 4, 5, 7, 9, 11, 13, 19] fun K k41 => ?_
          simp [c31, c31g, c32, c32g, c33, c33g]
          repeat refine And.intro (by first | omega | (simp [*]; done) | grind) ?_
          refine kcong (s' := ⟨[(1, .ptr 0 0), (2, .ptr 1 0), (3, .ptr 2 0), (4, .ptr 3 0), (5, .d (enc (x3 : (List Event)))), (7, .d (enc (x7 : (List Mark)))), (9, .d (enc (x12 : (List Mark)))), (11, .d (enc ((knownR x3 4).1 : Int))), (13, .d (enc ((knownR x3 3).1 : Int))), (19, .d (enc (false : Bool)))], [.var 42 (cellsT (.d (enc ((made 5 3 1) : Event)))), .var 42 (cellsT (.d (enc ((made 6 3 2) : Event)))), .var 42 (cellsT (.d (enc ((⟨6, 4, 2, 8, (⟨0, 0, 0, (⟨0, 0, 0⟩ : Reader), 0, 0, 0, ⟨#[]⟩⟩ : Mark)⟩ : Event) : Event)))), .var 42 (cellsT (.d (enc ((⟨1, 4, 3, 2, (⟨0, 0, 0, (⟨0, 0, 0⟩ : Reader), 0, 0, 0, ⟨#[]⟩⟩ : Mark)⟩ : Event) : Event))))]⟩) (by first | rfl | (simp [c31, c31g, c32, c32g, c33, c33g]; done) | (simp [c31, c31g, c32, c32g, c33, c33g]; grind)) (k41 _ ?_)
          have hx29 := Option.some.inj hx29
          subst hx29
          refine k30 _ ?_
          show Sub _ ⟨[(1, .ptr 0 0), (2, .ptr 1 0), (3, .ptr 2 0), (4, .ptr 3 0), (5, .d (enc (x3 : (List Event)))), (7, .d (enc (x7 : (List Mark)))), (9, .d (enc (x12 : (List Mark)))), (11, .d (enc ((knownR x3 4).1 : Int))), (13, .d (enc ((knownR x3 3).1 : Int))), (19, .d (enc (false : Bool)))], [.var 42 (cellsT (.d (enc ((made 5 3 1) : Event)))), .var 42 (cellsT (.d (enc ((made 6 3 2) : Event)))), .var 42 (cellsT (.d (enc ((⟨6, 4, 2, 8, (⟨0, 0, 0, (⟨0, 0, 0⟩ : Reader), 0, 0, 0, ⟨#[]⟩⟩ : Mark)⟩ : Event) : Event)))), .var 42 (cellsT (.d (enc ((⟨1, 4, 3, 2, (⟨0, 0, 0, (⟨0, 0, 0⟩ : Reader), 0, 0, 0, ⟨#[]⟩⟩ : Mark)⟩ : Event) : Event))))]⟩
          exact Sub.ren [0, 1, 2, 3] (by decide) (by first | rfl | simp [renL, AO.ren, forgetsR, T.ren, idx, Eva.get]) (by first | exact ⟨rfl, rfl, rfl, rfl, rfl, rfl, rfl, rfl, rfl, rfl, trivial⟩ | (simp [renL, AO.ren, forgetsR, T.ren, idx, Eva.get]; done) | (simp [renL, AO.ren, forgetsR, T.ren, idx, Eva.get]; grind))
      · replace hx29 := ifb_f c32 hx29
        have c32g := c32
        try simp at c32g
        refine AWp.regF hV (some [79, 80, 83, 84, 87, 88, 91, 92, 95, 96]) [1, 2, 3, 4, 5, 7, 9, 11, 13, 19] fun K k42 => ?_
        simp [c31, c31g, c32, c32g]
        repeat refine And.intro (by first | omega | (simp [*]; done) | grind) ?_
        refine kcong (s' := ⟨[(1, .ptr 0 0), (2, .ptr 1 0), (3, .ptr 2 0), (4, .ptr 3 0), (5, .d (enc (x3 : (List Event)))), (7, .d (enc (x7 : (List Mark)))), (9, .d (enc (x12 : (List Mark)))), (11, .d (enc ((knownR x3 4).1 : Int))), (13, .d (enc ((knownR x3 3).1 : Int))), (19, .d (enc (false : Bool)))], [.var 42 (cellsT (.d (enc ((made 5 3 1) : Event)))), .var 42 (cellsT (.d (enc ((made 6 3 2) : Event)))), .var 42 (cellsT (.d (enc ((⟨6, 4, 2, 8, (⟨0, 0, 0, (⟨0, 0, 0⟩ : Reader), 0, 0, 0, ⟨#[]⟩⟩ : Mark)⟩ : Event) : Event)))), .var 42 (cellsT (.d (enc ((⟨1, 4, 3, 2, (⟨0, 0, 0, (⟨0, 0, 0⟩ : Reader), 0, 0, 0, ⟨#[]⟩⟩ : Mark)⟩ : Event) : Event))))]⟩) (by first | rfl | (simp [c31, c31g, c32, c32g]; done) | (simp [c31, c31g, c32, c32g]; grind)) (k42 _ ?_)
        have hx29 := Option.some.inj hx29
        subst hx29
        refine k30 _ ?_
        show Sub _ ⟨[(1, .ptr 0 0), (2, .ptr 1 0), (3, .ptr 2 0), (4, .ptr 3 0), (5, .d (enc (x3 : (List Event)))), (7, .d (enc (x7 : (List Mark)))), (9, .d (enc (x12 : (List Mark)))), (11, .d (enc ((knownR x3 4).1 : Int))), (13, .d (enc ((knownR x3 3).1 : Int))), (19, .d (enc (false : Bool)))], [.var 42 (cellsT (.d (enc ((made 5 3 1) : Event)))), .var 42 (cellsT (.d (enc ((made 6 3 2) : Event)))), .var 42 (cellsT (.d (enc ((⟨6, 4, 2, 8, (⟨0, 0, 0, (⟨0, 0, 0⟩ : Reader), 0, 0, 0, ⟨#[]⟩⟩ : Mark)⟩ : Event) : Event)))), .var 42 (cellsT (.d (enc ((⟨1, 4, 3, 2, (⟨0, 0, 0, (⟨0, 0, 0⟩ : Reader), 0, 0, 0, ⟨#[]⟩⟩ : Mark)⟩ : Event) : Event))))]⟩
        exact Sub.ren [0, 1, 2, 3] (by decide) (by first | rfl | simp [renL, AO.ren, forgetsR, T.ren, idx, Eva.get]) (by first | exact ⟨rfl, rfl, rfl, rfl, rfl, rfl, rfl, rfl, rfl, rfl, trivial⟩ | (simp [renL, AO.ren, forgetsR, T.ren, idx, Eva.get]; done) | (simp [renL, AO.ren, forgetsR, T.ren, idx, Eva.get]; grind))
    · replace hx29 := ifb_f c31 hx29
      have c31g := c31
      try simp at c31g
      refine AWp.regF hV (some [75, 76, 79, 80, 83, 84, 87, 88, 91, 92, 95, 96]) [1, 2, 3, 4, 5, 7, 9, 11, 13, 19] fun K k43 => ?_
      simp [c31, c31g]
      repeat refine And.intro (by first | omega | (simp [*]; done) | grind) ?_
      refine kcong (s' := ⟨[(1, .ptr 0 0), (2, .ptr 1 0), (3, .ptr 2 0), (4, .ptr 3 0), (5, .d (enc (x3 : (List Event)))), (7, .d (enc (x7 : (List Mark)))), (9, .d (enc (x12 : (List Mark)))), (11, .d (enc ((knownR x3 4).1 : Int))), (13, .d (enc ((knownR x3 3).1 : Int))), (19, .d (enc (false : Bool)))], [.var 42 (cellsT (.d (enc ((made 5 3 1) : Event)))), .var 42 (cellsT (.d (enc ((made 6 3 2) : Event)))), .var 42 (cellsT (.d (enc ((⟨6, 4, 2, 8, (⟨0, 0, 0, (⟨0, 0, 0⟩ : Reader), 0, 0, 0, ⟨#[]⟩⟩ : Mark)⟩ : Event) : Event)))), .var 42 (cellsT (.d (enc ((⟨1, 4, 3, 2, (⟨0, 0, 0, (⟨0, 0, 0⟩ : Reader), 0, 0, 0, ⟨#[]⟩⟩ : Mark)⟩ : Event) : Event))))]⟩) (by first | rfl | (simp [c31, c31g]; done) | (simp [c31, c31g]; grind)) (k43 _ ?_)
      have hx29 := Option.some.inj hx29
      subst hx29
      refine k30 _ ?_
      show Sub _ ⟨[(1, .ptr 0 0), (2, .ptr 1 0), (3, .ptr 2 0), (4, .ptr 3 0), (5, .d (enc (x3 : (List Event)))), (7, .d (enc (x7 : (List Mark)))), (9, .d (enc (x12 : (List Mark)))), (11, .d (enc ((knownR x3 4).1 : Int))), (13, .d (enc ((knownR x3 3).1 : Int))), (19, .d (enc (false : Bool)))], [.var 42 (cellsT (.d (enc ((made 5 3 1) : Event)))), .var 42 (cellsT (.d (enc ((made 6 3 2) : Event)))), .var 42 (cellsT (.d (enc ((⟨6, 4, 2, 8, (⟨0, 0, 0, (⟨0, 0, 0⟩ : Reader), 0, 0, 0, ⟨#[]⟩⟩ : Mark)⟩ : Event) : Event)))), .var 42 (cellsT (.d (enc ((⟨1, 4, 3, 2, (⟨0, 0, 0, (⟨0, 0, 0⟩ : Reader), 0, 0, 0, ⟨#[]⟩⟩ : Mark)⟩ : Event) : Event))))]⟩
      exact Sub.ren [0, 1, 2, 3] (by decide) (by first | rfl | simp [renL, AO.ren, forgetsR, T.ren, idx, Eva.get]) (by first | exact ⟨rfl, rfl, rfl, rfl, rfl, rfl, rfl, rfl, rfl, rfl, trivial⟩ | (simp [renL, AO.ren, forgetsR, T.ren, idx, Eva.get]; done) | (simp [renL, AO.ren, forgetsR, T.ren, idx, Eva.get]; grind))
  · intro s' hs
    refine AWp.sub hs ?_
    clear hs s'
    obtain ⟨y48u0, hx49, hg⟩ := bnd_some hg
    unfold headP_r2 at hx49
    refine AWp.seqJ (fun s' => Sub s' ⟨[(0, .d (enc (y48u0 : Bool)))], []⟩) (fun _ k50 => ?_) ?_
    · rcases Bool.eq_false_or_eq_true y28u19 with c51 | c51
      · replace hx49 := ifb_t c51 hx49
        have c51g := c51
        try simp at c51g
        obtain ⟨g44, hx49⟩ := grd_some hx49
        rcases Bool.eq_false_or_eq_true (decide (x3 = [(⟨1, 4, 3, 2, (⟨0, 0, 0, (⟨0, 0, 0⟩ : Reader), 0, 0, 0, ⟨#[]⟩⟩ : Mark)⟩ : Event), (made 5 3 1), (made 6 3 2), (⟨6, 4, 2, 8, (⟨0, 0, 0, (⟨0, 0, 0⟩ : Reader), 0, 0, 0, ⟨#[]⟩⟩ : Mark)⟩ : Event)])) with c52 | c52
        · replace hx49 := ifb_t c52 hx49
          have c52g := c52
          try simp at c52g
          rcases Bool.eq_false_or_eq_true (decide ((x7.length : Int) = 0)) with c53 | c53
          · replace hx49 := ifb_t c53 hx49
            have c53g := c53
            try simp at c53g
            obtain ⟨g45, hx49⟩ := grd_some hx49
            rcases Bool.eq_false_or_eq_true (decide (x12 = [(made 6 3 2).mark])) with c54 | c54
            · replace hx49 := ifb_t c54 hx49
              have c54g := c54
              try simp at c54g
              rcases Bool.eq_false_or_eq_true (decide ((knownR x3 4).1 = 2)) with c55 | c55
              · replace hx49 := ifb_t c55 hx49
                have c55g := c55
                try simp at c55g
                rcases Bool.eq_false_or_eq_true (decide ((knownR x3 3).1 = 0)) with c56 | c56
                · replace hx49 := ifb_t c56 hx49
                  have c56g := c56
                  try simp at c56g
                  obtain ⟨g46, hx49⟩ := grd_some hx49
                  rcases Bool.eq_false_or_eq_true (validE x3) with c57 | c57
                  · replace hx49 := ifb_t c57 hx49
                    have c57g := c57
                    try simp at c57g
                    obtain ⟨g47, hx49⟩ := grd_some hx49
                    refine AWp.regF hV (some []) [0] fun K k58 => ?_
                    simp [sp15, sp18, sp13, c51, c51g, c52, c52g, c53, c53g, c54, c54g, c55, c55g, c56, c56g, c57, c57g]
                    repeat refine And.intro (by first | omega | (simp [*]; done) | grind) ?_
                    refine kcong (s' := ⟨[(0, .d (enc ((!(validE ([(made 5 3 1), (made 5 3 1)]))) : Bool)))], [.var 42 (cellsT (.d (enc ((made 5 3 1) : Event)))), .var 42 (cellsT (.d (enc ((made 6 3 2) : Event)))), .var 42 (cellsT (.d (enc ((⟨6, 4, 2, 8, (⟨0, 0, 0, (⟨0, 0, 0⟩ : Reader), 0, 0, 0, ⟨#[]⟩⟩ : Mark)⟩ : Event) : Event)))), .var 42 (cellsT (.d (enc ((⟨1, 4, 3, 2, (⟨0, 0, 0, (⟨0, 0, 0⟩ : Reader), 0, 0, 0, ⟨#[]⟩⟩ : Mark)⟩ : Event) : Event))))]⟩) (by first | rfl | (simp [sp15, sp18, sp13, c51, c51g, c52, c52g, c53, c53g, c54, c54g, c55, c55g, c56, c56g, c57, c57g]; done) | (simp [sp15, sp18, sp13, c51, c51g, c52, c52g, c53, c53g, c54, c54g, c55, c55g, c56, c56g, c57, c57g]; grind)) (k58 _ ?_)
                    have hx49 := Option.some.inj hx49
                    subst hx49
                    refine k50 _ ?_
                    show Sub _ ⟨[(0, .d (enc ((!(validE ([(made 5 3 1), (made 5 3 1)]))) : Bool)))], []⟩
                    exact Sub.ren [] (by decide) (by first | rfl | simp [renL, AO.ren, forgetsR, T.ren, idx, Eva.get]) (by first | exact ⟨rfl, trivial⟩ | (simp [renL, AO.ren, forgetsR, T.ren, idx, Eva.get]; done) | (simp [renL, AO.ren, forgetsR, T.ren, idx, Eva.get]; grind))
                  · replace hx49 := ifb_f c57 hx49
                    have c57g := c57
                    try simp at c57g
                    refine AWp.regF hV (some [133, 134, 135, 136, 137]) [0] fun K k59 => ?_
                    simp [sp15, sp18, sp13, c51, c51g, c52, c52g, c53, c53g, c54, c54g, c55, c55g, c56, c56g, c57, c57g]
                    repeat refine And.intro (by first | omega | (simp [*]; done) | grind) ?_
                    refine kcong (s' := ⟨[(0, .d (enc (false : Bool)))], [.var 42 (cellsT (.d (enc ((made 5 3 1) : Event)))), .var 42 (cellsT (.d (enc ((made 6 3 2) : Event)))), .var 42 (cellsT (.d (enc ((⟨6, 4, 2, 8, (⟨0, 0, 0, (⟨0, 0, 0⟩ : Reader), 0, 0, 0, ⟨#[]⟩⟩ : Mark)⟩ : Event) : Event)))), .var 42 (cellsT (.d (enc ((⟨1, 4, 3, 2, (⟨0, 0, 0, (⟨0, 0, 0⟩ : Reader), 0, 0, 0, ⟨#[]⟩⟩ : Mark)⟩ : Event) : Event))))]⟩) (by first | rfl | (simp [sp15, sp18, sp13, c51, c51g, c52, c52g, c53, c53g, c54, c54g, c55, c55g, c56, c56g, c57, c57g]; done) | (simp [sp15, sp18, sp13, c51, c51g, c52, c52g, c53, c53g, c54, c54g, c55, c55g, c56, c56g, c57, c57g]; grind)) (k59 _ ?_)
                    have hx49 := Option.some.inj hx49
                    subst hx49
                    refine k50 _ ?_
                    show Sub _ ⟨[(0, .d (enc (false : Bool)))], []⟩
                    exact Sub.ren [] (by decide) (by first | rfl | simp [renL, AO.ren, forgetsR, T.ren, idx, Eva.get]) (by first | exact ⟨rfl, trivial⟩ | (simp [renL, AO.ren, forgetsR, T.ren, idx, Eva.get]; done) | (simp [renL, AO.ren, forgetsR, T.ren, idx, Eva.get]; grind))
                · replace hx49 := ifb_f c56 hx49
                  have c56g := c56
                  try simp at c56g
                  refine AWp.regF hV (some [129, 130, 133, 134, 135, 136, 137]) [0] fun K k60 => ?_
                  simp [sp15, sp18, sp13, c51, c51g, c52, c52g, c53, c53g, c54, c54g, c55, c55g, c56, c56g]
                  repeat refine And.intro (by first | omega | (simp [*]; done) | grind) ?_
                  refine kcong (s' := ⟨[(0, .d (enc (false : Bool)))], [.var 42 (cellsT (.d (enc ((made 5 3 1) : Event)))), .var 42 (cellsT (.d (enc ((made 6 3 2) : Event)))), .var 42 (cellsT (.d (enc ((⟨6, 4, 2, 8, (⟨0, 0, 0, (⟨0, 0, 0⟩ : Reader), 0, 0, 0, ⟨#[]⟩⟩ : Mark)⟩ : Event) : Event)))), .var 42 (cellsT (.d (enc ((⟨1, 4, 3, 2, (⟨0, 0, 0, (⟨0, 0, 0⟩ : Reader), 0, 0, 0, ⟨#[]⟩⟩ : Mark)⟩ : Event) : Event))))]⟩) (by first | rfl | (simp [sp15, sp18, sp13, c51, c51g, c52, c52g, c53, c53g, c54, c54g, c55, c55g, c56, c56g]; done) | (simp [sp15, sp18, sp13, c51, c51g, c52, c52g, c53, c53g, c54, c54g, c55, c55g, c56, c56g]; grind)) (k60 _ ?_)
                  have hx49 := Option.some.inj hx49
                  subst hx49
                  refine k50 _ ?_
                  show Sub _ ⟨[(0, .d (enc (false : Bool)))], []⟩
                  exact Sub.ren [] (by decide) (by first | rfl | simp [renL, AO.ren, forgetsR, T.ren, idx, Eva.get]) (by first | exact ⟨rfl, trivial⟩ | (simp [renL, AO.ren, forgetsR, T.ren, idx, Eva.get]; done) | (simp [renL, AO.ren, forgetsR, T.ren, idx, Eva.get]; grind))
              · replace hx49 := ifb_f c55 hx49
                have c55g := c55
                try simp at c55g
                refine AWp.regF hV (some [125, 126, 129, 130, 133, 134, 135, 136, 137]) [0] fun K k61 => ?_
                simp [sp15, sp18, sp13, c51, c51g, c52, c52g, c53, c53g, c54, c54g, c55, c55g]
                repeat refine And.intro (by first | omega | (simp [*]; done) | grind) ?_
                refine kcong (s' := ⟨[(0, .d (enc (false : Bool)))], [.var 42 (cellsT (.d (enc ((made 5 3 1) : Event)))), .var 42 (cellsT (.d (enc ((made 6 3 2) : Event)))), .var 42 (cellsT (.d (enc ((⟨6, 4, 2, 8, (⟨0, 0, 0, (⟨0, 0, 0⟩ : Reader), 0, 0, 0, ⟨#[]⟩⟩ : Mark)⟩ : Event) : Event)))), .var 42 (cellsT (.d (enc ((⟨1, 4, 3, 2, (⟨0, 0, 0, (⟨0, 0, 0⟩ : Reader), 0, 0, 0, ⟨#[]⟩⟩ : Mark)⟩ : Event) : Event))))]⟩) (by first | rfl | (simp [sp15, sp18, sp13, c51, c51g, c52, c52g, c53, c53g, c54, c54g, c55, c55g]; done) | (simp [sp15, sp18, sp13, c51, c51g, c52, c52g, c53, c53g, c54, c54g, c55, c55g]; grind)) (k61 _ ?_)
                have hx49 := Option.some.inj hx49
                subst hx49
                refine k50 _ ?_
                show Sub _ ⟨[(0, .d (enc (false : Bool)))], []⟩
                exact Sub.ren [] (by decide) (by first | rfl | simp [renL, AO.ren, forgetsR, T.ren, idx, Eva.get]) (by first | exact ⟨rfl, trivial⟩ | (simp [renL, AO.ren, forgetsR, T.ren, idx, Eva.get]; done) | (simp [renL, AO.ren, forgetsR, T.ren, idx, Eva.get]; grind))
            · replace hx49 := ifb_f c54 hx49
              have c54g := c54
              try simp at c54g
              refine AWp.regF hV (some [121, 122, 125, 126, 129, 130, 133, 134, 135, 136, 137]) [0] fun K k62 => ?_
              simp [sp15, sp18, sp13, c51, c51g, c52, c52g, c53, c53g, c54, c54g]
              repeat refine And.intro (by first | omega | (simp [*]; done) | grind) ?_
              refine kcong (s' := ⟨[(0, .d (enc (false : Bool)))], [.var 42 (cellsT (.d (enc ((made 5 3 1) : Event)))), .var 42 (cellsT (.d (enc ((made 6 3 2) : Event)))), .var 42 (cellsT (.d (enc ((⟨6, 4, 2, 8, (⟨0, 0, 0, (⟨0, 0, 0⟩ : Reader), 0, 0, 0, ⟨#[]⟩⟩ : Mark)⟩ : Event) : Event)))), .var 42 (cellsT (.d (enc ((⟨1, 4, 3, 2, (⟨0, 0, 0, (⟨0, 0, 0⟩ : Reader), 0, 0, 0, ⟨#[]⟩⟩ : Mark)⟩ : Event) : Event))))]⟩) (by first | rfl | (simp [sp15, sp18, sp13, c51, c51g, c52, c52g, c53, c53g, c54, c54g]; done) | (simp [sp15, sp18, sp13, c51, c51g, c52, c52g, c53, c53g, c54, c54g]; grind)) (k62 _ ?_)
              have hx49 := Option.some.inj hx49
              subst hx49
              refine k50 _ ?_
              show Sub _ ⟨[(0, .d (enc (false : Bool)))], []⟩
              exact Sub.ren [] (by decide) (by first | rfl | simp [renL, AO.ren, forgetsR, T.ren, idx, Eva.get]) (by first | exact ⟨rfl, trivial⟩ | (simp [renL, AO.ren, forgetsR, T.ren, idx, Eva.get]; done) | (simp [renL, AO.ren, forgetsR, T.ren, idx, Eva.get]; grind))
          · replace hx49 := ifb_f c53 hx49
            have c53g := c53
            try simp at c53g
            refine AWp.regF hV (some [114, 115, 116, 117, 118, 121, 122, 125, 126, 129, 130, 133, 134, 135, 136, 137]) [0] fun K k63 => ?_
            simp [sp15, sp18, sp13, c51, c51g, c52, c52g, c53, c53g]
            repeat refine And.intro (by first | omega | (simp [*]; done) | grind) ?_
            refine kcong (s' := ⟨[(0, .d (enc (false : Bool)))], [.var 42 (cellsT (.d (enc ((made 5 3 1) : Event)))), .var 42 (cellsT (.d (enc ((made 6 3 2) : Event)))), .var 42 (cellsT (.d (enc ((⟨6, 4, 2, 8, (⟨0, 0, 0, (⟨0, 0, 0⟩ : Reader), 0, 0, 0, ⟨#[]⟩⟩ : Mark)⟩ : Event) : Event)))), .var 42 (cellsT (.d (enc ((⟨1, 4, 3, 2, (⟨0, 0, 0, (⟨0, 0, 0⟩ : Reader), 0, 0, 0, ⟨#[]⟩⟩ : Mark)⟩ : Event) : Event))))]⟩) (by first | rfl | (simp [sp15, sp18, sp13, c51, c51g, c52, c52g, c53, c53g]; done) | (simp [sp15, sp18, sp13, c51, c51g, c52, c52g, c53, c53g]; grind)) (k63 _ ?_)
            have hx49 := Option.some.inj hx49
            subst hx49
            refine k50 _ ?_
            show Sub _ ⟨[(0, .d (enc (false : Bool)))], []⟩
            exact Sub.ren [] (by decide) (by first | rfl | simp [renL, AO.ren, forgetsR, T.ren, idx, Eva.get]) (by first | exact ⟨rfl, trivial⟩ | (simp [renL, AO.ren, forgetsR, T.ren, idx, Eva.get]; done) | (simp [renL, AO.ren, forgetsR, T.ren, idx, Eva.get]; grind))
        · replace hx49 := ifb_f c52 hx49
          have c52g := c52
          try simp at c52g
          refine AWp.regF hV (some [109, 110, 111, 114, 115, 116, 117, 118, 121, 122, 125, 126, 129, 130, 133, 134, 135, 136, 137]) [0] fun K k64 => ?_
          simp [sp15, sp18, sp13, c51, c51g, c52, c52g]
          repeat refine And.intro (by first | omega | (simp [*]; done) | grind) ?_
          refine kcong (s' := ⟨[(0, .d (enc (false : Bool)))], [.var 42 (cellsT (.d (enc ((made 5 3 1) : Event)))), .var 42 (cellsT (.d (enc ((made 6 3 2) : Event)))), .var 42 (cellsT (.d (enc ((⟨6, 4, 2, 8, (⟨0, 0, 0, (⟨0, 0, 0⟩ : Reader), 0, 0, 0, ⟨#[]⟩⟩ : Mark)⟩ : Event) : Event)))), .var 42 (cellsT (.d (enc ((⟨1, 4, 3, 2, (⟨0, 0, 0, (⟨0, 0, 0⟩ : Reader), 0, 0, 0, ⟨#[]⟩⟩ : Mark)⟩ : Event) : Event))))]⟩) (by first | rfl | (simp [sp15, sp18, sp13, c51, c51g, c52, c52g]; done) | (simp [sp15, sp18, sp13, c51, c51g, c52, c52g]; grind)) (k64 _ ?_)
          have hx49 := Option.some.inj hx49
          subst hx49
          refine k50 _ ?_
          show Sub _ ⟨[(0, .d (enc (false : Bool)))], []⟩
          exact Sub.ren [] (by decide) (by first | rfl | simp [renL, AO.ren, forgetsR, T.ren, idx, Eva.get]) (by first | exact ⟨rfl, trivial⟩ | (simp [renL, AO.ren, forgetsR, T.ren, idx, Eva.get]; done) | (simp [renL, AO.ren, forgetsR, T.ren, idx, Eva.get]; grind))
      · replace hx49 := ifb_f c51 hx49
        have c51g := c51
        try simp at c51g
        refine AWp.regF hV (some [100, 101, 102, 103, 104, 105, 106, 109, 110, 111, 114, 115, 116, 117, 118, 121, 122, 125, 126, 129, 130, 133, 134, 135, 136, 137]) [0] fun K k65 => ?_
        simp [sp15, sp18, sp13, c51, c51g]
        repeat refine And.intro (by first | omega | (simp [*]; done) | grind) ?_
        refine kcong (s' := ⟨[(0, .d (enc (false : Bool)))], [.var 42 (cellsT (.d (enc ((made 5 3 1) : Event)))), .var 42 (cellsT (.d (enc ((made 6 3 2) : Event)))), .var 42 (cellsT (.d (enc ((⟨6, 4, 2, 8, (⟨0, 0, 0, (⟨0, 0, 0⟩ : Reader), 0, 0, 0, ⟨#[]⟩⟩ : Mark)⟩ : Event) : Event)))), .var 42 (cellsT (.d (enc ((⟨1, 4, 3, 2, (⟨0, 0, 0, (⟨0, 0, 0⟩ : Reader), 0, 0, 0, ⟨#[]⟩⟩ : Mark)⟩ : Event) : Event))))]⟩) (by first | rfl | (simp [sp15, sp18, sp13, c51, c51g]; done) | (simp [sp15, sp18, sp13, c51, c51g]; grind)) (k65 _ ?_)
        have hx49 := Option.some.inj hx49
        subst hx49
        refine k50 _ ?_
        show Sub _ ⟨[(0, .d (enc (false : Bool)))], []⟩
        exact Sub.ren [] (by decide) (by first | rfl | simp [renL, AO.ren, forgetsR, T.ren, idx, Eva.get]) (by first | exact ⟨rfl, trivial⟩ | (simp [renL, AO.ren, forgetsR, T.ren, idx, Eva.get]; done) | (simp [renL, AO.ren, forgetsR, T.ren, idx, Eva.get]; grind))
    · intro s' hs
      refine AWp.sub hs ?_
      clear hs s'
      refine AWp.ret ?_
      refine hQ _ _ (.inl rfl) ?_
      have hg := Option.some.inj hg
      subst hg
      first | (simp [retOk, resT, loadAs]; done) | (simp [retOk, resT, loadAs]; grind)
end Go.Proofs.Ytpbhcpeilgmkeaa

/-
  Programs of the events: printed by gen2.py (extraction).
-/
namespace Go.Proofs.Ytpbhcpeilgmkeaa
open Go Go.Eva Enc
set_option linter.unusedVariables false
noncomputable def lawMatches_r1 (l : (List Event)) (more : (List Event)) : Option Bool :=
  (ifb (!(decide ((l : List Event).length ≤ 60))) (some true) (some (!(decide ((more : List Event).length ≤ 60)))))
noncomputable def lawMatches_r2 (l : (List Event)) (more : (List Event)) (x2 : Bool) (x14 : (List Event)) (x15 : Int) : Option Bool :=
  (ifb x2 (grd ((l : List Event).length ≤ 1000000000) (grd ((l : List Event).length ≤ 1000000000) (grd ((x14 : List Event).length ≤ 1000000000) (ifb (decide (x14 = (radd l more).1)) (some (decide (x15 = (radd l more).2))) (some false))))) (some false))
noncomputable def lawMatches_r3 (y23u7 : Bool) (x31 : (List Mark)) (x32 : Int) (x35 : (List Mark)) (x36 : Int) : Option Bool :=
  (ifb y23u7 (grd ((x31 : List Mark).length ≤ 1000000000) (ifb (decide (x31 = x35)) (some (decide (x32 = x36))) (some false))) (some false))
noncomputable def lawMatches_r4 (y40u7 : Bool) : Option Bool :=
  (ifb y40u7 (some true) (some false))
noncomputable def lawMatches (l : (List Event)) (more : (List Event)) (stand : Int) : Option Bool :=
  bnd (headP) fun x2 =>
  bnd (lawMatches_r1 l more) fun y6u24 =>
  ifb y6u24 (some x2)
  (bnd (eAdd l more) fun (x14, x15) =>
  grd ((l : List Event).length ≤ 100000000 ∧ (more : List Event).length ≤ 100000000) (bnd (lawMatches_r2 l more x2 x14 x15) fun y23u7 =>
  bnd (eMarks l) fun (x31, x32) =>
  bnd (rMarks l) fun (x35, x36) =>
  bnd (lawMatches_r3 y23u7 x31 x32 x35 x36) fun y40u7 =>
  grd ((l : List Event).length ≤ 1000000000) (grd ((l : List Event).length ≤ 1000000000) (bnd (lawMatches_r4 y40u7) fun y52u6 =>
  some y52u6))))
end Go.Proofs.Ytpbhcpeilgmkeaa

/-
  Walks of the events: printed by gen2.py (extraction).
-/
namespace Go.Proofs.Ytpbhcpeilgmkeaa
open Go Go.Eva Enc
set_option linter.unusedSectionVars false
set_option linter.unusedSimpArgs false
set_option linter.unusedVariables false
set_option maxRecDepth 4000
attribute [local congr] AWp.congrS
attribute [local simp] evalSeq opRes guardPc evalOp evT Eva.get startT strip putT Eva.after constT typed obAll holds dstOk R.ok R.bad ofD binD unD pickT subL subP Op.operands Call.operands toD argsD callD callT typedAll cfind quietT spec0 spec1 spec2 spec3 enc_int enc_bool enc_str enc_fn enc_list dec_int dec_bool dec_str dec_fn dec_list size_int size_str enc_R enc_M enc_E dec_R dec_M dec_E size_R size_M size_E eta_R eta_M eta_E enc_rune size_rune dec_rune eta_rune runesD_eq map_dec_enc map_dec_comp cellsT D.cells T.oneT D.one mkT unD1 setAt loadAs loadEl storeAs fieldP fieldV sizeE intOfT indexP appendT lenT sliceT elemSize arith lfsOk lfOk beqL_R beqL_M beqL_E beqL_R0 beqL_M0 isAggD mkD fillD placeS TD.agg env restr List.map keyIdx mapTy lookT mapPutT mapDelT mapOf indexS convT evalPure range1 range2 range3 range4 eqT4 eqT38 eqT40 eqT42 te1 te2 te3 te4 te5 te6 te7 te8 te9 te10 te11 te12 te13 te14 te15 te16 te17 te18 te19 te21 te22 te23 te24 te25 te27 te28 te29 te31 te32 te34 te35 te36 te37 te38 te39 te40 te41 te42 te43 te44 te45 te46 te47 te49 te50 te51 te52 te53 te54 te55 te56 te57 te59 te60 te61 te62 te63 te64 te65 te66 te67 te68 te69 te70 te71 te72 te73 te74 te75 te76 te77 te78 te79 te80 te82 te83 te84 te85 te86 te87 te88 te90 te91 te92 te94 te95 te96 te97 te98 te99 te100 te101 te102 te103 te104 te105 te106 te107 te108 te109 te110 te111 te112 te113 te114 te116 te117 te118 te119 te120 te121 te122 te123 te124 te125 te126 te127 te128 te129 te130 te131 te132 te133 te134 enc_intk size_intk dec_intk eta_intk range5 range6 range7 range8 keysInt_nil keyIdx_E keysInt_E okKeys_E isE_iff put_E del_E get_E getok_E mkeys_E mkeys_E' mkeys_enc specO0 specO1 specO2 specO3 specO4 opD skips gone List.contains_cons List.contains_nil envF fenv

noncomputable def sp3 : Eva.Spec := specO3 fun (l : (List Event)) (more : (List Event)) (stand : Int) => (lawMatches l more stand).map fun r => enc r
set_option maxHeartbeats 4000000 in
theorem ok3 : SpecOk Try.prog 3 sp3 := by
  have hV : VOk Try.prog (envF [(9, sp9), (10, sp10), (11, sp11), (12, sp12), (13, sp13), (14, sp14), (15, sp15), (16, sp16), (17, sp17), (18, sp18), (19, sp19), (20, sp20)]) := envF_ok ⟨ok9, ok10, ok11, ok12, ok13, ok14, ok15, ok16, ok17, ok18, ok19, ok20, trivial⟩
  refine SpecOk.ofO3 (Enters.of Try.func3 (by decide)) ?_
  intro l more stand rr hr
  obtain ⟨r, hg, rfl⟩ := Option.map_eq_some_iff.1 hr
  clear hr
  refine PureCon.ofQ hV Try.func3 rfl (by rw [Try.ntmps3]; simp) fun w0 I0 Q hQ => ?_
  rw [Try.ntmps3]
  unfold lawMatches at hg
  refine AWp.rS hV none [0, 1, 2] fun K k1 => ?_
  simp
  repeat refine And.intro (by first | omega | (simp [*]; done) | grind) ?_
  refine kcong (s' := ⟨[(0, .d (enc (l : (List Event)))), (1, .d (enc (more : (List Event)))), (2, .d (enc (stand : Int)))], []⟩) (by first | rfl | (simp []; done) | (simp []; grind)) (k1 _ ?_)
  obtain ⟨x2, h3, hg⟩ := bnd_some hg
  have h3g := h3
  try simp at h3g
  refine AWp.rS hV none [0, 1, 2, 7] fun K k4 => ?_
  simp [sp9, h3, h3g]
  repeat refine And.intro (by first | omega | (simp [*]; done) | grind) ?_
  refine kcong (s' := ⟨[(0, .d (enc (l : (List Event)))), (1, .d (enc (more : (List Event)))), (2, .d (enc (stand : Int))), (7, .d (enc (x2 : Bool)))], []⟩) (by first | rfl | (simp [sp9, h3, h3g]; done) | (simp [sp9, h3, h3g]; grind)) (k4 _ ?_)
  refine AWp.seqG fun _ k5 => ?_
  obtain ⟨y6u24, hx7, hg⟩ := bnd_some hg
  unfold lawMatches_r1 at hx7
  refine AWp.seqJ (fun s' => Sub s' ⟨[(0, .d (enc (l : (List Event)))), (1, .d (enc (more : (List Event)))), (2, .d (enc (stand : Int))), (7, .d (enc (x2 : Bool))), (24, .d (enc (y6u24 : Bool)))], []⟩) (fun _ k8 => ?_) ?_
  · rcases Bool.eq_false_or_eq_true (!(decide ((l : List Event).length ≤ 60))) with c9 | c9
    · replace hx7 := ifb_t c9 hx7
      have c9g := c9
      try simp at c9g
      refine AWp.regF hV (some [21, 22, 23]) [0, 1, 2, 7, 24] fun K k10 => ?_
      simp [sp10, c9, c9g]
      repeat refine And.intro (by first | omega | (simp [*]; done) | grind) ?_
      refine kcong (s' := ⟨[(0, .d (enc (l : (List Event)))), (1, .d (enc (more : (List Event)))), (2, .d (enc (stand : Int))), (7, .d (enc (x2 : Bool))), (24, .d (enc (true : Bool)))], []⟩) (by first | rfl | (simp [sp10, c9, c9g]; done) | (simp [sp10, c9, c9g]; grind)) (k10 _ ?_)
      have hx7 := Option.some.inj hx7
      subst hx7
      refine k8 _ ?_
      show Sub _ ⟨[(0, .d (enc (l : (List Event)))), (1, .d (enc (more : (List Event)))), (2, .d (enc (stand : Int))), (7, .d (enc (x2 : Bool))), (24, .d (enc (true : Bool)))], []⟩
      exact Sub.ren [] (by decide) (by first | rfl | simp [renL, AO.ren, forgetsR, T.ren, idx, Eva.get]) (by first | exact ⟨rfl, rfl, rfl, rfl, rfl, trivial⟩ | (simp [renL, AO.ren, forgetsR, T.ren, idx, Eva.get]; done) | (simp [renL, AO.ren, forgetsR, T.ren, idx, Eva.get]; grind))
    · replace hx7 := ifb_f c9 hx7
      have c9g := c9
      try simp at c9g
      refine AWp.regF hV (some []) [0, 1, 2, 7, 24] fun K k11 => ?_
      simp [sp10, c9, c9g]
      repeat refine And.intro (by first | omega | (simp [*]; done) | grind) ?_
      refine kcong (s' := ⟨[(0, .d (enc (l : (List Event)))), (1, .d (enc (more : (List Event)))), (2, .d (enc (stand : Int))), (7, .d (enc (x2 : Bool))), (24, .d (enc ((!(decide ((more : List Event).length ≤ 60))) : Bool)))], []⟩) (by first | rfl | (simp [sp10, c9, c9g]; done) | (simp [sp10, c9, c9g]; grind)) (k11 _ ?_)
      have hx7 := Option.some.inj hx7
      subst hx7
      refine k8 _ ?_
      show Sub _ ⟨[(0, .d (enc (l : (List Event)))), (1, .d (enc (more : (List Event)))), (2, .d (enc (stand : Int))), (7, .d (enc (x2 : Bool))), (24, .d (enc ((!(decide ((more : List Event).length ≤ 60))) : Bool)))], []⟩
      exact Sub.ren [] (by decide) (by first | rfl | simp [renL, AO.ren, forgetsR, T.ren, idx, Eva.get]) (by first | exact ⟨rfl, rfl, rfl, rfl, rfl, trivial⟩ | (simp [renL, AO.ren, forgetsR, T.ren, idx, Eva.get]; done) | (simp [renL, AO.ren, forgetsR, T.ren, idx, Eva.get]; grind))
  · intro s' hs
    refine AWp.sub hs ?_
    clear hs s'
    refine AWp.cond (b := y6u24) rfl (fun h12 => ?_) fun h12 => ?_
    · replace hg := ifb_t h12 hg
      refine AWp.rS hV none [6] fun K k13 => ?_
      simp
      repeat refine And.intro (by first | omega | (simp [*]; done) | grind) ?_
      refine kcong (s' := ⟨[(6, .d (enc (x2 : Bool)))], []⟩) (by first | rfl | (simp []; done) | (simp []; grind)) (k13 _ ?_)
      refine AWp.ret ?_
      refine hQ _ _ (.inl rfl) ?_
      have hg := Option.some.inj hg
      subst hg
      first | (simp [retOk, resT, loadAs]; done) | (simp [retOk, resT, loadAs]; grind)
    · replace hg := ifb_f h12 hg
      refine AWp.skip ?_
      refine k5 _ ?_
      obtain ⟨⟨x14, x15⟩, h16, hg⟩ := bnd_some hg
      try dsimp only at hg
      have h16g := h16
      try simp at h16g
      refine AWp.rS hV none [0, 1, 2, 7, 8, 9] fun K k17 => ?_
      simp [sp11, h16, h16g]
      repeat refine And.intro (by first | omega | (simp [*]; done) | grind) ?_
      refine kcong (s' := ⟨[(0, .d (enc (l : (List Event)))), (1, .d (enc (more : (List Event)))), (2, .d (enc (stand : Int))), (7, .d (enc (x2 : Bool))), (8, .d (enc (x14 : (List Event)))), (9, .d (enc (x15 : Int)))], []⟩) (by first | rfl | (simp [sp11, h16, h16g]; done) | (simp [sp11, h16, h16g]; grind)) (k17 _ ?_)
      obtain ⟨g18, hg⟩ := grd_some hg
      refine AWp.rS hV none [0, 2, 7, 8, 9, 10, 11] fun K k19 => ?_
      simp [sp12]
      repeat refine And.intro (by first | omega | (simp [*]; done) | grind) ?_
      refine kcong (s' := ⟨[(0, .d (enc (l : (List Event)))), (2, .d (enc (stand : Int))), (7, .d (enc (x2 : Bool))), (8, .d (enc (x14 : (List Event)))), (9, .d (enc (x15 : Int))), (10, .d (enc ((radd l more).1 : (List Event)))), (11, .d (enc ((radd l more).2 : Int)))], []⟩) (by first | rfl | (simp [sp12]; done) | (simp [sp12]; grind)) (k19 _ ?_)
      obtain ⟨y23u7, hx24, hg⟩ := bnd_some hg
      unfold lawMatches_r2 at hx24
      refine AWp.seqJ (fun s' => Sub s' ⟨[(0, .d (enc (l : (List Event)))), (2, .d (enc (stand : Int))), (7, .d (enc (y23u7 : Bool)))], []⟩) (fun _ k25 => ?_) ?_
      · rcases Bool.eq_false_or_eq_true x2 with c26 | c26
        · replace hx24 := ifb_t c26 hx24
          have c26g := c26
          try simp at c26g
          obtain ⟨g20, hx24⟩ := grd_some hx24
          obtain ⟨g21, hx24⟩ := grd_some hx24
          obtain ⟨g22, hx24⟩ := grd_some hx24
          rcases Bool.eq_false_or_eq_true (decide (x14 = (radd l more).1)) with c27 | c27
          · replace hx24 := ifb_t c27 hx24
            have c27g := c27
            try simp at c27g
            refine AWp.regF hV (some []) [0, 2, 7] fun K k28 => ?_
            simp [sp13, sp14, sp15, c26, c26g, c27, c27g]
            repeat refine And.intro (by first | omega | (simp [*]; done) | grind) ?_
            refine kcong (s' := ⟨[(0, .d (enc (l : (List Event)))), (2, .d (enc (stand : Int))), (7, .d (enc ((decide (x15 = (radd l more).2)) : Bool)))], []⟩) (by first | rfl | (simp [sp13, sp14, sp15, c26, c26g, c27, c27g]; done) | (simp [sp13, sp14, sp15, c26, c26g, c27, c27g]; grind)) (k28 _ ?_)
            have hx24 := Option.some.inj hx24
            subst hx24
            refine k25 _ ?_
            show Sub _ ⟨[(0, .d (enc (l : (List Event)))), (2, .d (enc (stand : Int))), (7, .d (enc ((decide (x15 = (radd l more).2)) : Bool)))], []⟩
            exact Sub.ren [] (by decide) (by first | rfl | simp [renL, AO.ren, forgetsR, T.ren, idx, Eva.get]) (by first | exact ⟨rfl, rfl, rfl, trivial⟩ | (simp [renL, AO.ren, forgetsR, T.ren, idx, Eva.get]; done) | (simp [renL, AO.ren, forgetsR, T.ren, idx, Eva.get]; grind))
          · replace hx24 := ifb_f c27 hx24
            have c27g := c27
            try simp at c27g
            refine AWp.regF hV (some [52, 53, 54]) [0, 2, 7] fun K k29 => ?_
            simp [sp13, sp14, sp15, c26, c26g, c27, c27g]
            repeat refine And.intro (by first | omega | (simp [*]; done) | grind) ?_
            refine kcong (s' := ⟨[(0, .d (enc (l : (List Event)))), (2, .d (enc (stand : Int))), (7, .d (enc (false : Bool)))], []⟩) (by first | rfl | (simp [sp13, sp14, sp15, c26, c26g, c27, c27g]; done) | (simp [sp13, sp14, sp15, c26, c26g, c27, c27g]; grind)) (k29 _ ?_)
            have hx24 := Option.some.inj hx24
            subst hx24
            refine k25 _ ?_
            show Sub _ ⟨[(0, .d (enc (l : (List Event)))), (2, .d (enc (stand : Int))), (7, .d (enc (false : Bool)))], []⟩
            exact Sub.ren [] (by decide) (by first | rfl | simp [renL, AO.ren, forgetsR, T.ren, idx, Eva.get]) (by first | exact ⟨rfl, rfl, rfl, trivial⟩ | (simp [renL, AO.ren, forgetsR, T.ren, idx, Eva.get]; done) | (simp [renL, AO.ren, forgetsR, T.ren, idx, Eva.get]; grind))
        · replace hx24 := ifb_f c26 hx24
          have c26g := c26
          try simp at c26g
          refine AWp.regF hV (some [40, 41, 42, 43, 44, 47, 48, 49, 52, 53, 54]) [0, 2, 7] fun K k30 => ?_
          simp [sp13, sp14, sp15, c26, c26g]
          repeat refine And.intro (by first | omega | (simp [*]; done) | grind) ?_
          refine kcong (s' := ⟨[(0, .d (enc (l : (List Event)))), (2, .d (enc (stand : Int))), (7, .d (enc (false : Bool)))], []⟩) (by first | rfl | (simp [sp13, sp14, sp15, c26, c26g]; done) | (simp [sp13, sp14, sp15, c26, c26g]; grind)) (k30 _ ?_)
          have hx24 := Option.some.inj hx24
          subst hx24
          refine k25 _ ?_
          show Sub _ ⟨[(0, .d (enc (l : (List Event)))), (2, .d (enc (stand : Int))), (7, .d (enc (false : Bool)))], []⟩
          exact Sub.ren [] (by decide) (by first | rfl | simp [renL, AO.ren, forgetsR, T.ren, idx, Eva.get]) (by first | exact ⟨rfl, rfl, rfl, trivial⟩ | (simp [renL, AO.ren, forgetsR, T.ren, idx, Eva.get]; done) | (simp [renL, AO.ren, forgetsR, T.ren, idx, Eva.get]; grind))
      · intro s' hs
        refine AWp.sub hs ?_
        clear hs s'
        obtain ⟨⟨x31, x32⟩, h33, hg⟩ := bnd_some hg
        try dsimp only at hg
        have h33g := h33
        try simp at h33g
        refine AWp.rS hV none [0, 2, 7, 9, 12] fun K k34 => ?_
        simp [sp16, h33, h33g]
        repeat refine And.intro (by first | omega | (simp [*]; done) | grind) ?_
        refine kcong (s' := ⟨[(0, .d (enc (l : (List Event)))), (2, .d (enc (stand : Int))), (7, .d (enc (y23u7 : Bool))), (9, .d (enc (x32 : Int))), (12, .d (enc (x31 : (List Mark))))], []⟩) (by first | rfl | (simp [sp16, h33, h33g]; done) | (simp [sp16, h33, h33g]; grind)) (k34 _ ?_)
        obtain ⟨⟨x35, x36⟩, h37, hg⟩ := bnd_some hg
        try dsimp only at hg
        have h37g := h37
        try simp at h37g
        refine AWp.rS hV none [0, 2, 7, 9, 11, 12, 13] fun K k38 => ?_
        simp [sp17, h37, h37g]
        repeat refine And.intro (by first | omega | (simp [*]; done) | grind) ?_
        refine kcong (s' := ⟨[(0, .d (enc (l : (List Event)))), (2, .d (enc (stand : Int))), (7, .d (enc (y23u7 : Bool))), (9, .d (enc (x32 : Int))), (11, .d (enc (x36 : Int))), (12, .d (enc (x31 : (List Mark)))), (13, .d (enc (x35 : (List Mark))))], []⟩) (by first | rfl | (simp [sp17, h37, h37g]; done) | (simp [sp17, h37, h37g]; grind)) (k38 _ ?_)
        obtain ⟨y40u7, hx41, hg⟩ := bnd_some hg
        unfold lawMatches_r3 at hx41
        refine AWp.seqJ (fun s' => Sub s' ⟨[(0, .d (enc (l : (List Event)))), (2, .d (enc (stand : Int))), (7, .d (enc (y40u7 : Bool)))], []⟩) (fun _ k42 => ?_) ?_
        · rcases Bool.eq_false_or_eq_true y23u7 with c43 | c43
          · replace hx41 := ifb_t c43 hx41
            have c43g := c43
            try simp at c43g
            obtain ⟨g39, hx41⟩ := grd_some hx41
            rcases Bool.eq_false_or_eq_true (decide (x31 = x35)) with c44 | c44
            · replace hx41 := ifb_t c44 hx41
              have c44g := c44
              try simp at c44g
              refine AWp.regF hV (some []) [0, 2, 7] fun K k45 => ?_
              simp [sp18, c43, c43g, c44, c44g]
              repeat refine And.intro (by first | omega | (simp [*]; done) | grind) ?_
              refine kcong (s' := ⟨[(0, .d (enc (l : (List Event)))), (2, .d (enc (stand : Int))), (7, .d (enc ((decide (x32 = x36)) : Bool)))], []⟩) (by first | rfl | (simp [sp18, c43, c43g, c44, c44g]; done) | (simp [sp18, c43, c43g, c44, c44g]; grind)) (k45 _ ?_)
              have hx41 := Option.some.inj hx41
              subst hx41
              refine k42 _ ?_
              show Sub _ ⟨[(0, .d (enc (l : (List Event)))), (2, .d (enc (stand : Int))), (7, .d (enc ((decide (x32 = x36)) : Bool)))], []⟩
              exact Sub.ren [] (by decide) (by first | rfl | simp [renL, AO.ren, forgetsR, T.ren, idx, Eva.get]) (by first | exact ⟨rfl, rfl, rfl, trivial⟩ | (simp [renL, AO.ren, forgetsR, T.ren, idx, Eva.get]; done) | (simp [renL, AO.ren, forgetsR, T.ren, idx, Eva.get]; grind))
            · replace hx41 := ifb_f c44 hx41
              have c44g := c44
              try simp at c44g
              refine AWp.regF hV (some [73, 74, 75]) [0, 2, 7] fun K k46 => ?_
              simp [sp18, c43, c43g, c44, c44g]
              repeat refine And.intro (by first | omega | (simp [*]; done) | grind) ?_
              refine kcong (s' := ⟨[(0, .d (enc (l : (List Event)))), (2, .d (enc (stand : Int))), (7, .d (enc (false : Bool)))], []⟩) (by first | rfl | (simp [sp18, c43, c43g, c44, c44g]; done) | (simp [sp18, c43, c43g, c44, c44g]; grind)) (k46 _ ?_)
              have hx41 := Option.some.inj hx41
              subst hx41
              refine k42 _ ?_
              show Sub _ ⟨[(0, .d (enc (l : (List Event)))), (2, .d (enc (stand : Int))), (7, .d (enc (false : Bool)))], []⟩
              exact Sub.ren [] (by decide) (by first | rfl | simp [renL, AO.ren, forgetsR, T.ren, idx, Eva.get]) (by first | exact ⟨rfl, rfl, rfl, trivial⟩ | (simp [renL, AO.ren, forgetsR, T.ren, idx, Eva.get]; done) | (simp [renL, AO.ren, forgetsR, T.ren, idx, Eva.get]; grind))
          · replace hx41 := ifb_f c43 hx41
            have c43g := c43
            try simp at c43g
            refine AWp.regF hV (some [68, 69, 70, 73, 74, 75]) [0, 2, 7] fun K k47 => ?_
            simp [sp18, c43, c43g]
            repeat refine And.intro (by first | omega | (simp [*]; done) | grind) ?_
            refine kcong (s' := ⟨[(0, .d (enc (l : (List Event)))), (2, .d (enc (stand : Int))), (7, .d (enc (false : Bool)))], []⟩) (by first | rfl | (simp [sp18, c43, c43g]; done) | (simp [sp18, c43, c43g]; grind)) (k47 _ ?_)
            have hx41 := Option.some.inj hx41
            subst hx41
            refine k42 _ ?_
            show Sub _ ⟨[(0, .d (enc (l : (List Event)))), (2, .d (enc (stand : Int))), (7, .d (enc (false : Bool)))], []⟩
            exact Sub.ren [] (by decide) (by first | rfl | simp [renL, AO.ren, forgetsR, T.ren, idx, Eva.get]) (by first | exact ⟨rfl, rfl, rfl, trivial⟩ | (simp [renL, AO.ren, forgetsR, T.ren, idx, Eva.get]; done) | (simp [renL, AO.ren, forgetsR, T.ren, idx, Eva.get]; grind))
        · intro s' hs
          refine AWp.sub hs ?_
          clear hs s'
          obtain ⟨g48, hg⟩ := grd_some hg
          refine AWp.rS hV none [0, 2, 7, 9, 14] fun K k49 => ?_
          simp [sp19]
          repeat refine And.intro (by first | omega | (simp [*]; done) | grind) ?_
          refine kcong (s' := ⟨[(0, .d (enc (l : (List Event)))), (2, .d (enc (stand : Int))), (7, .d (enc (y40u7 : Bool))), (9, .d (enc ((knownR l stand).2 : Int))), (14, .d (enc ((knownR l stand).1 : Int)))], []⟩) (by first | rfl | (simp [sp19]; done) | (simp [sp19]; grind)) (k49 _ ?_)
          obtain ⟨g50, hg⟩ := grd_some hg
          refine AWp.rS hV none [7, 9, 11, 14, 15] fun K k51 => ?_
          simp [sp20]
          repeat refine And.intro (by first | omega | (simp [*]; done) | grind) ?_
          refine kcong (s' := ⟨[(7, .d (enc (y40u7 : Bool))), (9, .d (enc ((knownR l stand).2 : Int))), (11, .d (enc ((knownR l stand).2 : Int))), (14, .d (enc ((knownR l stand).1 : Int))), (15, .d (enc ((knownR l stand).1 : Int)))], []⟩) (by first | rfl | (simp [sp20]; done) | (simp [sp20]; grind)) (k51 _ ?_)
          obtain ⟨y52u6, hx53, hg⟩ := bnd_some hg
          unfold lawMatches_r4 at hx53
          refine AWp.seqJ (fun s' => Sub s' ⟨[(6, .d (enc (y52u6 : Bool)))], []⟩) (fun _ k54 => ?_) ?_
          · rcases Bool.eq_false_or_eq_true y40u7 with c55 | c55
            · replace hx53 := ifb_t c55 hx53
              have c55g := c55
              try simp at c55g
              refine AWp.regF hV (some []) [6] fun K k56 => ?_
              simp [c55, c55g]
              repeat refine And.intro (by first | omega | (simp [*]; done) | grind) ?_
              refine kcong (s' := ⟨[(6, .d (enc (true : Bool)))], []⟩) (by first | rfl | (simp [c55, c55g]; done) | (simp [c55, c55g]; grind)) (k56 _ ?_)
              have hx53 := Option.some.inj hx53
              subst hx53
              refine k54 _ ?_
              show Sub _ ⟨[(6, .d (enc (true : Bool)))], []⟩
              exact Sub.ren [] (by decide) (by first | rfl | simp [renL, AO.ren, forgetsR, T.ren, idx, Eva.get]) (by first | exact ⟨rfl, trivial⟩ | (simp [renL, AO.ren, forgetsR, T.ren, idx, Eva.get]; done) | (simp [renL, AO.ren, forgetsR, T.ren, idx, Eva.get]; grind))
            · replace hx53 := ifb_f c55 hx53
              have c55g := c55
              try simp at c55g
              refine AWp.regF hV (some [91, 92, 93, 96, 97, 98]) [6] fun K k57 => ?_
              simp [c55, c55g]
              repeat refine And.intro (by first | omega | (simp [*]; done) | grind) ?_
              refine kcong (s' := ⟨[(6, .d (enc (false : Bool)))], []⟩) (by first | rfl | (simp [c55, c55g]; done) | (simp [c55, c55g]; grind)) (k57 _ ?_)
              have hx53 := Option.some.inj hx53
              subst hx53
              refine k54 _ ?_
              show Sub _ ⟨[(6, .d (enc (false : Bool)))], []⟩
              exact Sub.ren [] (by decide) (by first | rfl | simp [renL, AO.ren, forgetsR, T.ren, idx, Eva.get]) (by first | exact ⟨rfl, trivial⟩ | (simp [renL, AO.ren, forgetsR, T.ren, idx, Eva.get]; done) | (simp [renL, AO.ren, forgetsR, T.ren, idx, Eva.get]; grind))
          · intro s' hs
            refine AWp.sub hs ?_
            clear hs s'
            refine AWp.ret ?_
            refine hQ _ _ (.inl rfl) ?_
            have hg := Option.some.inj hg
            subst hg
            first | (simp [retOk, resT, loadAs]; done) | (simp [retOk, resT, loadAs]; grind)
end Go.Proofs.Ytpbhcpeilgmkeaa

/-
  Programs of the events: printed by gen2.py (extraction).
-/
namespace Go.Proofs.Ytpbhcpeilgmkeaa
open Go Go.Eva Enc
set_option linter.unusedVariables false
noncomputable def lawJoin_r1 (l : (List Event)) (m : (List Event)) (n : (List Event)) : Option Bool :=
  (bnd (formedP l) fun x6 =>
  ifb (!x6) (some true) (bnd (formedP m) fun x8 =>
  ifb (!x8) (some true) (bnd (formedP n) fun x10 =>
  some (!x10))))
noncomputable def lawJoin_r2 (x23 : Int) (x27 : Int) (x31 : Int) : Option Bool :=
  (ifb (!decide (x23 = 0)) (some true) (ifb (!decide (x27 = 0)) (some true) (some (!decide (x31 = 0)))))
noncomputable def lawJoin_r3 (x22 : (List Event)) (x45 : (List Event)) (x46 : Int) (x52 : (List Event)) (x53 : Int) (x56 : (List Event)) (x57 : Int) (x60 : (List Event)) (x61 : Int) : Option Bool :=
  (ifb (!decide (x46 = 0)) (some true) (ifb (!decide (x53 = 0)) (some true) (grd ((x45 : List Event).length ≤ 1000000000) (ifb (!(decide (x45 = x22))) (some true) (grd ((x52 : List Event).length ≤ 1000000000) (ifb (!(decide (x52 = x22))) (some true) (ifb (!decide (x57 = x61)) (some true) (grd ((x56 : List Event).length ≤ 1000000000) (some (!(decide (x56 = x60))))))))))))
noncomputable def lawJoin_r4 (x57 : Int) (x85 : Int) : Option Bool :=
  (ifb (!decide (x57 = 0)) (some true) (some (!decide (x85 = 0))))
noncomputable def lawJoin_r5 (x2 : Bool) (x97 : (List Event)) (x98 : Int) (x101 : (List Event)) (x102 : Int) : Option Bool :=
  (ifb x2 (ifb (decide (x98 = x102)) (grd ((x97 : List Event).length ≤ 1000000000) (some (decide (x97 = x101)))) (some false)) (some false))
noncomputable def lawJoin (l : (List Event)) (m : (List Event)) (n : (List Event)) (part : (IntK .u8)) : Option Bool :=
  bnd (headP) fun x2 =>
  bnd (lawJoin_r1 l m n) fun y12u43 =>
  ifb y12u43 (some x2)
  (bnd (eAdd ([]) l) fun (x22, x23) =>
  bnd (eAdd ([]) m) fun (x26, x27) =>
  bnd (eAdd ([]) n) fun (x30, x31) =>
  bnd (lawJoin_r2 x23 x27 x31) fun y35u69 =>
  ifb y35u69 (some x2)
  (bnd (eAdd x22 x22) fun (x45, x46) =>
  grd (inI ((l.length : Int) + 1)) (grd (0 ≤ (IntKind.wrap .i64 part.n) ∧ 0 < ((l.length : Int) + 1)) (grd (0 ≤ ((IntKind.wrap .i64 part.n) % ((l.length : Int) + 1)) ∧ ((IntKind.wrap .i64 part.n) % ((l.length : Int) + 1)) ≤ (l.length : Int)) (bnd (eAdd x22 (l.take ((IntKind.wrap .i64 part.n) % ((l.length : Int) + 1)).toNat)) fun (x52, x53) =>
  bnd (eAdd x22 x26) fun (x56, x57) =>
  bnd (eAdd x26 x22) fun (x60, x61) =>
  bnd (lawJoin_r3 x22 x45 x46 x52 x53 x56 x57 x60 x61) fun y68u130 =>
  ifb y68u130 (some false)
  (bnd (eAdd x26 x30) fun (x84, x85) =>
  bnd (lawJoin_r4 x57 x85) fun y89u142 =>
  ifb y89u142 (some x2)
  (bnd (eAdd x56 x30) fun (x97, x98) =>
  bnd (eAdd x22 x84) fun (x101, x102) =>
  bnd (lawJoin_r5 x2 x97 x98 x101 x102) fun y106u8 =>
  some y106u8)))))))
end Go.Proofs.Ytpbhcpeilgmkeaa

/-
  Walks of the events: printed by gen2.py (extraction).
-/
namespace Go.Proofs.Ytpbhcpeilgmkeaa
open Go Go.Eva Enc
set_option linter.unusedSectionVars false
set_option linter.unusedSimpArgs false
set_option linter.unusedVariables false
set_option maxRecDepth 4000
attribute [local congr] AWp.congrS
attribute [local simp] evalSeq opRes guardPc evalOp evT Eva.get startT strip putT Eva.after constT typed obAll holds dstOk R.ok R.bad ofD binD unD pickT subL subP Op.operands Call.operands toD argsD callD callT typedAll cfind quietT spec0 spec1 spec2 spec3 enc_int enc_bool enc_str enc_fn enc_list dec_int dec_bool dec_str dec_fn dec_list size_int size_str enc_R enc_M enc_E dec_R dec_M dec_E size_R size_M size_E eta_R eta_M eta_E enc_rune size_rune dec_rune eta_rune runesD_eq map_dec_enc map_dec_comp cellsT D.cells T.oneT D.one mkT unD1 setAt loadAs loadEl storeAs fieldP fieldV sizeE intOfT indexP appendT lenT sliceT elemSize arith lfsOk lfOk beqL_R beqL_M beqL_E beqL_R0 beqL_M0 isAggD mkD fillD placeS TD.agg env restr List.map keyIdx mapTy lookT mapPutT mapDelT mapOf indexS convT evalPure range1 range2 range3 range4 eqT4 eqT38 eqT40 eqT42 te1 te2 te3 te4 te5 te6 te7 te8 te9 te10 te11 te12 te13 te14 te15 te16 te17 te18 te19 te21 te22 te23 te24 te25 te27 te28 te29 te31 te32 te34 te35 te36 te37 te38 te39 te40 te41 te42 te43 te44 te45 te46 te47 te49 te50 te51 te52 te53 te54 te55 te56 te57 te59 te60 te61 te62 te63 te64 te65 te66 te67 te68 te69 te70 te71 te72 te73 te74 te75 te76 te77 te78 te79 te80 te82 te83 te84 te85 te86 te87 te88 te90 te91 te92 te94 te95 te96 te97 te98 te99 te100 te101 te102 te103 te104 te105 te106 te107 te108 te109 te110 te111 te112 te113 te114 te116 te117 te118 te119 te120 te121 te122 te123 te124 te125 te126 te127 te128 te129 te130 te131 te132 te133 te134 enc_intk size_intk dec_intk eta_intk range5 range6 range7 range8 keysInt_nil keyIdx_E keysInt_E okKeys_E isE_iff put_E del_E get_E getok_E mkeys_E mkeys_E' mkeys_enc specO0 specO1 specO2 specO3 specO4 opD skips gone List.contains_cons List.contains_nil envF fenv

noncomputable def sp5 : Eva.Spec := specO4 fun (l : (List Event)) (m : (List Event)) (n : (List Event)) (part : (IntK .u8)) => (lawJoin l m n part).map fun r => enc r
set_option maxHeartbeats 4000000 in
theorem ok5 : SpecOk Try.prog 5 sp5 := by
  have hV : VOk Try.prog (envF [(9, sp9), (21, tp21), (11, sp11), (15, sp15)]) := envF_ok ⟨ok9, tk21, ok11, ok15, trivial⟩
  refine SpecOk.ofO4 (Enters.of Try.func5 (by decide)) ?_
  intro l m n part rr hr
  obtain ⟨r, hg, rfl⟩ := Option.map_eq_some_iff.1 hr
  clear hr
  refine PureCon.ofQ hV Try.func5 rfl (by rw [Try.ntmps5]; simp) fun w0 I0 Q hQ => ?_
  rw [Try.ntmps5]
  unfold lawJoin at hg
  refine AWp.rS hV none [0, 1, 2, 3] fun K k1 => ?_
  simp
  repeat refine And.intro (by first | omega | (simp [*]; done) | grind) ?_
  refine kcong (s' := ⟨[(0, .d (enc (l : (List Event)))), (1, .d (enc (m : (List Event)))), (2, .d (enc (n : (List Event)))), (3, .d (enc (part : (IntK .u8))))], []⟩) (by first | rfl | (simp []; done) | (simp []; grind)) (k1 _ ?_)
  obtain ⟨x2, h3, hg⟩ := bnd_some hg
  have h3g := h3
  try simp at h3g
  refine AWp.rS hV none [0, 1, 2, 3, 9] fun K k4 => ?_
  simp [sp9, h3, h3g]
  repeat refine And.intro (by first | omega | (simp [*]; done) | grind) ?_
  refine kcong (s' := ⟨[(0, .d (enc (l : (List Event)))), (1, .d (enc (m : (List Event)))), (2, .d (enc (n : (List Event)))), (3, .d (enc (part : (IntK .u8)))), (9, .d (enc (x2 : Bool)))], []⟩) (by first | rfl | (simp [sp9, h3, h3g]; done) | (simp [sp9, h3, h3g]; grind)) (k4 _ ?_)
  refine AWp.seqG fun _ k5 => ?_
  obtain ⟨y12u43, hx13, hg⟩ := bnd_some hg
  unfold lawJoin_r1 at hx13
  refine AWp.seqJ (fun s' => Sub s' ⟨[(0, .d (enc (l : (List Event)))), (1, .d (enc (m : (List Event)))), (2, .d (enc (n : (List Event)))), (3, .d (enc (part : (IntK .u8)))), (9, .d (enc (x2 : Bool))), (43, .d (enc (y12u43 : Bool)))], []⟩) (fun _ k14 => ?_) ?_
  · obtain ⟨x6, h7, hx13⟩ := bnd_some hx13
    have h7g := h7
    try simp at h7g
    rcases Bool.eq_false_or_eq_true (!x6) with c15 | c15
    · replace hx13 := ifb_t c15 hx13
      have c15g := c15
      try simp at c15g
      refine AWp.regF hV (some [35, 36, 37, 40, 41, 42]) [0, 1, 2, 3, 9, 43] fun K k16 => ?_
      simp [tp21, h7, h7g, c15, c15g]
      repeat refine And.intro (by first | omega | (simp [*]; done) | grind) ?_
      refine kcong (s' := ⟨[(0, .d (enc (l : (List Event)))), (1, .d (enc (m : (List Event)))), (2, .d (enc (n : (List Event)))), (3, .d (enc (part : (IntK .u8)))), (9, .d (enc (x2 : Bool))), (43, .d (enc (true : Bool)))], []⟩) (by first | rfl | (simp [tp21, h7, h7g, c15, c15g]; done) | (simp [tp21, h7, h7g, c15, c15g]; grind)) (k16 _ ?_)
      have hx13 := Option.some.inj hx13
      subst hx13
      refine k14 _ ?_
      show Sub _ ⟨[(0, .d (enc (l : (List Event)))), (1, .d (enc (m : (List Event)))), (2, .d (enc (n : (List Event)))), (3, .d (enc (part : (IntK .u8)))), (9, .d (enc (x2 : Bool))), (43, .d (enc (true : Bool)))], []⟩
      exact Sub.ren [] (by decide) (by first | rfl | simp [renL, AO.ren, forgetsR, T.ren, idx, Eva.get]) (by first | exact ⟨rfl, rfl, rfl, rfl, rfl, rfl, trivial⟩ | (simp [renL, AO.ren, forgetsR, T.ren, idx, Eva.get]; done) | (simp [renL, AO.ren, forgetsR, T.ren, idx, Eva.get]; grind))
    · replace hx13 := ifb_f c15 hx13
      have c15g := c15
      try simp at c15g
      obtain ⟨x8, h9, hx13⟩ := bnd_some hx13
      have h9g := h9
      try simp at h9g
      rcases Bool.eq_false_or_eq_true (!x8) with c17 | c17
      · replace hx13 := ifb_t c17 hx13
        have c17g := c17
        try simp at c17g
        refine AWp.regF hV (some [40, 41, 42]) [0, 1, 2, 3, 9, 43] fun K k18 => ?_
        simp [tp21, h7, h7g, c15, c15g, h9, h9g, c17, c17g]
        repeat refine And.intro (by first | omega | (simp [*]; done) | grind) ?_
        refine kcong (s' := ⟨[(0, .d (enc (l : (List Event)))), (1, .d (enc (m : (List Event)))), (2, .d (enc (n : (List Event)))), (3, .d (enc (part : (IntK .u8)))), (9, .d (enc (x2 : Bool))), (43, .d (enc (true : Bool)))], []⟩) (by first | rfl | (simp [tp21, h7, h7g, c15, c15g, h9, h9g, c17, c17g]; done) | (simp [tp21, h7, h7g, c15, c15g, h9, h9g, c17, c17g]; grind)) (k18 _ ?_)
        have hx13 := Option.some.inj hx13
        subst hx13
        refine k14 _ ?_
        show Sub _ ⟨[(0, .d (enc (l : (List Event)))), (1, .d (enc (m : (List Event)))), (2, .d (enc (n : (List Event)))), (3, .d (enc (part : (IntK .u8)))), (9, .d (enc (x2 : Bool))), (43, .d (enc (true : Bool)))], []⟩
        exact Sub.ren [] (by decide) (by first | rfl | simp [renL, AO.ren, forgetsR, T.ren, idx, Eva.get]) (by first | exact ⟨rfl, rfl, rfl, rfl, rfl, rfl, trivial⟩ | (simp [renL, AO.ren, forgetsR, T.ren, idx, Eva.get]; done) | (simp [renL, AO.ren, forgetsR, T.ren, idx, Eva.get]; grind))
      · replace hx13 := ifb_f c17 hx13
        have c17g := c17
        try simp at c17g
        obtain ⟨x10, h11, hx13⟩ := bnd_some hx13
        have h11g := h11
        try simp at h11g
        refine AWp.regF hV (some []) [0, 1, 2, 3, 9, 43] fun K k19 => ?_
        simp [tp21, h7, h7g, c15, c15g, h9, h9g, c17, c17g, h11, h11g]
        repeat refine And.intro (by first | omega | (simp [*]; done) | grind) ?_
        refine kcong (s' := ⟨[(0, .d (enc (l : (List Event)))), (1, .d (enc (m : (List Event)))), (2, .d (enc (n : (List Event)))), (3, .d (enc (part : (IntK .u8)))), (9, .d (enc (x2 : Bool))), (43, .d (enc ((!x10) : Bool)))], []⟩) (by first | rfl | (simp [tp21, h7, h7g, c15, c15g, h9, h9g, c17, c17g, h11, h11g]; done) | (simp [tp21, h7, h7g, c15, c15g, h9, h9g, c17, c17g, h11, h11g]; grind)) (k19 _ ?_)
        have hx13 := Option.some.inj hx13
        subst hx13
        refine k14 _ ?_
        show Sub _ ⟨[(0, .d (enc (l : (List Event)))), (1, .d (enc (m : (List Event)))), (2, .d (enc (n : (List Event)))), (3, .d (enc (part : (IntK .u8)))), (9, .d (enc (x2 : Bool))), (43, .d (enc ((!x10) : Bool)))], []⟩
        exact Sub.ren [] (by decide) (by first | rfl | simp [renL, AO.ren, forgetsR, T.ren, idx, Eva.get]) (by first | exact ⟨rfl, rfl, rfl, rfl, rfl, rfl, trivial⟩ | (simp [renL, AO.ren, forgetsR, T.ren, idx, Eva.get]; done) | (simp [renL, AO.ren, forgetsR, T.ren, idx, Eva.get]; grind))
  · intro s' hs
    refine AWp.sub hs ?_
    clear hs s'
    refine AWp.cond (b := y12u43) rfl (fun h20 => ?_) fun h20 => ?_
    · replace hg := ifb_t h20 hg
      refine AWp.rS hV none [8] fun K k21 => ?_
      simp
      repeat refine And.intro (by first | omega | (simp [*]; done) | grind) ?_
      refine kcong (s' := ⟨[(8, .d (enc (x2 : Bool)))], []⟩) (by first | rfl | (simp []; done) | (simp []; grind)) (k21 _ ?_)
      refine AWp.ret ?_
      refine hQ _ _ (.inl rfl) ?_
      have hg := Option.some.inj hg
      subst hg
      first | (simp [retOk, resT, loadAs]; done) | (simp [retOk, resT, loadAs]; grind)
    · replace hg := ifb_f h20 hg
      refine AWp.skip ?_
      refine k5 _ ?_
      obtain ⟨⟨x22, x23⟩, h24, hg⟩ := bnd_some hg
      try dsimp only at hg
      have h24g := h24
      try simp at h24g
      refine AWp.rS hV none [0, 1, 2, 3, 9, 10, 11] fun K k25 => ?_
      simp [sp11, h24, h24g]
      repeat refine And.intro (by first | omega | (simp [*]; done) | grind) ?_
      refine kcong (s' := ⟨[(0, .d (enc (l : (List Event)))), (1, .d (enc (m : (List Event)))), (2, .d (enc (n : (List Event)))), (3, .d (enc (part : (IntK .u8)))), (9, .d (enc (x2 : Bool))), (10, .d (enc (x22 : (List Event)))), (11, .d (enc (x23 : Int)))], []⟩) (by first | rfl | (simp [sp11, h24, h24g]; done) | (simp [sp11, h24, h24g]; grind)) (k25 _ ?_)
      obtain ⟨⟨x26, x27⟩, h28, hg⟩ := bnd_some hg
      try dsimp only at hg
      have h28g := h28
      try simp at h28g
      refine AWp.rS hV none [0, 2, 3, 9, 10, 11, 12, 13] fun K k29 => ?_
      simp [sp11, h28, h28g]
      repeat refine And.intro (by first | omega | (simp [*]; done) | grind) ?_
      refine kcong (s' := ⟨[(0, .d (enc (l : (List Event)))), (2, .d (enc (n : (List Event)))), (3, .d (enc (part : (IntK .u8)))), (9, .d (enc (x2 : Bool))), (10, .d (enc (x22 : (List Event)))), (11, .d (enc (x23 : Int))), (12, .d (enc (x26 : (List Event)))), (13, .d (enc (x27 : Int)))], []⟩) (by first | rfl | (simp [sp11, h28, h28g]; done) | (simp [sp11, h28, h28g]; grind)) (k29 _ ?_)
      obtain ⟨⟨x30, x31⟩, h32, hg⟩ := bnd_some hg
      try dsimp only at hg
      have h32g := h32
      try simp at h32g
      refine AWp.rS hV none [0, 3, 9, 10, 11, 12, 13, 14, 15] fun K k33 => ?_
      simp [sp11, h32, h32g]
      repeat refine And.intro (by first | omega | (simp [*]; done) | grind) ?_
      refine kcong (s' := ⟨[(0, .d (enc (l : (List Event)))), (3, .d (enc (part : (IntK .u8)))), (9, .d (enc (x2 : Bool))), (10, .d (enc (x22 : (List Event)))), (11, .d (enc (x23 : Int))), (12, .d (enc (x26 : (List Event)))), (13, .d (enc (x27 : Int))), (14, .d (enc (x30 : (List Event)))), (15, .d (enc (x31 : Int)))], []⟩) (by first | rfl | (simp [sp11, h32, h32g]; done) | (simp [sp11, h32, h32g]; grind)) (k33 _ ?_)
      refine AWp.seqG fun _ k34 => ?_
      obtain ⟨y35u69, hx36, hg⟩ := bnd_some hg
      unfold lawJoin_r2 at hx36
      refine AWp.seqJ (fun s' => Sub s' ⟨[(0, .d (enc (l : (List Event)))), (3, .d (enc (part : (IntK .u8)))), (9, .d (enc (x2 : Bool))), (10, .d (enc (x22 : (List Event)))), (12, .d (enc (x26 : (List Event)))), (14, .d (enc (x30 : (List Event)))), (69, .d (enc (y35u69 : Bool)))], []⟩) (fun _ k37 => ?_) ?_
      · rcases Bool.eq_false_or_eq_true (!decide (x23 = 0)) with c38 | c38
        · replace hx36 := ifb_t c38 hx36
          have c38g := c38
          try simp at c38g
          refine AWp.regF hV (some [63, 64, 67, 68]) [0, 3, 9, 10, 12, 14, 69] fun K k39 => ?_
          simp [c38, c38g]
          repeat refine And.intro (by first | omega | (simp [*]; done) | grind) ?_
          refine kcong (s' := ⟨[(0, .d (enc (l : (List Event)))), (3, .d (enc (part : (IntK .u8)))), (9, .d (enc (x2 : Bool))), (10, .d (enc (x22 : (List Event)))), (12, .d (enc (x26 : (List Event)))), (14, .d (enc (x30 : (List Event)))), (69, .d (enc (true : Bool)))], []⟩) (by first | rfl | (simp [c38, c38g]; done) | (simp [c38, c38g]; grind)) (k39 _ ?_)
          have hx36 := Option.some.inj hx36
          subst hx36
          refine k37 _ ?_
          show Sub _ ⟨[(0, .d (enc (l : (List Event)))), (3, .d (enc (part : (IntK .u8)))), (9, .d (enc (x2 : Bool))), (10, .d (enc (x22 : (List Event)))), (12, .d (enc (x26 : (List Event)))), (14, .d (enc (x30 : (List Event)))), (69, .d (enc (true : Bool)))], []⟩
          exact Sub.ren [] (by decide) (by first | rfl | simp [renL, AO.ren, forgetsR, T.ren, idx, Eva.get]) (by first | exact ⟨rfl, rfl, rfl, rfl, rfl, rfl, rfl, trivial⟩ | (simp [renL, AO.ren, forgetsR, T.ren, idx, Eva.get]; done) | (simp [renL, AO.ren, forgetsR, T.ren, idx, Eva.get]; grind))
        · replace hx36 := ifb_f c38 hx36
          have c38g := c38
          try simp at c38g
          rcases Bool.eq_false_or_eq_true (!decide (x27 = 0)) with c40 | c40
          · replace hx36 := ifb_t c40 hx36
            have c40g := c40
            try simp at c40g
            refine AWp.regF hV (some [67, 68]) [0, 3, 9, 10, 12, 14, 69] fun K k41 => ?_
            simp [c38, c38g, c40, c40g]
            repeat refine And.intro (by first | omega | (simp [*]; done) | grind) ?_
            refine kcong (s' := ⟨[(0, .d (enc (l : (List Event)))), (3, .d (enc (part : (IntK .u8)))), (9, .d (enc (x2 : Bool))), (10, .d (enc (x22 : (List Event)))), (12, .d (enc (x26 : (List Event)))), (14, .d (enc (x30 : (List Event)))), (69, .d (enc (true : Bool)))], []⟩) (by first | rfl | (simp [c38, c38g, c40, c40g]; done) | (simp [c38, c38g, c40, c40g]; grind)) (k41 _ ?_)
            have hx36 := Option.some.inj hx36
            subst hx36
            refine k37 _ ?_
            show Sub _ ⟨[(0, .d (enc (l : (List Event)))), (3, .d (enc (part : (IntK .u8)))), (9, .d (enc (x2 : Bool))), (10, .d (enc (x22 : (List Event)))), (12, .d (enc (x26 : (List Event)))), (14, .d (enc (x30 : (List Event)))), (69, .d (enc (true : Bool)))], []⟩
            exact Sub.ren [] (by decide) (by first | rfl | simp [renL, AO.ren, forgetsR, T.ren, idx, Eva.get]) (by first | exact ⟨rfl, rfl, rfl, rfl, rfl, rfl, rfl, trivial⟩ | (simp [renL, AO.ren, forgetsR, T.ren, idx, Eva.get]; done) | (simp [renL, AO.ren, forgetsR, T.ren, idx, Eva.get]; grind))
          · replace hx36 := ifb_f c40 hx36
            have c40g := c40
            try simp at c40g
            refine AWp.regF hV (some []) [0, 3, 9, 10, 12, 14, 69] fun K k42 => ?_
            simp [c38, c38g, c40, c40g]
            repeat refine And.intro (by first | omega | (simp [*]; done) | grind) ?_
            refine kcong (s' := ⟨[(0, .d (enc (l : (List Event)))), (3, .d (enc (part : (IntK .u8)))), (9, .d (enc (x2 : Bool))), (10, .d (enc (x22 : (List Event)))), (12, .d (enc (x26 : (List Event)))), (14, .d (enc (x30 : (List Event)))), (69, .d (enc ((!decide (x31 = 0)) : Bool)))], []⟩) (by first | rfl | (simp [c38, c38g, c40, c40g]; done) | (simp [c38, c38g, c40, c40g]; grind)) (k42 _ ?_)
            have hx36 := Option.some.inj hx36
            subst hx36
            refine k37 _ ?_
            show Sub _ ⟨[(0, .d (enc (l : (List Event)))), (3, .d (enc (part : (IntK .u8)))), (9, .d (enc (x2 : Bool))), (10, .d (enc (x22 : (List Event)))), (12, .d (enc (x26 : (List Event)))), (14, .d (enc (x30 : (List Event)))), (69, .d (enc ((!decide (x31 = 0)) : Bool)))], []⟩
            exact Sub.ren [] (by decide) (by first | rfl | simp [renL, AO.ren, forgetsR, T.ren, idx, Eva.get]) (by first | exact ⟨rfl, rfl, rfl, rfl, rfl, rfl, rfl, trivial⟩ | (simp [renL, AO.ren, forgetsR, T.ren, idx, Eva.get]; done) | (simp [renL, AO.ren, forgetsR, T.ren, idx, Eva.get]; grind))
      · intro s' hs
        refine AWp.sub hs ?_
        clear hs s'
        refine AWp.cond (b := y35u69) rfl (fun h43 => ?_) fun h43 => ?_
        · replace hg := ifb_t h43 hg
          refine AWp.rS hV none [8] fun K k44 => ?_
          simp
          repeat refine And.intro (by first | omega | (simp [*]; done) | grind) ?_
          refine kcong (s' := ⟨[(8, .d (enc (x2 : Bool)))], []⟩) (by first | rfl | (simp []; done) | (simp []; grind)) (k44 _ ?_)
          refine AWp.ret ?_
          refine hQ _ _ (.inl rfl) ?_
          have hg := Option.some.inj hg
          subst hg
          first | (simp [retOk, resT, loadAs]; done) | (simp [retOk, resT, loadAs]; grind)
        · replace hg := ifb_f h43 hg
          refine AWp.skip ?_
          refine k34 _ ?_
          obtain ⟨⟨x45, x46⟩, h47, hg⟩ := bnd_some hg
          try dsimp only at hg
          have h47g := h47
          try simp at h47g
          refine AWp.rS hV none [0, 3, 9, 10, 12, 14, 16, 17] fun K k48 => ?_
          simp [sp11, h47, h47g]
          repeat refine And.intro (by first | omega | (simp [*]; done) | grind) ?_
          refine kcong (s' := ⟨[(0, .d (enc (l : (List Event)))), (3, .d (enc (part : (IntK .u8)))), (9, .d (enc (x2 : Bool))), (10, .d (enc (x22 : (List Event)))), (12, .d (enc (x26 : (List Event)))), (14, .d (enc (x30 : (List Event)))), (16, .d (enc (x45 : (List Event)))), (17, .d (enc (x46 : Int)))], []⟩) (by first | rfl | (simp [sp11, h47, h47g]; done) | (simp [sp11, h47, h47g]; grind)) (k48 _ ?_)
          obtain ⟨g49, hg⟩ := grd_some hg
          unfold inI at g49
          obtain ⟨g50, hg⟩ := grd_some hg
          obtain ⟨g51, hg⟩ := grd_some hg
          obtain ⟨⟨x52, x53⟩, h54, hg⟩ := bnd_some hg
          try dsimp only at hg
          have h54g := h54
          try simp at h54g
          refine AWp.rS hV none [9, 10, 12, 14, 16, 17, 18, 19] fun K k55 => ?_
          simp [sp11, h54, h54g]
          repeat refine And.intro (by first | omega | (simp [*]; done) | grind) ?_
          refine kcong (s' := ⟨[(9, .d (enc (x2 : Bool))), (10, .d (enc (x22 : (List Event)))), (12, .d (enc (x26 : (List Event)))), (14, .d (enc (x30 : (List Event)))), (16, .d (enc (x45 : (List Event)))), (17, .d (enc (x46 : Int))), (18, .d (enc (x52 : (List Event)))), (19, .d (enc (x53 : Int)))], []⟩) (by first | rfl | (simp [sp11, h54, h54g]; done) | (simp [sp11, h54, h54g]; grind)) (k55 _ ?_)
          obtain ⟨⟨x56, x57⟩, h58, hg⟩ := bnd_some hg
          try dsimp only at hg
          have h58g := h58
          try simp at h58g
          refine AWp.rS hV none [9, 10, 12, 14, 16, 17, 18, 19, 20, 21] fun K k59 => ?_
          simp [sp11, h58, h58g]
          repeat refine And.intro (by first | omega | (simp [*]; done) | grind) ?_
          refine kcong (s' := ⟨[(9, .d (enc (x2 : Bool))), (10, .d (enc (x22 : (List Event)))), (12, .d (enc (x26 : (List Event)))), (14, .d (enc (x30 : (List Event)))), (16, .d (enc (x45 : (List Event)))), (17, .d (enc (x46 : Int))), (18, .d (enc (x52 : (List Event)))), (19, .d (enc (x53 : Int))), (20, .d (enc (x56 : (List Event)))), (21, .d (enc (x57 : Int)))], []⟩) (by first | rfl | (simp [sp11, h58, h58g]; done) | (simp [sp11, h58, h58g]; grind)) (k59 _ ?_)
          obtain ⟨⟨x60, x61⟩, h62, hg⟩ := bnd_some hg
          try dsimp only at hg
          have h62g := h62
          try simp at h62g
          refine AWp.rS hV none [9, 10, 12, 14, 16, 17, 18, 19, 20, 21, 22, 23] fun K k63 => ?_
          simp [sp11, h62, h62g]
          repeat refine And.intro (by first | omega | (simp [*]; done) | grind) ?_
          refine kcong (s' := ⟨[(9, .d (enc (x2 : Bool))), (10, .d (enc (x22 : (List Event)))), (12, .d (enc (x26 : (List Event)))), (14, .d (enc (x30 : (List Event)))), (16, .d (enc (x45 : (List Event)))), (17, .d (enc (x46 : Int))), (18, .d (enc (x52 : (List Event)))), (19, .d (enc (x53 : Int))), (20, .d (enc (x56 : (List Event)))), (21, .d (enc (x57 : Int))), (22, .d (enc (x60 : (List Event)))), (23, .d (enc (x61 : Int)))], []⟩) (by first | rfl | (simp [sp11, h62, h62g]; done) | (simp [sp11, h62, h62g]; grind)) (k63 _ ?_)
          refine AWp.seqG fun _ k64 => ?_
          obtain ⟨y68u130, hx69, hg⟩ := bnd_some hg
          unfold lawJoin_r3 at hx69
          refine AWp.seqJ (fun s' => Sub s' ⟨[(9, .d (enc (x2 : Bool))), (10, .d (enc (x22 : (List Event)))), (12, .d (enc (x26 : (List Event)))), (14, .d (enc (x30 : (List Event)))), (20, .d (enc (x56 : (List Event)))), (21, .d (enc (x57 : Int))), (130, .d (enc (y68u130 : Bool)))], []⟩) (fun _ k70 => ?_) ?_
          · rcases Bool.eq_false_or_eq_true (!decide (x46 = 0)) with c71 | c71
            · replace hx69 := ifb_t c71 hx69
              have c71g := c71
              try simp at c71g
              refine AWp.regF hV (some [105, 106, 109, 110, 111, 112, 115, 116, 117, 118, 121, 122, 123, 126, 127, 128, 129]) [9, 10, 12, 14, 20, 21, 130] fun K k72 => ?_
              simp [sp15, c71, c71g]
              repeat refine And.intro (by first | omega | (simp [*]; done) | grind) ?_
              refine kcong (s' := ⟨[(9, .d (enc (x2 : Bool))), (10, .d (enc (x22 : (List Event)))), (12, .d (enc (x26 : (List Event)))), (14, .d (enc (x30 : (List Event)))), (20, .d (enc (x56 : (List Event)))), (21, .d (enc (x57 : Int))), (130, .d (enc (true : Bool)))], []⟩) (by first | rfl | (simp [sp15, c71, c71g]; done) | (simp [sp15, c71, c71g]; grind)) (k72 _ ?_)
              have hx69 := Option.some.inj hx69
              subst hx69
              refine k70 _ ?_
              show Sub _ ⟨[(9, .d (enc (x2 : Bool))), (10, .d (enc (x22 : (List Event)))), (12, .d (enc (x26 : (List Event)))), (14, .d (enc (x30 : (List Event)))), (20, .d (enc (x56 : (List Event)))), (21, .d (enc (x57 : Int))), (130, .d (enc (true : Bool)))], []⟩
              exact Sub.ren [] (by decide) (by first | rfl | simp [renL, AO.ren, forgetsR, T.ren, idx, Eva.get]) (by first | exact ⟨rfl, rfl, rfl, rfl, rfl, rfl, rfl, trivial⟩ | (simp [renL, AO.ren, forgetsR, T.ren, idx, Eva.get]; done) | (simp [renL, AO.ren, forgetsR, T.ren, idx, Eva.get]; grind))
            · replace hx69 := ifb_f c71 hx69
              have c71g := c71
              try simp at c71g
              rcases Bool.eq_false_or_eq_true (!decide (x53 = 0)) with c73 | c73
              · replace hx69 := ifb_t c73 hx69
                have c73g := c73
                try simp at c73g
                refine AWp.regF hV (some [109, 110, 111, 112, 115, 116, 117, 118, 121, 122, 123, 126, 127, 128, 129]) [9, 10, 12, 14, 20, 21, 130] fun K k74 => ?_
                simp [sp15, c71, c71g, c73, c73g]
                repeat refine And.intro (by first | omega | (simp [*]; done) | grind) ?_
                refine kcong (s' := ⟨[(9, .d (enc (x2 : Bool))), (10, .d (enc (x22 : (List Event)))), (12, .d (enc (x26 : (List Event)))), (14, .d (enc (x30 : (List Event)))), (20, .d (enc (x56 : (List Event)))), (21, .d (enc (x57 : Int))), (130, .d (enc (true : Bool)))], []⟩) (by first | rfl | (simp [sp15, c71, c71g, c73, c73g]; done) | (simp [sp15, c71, c71g, c73, c73g]; grind)) (k74 _ ?_)
                have hx69 := Option.some.inj hx69
                subst hx69
                refine k70 _ ?_
                show Sub _ ⟨[(9, .d (enc (x2 : Bool))), (10, .d (enc (x22 : (List Event)))), (12, .d (enc (x26 : (List Event)))), (14, .d (enc (x30 : (List Event)))), (20, .d (enc (x56 : (List Event)))), (21, .d (enc (x57 : Int))), (130, .d (enc (true : Bool)))], []⟩
                exact Sub.ren [] (by decide) (by first | rfl | simp [renL, AO.ren, forgetsR, T.ren, idx, Eva.get]) (by first | exact ⟨rfl, rfl, rfl, rfl, rfl, rfl, rfl, trivial⟩ | (simp [renL, AO.ren, forgetsR, T.ren, idx, Eva.get]; done) | (simp [renL, AO.ren, forgetsR, T.ren, idx, Eva.get]; grind))
              · replace hx69 := ifb_f c73 hx69
                have c73g := c73
                try simp at c73g
                obtain ⟨g65, hx69⟩ := grd_some hx69
                rcases Bool.eq_false_or_eq_true (!(decide (x45 = x22))) with c75 | c75
                · replace hx69 := ifb_t c75 hx69
                  have c75g := c75
                  try simp at c75g
                  refine AWp.regF hV (some [115, 116, 117, 118, 121, 122, 123, 126, 127, 128, 129]) [9, 10, 12, 14, 20, 21, 130] fun K k76 => ?_
                  simp [sp15, c71, c71g, c73, c73g, c75, c75g]
                  repeat refine And.intro (by first | omega | (simp [*]; done) | grind) ?_
                  refine kcong (s' := ⟨[(9, .d (enc (x2 : Bool))), (10, .d (enc (x22 : (List Event)))), (12, .d (enc (x26 : (List Event)))), (14, .d (enc (x30 : (List Event)))), (20, .d (enc (x56 : (List Event)))), (21, .d (enc (x57 : Int))), (130, .d (enc (true : Bool)))], []⟩) (by first | rfl | (simp [sp15, c71, c71g, c73, c73g, c75, c75g]; done) | (simp [sp15, c71, c71g, c73, c73g, c75, c75g]; grind)) (k76 _ ?_)
                  have hx69 := Option.some.inj hx69
                  subst hx69
                  refine k70 _ ?_
                  show Sub _ ⟨[(9, .d (enc (x2 : Bool))), (10, .d (enc (x22 : (List Event)))), (12, .d (enc (x26 : (List Event)))), (14, .d (enc (x30 : (List Event)))), (20, .d (enc (x56 : (List Event)))), (21, .d (enc (x57 : Int))), (130, .d (enc (true : Bool)))], []⟩
                  exact Sub.ren [] (by decide) (by first | rfl | simp [renL, AO.ren, forgetsR, T.ren, idx, Eva.get]) (by first | exact ⟨rfl, rfl, rfl, rfl, rfl, rfl, rfl, trivial⟩ | (simp [renL, AO.ren, forgetsR, T.ren, idx, Eva.get]; done) | (simp [renL, AO.ren, forgetsR, T.ren, idx, Eva.get]; grind))
                · replace hx69 := ifb_f c75 hx69
                  have c75g := c75
                  try simp at c75g
                  obtain ⟨g66, hx69⟩ := grd_some hx69
                  rcases Bool.eq_false_or_eq_true (!(decide (x52 = x22))) with c77 | c77
                  · replace hx69 := ifb_t c77 hx69
                    have c77g := c77
                    try simp at c77g
                    refine AWp.regF hV (some [121, 122, 123, 126, 127, 128, 129]) [9, 10, 12, 14, 20, 21, 130] fun K k78 => ?_
                    simp [sp15, c71, c71g, c73, c73g, c75, c75g, c77, c77g]
                    repeat refine And.intro (by first | omega | (simp [*]; done) | grind) ?_
                    refine kcong (s' := ⟨[(9, .d (enc (x2 : Bool))), (10, .d (enc (x22 : (List Event)))), (12, .d (enc (x26 : (List Event)))), (14, .d (enc (x30 : (List Event)))), (20, .d (enc (x56 : (List Event)))), (21, .d (enc (x57 : Int))), (130, .d (enc (true : Bool)))], []⟩) (by first | rfl | (simp [sp15, c71, c71g, c73, c73g, c75, c75g, c77, c77g]; done) | (simp [sp15, c71, c71g, c73, c73g, c75, c75g, c77, c77g]; grind)) (k78 _ ?_)
                    have hx69 := Option.some.inj hx69
                    subst hx69
                    refine k70 _ ?_
                    show Sub _ ⟨[(9, .d (enc (x2 : Bool))), (10, .d (enc (x22 : (List Event)))), (12, .d (enc (x26 : (List Event)))), (14, .d (enc (x30 : (List Event)))), (20, .d (enc (x56 : (List Event)))), (21, .d (enc (x57 : Int))), (130, .d (enc (true : Bool)))], []⟩
                    exact Sub.ren [] (by decide) (by first | rfl | simp [renL, AO.ren, forgetsR, T.ren, idx, Eva.get]) (by first | exact ⟨rfl, rfl, rfl, rfl, rfl, rfl, rfl, trivial⟩ | (simp [renL, AO.ren, forgetsR, T.ren, idx, Eva.get]; done) | (simp [renL, AO.ren, forgetsR, T.ren, idx, Eva.get]; grind))
                  · replace hx69 := ifb_f c77 hx69
                    have c77g := c77
                    try simp at c77g
                    rcases Bool.eq_false_or_eq_true (!decide (x57 = x61)) with c79 | c79
                    · replace hx69 := ifb_t c79 hx69
                      have c79g := c79
                      try simp at c79g
                      refine AWp.regF hV (some [126, 127, 128, 129]) [9, 10, 12, 14, 20, 21, 130] fun K k80 => ?_
                      simp [sp15, c71, c71g, c73, c73g, c75, c75g, c77, c77g, c79, c79g]
                      repeat refine And.intro (by first | omega | (simp [*]; done) | grind) ?_
                      refine kcong (s' := ⟨[(9, .d (enc (x2 : Bool))), (10, .d (enc (x22 : (List Event)))), (12, .d (enc (x26 : (List Event)))), (14, .d (enc (x30 : (List Event)))), (20, .d (enc (x56 : (List Event)))), (21, .d (enc (x57 : Int))), (130, .d (enc (true : Bool)))], []⟩) (by first | rfl | (simp [sp15, c71, c71g, c73, c73g, c75, c75g, c77, c77g, c79, c79g]; done) | (simp [sp15, c71, c71g, c73, c73g, c75, c75g, c77, c77g, c79, c79g]; grind)) (k80 _ ?_)
                      have hx69 := Option.some.inj hx69
                      subst hx69
                      refine k70 _ ?_
                      show Sub _ ⟨[(9, .d (enc (x2 : Bool))), (10, .d (enc (x22 : (List Event)))), (12, .d (enc (x26 : (List Event)))), (14, .d (enc (x30 : (List Event)))), (20, .d (enc (x56 : (List Event)))), (21, .d (enc (x57 : Int))), (130, .d (enc (true : Bool)))], []⟩
                      exact Sub.ren [] (by decide) (by first | rfl | simp [renL, AO.ren, forgetsR, T.ren, idx, Eva.get]) (by first | exact ⟨rfl, rfl, rfl, rfl, rfl, rfl, rfl, trivial⟩ | (simp [renL, AO.ren, forgetsR, T.ren, idx, Eva.get]; done) | (simp [renL, AO.ren, forgetsR, T.ren, idx, Eva.get]; grind))
                    · replace hx69 := ifb_f c79 hx69
                      have c79g := c79
                      try simp at c79g
                      obtain ⟨g67, hx69⟩ := grd_some hx69
                      refine AWp.regF hV (some []) [9, 10, 12, 14, 20, 21, 130] fun K k81 => ?_
                      simp [sp15, c71, c71g, c73, c73g, c75, c75g, c77, c77g, c79, c79g]
                      repeat refine And.intro (by first | omega | (simp [*]; done) | grind) ?_
                      refine kcong (s' := ⟨[(9, .d (enc (x2 : Bool))), (10, .d (enc (x22 : (List Event)))), (12, .d (enc (x26 : (List Event)))), (14, .d (enc (x30 : (List Event)))), (20, .d (enc (x56 : (List Event)))), (21, .d (enc (x57 : Int))), (130, .d (enc ((!(decide (x56 = x60))) : Bool)))], []⟩) (by first | rfl | (simp [sp15, c71, c71g, c73, c73g, c75, c75g, c77, c77g, c79, c79g]; done) | (simp [sp15, c71, c71g, c73, c73g, c75, c75g, c77, c77g, c79, c79g]; grind)) (k81 _ ?_)
                      have hx69 := Option.some.inj hx69
                      subst hx69
                      refine k70 _ ?_
                      show Sub _ ⟨[(9, .d (enc (x2 : Bool))), (10, .d (enc (x22 : (List Event)))), (12, .d (enc (x26 : (List Event)))), (14, .d (enc (x30 : (List Event)))), (20, .d (enc (x56 : (List Event)))), (21, .d (enc (x57 : Int))), (130, .d (enc ((!(decide (x56 = x60))) : Bool)))], []⟩
                      exact Sub.ren [] (by decide) (by first | rfl | simp [renL, AO.ren, forgetsR, T.ren, idx, Eva.get]) (by first | exact ⟨rfl, rfl, rfl, rfl, rfl, rfl, rfl, trivial⟩ | (simp [renL, AO.ren, forgetsR, T.ren, idx, Eva.get]; done) | (simp [renL, AO.ren, forgetsR, T.ren, idx, Eva.get]; grind))
          · intro s' hs
            refine AWp.sub hs ?_
            clear hs s'
            refine AWp.cond (b := y68u130) rfl (fun h82 => ?_) fun h82 => ?_
            · replace hg := ifb_t h82 hg
              refine AWp.rS hV none [8] fun K k83 => ?_
              simp
              repeat refine And.intro (by first | omega | (simp [*]; done) | grind) ?_
              refine kcong (s' := ⟨[(8, .d (enc (false : Bool)))], []⟩) (by first | rfl | (simp []; done) | (simp []; grind)) (k83 _ ?_)
              refine AWp.ret ?_
              refine hQ _ _ (.inl rfl) ?_
              have hg := Option.some.inj hg
              subst hg
              first | (simp [retOk, resT, loadAs]; done) | (simp [retOk, resT, loadAs]; grind)
            · replace hg := ifb_f h82 hg
              refine AWp.skip ?_
              refine k64 _ ?_
              obtain ⟨⟨x84, x85⟩, h86, hg⟩ := bnd_some hg
              try dsimp only at hg
              have h86g := h86
              try simp at h86g
              refine AWp.rS hV none [9, 10, 14, 20, 21, 24, 25] fun K k87 => ?_
              simp [sp11, h86, h86g]
              repeat refine And.intro (by first | omega | (simp [*]; done) | grind) ?_
              refine kcong (s' := ⟨[(9, .d (enc (x2 : Bool))), (10, .d (enc (x22 : (List Event)))), (14, .d (enc (x30 : (List Event)))), (20, .d (enc (x56 : (List Event)))), (21, .d (enc (x57 : Int))), (24, .d (enc (x84 : (List Event)))), (25, .d (enc (x85 : Int)))], []⟩) (by first | rfl | (simp [sp11, h86, h86g]; done) | (simp [sp11, h86, h86g]; grind)) (k87 _ ?_)
              refine AWp.seqG fun _ k88 => ?_
              obtain ⟨y89u142, hx90, hg⟩ := bnd_some hg
              unfold lawJoin_r4 at hx90
              refine AWp.seqJ (fun s' => Sub s' ⟨[(9, .d (enc (x2 : Bool))), (10, .d (enc (x22 : (List Event)))), (14, .d (enc (x30 : (List Event)))), (20, .d (enc (x56 : (List Event)))), (24, .d (enc (x84 : (List Event)))), (142, .d (enc (y89u142 : Bool)))], []⟩) (fun _ k91 => ?_) ?_
              · rcases Bool.eq_false_or_eq_true (!decide (x57 = 0)) with c92 | c92
                · replace hx90 := ifb_t c92 hx90
                  have c92g := c92
                  try simp at c92g
                  refine AWp.regF hV (some [140, 141]) [9, 10, 14, 20, 24, 142] fun K k93 => ?_
                  simp [c92, c92g]
                  repeat refine And.intro (by first | omega | (simp [*]; done) | grind) ?_
                  refine kcong (s' := ⟨[(9, .d (enc (x2 : Bool))), (10, .d (enc (x22 : (List Event)))), (14, .d (enc (x30 : (List Event)))), (20, .d (enc (x56 : (List Event)))), (24, .d (enc (x84 : (List Event)))), (142, .d (enc (true : Bool)))], []⟩) (by first | rfl | (simp [c92, c92g]; done) | (simp [c92, c92g]; grind)) (k93 _ ?_)
                  have hx90 := Option.some.inj hx90
                  subst hx90
                  refine k91 _ ?_
                  show Sub _ ⟨[(9, .d (enc (x2 : Bool))), (10, .d (enc (x22 : (List Event)))), (14, .d (enc (x30 : (List Event)))), (20, .d (enc (x56 : (List Event)))), (24, .d (enc (x84 : (List Event)))), (142, .d (enc (true : Bool)))], []⟩
                  exact Sub.ren [] (by decide) (by first | rfl | simp [renL, AO.ren, forgetsR, T.ren, idx, Eva.get]) (by first | exact ⟨rfl, rfl, rfl, rfl, rfl, rfl, trivial⟩ | (simp [renL, AO.ren, forgetsR, T.ren, idx, Eva.get]; done) | (simp [renL, AO.ren, forgetsR, T.ren, idx, Eva.get]; grind))
                · replace hx90 := ifb_f c92 hx90
                  have c92g := c92
                  try simp at c92g
                  refine AWp.regF hV (some []) [9, 10, 14, 20, 24, 142] fun K k94 => ?_
                  simp [c92, c92g]
                  repeat refine And.intro (by first | omega | (simp [*]; done) | grind) ?_
                  refine kcong (s' := ⟨[(9, .d (enc (x2 : Bool))), (10, .d (enc (x22 : (List Event)))), (14, .d (enc (x30 : (List Event)))), (20, .d (enc (x56 : (List Event)))), (24, .d (enc (x84 : (List Event)))), (142, .d (enc ((!decide (x85 = 0)) : Bool)))], []⟩) (by first | rfl | (simp [c92, c92g]; done) | (simp [c92, c92g]; grind)) (k94 _ ?_)
                  have hx90 := Option.some.inj hx90
                  subst hx90
                  refine k91 _ ?_
                  show Sub _ ⟨[(9, .d (enc (x2 : Bool))), (10, .d (enc (x22 : (List Event)))), (14, .d (enc (x30 : (List Event)))), (20, .d (enc (x56 : (List Event)))), (24, .d (enc (x84 : (List Event)))), (142, .d (enc ((!decide (x85 = 0)) : Bool)))], []⟩
                  exact Sub.ren [] (by decide) (by first | rfl | simp [renL, AO.ren, forgetsR, T.ren, idx, Eva.get]) (by first | exact ⟨rfl, rfl, rfl, rfl, rfl, rfl, trivial⟩ | (simp [renL, AO.ren, forgetsR, T.ren, idx, Eva.get]; done) | (simp [renL, AO.ren, forgetsR, T.ren, idx, Eva.get]; grind))
              · intro s' hs
                refine AWp.sub hs ?_
                clear hs s'
                refine AWp.cond (b := y89u142) rfl (fun h95 => ?_) fun h95 => ?_
                · replace hg := ifb_t h95 hg
                  refine AWp.rS hV none [8] fun K k96 => ?_
                  simp
                  repeat refine And.intro (by first | omega | (simp [*]; done) | grind) ?_
                  refine kcong (s' := ⟨[(8, .d (enc (x2 : Bool)))], []⟩) (by first | rfl | (simp []; done) | (simp []; grind)) (k96 _ ?_)
                  refine AWp.ret ?_
                  refine hQ _ _ (.inl rfl) ?_
                  have hg := Option.some.inj hg
                  subst hg
                  first | (simp [retOk, resT, loadAs]; done) | (simp [retOk, resT, loadAs]; grind)
                · replace hg := ifb_f h95 hg
                  refine AWp.skip ?_
                  refine k88 _ ?_
                  obtain ⟨⟨x97, x98⟩, h99, hg⟩ := bnd_some hg
                  try dsimp only at hg
                  have h99g := h99
                  try simp at h99g
                  refine AWp.rS hV none [9, 10, 24, 26, 27] fun K k100 => ?_
                  simp [sp11, h99, h99g]
                  repeat refine And.intro (by first | omega | (simp [*]; done) | grind) ?_
                  refine kcong (s' := ⟨[(9, .d (enc (x2 : Bool))), (10, .d (enc (x22 : (List Event)))), (24, .d (enc (x84 : (List Event)))), (26, .d (enc (x97 : (List Event)))), (27, .d (enc (x98 : Int)))], []⟩) (by first | rfl | (simp [sp11, h99, h99g]; done) | (simp [sp11, h99, h99g]; grind)) (k100 _ ?_)
                  obtain ⟨⟨x101, x102⟩, h103, hg⟩ := bnd_some hg
                  try dsimp only at hg
                  have h103g := h103
                  try simp at h103g
                  refine AWp.rS hV none [9, 26, 27, 28, 29] fun K k104 => ?_
                  simp [sp11, h103, h103g]
                  repeat refine And.intro (by first | omega | (simp [*]; done) | grind) ?_
                  refine kcong (s' := ⟨[(9, .d (enc (x2 : Bool))), (26, .d (enc (x97 : (List Event)))), (27, .d (enc (x98 : Int))), (28, .d (enc (x101 : (List Event)))), (29, .d (enc (x102 : Int)))], []⟩) (by first | rfl | (simp [sp11, h103, h103g]; done) | (simp [sp11, h103, h103g]; grind)) (k104 _ ?_)
                  obtain ⟨y106u8, hx107, hg⟩ := bnd_some hg
                  unfold lawJoin_r5 at hx107
                  refine AWp.seqJ (fun s' => Sub s' ⟨[(8, .d (enc (y106u8 : Bool)))], []⟩) (fun _ k108 => ?_) ?_
                  · rcases Bool.eq_false_or_eq_true x2 with c109 | c109
                    · replace hx107 := ifb_t c109 hx107
                      have c109g := c109
                      try simp at c109g
                      rcases Bool.eq_false_or_eq_true (decide (x98 = x102)) with c110 | c110
                      · replace hx107 := ifb_t c110 hx107
                        have c110g := c110
                        try simp at c110g
                        obtain ⟨g105, hx107⟩ := grd_some hx107
                        refine AWp.regF hV (some []) [8] fun K k111 => ?_
                        simp [sp15, c109, c109g, c110, c110g]
                        repeat refine And.intro (by first | omega | (simp [*]; done) | grind) ?_
                        refine kcong (s' := ⟨[(8, .d (enc ((decide (x97 = x101)) : Bool)))], []⟩) (by first | rfl | (simp [sp15, c109, c109g, c110, c110g]; done) | (simp [sp15, c109, c109g, c110, c110g]; grind)) (k111 _ ?_)
                        have hx107 := Option.some.inj hx107
                        subst hx107
                        refine k108 _ ?_
                        show Sub _ ⟨[(8, .d (enc ((decide (x97 = x101)) : Bool)))], []⟩
                        exact Sub.ren [] (by decide) (by first | rfl | simp [renL, AO.ren, forgetsR, T.ren, idx, Eva.get]) (by first | exact ⟨rfl, trivial⟩ | (simp [renL, AO.ren, forgetsR, T.ren, idx, Eva.get]; done) | (simp [renL, AO.ren, forgetsR, T.ren, idx, Eva.get]; grind))
                      · replace hx107 := ifb_f c110 hx107
                        have c110g := c110
                        try simp at c110g
                        refine AWp.regF hV (some [163, 164, 165]) [8] fun K k112 => ?_
                        simp [sp15, c109, c109g, c110, c110g]
                        repeat refine And.intro (by first | omega | (simp [*]; done) | grind) ?_
                        refine kcong (s' := ⟨[(8, .d (enc (false : Bool)))], []⟩) (by first | rfl | (simp [sp15, c109, c109g, c110, c110g]; done) | (simp [sp15, c109, c109g, c110, c110g]; grind)) (k112 _ ?_)
                        have hx107 := Option.some.inj hx107
                        subst hx107
                        refine k108 _ ?_
                        show Sub _ ⟨[(8, .d (enc (false : Bool)))], []⟩
                        exact Sub.ren [] (by decide) (by first | rfl | simp [renL, AO.ren, forgetsR, T.ren, idx, Eva.get]) (by first | exact ⟨rfl, trivial⟩ | (simp [renL, AO.ren, forgetsR, T.ren, idx, Eva.get]; done) | (simp [renL, AO.ren, forgetsR, T.ren, idx, Eva.get]; grind))
                    · replace hx107 := ifb_f c109 hx107
                      have c109g := c109
                      try simp at c109g
                      refine AWp.regF hV (some [158, 159, 160, 163, 164, 165]) [8] fun K k113 => ?_
                      simp [sp15, c109, c109g]
                      repeat refine And.intro (by first | omega | (simp [*]; done) | grind) ?_
                      refine kcong (s' := ⟨[(8, .d (enc (false : Bool)))], []⟩) (by first | rfl | (simp [sp15, c109, c109g]; done) | (simp [sp15, c109, c109g]; grind)) (k113 _ ?_)
                      have hx107 := Option.some.inj hx107
                      subst hx107
                      refine k108 _ ?_
                      show Sub _ ⟨[(8, .d (enc (false : Bool)))], []⟩
                      exact Sub.ren [] (by decide) (by first | rfl | simp [renL, AO.ren, forgetsR, T.ren, idx, Eva.get]) (by first | exact ⟨rfl, trivial⟩ | (simp [renL, AO.ren, forgetsR, T.ren, idx, Eva.get]; done) | (simp [renL, AO.ren, forgetsR, T.ren, idx, Eva.get]; grind))
                  · intro s' hs
                    refine AWp.sub hs ?_
                    clear hs s'
                    refine AWp.ret ?_
                    refine hQ _ _ (.inl rfl) ?_
                    have hg := Option.some.inj hg
                    subst hg
                    first | (simp [retOk, resT, loadAs]; done) | (simp [retOk, resT, loadAs]; grind)
end Go.Proofs.Ytpbhcpeilgmkeaa

/-
  Programs of the events: printed by gen2.py (extraction).
-/
namespace Go.Proofs.Ytpbhcpeilgmkeaa
open Go Go.Eva Enc
set_option linter.unusedVariables false
noncomputable def lawKnown_r1 (l : (List Event)) (more : (List Event)) (stand : Int) : Option Bool :=
  (ifb (!(decide ((l : List Event).length ≤ 60))) (some true) (grd ((l : List Event).length ≤ 1000000000) (ifb (!(validE l)) (some true) (bnd (formedP more) fun x7 =>
  ifb (!x7) (some true) (some (!(isID stand)))))))
noncomputable def lawKnown_r2 (l : (List Event)) (stand : Int) : Option Bool :=
  (ifb (!decide ((knownR l stand).2 = 0)) (some true) (ifb (decide ((knownR l stand).1 < 0)) (some true) (some (decide (1000 < (knownR l stand).1)))))
noncomputable def lawKnown_r18 (stand : Int) (x122 : Event) : Option Bool :=
  (ifb (decide (x122.stand = stand)) (some (decide (x122.kind = 3))) (some false))
noncomputable def lawKnown_r19 (l : (List Event)) (stand : Int) (z4u11 : Bool) (x122 : Event) : Option Bool :=
  (ifb z4u11 (some true) (some (decide (x122.n = (knownR l stand).1))))
noncomputable def lawKnown_r20 (l : (List Event)) (stand : Int) (z4u7 : Bool) (x122 : Event) : Option Bool :=
  (ifb z4u7 (some (decide (x122.n ≤ (knownR l stand).1))) (some false))
noncomputable def lawKnown_j16 (z4u60 : Int) (y120u7 : Bool) (y120u10 : (List Event)) (y120u11 : Bool) : Option ((Bool × (List Event) × Bool × Int) ⊕ ((Bool × (List Event) × Bool))) :=
  grd (inI (z4u60 + 1)) (some (.inl (y120u7, y120u10, y120u11, (z4u60 + 1))))
noncomputable def lawKnown_j17 (l : (List Event)) (stand : Int) (z4u7 : Bool) (z4u11 : Bool) (z4u60 : Int) (x122 : Event) (y125u10 : (List Event)) : Option ((Bool × (List Event) × Bool × Int) ⊕ ((Bool × (List Event) × Bool))) :=
  bnd (lawKnown_r18 stand x122) fun y131u80 =>
  ifb y131u80 (bnd (lawKnown_r19 l stand z4u11 x122) fun y138u11 =>
  bnd (lawKnown_r20 l stand z4u7 x122) fun y144u7 =>
  lawKnown_j16 z4u60 y144u7 y125u10 y138u11)
  (lawKnown_j16 z4u60 z4u7 y125u10 z4u11)
noncomputable def lawKnown_s15 (l : (List Event)) (stand : Int) : (Bool × (List Event) × Bool × Int) → Option ((Bool × (List Event) × Bool × Int) ⊕ ((Bool × (List Event) × Bool))) := fun (z4u7, z4u10, z4u11, z4u60) =>
  ifb (decide (z4u60 < (l.length : Int))) (bnd (at? l z4u60) fun x122 =>
  ifb (decide (x122.stand = stand)) (grd (((z4u10 ++ [x122]) : List Event).length * 120 ≤ 140737488355328) (lawKnown_j17 l stand z4u7 z4u11 z4u60 x122 (z4u10 ++ [x122])))
  (lawKnown_j17 l stand z4u7 z4u11 z4u60 x122 z4u10))
  (some (.inr (z4u7, z4u10, z4u11)))
noncomputable def lawKnown_r21 (l : (List Event)) (stand : Int) (y36u10 : (List Event)) (y36u11 : Bool) : Option Bool :=
  (ifb (!decide ((knownR y36u10 stand).2 = 0)) (some true) (ifb (!decide ((knownR y36u10 stand).1 = (knownR l stand).1)) (some true) (some (!y36u11))))
noncomputable def lawKnown_r22 (y36u7 : Bool) (x157 : Int) : Option Bool :=
  (ifb y36u7 (some (decide (x157 = 61))) (some false))
noncomputable def lawKnown_r23 (l : (List Event)) (stand : Int) (y36u7 : Bool) (x156 : (List Event)) : Option Bool :=
  (ifb y36u7 (ifb (decide ((knownR x156 stand).2 = 0)) (some (decide ((knownR l stand).1 ≤ (knownR x156 stand).1))) (some false)) (some false))
noncomputable def lawKnown_j3 (l : (List Event)) (more : (List Event)) (stand : Int) (y36u7 : Bool) (y36u10 : (List Event)) (y36u11 : Bool) : Option Bool :=
  grd ((y36u10 : List Event).length ≤ 1000000000) (bnd (eAdd l more) fun (x156, x157) =>
  bnd (lawKnown_r21 l stand y36u10 y36u11) fun y161u118 =>
  ifb y161u118 (some false)
  (ifb (!decide (x157 = 0)) (bnd (lawKnown_r22 y36u7 x157) fun y174u6 =>
  some y174u6)
  (grd ((x156 : List Event).length ≤ 1000000000) (bnd (lawKnown_r23 l stand y36u7 x156) fun y182u6 =>
  some y182u6))))
noncomputable def lawKnown (l : (List Event)) (more : (List Event)) (stand : Int) : Option Bool :=
  bnd (headP) fun x2 =>
  bnd (lawKnown_r1 l more stand) fun y9u38 =>
  ifb y9u38 (some x2)
  (grd ((l : List Event).length ≤ 1000000000) (bnd (lawKnown_r2 l stand) fun y24u55 =>
  ifb y24u55 (some false)
  (bnd (loopO (lawKnown_s15 l stand) (x2, [], (decide ((knownR l stand).1 = 0)), 0)) fun o110 =>
  match o110 with
  | (q153u7, q153u10, q153u11) => lawKnown_j3 l more stand q153u7 q153u10 q153u11)))
end Go.Proofs.Ytpbhcpeilgmkeaa
