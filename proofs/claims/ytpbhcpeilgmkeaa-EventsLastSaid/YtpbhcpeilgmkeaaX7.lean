/-
  The evaluator, the printed walks and the plain laws, part 7 of 12.
-/
import Derived.Test.YtpbhcpeilgmkeaaX6
set_option linter.all false
set_option linter.unnecessarySimpa false
set_option linter.deprecated false
set_option linter.unusedVariables false
set_option linter.unusedSimpArgs false
set_option linter.unusedSectionVars false

/-
  Walks of the events: printed by gen2.py (extraction).
-/
namespace Go.Proofs.Ytpbhcpeilgmkeaa
open Go Go.Eva Enc
variable [Drw]
set_option linter.unusedSectionVars false
set_option linter.unusedSimpArgs false
set_option linter.unusedVariables false
set_option maxRecDepth 4000
attribute [local congr] AWp.congrS
attribute [local simp] evalSeq opRes guardPc evalOp evT Eva.get startT strip putT Eva.after constT typed obAll holds dstOk R.ok R.bad ofD binD unD pickT subL subP Op.operands Call.operands toD argsD callD callT typedAll cfind quietT spec0 spec1 spec2 spec3 enc_int enc_bool enc_str enc_fn enc_list dec_int dec_bool dec_str dec_fn dec_list size_int size_str enc_R enc_M enc_E dec_R dec_M dec_E size_R size_M size_E eta_R eta_M eta_E enc_rune size_rune dec_rune eta_rune runesD_eq map_dec_enc map_dec_comp cellsT D.cells T.oneT D.one mkT unD1 setAt loadAs loadEl storeAs fieldP fieldV sizeE intOfT indexP appendT lenT sliceT elemSize arith lfsOk lfOk beqL_R beqL_M beqL_E beqL_R0 beqL_M0 isAggD mkD fillD placeS TD.agg env restr List.map keyIdx mapTy lookT mapPutT mapDelT mapOf indexS convT evalPure range1 range2 range3 range4 eqT4 eqT38 eqT40 eqT42 te1 te2 te3 te4 te5 te6 te7 te8 te9 te10 te11 te12 te13 te14 te15 te16 te17 te18 te19 te21 te22 te23 te24 te25 te27 te28 te29 te31 te32 te34 te35 te36 te37 te38 te39 te40 te41 te42 te43 te44 te45 te46 te47 te49 te50 te51 te52 te53 te54 te55 te56 te57 te59 te60 te61 te62 te63 te64 te65 te66 te67 te68 te69 te70 te71 te72 te73 te74 te75 te76 te77 te78 te79 te80 te82 te83 te84 te85 te86 te87 te88 te90 te91 te92 te94 te95 te96 te97 te98 te99 te100 te101 te102 te103 te104 te105 te106 te107 te108 te109 te110 te111 te112 te113 te114 te116 te117 te118 te119 te120 te121 te122 te123 te124 te125 te126 te127 te128 te129 te130 te131 te132 te133 te134 enc_intk size_intk dec_intk eta_intk range5 range6 range7 range8 keysInt_nil keyIdx_E keysInt_E isE_iff put_E del_E get_E getok_E mkeys_E mkeys_E' mkeys_enc specO0 specO1 specO2 specO3 specO4 opD skips gone List.contains_cons List.contains_nil envF fenv

noncomputable def sp17 : Eva.Spec := specO1 fun (l : (List Event)) => (rMarks l).map fun r => .tup [enc r.1, enc r.2]
theorem ok17 : SpecOk Try.prog 17 sp17 := by
  have hV : VOk Try.prog (envF [(14, sp14), (22, sp22)]) := envF_ok ⟨ok14, ok22, trivial⟩
  refine SpecOk.ofO1 (Enters.of Try.func17 (by decide)) ?_
  intro l rr hr
  obtain ⟨r, hg, rfl⟩ := Option.map_eq_some_iff.1 hr
  clear hr
  refine PureCon.ofQ hV Try.func17 rfl (by rw [Try.ntmps17]; simp) fun w0 I0 Q hQ => ?_
  rw [Try.ntmps17]
  unfold rMarks at hg
  refine AWp.rS hV none [0] fun K k1 => ?_
  simp
  repeat refine And.intro (by first | omega | (simp [*]; done) | grind) ?_
  refine kcong (s' := ⟨[(0, .d (enc (l : (List Event))))], []⟩) (by first | rfl | (simp []; done) | (simp []; grind)) (k1 _ ?_)
  obtain ⟨g2, hg⟩ := grd_some hg
  refine AWp.rS hV none [0, 4] fun K k3 => ?_
  simp [sp14]
  repeat refine And.intro (by first | omega | (simp [*]; done) | grind) ?_
  refine kcong (s' := ⟨[(0, .d (enc (l : (List Event)))), (4, .d (enc ((validE l) : Bool)))], []⟩) (by first | rfl | (simp [sp14]; done) | (simp [sp14]; grind)) (k3 _ ?_)
  refine AWp.seqG fun _ k4 => ?_
  refine AWp.rS hV none [0, 14] fun K k5 => ?_
  simp
  repeat refine And.intro (by first | omega | (simp [*]; done) | grind) ?_
  refine kcong (s' := ⟨[(0, .d (enc (l : (List Event)))), (14, .d (enc ((!(validE l)) : Bool)))], []⟩) (by first | rfl | (simp []; done) | (simp []; grind)) (k5 _ ?_)
  refine AWp.cond (b := (!(validE l))) rfl (fun h6 => ?_) fun h6 => ?_
  · replace hg := ifb_t h6 hg
    refine AWp.rS hV none [2, 3] fun K k7 => ?_
    simp
    repeat refine And.intro (by first | omega | (simp [*]; done) | grind) ?_
    refine kcong (s' := ⟨[(2, .nils 10), (3, .d (enc (1 : Int)))], []⟩) (by first | rfl | (simp []; done) | (simp []; grind)) (k7 _ ?_)
    refine AWp.ret ?_
    refine hQ _ _ (.inl rfl) ?_
    obtain ⟨r0, r1⟩ := r
    have hg := Option.some.inj hg
    simp only [Prod.mk.injEq] at hg
    obtain ⟨rfl, rfl⟩ := hg
    first | (simp [retOk, resT, loadAs]; done) | (simp [retOk, resT, loadAs]; grind)
  · replace hg := ifb_f h6 hg
    refine AWp.skip ?_
    refine k4 _ ?_
    refine AWp.rS hV none [0, 5] fun K k8 => ?_
    simp
    repeat refine And.intro (by first | omega | (simp [*]; done) | grind) ?_
    refine kcong (s' := ⟨[(0, .d (enc (l : (List Event)))), (5, .nils 10)], []⟩) (by first | rfl | (simp []; done) | (simp []; grind)) (k8 _ ?_)
    refine AWp.seqJ (fun s' => ∃ y9u5 : (List Mark), rMarks_j1 y9u5 = some r ∧ Sub s' ⟨[(5, .row 0)], [.row 40 10 ((y9u5 : List Mark).map enc)]⟩) (fun _ k10 => ?_) ?_
    · refine AWp.rS hV none [0, 5, 6] fun K k11 => ?_
      simp
      repeat refine And.intro (by first | omega | (simp [*]; done) | grind) ?_
      refine kcong (s' := ⟨[(0, .d (enc (l : (List Event)))), (5, .nils 10), (6, .d (enc (0 : Int)))], []⟩) (by first | rfl | (simp []; done) | (simp []; grind)) (k11 _ ?_)
      refine AWp.block ?_
      obtain ⟨o203, hl204, hg⟩ := bnd_some hg
      refine AWp.loopO (fun ((z2u5, z2u6) : (List Mark) × Int) => ⟨[(0, .d (enc (l : (List Event)))), (5, .row 0), (6, .d (enc (z2u6 : Int)))], [.row 40 10 ((z2u5 : List Mark).map enc)]⟩) (rMarks_s23 l) ([], 0) hl204 ?_ fun z205 w208 _ ho206 hx207 k12 => ?_
      · show Sub _ ⟨[(0, .d (enc (l : (List Event)))), (5, .row 0), (6, .d (enc (0 : Int)))], [.row 40 10 (([] : List Mark).map enc)]⟩
        exact Sub.trans (Sub.adopt 5 40 10 rfl) (Sub.ren [0] (by decide) (by first | rfl | simp [renL, AO.ren, forgetsR, T.ren, idx, Eva.get]) (by first | exact ⟨rfl, rfl, rfl, trivial⟩ | (simp [renL, AO.ren, forgetsR, T.ren, idx, Eva.get]; done) | (simp [renL, AO.ren, forgetsR, T.ren, idx, Eva.get]; grind)))
      obtain ⟨z2u5, z2u6⟩ := z205
      unfold rMarks_s23 at ho206
      try dsimp only at ho206
      have hq209 := hg
      clear hg
      have hg := ho206
      clear ho206
      show AWp _ _ _ _ _ ⟨[(0, .d (enc (l : (List Event)))), (5, .row 0), (6, .d (enc (z2u6 : Int)))], [.row 40 10 ((z2u5 : List Mark).map enc)]⟩ _
      refine AWp.seqG fun _ k210 => ?_
      refine AWp.rS hV none [0, 5, 6, 18] fun K k211 => ?_
      simp
      repeat refine And.intro (by first | omega | (simp [*]; done) | grind) ?_
      refine kcong (s' := ⟨[(0, .d (enc (l : (List Event)))), (5, .row 0), (6, .d (enc (z2u6 : Int))), (18, .d (enc ((decide (z2u6 < (l.length : Int))) : Bool)))], [.row 40 10 ((z2u5 : List Mark).map enc)]⟩) (by first | rfl | (simp []; done) | (simp []; grind)) (k211 _ ?_)
      refine AWp.cond (b := (decide (z2u6 < (l.length : Int)))) rfl (fun h212 => ?_) fun h212 => ?_
      · replace hg := ifb_t h212 hg
        refine AWp.skip ?_
        refine k210 _ ?_
        refine AWp.seqJ (fun s' => ∃ y213u5 : (List Mark), rMarks_j24 z2u6 y213u5 = some w208 ∧ Sub s' ⟨[(0, .d (enc (l : (List Event)))), (5, .row 0), (6, .d (enc (z2u6 : Int)))], [.row 40 10 ((y213u5 : List Mark).map enc)]⟩) (fun _ k214 => ?_) ?_
        · refine AWp.block ?_
          obtain ⟨x215, h216, hg⟩ := bnd_some hg
          obtain ⟨h216a, h216b, h216c⟩ := at_some h216
          have h216f := elAt_enc h216c
          have h216g := h216f
          try simp at h216g
          refine AWp.rS hV none [0, 5, 6, 7] fun K k217 => ?_
          simp [sp22, h216f, h216g]
          repeat refine And.intro (by first | omega | (simp [*]; done) | grind) ?_
          refine kcong (s' := ⟨[(0, .d (enc (l : (List Event)))), (5, .row 0), (6, .d (enc (z2u6 : Int))), (7, .d (enc ((about x215) : Int)))], [.row 40 10 ((z2u5 : List Mark).map enc)]⟩) (by first | rfl | (simp [sp22, h216f, h216g]; done) | (simp [sp22, h216f, h216g]; grind)) (k217 _ ?_)
          refine AWp.seqG fun _ k218 => ?_
          refine AWp.rS hV none [0, 5, 6, 7, 27] fun K k219 => ?_
          simp
          repeat refine And.intro (by first | omega | (simp [*]; done) | grind) ?_
          refine kcong (s' := ⟨[(0, .d (enc (l : (List Event)))), (5, .row 0), (6, .d (enc (z2u6 : Int))), (7, .d (enc ((about x215) : Int))), (27, .d (enc ((decide ((about x215) = 0)) : Bool)))], [.row 40 10 ((z2u5 : List Mark).map enc)]⟩) (by first | rfl | (simp []; done) | (simp []; grind)) (k219 _ ?_)
          refine AWp.cond (b := (decide ((about x215) = 0))) rfl (fun h220 => ?_) fun h220 => ?_
          · replace hg := ifb_t h220 hg
            refine AWp.exit ?_
            refine k214 _ (Exists.intro _ (And.intro hg ?_))
            show Sub _ ⟨[(0, .d (enc (l : (List Event)))), (5, .row 0), (6, .d (enc (z2u6 : Int)))], [.row 40 10 ((z2u5 : List Mark).map enc)]⟩
            exact Sub.ren [0] (by decide) (by first | rfl | simp [renL, AO.ren, forgetsR, T.ren, idx, Eva.get]) (by first | exact ⟨rfl, rfl, rfl, trivial⟩ | (simp [renL, AO.ren, forgetsR, T.ren, idx, Eva.get]; done) | (simp [renL, AO.ren, forgetsR, T.ren, idx, Eva.get]; grind))
          · replace hg := ifb_f h220 hg
            refine AWp.skip ?_
            refine k218 _ ?_
            refine AWp.rS hV none [0, 5, 6, 7, 8] fun K k221 => ?_
            simp
            repeat refine And.intro (by first | omega | (simp [*]; done) | grind) ?_
            refine kcong (s' := ⟨[(0, .d (enc (l : (List Event)))), (5, .row 0), (6, .d (enc (z2u6 : Int))), (7, .d (enc ((about x215) : Int))), (8, .d (enc ((z2u5.length : Int) : Int)))], [.row 40 10 ((z2u5 : List Mark).map enc)]⟩) (by first | rfl | (simp []; done) | (simp []; grind)) (k221 _ ?_)
            refine AWp.seqJ (fun s' => ∃ y222u8 : Int, rMarks_j25 l z2u5 z2u6 x215 y222u8 = some w208 ∧ Sub s' ⟨[(0, .d (enc (l : (List Event)))), (5, .row 0), (6, .d (enc (z2u6 : Int))), (7, .d (enc ((about x215) : Int))), (8, .d (enc (y222u8 : Int)))], [.row 40 10 ((z2u5 : List Mark).map enc)]⟩) (fun _ k223 => ?_) ?_
            · refine AWp.block ?_
              obtain ⟨o251, hl252, hg⟩ := bnd_some hg
              refine AWp.loopO (fun (z26u8 : Int) => ⟨[(0, .d (enc (l : (List Event)))), (5, .row 0), (6, .d (enc (z2u6 : Int))), (7, .d (enc ((about x215) : Int))), (8, .d (enc (z26u8 : Int)))], [.row 40 10 ((z2u5 : List Mark).map enc)]⟩) (rMarks_s29 z2u5 x215) (z2u5.length : Int) hl252 ?_ fun z26u8 w256 _ ho254 hx255 k224 => ?_
              · show Sub _ ⟨[(0, .d (enc (l : (List Event)))), (5, .row 0), (6, .d (enc (z2u6 : Int))), (7, .d (enc ((about x215) : Int))), (8, .d (enc ((z2u5.length : Int) : Int)))], [.row 40 10 ((z2u5 : List Mark).map enc)]⟩
                exact Sub.ren [0] (by decide) (by first | rfl | simp [renL, AO.ren, forgetsR, T.ren, idx, Eva.get]) (by first | exact ⟨rfl, rfl, rfl, rfl, rfl, trivial⟩ | (simp [renL, AO.ren, forgetsR, T.ren, idx, Eva.get]; done) | (simp [renL, AO.ren, forgetsR, T.ren, idx, Eva.get]; grind))
              unfold rMarks_s29 at ho254
              try dsimp only at ho254
              have hq257 := hg
              clear hg
              have hg := ho254
              clear ho254
              show AWp _ _ _ _ _ ⟨[(0, .d (enc (l : (List Event)))), (5, .row 0), (6, .d (enc (z2u6 : Int))), (7, .d (enc ((about x215) : Int))), (8, .d (enc (z26u8 : Int)))], [.row 40 10 ((z2u5 : List Mark).map enc)]⟩ _
              refine AWp.seqG fun _ k258 => ?_
              obtain ⟨y262u41, hx263, hg⟩ := bnd_some hg
              unfold rMarks_r30 at hx263
              refine AWp.seqJ (fun s' => Sub s' ⟨[(0, .d (enc (l : (List Event)))), (5, .row 0), (6, .d (enc (z2u6 : Int))), (7, .d (enc ((about x215) : Int))), (8, .d (enc (z26u8 : Int))), (41, .d (enc (y262u41 : Bool)))], [.row 40 10 ((z2u5 : List Mark).map enc)]⟩) (fun _ k264 => ?_) ?_
              · rcases Bool.eq_false_or_eq_true (decide (0 < z26u8)) with c265 | c265
                · replace hx263 := ifb_t c265 hx263
                  have c265g := c265
                  try simp at c265g
                  obtain ⟨g259, hx263⟩ := grd_some hx263
                  unfold inI at g259
                  obtain ⟨x260, h261, hx263⟩ := bnd_some hx263
                  obtain ⟨h261a, h261b, h261c⟩ := at_some h261
                  have h261f := elAt_enc h261c
                  have h261g := h261f
                  try simp at h261g
                  refine AWp.regF hV (some []) [0, 5, 6, 7, 8, 41] fun K k266 => ?_
                  simp [c265, c265g, h261f, h261g]
                  repeat refine And.intro (by first | omega | (simp [*]; done) | grind) ?_
                  refine kcong (s' := ⟨[(0, .d (enc (l : (List Event)))), (5, .row 0), (6, .d (enc (z2u6 : Int))), (7, .d (enc ((about x215) : Int))), (8, .d (enc (z26u8 : Int))), (41, .d (enc ((decide ((about x215) ≤ x260.id)) : Bool)))], [.row 40 10 ((z2u5 : List Mark).map enc)]⟩) (by first | rfl | (simp [c265, c265g, h261f, h261g]; done) | (simp [c265, c265g, h261f, h261g]; grind)) (k266 _ ?_)
                  have hx263 := Option.some.inj hx263
                  subst hx263
                  refine k264 _ ?_
                  show Sub _ ⟨[(0, .d (enc (l : (List Event)))), (5, .row 0), (6, .d (enc (z2u6 : Int))), (7, .d (enc ((about x215) : Int))), (8, .d (enc (z26u8 : Int))), (41, .d (enc ((decide ((about x215) ≤ x260.id)) : Bool)))], [.row 40 10 ((z2u5 : List Mark).map enc)]⟩
                  exact Sub.ren [0] (by decide) (by first | rfl | simp [renL, AO.ren, forgetsR, T.ren, idx, Eva.get]) (by first | exact ⟨rfl, rfl, rfl, rfl, rfl, rfl, trivial⟩ | (simp [renL, AO.ren, forgetsR, T.ren, idx, Eva.get]; done) | (simp [renL, AO.ren, forgetsR, T.ren, idx, Eva.get]; grind))
                · replace hx263 := ifb_f c265 hx263
                  have c265g := c265
                  try simp at c265g
                  refine AWp.regF hV (some [33, 34, 35, 36, 37, 38, 39, 40]) [0, 5, 6, 7, 8, 41] fun K k267 => ?_
                  simp [c265, c265g]
                  repeat refine And.intro (by first | omega | (simp [*]; done) | grind) ?_
                  refine kcong (s' := ⟨[(0, .d (enc (l : (List Event)))), (5, .row 0), (6, .d (enc (z2u6 : Int))), (7, .d (enc ((about x215) : Int))), (8, .d (enc (z26u8 : Int))), (41, .d (enc (false : Bool)))], [.row 40 10 ((z2u5 : List Mark).map enc)]⟩) (by first | rfl | (simp [c265, c265g]; done) | (simp [c265, c265g]; grind)) (k267 _ ?_)
                  have hx263 := Option.some.inj hx263
                  subst hx263
                  refine k264 _ ?_
                  show Sub _ ⟨[(0, .d (enc (l : (List Event)))), (5, .row 0), (6, .d (enc (z2u6 : Int))), (7, .d (enc ((about x215) : Int))), (8, .d (enc (z26u8 : Int))), (41, .d (enc (false : Bool)))], [.row 40 10 ((z2u5 : List Mark).map enc)]⟩
                  exact Sub.ren [0] (by decide) (by first | rfl | simp [renL, AO.ren, forgetsR, T.ren, idx, Eva.get]) (by first | exact ⟨rfl, rfl, rfl, rfl, rfl, rfl, trivial⟩ | (simp [renL, AO.ren, forgetsR, T.ren, idx, Eva.get]; done) | (simp [renL, AO.ren, forgetsR, T.ren, idx, Eva.get]; grind))
              · intro s' hs
                refine AWp.sub hs ?_
                clear hs s'
                refine AWp.cond (b := y262u41) rfl (fun h268 => ?_) fun h268 => ?_
                · replace hg := ifb_t h268 hg
                  refine AWp.skip ?_
                  refine k258 _ ?_
                  refine AWp.block ?_
                  obtain ⟨g269, hg⟩ := grd_some hg
                  unfold inI at g269
                  refine AWp.regF hV none [0, 5, 6, 7, 8] fun K k270 => ?_
                  simp
                  repeat refine And.intro (by first | omega | (simp [*]; done) | grind) ?_
                  refine kcong (s' := ⟨[(0, .d (enc (l : (List Event)))), (5, .row 0), (6, .d (enc (z2u6 : Int))), (7, .d (enc ((about x215) : Int))), (8, .d (enc ((z26u8 - 1) : Int)))], [.row 40 10 ((z2u5 : List Mark).map enc)]⟩) (by first | rfl | (simp []; done) | (simp []; grind)) (k270 _ ?_)
                  refine k224 _ _ (Option.some.inj hg).symm ?_
                  show Sub _ ⟨[(0, .d (enc (l : (List Event)))), (5, .row 0), (6, .d (enc (z2u6 : Int))), (7, .d (enc ((about x215) : Int))), (8, .d (enc ((z26u8 - 1) : Int)))], [.row 40 10 ((z2u5 : List Mark).map enc)]⟩
                  exact Sub.ren [0] (by decide) (by first | rfl | simp [renL, AO.ren, forgetsR, T.ren, idx, Eva.get]) (by first | exact ⟨rfl, rfl, rfl, rfl, rfl, trivial⟩ | (simp [renL, AO.ren, forgetsR, T.ren, idx, Eva.get]; done) | (simp [renL, AO.ren, forgetsR, T.ren, idx, Eva.get]; grind))
                · replace hg := ifb_f h268 hg
                  refine AWp.exit ?_
                  have e271 := hx255 _ (Option.some.inj hg).symm
                  subst e271
                  have hg := hq257
                  try dsimp only at hg
                  refine k223 _ (Exists.intro _ (And.intro hg ?_))
                  show Sub _ ⟨[(0, .d (enc (l : (List Event)))), (5, .row 0), (6, .d (enc (z2u6 : Int))), (7, .d (enc ((about x215) : Int))), (8, .d (enc (z26u8 : Int)))], [.row 40 10 ((z2u5 : List Mark).map enc)]⟩
                  exact Sub.ren [0] (by decide) (by first | rfl | simp [renL, AO.ren, forgetsR, T.ren, idx, Eva.get]) (by first | exact ⟨rfl, rfl, rfl, rfl, rfl, trivial⟩ | (simp [renL, AO.ren, forgetsR, T.ren, idx, Eva.get]; done) | (simp [renL, AO.ren, forgetsR, T.ren, idx, Eva.get]; grind))
            · rintro s' ⟨y222u8, hg, hs⟩
              unfold rMarks_j25 at hg
              refine AWp.sub hs ?_
              obtain ⟨g273, hg⟩ := grd_some hg
              refine AWp.rS hV none [0, 5, 6, 7, 8, 9] fun K k274 => ?_
              simp
              repeat refine And.intro (by first | omega | (simp [*]; done) | grind) ?_
              refine kcong (s' := ⟨[(0, .d (enc (l : (List Event)))), (5, .row 0), (6, .d (enc (z2u6 : Int))), (7, .d (enc ((about x215) : Int))), (8, .d (enc (y222u8 : Int))), (9, .d (enc ((z2u5.drop y222u8.toNat) : (List Mark))))], [.frow 40 10 ((z2u5 : List Mark).map enc)]⟩) (by first | rfl | (simp []; done) | (simp []; grind)) (k274 _ ?_)
              refine AWp.seqJ (fun s' => ∃ y275u9 : (List Mark), rMarks_j31 l z2u5 z2u6 y222u8 y275u9 = some w208 ∧ Sub s' ⟨[(0, .d (enc (l : (List Event)))), (5, .row 0), (6, .d (enc (z2u6 : Int))), (8, .d (enc (y222u8 : Int))), (9, .d (enc (y275u9 : (List Mark))))], [.frow 40 10 ((z2u5 : List Mark).map enc)]⟩) (fun _ k276 => ?_) ?_
              · obtain ⟨y279u57, hx280, hg⟩ := bnd_some hg
                unfold rMarks_r32 at hx280
                refine AWp.seqJ (fun s' => Sub s' ⟨[(0, .d (enc (l : (List Event)))), (5, .row 0), (6, .d (enc (z2u6 : Int))), (8, .d (enc (y222u8 : Int))), (9, .d (enc ((z2u5.drop y222u8.toNat) : (List Mark)))), (57, .d (enc (y279u57 : Bool)))], [.frow 40 10 ((z2u5 : List Mark).map enc)]⟩) (fun _ k281 => ?_) ?_
                · rcases Bool.eq_false_or_eq_true (decide (0 < ((z2u5.drop y222u8.toNat).length : Int))) with c282 | c282
                  · replace hx280 := ifb_t c282 hx280
                    have c282g := c282
                    try simp at c282g
                    obtain ⟨x277, h278, hx280⟩ := bnd_some hx280
                    obtain ⟨h278a, h278b, h278c⟩ := at_some h278
                    have h278f := elAt_enc h278c
                    have h278g := h278f
                    try simp at h278g
                    refine AWp.regF hV (some []) [0, 5, 6, 8, 9, 57] fun K k283 => ?_
                    simp [c282, c282g, h278f, h278g]
                    repeat refine And.intro (by first | omega | (simp [*]; done) | grind) ?_
                    refine kcong (s' := ⟨[(0, .d (enc (l : (List Event)))), (5, .row 0), (6, .d (enc (z2u6 : Int))), (8, .d (enc (y222u8 : Int))), (9, .d (enc ((z2u5.drop y222u8.toNat) : (List Mark)))), (57, .d (enc ((decide (x277.id = (about x215))) : Bool)))], [.frow 40 10 ((z2u5 : List Mark).map enc)]⟩) (by first | rfl | (simp [c282, c282g, h278f, h278g]; done) | (simp [c282, c282g, h278f, h278g]; grind)) (k283 _ ?_)
                    have hx280 := Option.some.inj hx280
                    subst hx280
                    refine k281 _ ?_
                    show Sub _ ⟨[(0, .d (enc (l : (List Event)))), (5, .row 0), (6, .d (enc (z2u6 : Int))), (8, .d (enc (y222u8 : Int))), (9, .d (enc ((z2u5.drop y222u8.toNat) : (List Mark)))), (57, .d (enc ((decide (x277.id = (about x215))) : Bool)))], [.frow 40 10 ((z2u5 : List Mark).map enc)]⟩
                    exact Sub.ren [0] (by decide) (by first | rfl | simp [renL, AO.ren, forgetsR, T.ren, idx, Eva.get]) (by first | exact ⟨rfl, rfl, rfl, rfl, rfl, rfl, trivial⟩ | (simp [renL, AO.ren, forgetsR, T.ren, idx, Eva.get]; done) | (simp [renL, AO.ren, forgetsR, T.ren, idx, Eva.get]; grind))
                  · replace hx280 := ifb_f c282 hx280
                    have c282g := c282
                    try simp at c282g
                    refine AWp.regF hV (some [51, 52, 53, 54, 55, 56]) [0, 5, 6, 8, 9, 57] fun K k284 => ?_
                    simp [c282, c282g]
                    repeat refine And.intro (by first | omega | (simp [*]; done) | grind) ?_
                    refine kcong (s' := ⟨[(0, .d (enc (l : (List Event)))), (5, .row 0), (6, .d (enc (z2u6 : Int))), (8, .d (enc (y222u8 : Int))), (9, .d (enc ((z2u5.drop y222u8.toNat) : (List Mark)))), (57, .d (enc (false : Bool)))], [.frow 40 10 ((z2u5 : List Mark).map enc)]⟩) (by first | rfl | (simp [c282, c282g]; done) | (simp [c282, c282g]; grind)) (k284 _ ?_)
                    have hx280 := Option.some.inj hx280
                    subst hx280
                    refine k281 _ ?_
                    show Sub _ ⟨[(0, .d (enc (l : (List Event)))), (5, .row 0), (6, .d (enc (z2u6 : Int))), (8, .d (enc (y222u8 : Int))), (9, .d (enc ((z2u5.drop y222u8.toNat) : (List Mark)))), (57, .d (enc (false : Bool)))], [.frow 40 10 ((z2u5 : List Mark).map enc)]⟩
                    exact Sub.ren [0] (by decide) (by first | rfl | simp [renL, AO.ren, forgetsR, T.ren, idx, Eva.get]) (by first | exact ⟨rfl, rfl, rfl, rfl, rfl, rfl, trivial⟩ | (simp [renL, AO.ren, forgetsR, T.ren, idx, Eva.get]; done) | (simp [renL, AO.ren, forgetsR, T.ren, idx, Eva.get]; grind))
                · intro s' hs
                  refine AWp.sub hs ?_
                  clear hs s'
                  refine AWp.cond (b := y279u57) rfl (fun h285 => ?_) fun h285 => ?_
                  · replace hg := ifb_t h285 hg
                    obtain ⟨g286, hg⟩ := grd_some hg
                    refine AWp.regF hV none [0, 5, 6, 8, 9] fun K k287 => ?_
                    simp
                    repeat refine And.intro (by first | omega | (simp [*]; done) | grind) ?_
                    refine kcong (s' := ⟨[(0, .d (enc (l : (List Event)))), (5, .row 0), (6, .d (enc (z2u6 : Int))), (8, .d (enc (y222u8 : Int))), (9, .d (enc (((z2u5.drop y222u8.toNat).drop (1 : Int).toNat) : (List Mark))))], [.frow 40 10 ((z2u5 : List Mark).map enc)]⟩) (by first | rfl | (simp []; done) | (simp []; grind)) (k287 _ ?_)
                    refine k276 _ (Exists.intro _ (And.intro hg ?_))
                    show Sub _ ⟨[(0, .d (enc (l : (List Event)))), (5, .row 0), (6, .d (enc (z2u6 : Int))), (8, .d (enc (y222u8 : Int))), (9, .d (enc (((z2u5.drop y222u8.toNat).drop (1 : Int).toNat) : (List Mark))))], [.frow 40 10 ((z2u5 : List Mark).map enc)]⟩
                    exact Sub.ren [0] (by decide) (by first | rfl | simp [renL, AO.ren, forgetsR, T.ren, idx, Eva.get]) (by first | exact ⟨rfl, rfl, rfl, rfl, rfl, trivial⟩ | (simp [renL, AO.ren, forgetsR, T.ren, idx, Eva.get]; done) | (simp [renL, AO.ren, forgetsR, T.ren, idx, Eva.get]; grind))
                  · replace hg := ifb_f h285 hg
                    refine AWp.skip ?_
                    refine k276 _ (Exists.intro _ (And.intro hg ?_))
                    show Sub _ ⟨[(0, .d (enc (l : (List Event)))), (5, .row 0), (6, .d (enc (z2u6 : Int))), (8, .d (enc (y222u8 : Int))), (9, .d (enc ((z2u5.drop y222u8.toNat) : (List Mark))))], [.frow 40 10 ((z2u5 : List Mark).map enc)]⟩
                    exact Sub.ren [0] (by decide) (by first | rfl | simp [renL, AO.ren, forgetsR, T.ren, idx, Eva.get]) (by first | exact ⟨rfl, rfl, rfl, rfl, rfl, trivial⟩ | (simp [renL, AO.ren, forgetsR, T.ren, idx, Eva.get]; done) | (simp [renL, AO.ren, forgetsR, T.ren, idx, Eva.get]; grind))
              · rintro s' ⟨y275u9, hg, hs⟩
                unfold rMarks_j31 at hg
                refine AWp.sub hs ?_
                refine AWp.rS hV none [0, 5, 6, 8, 9, 10] fun K k288 => ?_
                simp
                repeat refine And.intro (by first | omega | (simp [*]; done) | grind) ?_
                refine kcong (s' := ⟨[(0, .d (enc (l : (List Event)))), (5, .row 0), (6, .d (enc (z2u6 : Int))), (8, .d (enc (y222u8 : Int))), (9, .d (enc (y275u9 : (List Mark)))), (10, .nils 10)], [.frow 40 10 ((z2u5 : List Mark).map enc)]⟩) (by first | rfl | (simp []; done) | (simp []; grind)) (k288 _ ?_)
                obtain ⟨g289, hg⟩ := grd_some hg
                obtain ⟨g290, hg⟩ := grd_some hg
                refine AWp.rS hV none [0, 6, 9, 10] fun K k291 => ?_
                simp
                repeat refine And.intro (by first | omega | (simp [*]; done) | grind) ?_
                refine kcong (s' := ⟨[(0, .d (enc (l : (List Event)))), (6, .d (enc (z2u6 : Int))), (9, .d (enc (y275u9 : (List Mark)))), (10, .row 1)], [.frow 40 10 ((z2u5 : List Mark).map enc), .row 40 10 (((z2u5.take y222u8.toNat) : List Mark).map enc)]⟩) (by first | rfl | (simp []; done) | (simp []; grind)) (k291 _ ?_)
                refine AWp.seqJ (fun s' => ∃ y292u10 : (List Mark), rMarks_j33 z2u6 y275u9 y292u10 = some w208 ∧ Sub s' ⟨[(0, .d (enc (l : (List Event)))), (6, .d (enc (z2u6 : Int))), (9, .d (enc (y275u9 : (List Mark)))), (10, .row 0)], [.row 40 10 ((y292u10 : List Mark).map enc)]⟩) (fun _ k293 => ?_) ?_
                · obtain ⟨x294, h295, hg⟩ := bnd_some hg
                  obtain ⟨h295a, h295b, h295c⟩ := at_some h295
                  have h295f := elAt_enc h295c
                  have h295g := h295f
                  try simp at h295g
                  refine AWp.rS hV none [0, 6, 9, 10, 70] fun K k296 => ?_
                  simp [h295f, h295g]
                  repeat refine And.intro (by first | omega | (simp [*]; done) | grind) ?_
                  refine kcong (s' := ⟨[(0, .d (enc (l : (List Event)))), (6, .d (enc (z2u6 : Int))), (9, .d (enc (y275u9 : (List Mark)))), (10, .row 1), (70, .d (enc ((decide (x294.kind = 1)) : Bool)))], [.frow 40 10 ((z2u5 : List Mark).map enc), .row 40 10 (((z2u5.take y222u8.toNat) : List Mark).map enc)]⟩) (by first | rfl | (simp [h295f, h295g]; done) | (simp [h295f, h295g]; grind)) (k296 _ ?_)
                  refine AWp.cond (b := (decide (x294.kind = 1))) rfl (fun h297 => ?_) fun h297 => ?_
                  · replace hg := ifb_t h297 hg
                    obtain ⟨x298, h299, hg⟩ := bnd_some hg
                    obtain ⟨h299a, h299b, h299c⟩ := at_some h299
                    have h299f := elAt_enc h299c
                    have h299g := h299f
                    try simp at h299g
                    obtain ⟨g300, hg⟩ := grd_some hg
                    refine AWp.regF hV none [0, 6, 9, 10] fun K k301 => ?_
                    simp [h299f, h299g]
                    repeat refine And.intro (by first | omega | (simp [*]; done) | grind) ?_
                    refine kcong (s' := ⟨[(0, .d (enc (l : (List Event)))), (6, .d (enc (z2u6 : Int))), (9, .d (enc (y275u9 : (List Mark)))), (10, .row 2)], [.frow 40 10 ((z2u5 : List Mark).map enc), .dead, .row 40 10 ((((z2u5.take y222u8.toNat) ++ [x298.mark]) : List Mark).map enc)]⟩) (by first | rfl | (simp [h299f, h299g]; done) | (simp [h299f, h299g]; grind)) (k301 _ ?_)
                    refine k293 _ (Exists.intro _ (And.intro hg ?_))
                    show Sub _ ⟨[(0, .d (enc (l : (List Event)))), (6, .d (enc (z2u6 : Int))), (9, .d (enc (y275u9 : (List Mark)))), (10, .row 0)], [.row 40 10 ((((z2u5.take y222u8.toNat) ++ [x298.mark]) : List Mark).map enc)]⟩
                    exact Sub.ren [2] (by decide) (by first | rfl | simp [renL, AO.ren, forgetsR, T.ren, idx, Eva.get]) (by first | exact ⟨rfl, rfl, rfl, rfl, trivial⟩ | (simp [renL, AO.ren, forgetsR, T.ren, idx, Eva.get]; done) | (simp [renL, AO.ren, forgetsR, T.ren, idx, Eva.get]; grind))
                  · replace hg := ifb_f h297 hg
                    refine AWp.skip ?_
                    refine k293 _ (Exists.intro _ (And.intro hg ?_))
                    show Sub _ ⟨[(0, .d (enc (l : (List Event)))), (6, .d (enc (z2u6 : Int))), (9, .d (enc (y275u9 : (List Mark)))), (10, .row 0)], [.row 40 10 (((z2u5.take y222u8.toNat) : List Mark).map enc)]⟩
                    exact Sub.ren [1] (by decide) (by first | rfl | simp [renL, AO.ren, forgetsR, T.ren, idx, Eva.get]) (by first | exact ⟨rfl, rfl, rfl, rfl, trivial⟩ | (simp [renL, AO.ren, forgetsR, T.ren, idx, Eva.get]; done) | (simp [renL, AO.ren, forgetsR, T.ren, idx, Eva.get]; grind))
                · rintro s' ⟨y292u10, hg, hs⟩
                  unfold rMarks_j33 at hg
                  refine AWp.sub hs ?_
                  obtain ⟨g302, hg⟩ := grd_some hg
                  refine AWp.regF hV none [0, 5, 6] fun K k303 => ?_
                  simp
                  repeat refine And.intro (by first | omega | (simp [*]; done) | grind) ?_
                  refine kcong (s' := ⟨[(0, .d (enc (l : (List Event)))), (5, .row 1), (6, .d (enc (z2u6 : Int)))], [.dead, .row 40 10 (((y292u10 ++ y275u9) : List Mark).map enc)]⟩) (by first | rfl | (simp []; done) | (simp []; grind)) (k303 _ ?_)
                  refine k214 _ (Exists.intro _ (And.intro hg ?_))
                  show Sub _ ⟨[(0, .d (enc (l : (List Event)))), (5, .row 0), (6, .d (enc (z2u6 : Int)))], [.row 40 10 (((y292u10 ++ y275u9) : List Mark).map enc)]⟩
                  exact Sub.ren [1] (by decide) (by first | rfl | simp [renL, AO.ren, forgetsR, T.ren, idx, Eva.get]) (by first | exact ⟨rfl, rfl, rfl, trivial⟩ | (simp [renL, AO.ren, forgetsR, T.ren, idx, Eva.get]; done) | (simp [renL, AO.ren, forgetsR, T.ren, idx, Eva.get]; grind))
        · rintro s' ⟨y213u5, hg, hs⟩
          unfold rMarks_j24 at hg
          refine AWp.sub hs ?_
          obtain ⟨g304, hg⟩ := grd_some hg
          unfold inI at g304
          refine AWp.regF hV none [0, 5, 6] fun K k305 => ?_
          simp
          repeat refine And.intro (by first | omega | (simp [*]; done) | grind) ?_
          refine kcong (s' := ⟨[(0, .d (enc (l : (List Event)))), (5, .row 0), (6, .d (enc ((z2u6 + 1) : Int)))], [.row 40 10 ((y213u5 : List Mark).map enc)]⟩) (by first | rfl | (simp []; done) | (simp []; grind)) (k305 _ ?_)
          refine k12 _ _ (Option.some.inj hg).symm ?_
          show Sub _ ⟨[(0, .d (enc (l : (List Event)))), (5, .row 0), (6, .d (enc ((z2u6 + 1) : Int)))], [.row 40 10 ((y213u5 : List Mark).map enc)]⟩
          exact Sub.ren [0] (by decide) (by first | rfl | simp [renL, AO.ren, forgetsR, T.ren, idx, Eva.get]) (by first | exact ⟨rfl, rfl, rfl, trivial⟩ | (simp [renL, AO.ren, forgetsR, T.ren, idx, Eva.get]; done) | (simp [renL, AO.ren, forgetsR, T.ren, idx, Eva.get]; grind))
      · replace hg := ifb_f h212 hg
        refine AWp.exit ?_
        have e306 := hx207 _ (Option.some.inj hg).symm
        subst e306
        have hg := hq209
        try dsimp only at hg
        refine k10 _ (Exists.intro _ (And.intro hg ?_))
        show Sub _ ⟨[(5, .row 0)], [.row 40 10 ((z2u5 : List Mark).map enc)]⟩
        exact Sub.ren [0] (by decide) (by first | rfl | simp [renL, AO.ren, forgetsR, T.ren, idx, Eva.get]) (by first | exact ⟨rfl, trivial⟩ | (simp [renL, AO.ren, forgetsR, T.ren, idx, Eva.get]; done) | (simp [renL, AO.ren, forgetsR, T.ren, idx, Eva.get]; grind))
    · rintro s' ⟨y9u5, hg, hs⟩
      unfold rMarks_j1 at hg
      refine AWp.sub hs ?_
      refine AWp.rS hV none [2, 3] fun K k308 => ?_
      simp
      repeat refine And.intro (by first | omega | (simp [*]; done) | grind) ?_
      refine kcong (s' := ⟨[(2, .row 0), (3, .d (enc (0 : Int)))], [.row 40 10 ((y9u5 : List Mark).map enc)]⟩) (by first | rfl | (simp []; done) | (simp []; grind)) (k308 _ ?_)
      refine AWp.ret ?_
      refine hQ _ _ (.inl rfl) ?_
      obtain ⟨r0, r1⟩ := r
      have hg := Option.some.inj hg
      simp only [Prod.mk.injEq] at hg
      obtain ⟨rfl, rfl⟩ := hg
      first | (simp [retOk, resT, loadAs]; done) | (simp [retOk, resT, loadAs]; grind)
end Go.Proofs.Ytpbhcpeilgmkeaa

/-
  Programs of the events: printed by gen2.py (extraction).
-/
namespace Go.Proofs.Ytpbhcpeilgmkeaa
open Go Go.Eva Enc
set_option linter.unusedVariables false
noncomputable def eAdd_r1 (l : (List Event)) (more : (List Event)) : Option Bool :=
  (grd ((l : List Event).length ≤ 1000000000) (ifb (!(validE l)) (some true) (grd ((more : List Event).length ≤ 1000000000) (some (more.any wrongE)))))
noncomputable def eAdd_j2 (l : (List Event)) (more : (List Event)) : Option ((List Event) × Int) :=
  some ((mergeL l (sortE more)).1, 0)
noncomputable def eAdd (l : (List Event)) (more : (List Event)) : Option ((List Event) × Int) :=
  bnd (eAdd_r1 l more) fun y6u17 =>
  ifb y6u17 (some ([], 1))
  (grd ((more : List Event).length * 120 ≤ 140737488355328) (grd ((more : List Event).length ≤ 1000000000000) (grd ((l : List Event).length + ((sortE more) : List Event).length ≤ 100000000) (ifb (!(mergeL l (sortE more)).2) (some ([], 61))
  (ifb (decide (20000 < (((mergeL l (sortE more)).1).length : Int))) (some ([], 2))
  (eAdd_j2 l more))))))
end Go.Proofs.Ytpbhcpeilgmkeaa

/-
  Walks of the events: printed by gen2.py (extraction).
-/
namespace Go.Proofs.Ytpbhcpeilgmkeaa
open Go Go.Eva Enc
variable [Drw]
set_option linter.unusedSectionVars false
set_option linter.unusedSimpArgs false
set_option linter.unusedVariables false
set_option maxRecDepth 4000
attribute [local congr] AWp.congrS
attribute [local simp] evalSeq opRes guardPc evalOp evT Eva.get startT strip putT Eva.after constT typed obAll holds dstOk R.ok R.bad ofD binD unD pickT subL subP Op.operands Call.operands toD argsD callD callT typedAll cfind quietT spec0 spec1 spec2 spec3 enc_int enc_bool enc_str enc_fn enc_list dec_int dec_bool dec_str dec_fn dec_list size_int size_str enc_R enc_M enc_E dec_R dec_M dec_E size_R size_M size_E eta_R eta_M eta_E enc_rune size_rune dec_rune eta_rune runesD_eq map_dec_enc map_dec_comp cellsT D.cells T.oneT D.one mkT unD1 setAt loadAs loadEl storeAs fieldP fieldV sizeE intOfT indexP appendT lenT sliceT elemSize arith lfsOk lfOk beqL_R beqL_M beqL_E beqL_R0 beqL_M0 isAggD mkD fillD placeS TD.agg env restr List.map keyIdx mapTy lookT mapPutT mapDelT mapOf indexS convT evalPure range1 range2 range3 range4 eqT4 eqT38 eqT40 eqT42 te1 te2 te3 te4 te5 te6 te7 te8 te9 te10 te11 te12 te13 te14 te15 te16 te17 te18 te19 te21 te22 te23 te24 te25 te27 te28 te29 te31 te32 te34 te35 te36 te37 te38 te39 te40 te41 te42 te43 te44 te45 te46 te47 te49 te50 te51 te52 te53 te54 te55 te56 te57 te59 te60 te61 te62 te63 te64 te65 te66 te67 te68 te69 te70 te71 te72 te73 te74 te75 te76 te77 te78 te79 te80 te82 te83 te84 te85 te86 te87 te88 te90 te91 te92 te94 te95 te96 te97 te98 te99 te100 te101 te102 te103 te104 te105 te106 te107 te108 te109 te110 te111 te112 te113 te114 te116 te117 te118 te119 te120 te121 te122 te123 te124 te125 te126 te127 te128 te129 te130 te131 te132 te133 te134 enc_intk size_intk dec_intk eta_intk range5 range6 range7 range8 keysInt_nil keyIdx_E keysInt_E isE_iff put_E del_E get_E getok_E mkeys_E mkeys_E' mkeys_enc specO0 specO1 specO2 specO3 specO4 opD skips gone List.contains_cons List.contains_nil envF fenv

noncomputable def sp11 : Eva.Spec := specO2 fun (l : (List Event)) (more : (List Event)) => (eAdd l more).map fun r => .tup [enc r.1, enc r.2]
theorem ok11 : SpecOk Try.prog 11 sp11 := by
  have hV : VOk Try.prog (envF [(13, sp13), (28, sp28), (33, sp33)]) := envF_ok ⟨ok13, ok28, ok33, trivial⟩
  refine SpecOk.ofO2 (Enters.of Try.func11 (by decide)) ?_
  intro l more rr hr
  obtain ⟨r, hg, rfl⟩ := Option.map_eq_some_iff.1 hr
  clear hr
  refine PureCon.ofQ hV Try.func11 rfl (by rw [Try.ntmps11]; simp) fun w0 I0 Q hQ => ?_
  rw [Try.ntmps11]
  unfold eAdd at hg
  refine AWp.rS hV none [0, 1] fun K k1 => ?_
  simp
  repeat refine And.intro (by first | omega | (simp [*]; done) | grind) ?_
  refine kcong (s' := ⟨[(0, .d (enc (l : (List Event)))), (1, .d (enc (more : (List Event))))], []⟩) (by first | rfl | (simp []; done) | (simp []; grind)) (k1 _ ?_)
  refine AWp.rS hV none [0, 1, 6] fun K k2 => ?_
  simp
  repeat refine And.intro (by first | omega | (simp [*]; done) | grind) ?_
  refine kcong (s' := ⟨[(0, .d (enc (l : (List Event)))), (1, .d (enc (more : (List Event)))), (6, .d (.fn 26))], []⟩) (by first | rfl | (simp []; done) | (simp []; grind)) (k2 _ ?_)
  refine AWp.seqG fun _ k3 => ?_
  obtain ⟨y6u17, hx7, hg⟩ := bnd_some hg
  unfold eAdd_r1 at hx7
  refine AWp.seqJ (fun s' => Sub s' ⟨[(0, .d (enc (l : (List Event)))), (1, .d (enc (more : (List Event)))), (17, .d (enc (y6u17 : Bool)))], []⟩) (fun _ k8 => ?_) ?_
  · obtain ⟨g4, hx7⟩ := grd_some hx7
    rcases Bool.eq_false_or_eq_true (!(validE l)) with c9 | c9
    · replace hx7 := ifb_t c9 hx7
      have c9g := c9
      try simp at c9g
      refine AWp.regF hV (some [14, 15, 16]) [0, 1, 17] fun K k10 => ?_
      simp [sp13, sp28, c9, c9g]
      repeat refine And.intro (by first | omega | (simp [*]; done) | grind) ?_
      refine kcong (s' := ⟨[(0, .d (enc (l : (List Event)))), (1, .d (enc (more : (List Event)))), (17, .d (enc (true : Bool)))], []⟩) (by first | rfl | (simp [sp13, sp28, c9, c9g]; done) | (simp [sp13, sp28, c9, c9g]; grind)) (k10 _ ?_)
      have hx7 := Option.some.inj hx7
      subst hx7
      refine k8 _ ?_
      show Sub _ ⟨[(0, .d (enc (l : (List Event)))), (1, .d (enc (more : (List Event)))), (17, .d (enc (true : Bool)))], []⟩
      exact Sub.ren [] (by decide) (by first | rfl | simp [renL, AO.ren, forgetsR, T.ren, idx, Eva.get]) (by first | exact ⟨rfl, rfl, rfl, trivial⟩ | (simp [renL, AO.ren, forgetsR, T.ren, idx, Eva.get]; done) | (simp [renL, AO.ren, forgetsR, T.ren, idx, Eva.get]; grind))
    · replace hx7 := ifb_f c9 hx7
      have c9g := c9
      try simp at c9g
      obtain ⟨g5, hx7⟩ := grd_some hx7
      refine AWp.regF hV (some []) [0, 1, 17] fun K k11 => ?_
      simp [sp13, sp28, c9, c9g]
      repeat refine And.intro (by first | omega | (simp [*]; done) | grind) ?_
      refine kcong (s' := ⟨[(0, .d (enc (l : (List Event)))), (1, .d (enc (more : (List Event)))), (17, .d (enc ((more.any wrongE) : Bool)))], []⟩) (by first | rfl | (simp [sp13, sp28, c9, c9g]; done) | (simp [sp13, sp28, c9, c9g]; grind)) (k11 _ ?_)
      have hx7 := Option.some.inj hx7
      subst hx7
      refine k8 _ ?_
      show Sub _ ⟨[(0, .d (enc (l : (List Event)))), (1, .d (enc (more : (List Event)))), (17, .d (enc ((more.any wrongE) : Bool)))], []⟩
      exact Sub.ren [] (by decide) (by first | rfl | simp [renL, AO.ren, forgetsR, T.ren, idx, Eva.get]) (by first | exact ⟨rfl, rfl, rfl, trivial⟩ | (simp [renL, AO.ren, forgetsR, T.ren, idx, Eva.get]; done) | (simp [renL, AO.ren, forgetsR, T.ren, idx, Eva.get]; grind))
  · intro s' hs
    refine AWp.sub hs ?_
    clear hs s'
    refine AWp.cond (b := y6u17) rfl (fun h12 => ?_) fun h12 => ?_
    · replace hg := ifb_t h12 hg
      refine AWp.rS hV none [4, 5] fun K k13 => ?_
      simp
      repeat refine And.intro (by first | omega | (simp [*]; done) | grind) ?_
      refine kcong (s' := ⟨[(4, .nils 14), (5, .d (enc (1 : Int)))], []⟩) (by first | rfl | (simp []; done) | (simp []; grind)) (k13 _ ?_)
      refine AWp.ret ?_
      refine hQ _ _ (.inl rfl) ?_
      obtain ⟨r0, r1⟩ := r
      have hg := Option.some.inj hg
      simp only [Prod.mk.injEq] at hg
      obtain ⟨rfl, rfl⟩ := hg
      first | (simp [retOk, resT, loadAs]; done) | (simp [retOk, resT, loadAs]; grind)
    · replace hg := ifb_f h12 hg
      refine AWp.skip ?_
      refine k3 _ ?_
      obtain ⟨g14, hg⟩ := grd_some hg
      refine AWp.rS hV none [0, 7] fun K k15 => ?_
      simp
      repeat refine And.intro (by first | omega | (simp [*]; done) | grind) ?_
      refine kcong (s' := ⟨[(0, .d (enc (l : (List Event)))), (7, .row 0)], [.row 42 14 ((more : List Event).map enc)]⟩) (by first | rfl | (simp []; done) | (simp []; grind)) (k15 _ ?_)
      obtain ⟨g16, hg⟩ := grd_some hg
      refine AWp.rS hV none [0, 7] fun K k17 => ?_
      simp
      repeat refine And.intro (by first | omega | (simp [*]; done) | grind) ?_
      refine kcong (s' := ⟨[(0, .d (enc (l : (List Event)))), (7, .row 0)], [.row 42 14 (((sortE more) : List Event).map enc)]⟩) (by first | rfl | (simp []; done) | (simp []; grind)) (k17 _ ?_)
      obtain ⟨g18, hg⟩ := grd_some hg
      refine AWp.rS hV none [8, 9] fun K k19 => ?_
      simp [sp33]
      repeat refine And.intro (by first | omega | (simp [*]; done) | grind) ?_
      refine kcong (s' := ⟨[(8, .d (enc ((mergeL l (sortE more)).1 : (List Event)))), (9, .d (enc ((mergeL l (sortE more)).2 : Bool)))], [.frow 42 14 (((sortE more) : List Event).map enc)]⟩) (by first | rfl | (simp [sp33]; done) | (simp [sp33]; grind)) (k19 _ ?_)
      refine AWp.seqJ (fun s' => eAdd_j2 l more = some r ∧ Sub s' ⟨[(8, .d (enc ((mergeL l (sortE more)).1 : (List Event))))], []⟩) (fun _ k21 => ?_) ?_
      · refine AWp.block ?_
        refine AWp.rS hV none [8, 28] fun K k22 => ?_
        simp
        repeat refine And.intro (by first | omega | (simp [*]; done) | grind) ?_
        refine kcong (s' := ⟨[(8, .d (enc ((mergeL l (sortE more)).1 : (List Event)))), (28, .d (enc ((!(mergeL l (sortE more)).2) : Bool)))], [.frow 42 14 (((sortE more) : List Event).map enc)]⟩) (by first | rfl | (simp []; done) | (simp []; grind)) (k22 _ ?_)
        refine AWp.cond (b := (!(mergeL l (sortE more)).2)) rfl (fun h23 => ?_) fun h23 => ?_
        · replace hg := ifb_t h23 hg
          refine AWp.rS hV none [4, 5] fun K k24 => ?_
          simp
          repeat refine And.intro (by first | omega | (simp [*]; done) | grind) ?_
          refine kcong (s' := ⟨[(4, .nils 14), (5, .d (enc (61 : Int)))], [.frow 42 14 (((sortE more) : List Event).map enc)]⟩) (by first | rfl | (simp []; done) | (simp []; grind)) (k24 _ ?_)
          refine AWp.ret ?_
          refine hQ _ _ (.inl rfl) ?_
          obtain ⟨r0, r1⟩ := r
          have hg := Option.some.inj hg
          simp only [Prod.mk.injEq] at hg
          obtain ⟨rfl, rfl⟩ := hg
          first | (simp [retOk, resT, loadAs]; done) | (simp [retOk, resT, loadAs]; grind)
        · replace hg := ifb_f h23 hg
          refine AWp.rS hV none [8, 31] fun K k25 => ?_
          simp
          repeat refine And.intro (by first | omega | (simp [*]; done) | grind) ?_
          refine kcong (s' := ⟨[(8, .d (enc ((mergeL l (sortE more)).1 : (List Event)))), (31, .d (enc ((decide (20000 < (((mergeL l (sortE more)).1).length : Int))) : Bool)))], [.frow 42 14 (((sortE more) : List Event).map enc)]⟩) (by first | rfl | (simp []; done) | (simp []; grind)) (k25 _ ?_)
          refine AWp.cond (b := (decide (20000 < (((mergeL l (sortE more)).1).length : Int)))) rfl (fun h26 => ?_) fun h26 => ?_
          · replace hg := ifb_t h26 hg
            refine AWp.rS hV none [4, 5] fun K k27 => ?_
            simp
            repeat refine And.intro (by first | omega | (simp [*]; done) | grind) ?_
            refine kcong (s' := ⟨[(4, .nils 14), (5, .d (enc (2 : Int)))], [.frow 42 14 (((sortE more) : List Event).map enc)]⟩) (by first | rfl | (simp []; done) | (simp []; grind)) (k27 _ ?_)
            refine AWp.ret ?_
            refine hQ _ _ (.inl rfl) ?_
            obtain ⟨r0, r1⟩ := r
            have hg := Option.some.inj hg
            simp only [Prod.mk.injEq] at hg
            obtain ⟨rfl, rfl⟩ := hg
            first | (simp [retOk, resT, loadAs]; done) | (simp [retOk, resT, loadAs]; grind)
          · replace hg := ifb_f h26 hg
            refine AWp.skip ?_
            refine k21 _ (And.intro hg ?_)
            show Sub _ ⟨[(8, .d (enc ((mergeL l (sortE more)).1 : (List Event))))], []⟩
            exact Sub.ren [] (by decide) (by first | rfl | simp [renL, AO.ren, forgetsR, T.ren, idx, Eva.get]) (by first | exact ⟨rfl, trivial⟩ | (simp [renL, AO.ren, forgetsR, T.ren, idx, Eva.get]; done) | (simp [renL, AO.ren, forgetsR, T.ren, idx, Eva.get]; grind))
      · rintro s' ⟨hg, hs⟩
        unfold eAdd_j2 at hg
        refine AWp.sub hs ?_
        refine AWp.rS hV none [4, 5] fun K k28 => ?_
        simp
        repeat refine And.intro (by first | omega | (simp [*]; done) | grind) ?_
        refine kcong (s' := ⟨[(4, .d (enc ((mergeL l (sortE more)).1 : (List Event)))), (5, .d (enc (0 : Int)))], []⟩) (by first | rfl | (simp []; done) | (simp []; grind)) (k28 _ ?_)
        refine AWp.ret ?_
        refine hQ _ _ (.inl rfl) ?_
        obtain ⟨r0, r1⟩ := r
        have hg := Option.some.inj hg
        simp only [Prod.mk.injEq] at hg
        obtain ⟨rfl, rfl⟩ := hg
        first | (simp [retOk, resT, loadAs]; done) | (simp [retOk, resT, loadAs]; grind)
end Go.Proofs.Ytpbhcpeilgmkeaa

/-
  maps.Keys and slices.Sorted of ints.
-/
namespace Go.Proofs.Ytpbhcpeilgmkeaa
open Go Go.Eva Enc Go.RowKit Go.Maps Go.Sort Go.Shelf
set_option linter.unusedSectionVars false
/-- Draws aren't kept count of any more. -/
instance drwOff : Drw := ⟨False⟩

theorem con39 (ks vs : List D) : @PureCon drwOff Try.prog 39 [.map ks vs] (.clo 54 [.box (.map ks vs)]) := by
  intro w I args hsat hlen hrd
  obtain ⟨v, rfl⟩ : ∃ v, args = #[v] := by
    match args, hlen with
    | ⟨[a]⟩, _ => exact ⟨a, rfl⟩
  have hv := hrd 0 v _ rfl rfl
  obtain ⟨mb, rfl⟩ : ∃ mb, v = .map mb := by cases hv <;> exact ⟨_, rfl⟩
  have cK : CallsIn Fence.wide 5 Try.prog 39 #[.map mb] w fun e w' => e = .returned (.func (.func 54) #[] #[.pointer (some ⟨w.heap.size, 0, none⟩)]) ∧ w' = w.alloc (.cells #[.map mb] 47) := AnyZI.keys_in Try.keysMk Fence.wide 5 trivial rfl mb w
  refine ((callsIn_wide (n := 5)).1 cK).mono ?_
  rintro e w' ⟨rfl, rfl⟩
  let J : Imm := ⟨fun b o => if b = w.heap.size then (if o = 0 then some (.map mb) else none) else I.cell b o, I.mp⟩
  have hno := hsat.noB (Nat.le_refl w.heap.size)
  have hle : I.le J := ⟨fun b o u hc => by
    have : b ≠ w.heap.size := fun e => by subst e; rw [hno.1] at hc; cases hc
    simp only [J, if_neg this]; exact hc, fun _ _ h => h⟩
  refine ⟨_, J, rfl, (Bel.refl _ _).alloc (Nat.le_refl _) _, ⟨hle, fun b hb => by funext o; simp only [J, if_neg (Nat.ne_of_lt hb)], fun _ _ => rfl⟩, ⟨fun b o u hc => ?_, fun b es hc => ?_⟩, ?_⟩
  · by_cases hb : b = w.heap.size
    · subst hb
      simp only [J, if_true] at hc
      by_cases ho : o = 0
      · subst ho; simp at hc; subst hc
        show (w.alloc _).cell? ⟨w.heap.size, 0, none⟩ = _
        rw [World.cell?_alloc_new]; rfl
      · simp [ho] at hc
    · simp only [J, if_neg hb] at hc
      exact (World.cell?_of_block (w := w) (a := ⟨b, o, none⟩) (Below.heap_alloc w _ b (hsat.lt hc))).trans (hsat.cell b o u hc)
  · exact MapAt.to (Below.heap_alloc w _ b (hsat.ltm hc)) (hsat.mp b es hc)
  · refine .clo _ _ _ rfl fun i u d hu hd => ?_
    rcases i with _ | i
    · simp at hu hd; subst hu; subst hd
      refine .box _ _ (fun _ => .map mb) (by simp [D.cells, D.one]) (fun k hk => ?_) (fun k x hx => ?_)
      · simp [D.cells] at hk; subst hk; simp [J]
      · rcases k with _ | k
        · simp [D.cells] at hx; subst hx; exact hv.mono hle
        · simp [D.cells] at hx
    · simp at hu
def R0 : Value → Option (DataW Unit × List MemPlace) := fun _ => some (.lit (.bool true), [])
theorem keys_own {w : World} {b clk : Nat} {es : Array MapEntry} {xs : List Int} (hh : MapAt w.heap[b]? (es, clk)) (hsz : es.size = xs.length) (hk : ∀ (i : Nat) (e : MapEntry) x, es[i]? = some e → xs[i]? = some x → e.key = .int .i64 x) (hwf : ∀ x ∈ xs, -9223372036854775808 ≤ x ∧ x ≤ 9223372036854775807) (hmax : xs.length ≤ 1000000000) :
    ∃ D0 : DataW Unit, w.ownsMap Try.prog 3 R0 b xs.length D0 ∧ (intKeys D0).Perm xs ∧ Maps.size D0 = xs.length := by
  have hwf' : ∀ x ∈ xs, (Lit.int .i64 x).wf = true := fun x hx => WalkArith.wf_i64 (by have := hwf x hx; omega)
  have hkx : ∀ e ∈ es.toList, ∃ x ∈ xs, e.key = .int .i64 x := by
    intro e he
    obtain ⟨i, hi, rfl⟩ := List.mem_iff_getElem.1 he
    have hi' : i < es.size := by simpa using hi
    have hx : xs[i]? = some xs[i] := List.getElem?_eq_getElem (by omega)
    exact ⟨_, List.mem_of_getElem? hx, hk i _ _ (by simp [hi']) hx⟩
  have hrd : ∀ e ∈ es.toList, ∀ x ∈ xs, e.key = .int .i64 x → WideElems.rd Try.prog 3 R0 e = some (.int .i64 x, .lit (.bool true)) := by
    intro e he x hx hkey
    simp [WideElems.rd, hkey, keyOf_int_mk Try.underlying3 (hwf' x hx), R0]
  refine ⟨_, ⟨es, clk, hh.1, ⟨by rw [hsz]; unfold maxLen; omega, hh.2, fun e he => ?_⟩, by omega, rfl⟩, ?_, ?_⟩
  · obtain ⟨x, hx, hkey⟩ := hkx e he
    exact ⟨_, hrd e he x hx hkey⟩
  · show (((es.toList.map (WideElems.rg Try.prog 3 R0)).foldr DataW.insert []).map fun p => Go.intOf p.1).Perm xs
    refine ((WideShapes.sorted_perm _).map _).trans ?_
    have : (es.toList.map (WideElems.rg Try.prog 3 R0)).map (fun p => Go.intOf p.1) = xs := by
      apply List.ext_getElem?
      intro i
      rw [List.getElem?_map, List.getElem?_map]
      by_cases hi : i < es.size
      · have he : es.toList[i]? = some es[i] := by simp [hi]
        have hx : xs[i]? = some xs[i] := List.getElem?_eq_getElem (by omega)
        have hkey := hk i es[i] xs[i] (by simp [hi]) hx
        have := hrd es[i] (List.mem_of_getElem? he) _ (List.mem_of_getElem? hx) hkey
        rw [he, hx]
        simp [WideElems.rg, this, Go.intOf]
      · rw [List.getElem?_eq_none (by simp; omega), List.getElem?_eq_none (by omega)]; rfl
    rw [this]
  · show ((es.toList.map (WideElems.rg Try.prog 3 R0)).foldr DataW.insert []).length = xs.length
    rw [(WideShapes.sorted_perm _).length_eq]; simp [hsz]

def sortI (xs : List Int) : List Int := xs.mergeSort leI
theorem sortI_perm {xs ys : List Int} (h : xs.Perm ys) : sortI xs = sortI ys := mergeSort_of_perm_i h
/-- A row that is known for good from here on. -/
theorem sealRow {w : World} {I : Imm} {B g : Nat} {cur : Array Value} {e : TypeId} {fl : Nat × Nat} (hsat : SatI w I) (hno : I.noB g) (hB : B ≤ g) (hh : w.heap[g]? = some (.cells cur e fl)) :
    SatI w (I.withCells g cur.toList) ∧ ExtI B I (I.withCells g cur.toList) := by
  have hout : ∀ b, b ≠ g → (I.withCells g cur.toList).cell b = I.cell b := fun b hb => by funext o; simp [Imm.withCells, hb]
  refine ⟨⟨fun b o v hc => ?_, fun b es hc => hsat.mp b es hc⟩, ⟨fun b o v hc => ?_, fun _ _ h => h⟩, fun b hb => hout b (by omega), fun _ _ => rfl⟩
  · by_cases hb : b = g
    · subst hb
      simp only [Imm.withCells, if_true] at hc
      cases hx : cur[o]? with
      | none => simp [hx, hno.1 o] at hc
      | some x => simp [hx] at hc; subst hc; simp [World.cell?, hh, hx]
    · rw [hout b hb] at hc; exact hsat.cell b o v hc
  · have hb : b ≠ g := by rintro rfl; rw [hno.1 o] at hc; cases hc
    rw [hout b hb]; exact hc
theorem sorts53 (m : Nat) : AnyZI.SortsIn Try.prog Try.sortedInt_ren Fence.wide m :=
  ⟨fun blk off cap ss W hH hblk hsz => callsIn_wide.2 (AnyM.slices_Sort_int Try.sortInt blk off cap ss W hH hblk hsz),
   fun p cap W => callsIn_wide.2 (AnyM.slices_Sort_int_none Try.sortInt p cap W)⟩
theorem con38 (xs : List Int) (vs : List D) (hwf : ∀ x ∈ xs, -9223372036854775808 ≤ x ∧ x ≤ 9223372036854775807) (hmax : xs.length ≤ 1000000000) :
    @PureCon drwOff Try.prog 38 [.clo 54 [.box (.map (xs.map enc) vs)]] (.slice 1 ((sortI xs).map enc)) := by
  intro w I args hsat hlen hrd
  obtain ⟨v, rfl⟩ : ∃ v, args = #[v] := by
    match args, hlen with
    | ⟨[a]⟩, _ => exact ⟨a, rfl⟩
  have hv := hrd 0 v _ rfl rfl
  obtain ⟨p, rfl, hp⟩ : ∃ p, v = .func (.func 54) #[] #[p] ∧ Rd I p (.box (.map (xs.map enc) vs)) := by
    generalize xs.map (enc : Int → D) = ks at hv ⊢
    cases hv with
    | clo f ps ds h1 h2 =>
      match ps, h1 with
      | ⟨[p]⟩, _ => exact ⟨p, rfl, h2 0 p _ rfl rfl⟩
  obtain ⟨b, mb, rfl, hcell, hm⟩ : ∃ b mb, p = .pointer (some ⟨b, 0, none⟩) ∧ w.cell? ⟨b, 0, none⟩ = some (.map mb) ∧ Rd I (.map mb) (.map (xs.map enc) vs) := by
    generalize xs.map (enc : Int → D) = ks at hp ⊢
    cases hp with
    | box b d val h1 h2 h3 =>
      have h4 := h2 0 (by simp [D.cells])
      have h5 := h3 0 _ rfl
      obtain ⟨mb, hmb⟩ : ∃ mb, val 0 = .map mb := by
        generalize val 0 = z at h5
        cases h5 <;> exact ⟨_, rfl⟩
      rw [hmb] at h4 h5
      exact ⟨b, mb, rfl, hsat.cell _ _ _ h4, h5⟩
  have hb : b < w.heap.size := World.block_lt_of_cell? w ⟨b, 0, none⟩ hcell
  have main : ∀ (S : List Int → Prop) (N : Nat), N ≤ 1000000000 → SeqGives Fence.wide 2 Try.prog 54 #[.pointer (some ⟨b, 0, none⟩)] encZ S N w → (∀ ss, S ss → sortI ss = sortI xs) →
      Calls Try.prog 38 #[.func (.func 54) #[] #[.pointer (some ⟨b, 0, none⟩)]] w fun e w' => ∃ v J, e = .returned v ∧ Bel w.heap.size w w' ∧ ExtI w.heap.size I J ∧ SatI w' J ∧ Rd J v (.slice 1 ((sortI xs).map enc)) := by
    intro S N hN hseq hS
    have cS := AnyZI.sorted_in Try.sortedInt Fence.wide 5 trivial trivial trivial trivial rfl (by omega) (sorts53 _) (enters_of Try.func53 (by kernel_rfl) rfl) 54 #[.pointer (some ⟨b, 0, none⟩)] trivial (enters_of Try.func54 (by kernel_rfl) rfl) S N (by unfold maxLen; omega) (by omega) w hseq
    change CallsIn _ _ Try.prog 38 _ _ _ at cS
    refine ((callsIn_wide (n := 5)).1 cS).mono ?_
    rintro e w' ⟨v, ss, rfl, hSs, hrow, _, hbel⟩
    have hss := hS ss hSs
    unfold sortI at hss
    have hlen : (sortI xs).length = xs.length := by unfold sortI; rw [(List.mergeSort_perm _ _).length_eq]
    change ss.mergeSort leI = sortI xs at hss
    rw [hss] at hrow
    generalize sortI xs = ys at hrow hlen
    obtain ⟨n, hrow⟩ : ∃ n, w'.ownsRow w.heap.size 3 1 v n (ys.map encZ) := ⟨_, hrow⟩
    have hBel : Bel w.heap.size w w' := Bel.of hbel fun h => h.elim
    have hsat' : SatI w' I := ⟨fun b o u hc => (World.cell?_of_block (w := w) (a := ⟨b, o, none⟩) (hBel.block b (hsat.lt hc))).trans (hsat.cell b o u hc), fun b es hc => by
      exact MapAt.to (hBel.block b (hsat.ltm hc)) (hsat.mp b es hc)⟩
    obtain ⟨hn, ⟨rfl, h0⟩ | ⟨g, cap, cur, rfl, hg, hh, hnc, hcap, hsz, htk⟩⟩ := hrow
    · have : ys = [] := by simpa [h0] using hn
      subst this
      exact ⟨_, I, rfl, hBel, ExtI.refl _ _, hsat', .slice0 _ _ _ (Nat.zero_le _)⟩
    · have hno := hsat.noB hg
      obtain ⟨k1, k2⟩ := sealRow (B := w.heap.size) hsat' hno hg hh
      refine ⟨_, _, rfl, hBel, k2, k1, .slice _ _ _ _ _ _ (fun k => (cur[k]?).getD undef) (by simpa using hn) hnc hcap (fun d hd => ?_) (fun k hk => ?_) (fun k x hx => ?_)⟩
      · obtain ⟨y, _, rfl⟩ := List.mem_map.1 hd
        simp [enc_int, D.cells, D.one]
      · have : cur[k]? = some (cur[k]'(by omega)) := Array.getElem?_eq_getElem (by omega)
        simp [Imm.withCells, this]
      · have hfl : flat (ys.map (enc : Int → D)) = ys.map enc := by
          unfold flat
          rw [List.flatMap_map]
          simp [enc_int, D.cells]
          rw [← List.map_eq_flatMap]
          exact List.map_congr_left fun z _ => (enc_int z).symm
        rw [hfl] at hx
        have hk : k < ys.length := by have := (List.getElem?_eq_some_iff.1 hx).1; simpa using this
        have hy : ys[k]? = some ys[k] := List.getElem?_eq_getElem hk
        have hx' : x = enc ys[k] := by simpa [hy] using hx.symm
        have hc : cur[k]? = some (encZ ys[k]) := by
          have h1 : (cur.toList.take (n * 1))[k]? = (ys.map encZ)[k]? := by rw [htk]
          rw [List.getElem?_take_of_lt (by simp at hn; omega)] at h1
          simpa [hy] using h1
        rw [hc, hx', enc_int]
        exact .int _ _
  cases mb with
  | none =>
    have hx : xs = [] := by
      generalize hks : xs.map (enc : Int → D) = ks at hm
      cases hm
      simpa using hks
    subst hx
    exact main (fun ss => ss = []) 0 (by omega) (AnyZI.keys_gives_nil (ρ := Try.keysMk_ren) { Try.keysMk with } Fence.wide _ trivial rfl b w hb hcell) (fun ss h => by rw [h])
  | some bb =>
    obtain ⟨⟨es, clk⟩, h1, h2, h3⟩ : ∃ es : ME, I.mp bb = some es ∧ es.1.size = (xs.map (enc : Int → D)).length ∧ ∀ (i : Nat) (e : MapEntry) (d : D), es.1[i]? = some e → (xs.map (enc : Int → D))[i]? = some d → Rd I e.key d := by
      generalize hks : xs.map (enc : Int → D) = ks at hm
      cases hm with
      | map _ es _ _ q1 q2 q3 q4 q5 => exact ⟨es, q1, q2, q4⟩
    have hh := hsat.mp bb (es, clk) h1
    obtain ⟨D0, g1, g2, g3⟩ := keys_own (xs := xs) hh (by simpa using h2) (fun i e x he hx => by
      have := h3 i e (enc x) he (by simp [hx])
      rw [enc_int] at this
      generalize e.key = z at this
      cases this; rfl) hwf hmax
    exact main (fun ss => ss.Perm (intKeys D0)) (Maps.size D0) (by omega) (AnyZI.keys_gives (ρ := Try.keysMk_ren) { Try.keysMk with } Fence.wide _ trivial rfl (by omega) b bb xs.length D0 w hb hcell g1) (fun ss h => sortI_perm (h.trans g2))

def sp39 : Eva.Spec := fun ds => match ds with
  | [.map ks vs] => some (.clo 54 [.box (.map ks vs)], True)
  | _ => none
theorem ok39 : SpecOk Try.prog 39 sp39 := ⟨Enters.of Try.func39 (by decide), fun ds r ob hs hob => by
  unfold sp39 at hs; split at hs
  · cases hs; exact con39 _ _
  · cases hs⟩
def okKeys (ks : List D) : Prop := (ks.map (dec : D → Int)).map enc = ks ∧ (∀ x ∈ ks.map (dec : D → Int), -9223372036854775808 ≤ x ∧ x ≤ 9223372036854775807) ∧ ks.length ≤ 1000000000
theorem okKeys_E {α : Type} (x : List (Int × α)) : okKeys (x.map kE) ↔ (∀ k ∈ mkeys x, inI k) ∧ x.length ≤ 1000000000 := by
  unfold okKeys
  rw [mkeys_E, mkeys_enc, List.length_map]
  exact ⟨fun h => h.2, fun h => ⟨rfl, h⟩⟩
def sp38 : Eva.Spec := fun ds => match ds with
  | [.clo 54 [.box (.map ks vs)]] => some (.slice 1 ((sortI (ks.map dec)).map enc), okKeys ks)
  | _ => none
theorem ok38 : SpecOk Try.prog 38 sp38 := ⟨Enters.of Try.func38 (by decide), fun ds r ob hs hob => by
  unfold sp38 at hs; split at hs
  · cases hs
    rename_i ks vs
    obtain ⟨h1, h2, h3⟩ := hob
    have := con38 (ks.map dec) vs h2 (by simpa using h3)
    rw [h1] at this
    exact this
  · cases hs⟩
end Go.Proofs.Ytpbhcpeilgmkeaa

/-
  Programs of the events: printed by gen2.py (extraction).
-/
namespace Go.Proofs.Ytpbhcpeilgmkeaa
open Go Go.Eva Enc
set_option linter.unusedVariables false
noncomputable def eMarks_j6 (z2u16 : Int) (y56u4 : (List (Int × Mark))) : Option (((List (Int × Mark)) × Int) ⊕ (((List (Int × Mark))))) :=
  grd (inI (z2u16 + 1)) (some (.inl (y56u4, (z2u16 + 1))))
noncomputable def eMarks_s5 (l : (List Event)) : ((List (Int × Mark)) × Int) → Option (((List (Int × Mark)) × Int) ⊕ (((List (Int × Mark))))) := fun (z2u4, z2u16) =>
  ifb (decide (z2u16 < (l.length : Int))) (bnd (at? l z2u16) fun x58 =>
  ifb (decide (x58.kind = 1)) (eMarks_j6 z2u16 (mput z2u4 x58.mark.id x58.mark))
  (ifb (decide (x58.kind = 2)) (eMarks_j6 z2u16 (mdel z2u4 x58.n))
  (eMarks_j6 z2u16 z2u4)))
  (some (.inr z2u4))
noncomputable def eMarks_j12 (z8u40 : Int) (y112u7 : (List Mark)) : Option (((List Mark) × Int) ⊕ (((List Mark)))) :=
  grd (inI (z8u40 + 1)) (some (.inl (y112u7, (z8u40 + 1))))
noncomputable def eMarks_s11 (y8u4 : (List (Int × Mark))) : ((List Mark) × Int) → Option (((List Mark) × Int) ⊕ (((List Mark)))) := fun (z8u7, z8u40) =>
  ifb (decide (z8u40 < ((sortI (mkeys y8u4)).length : Int))) (bnd (at? (sortI (mkeys y8u4)) z8u40) fun x114 =>
  grd (((z8u7 ++ [(mgetD y8u4 x114 (⟨0, 0, 0, (⟨0, 0, 0⟩ : Reader), 0, 0, 0, ⟨#[]⟩⟩ : Mark))]) : List Mark).length * 88 ≤ 140737488355328) (eMarks_j12 z8u40 (z8u7 ++ [(mgetD y8u4 x114 (⟨0, 0, 0, (⟨0, 0, 0⟩ : Reader), 0, 0, 0, ⟨#[]⟩⟩ : Mark))])))
  (some (.inr z8u7))
noncomputable def eMarks_j7 (y73u7 : (List Mark)) : Option ((List Mark) × Int) :=
  some (y73u7, 0)
noncomputable def eMarks_j1 (y8u4 : (List (Int × Mark))) : Option ((List Mark) × Int) :=
  grd ((∀ x ∈ mkeys y8u4, inI x) ∧ y8u4.length ≤ 1000000000) (bnd (loopO (eMarks_s11 y8u4) ([], 0)) fun q122u7 =>
  eMarks_j7 q122u7)
noncomputable def eMarks (l : (List Event)) : Option ((List Mark) × Int) :=
  grd ((l : List Event).length ≤ 1000000000) (ifb (!(validE l)) (some ([], 1))
  (bnd (loopO (eMarks_s5 l) ([], 0)) fun q71u4 =>
  eMarks_j1 q71u4))
end Go.Proofs.Ytpbhcpeilgmkeaa

/-
  Walks of the events: printed by gen2.py (extraction).
-/
namespace Go.Proofs.Ytpbhcpeilgmkeaa
open Go Go.Eva Enc
set_option linter.unusedSectionVars false
set_option linter.unusedSimpArgs false
set_option linter.unusedVariables false
set_option maxRecDepth 4000
attribute [local congr] AWp.congrS
attribute [local simp] evalSeq opRes guardPc evalOp evT Eva.get startT strip putT Eva.after constT typed obAll holds dstOk R.ok R.bad ofD binD unD pickT subL subP Op.operands Call.operands toD argsD callD callT typedAll cfind quietT spec0 spec1 spec2 spec3 enc_int enc_bool enc_str enc_fn enc_list dec_int dec_bool dec_str dec_fn dec_list size_int size_str enc_R enc_M enc_E dec_R dec_M dec_E size_R size_M size_E eta_R eta_M eta_E enc_rune size_rune dec_rune eta_rune runesD_eq map_dec_enc map_dec_comp cellsT D.cells T.oneT D.one mkT unD1 setAt loadAs loadEl storeAs fieldP fieldV sizeE intOfT indexP appendT lenT sliceT elemSize arith lfsOk lfOk beqL_R beqL_M beqL_E beqL_R0 beqL_M0 isAggD mkD fillD placeS TD.agg env restr List.map keyIdx mapTy lookT mapPutT mapDelT mapOf indexS convT evalPure range1 range2 range3 range4 eqT4 eqT38 eqT40 eqT42 te1 te2 te3 te4 te5 te6 te7 te8 te9 te10 te11 te12 te13 te14 te15 te16 te17 te18 te19 te21 te22 te23 te24 te25 te27 te28 te29 te31 te32 te34 te35 te36 te37 te38 te39 te40 te41 te42 te43 te44 te45 te46 te47 te49 te50 te51 te52 te53 te54 te55 te56 te57 te59 te60 te61 te62 te63 te64 te65 te66 te67 te68 te69 te70 te71 te72 te73 te74 te75 te76 te77 te78 te79 te80 te82 te83 te84 te85 te86 te87 te88 te90 te91 te92 te94 te95 te96 te97 te98 te99 te100 te101 te102 te103 te104 te105 te106 te107 te108 te109 te110 te111 te112 te113 te114 te116 te117 te118 te119 te120 te121 te122 te123 te124 te125 te126 te127 te128 te129 te130 te131 te132 te133 te134 enc_intk size_intk dec_intk eta_intk range5 range6 range7 range8 keysInt_nil keyIdx_E keysInt_E okKeys_E isE_iff put_E del_E get_E getok_E mkeys_E mkeys_E' mkeys_enc specO0 specO1 specO2 specO3 specO4 opD skips gone List.contains_cons List.contains_nil envF fenv

noncomputable def sp16 : Eva.Spec := specO1 fun (l : (List Event)) => (eMarks l).map fun r => .tup [enc r.1, enc r.2]
theorem ok16 : SpecOk Try.prog 16 sp16 := by
  have hV : VOk Try.prog (envF [(13, sp13), (39, sp39), (38, sp38)]) := envF_ok ⟨ok13, ok39, ok38, trivial⟩
  refine SpecOk.ofO1 (Enters.of Try.func16 (by decide)) ?_
  intro l rr hr
  obtain ⟨r, hg, rfl⟩ := Option.map_eq_some_iff.1 hr
  clear hr
  refine PureCon.ofQ hV Try.func16 rfl (by rw [Try.ntmps16]; simp) fun w0 I0 Q hQ => ?_
  rw [Try.ntmps16]
  unfold eMarks at hg
  refine AWp.rS hV none [0] fun K k1 => ?_
  simp
  repeat refine And.intro (by first | omega | (simp [*]; done) | grind) ?_
  refine kcong (s' := ⟨[(0, .d (enc (l : (List Event))))], []⟩) (by first | rfl | (simp []; done) | (simp []; grind)) (k1 _ ?_)
  refine AWp.seqG fun _ k2 => ?_
  obtain ⟨g3, hg⟩ := grd_some hg
  refine AWp.rS hV none [0, 12] fun K k4 => ?_
  simp [sp13]
  repeat refine And.intro (by first | omega | (simp [*]; done) | grind) ?_
  refine kcong (s' := ⟨[(0, .d (enc (l : (List Event)))), (12, .d (enc ((!(validE l)) : Bool)))], []⟩) (by first | rfl | (simp [sp13]; done) | (simp [sp13]; grind)) (k4 _ ?_)
  refine AWp.cond (b := (!(validE l))) rfl (fun h5 => ?_) fun h5 => ?_
  · replace hg := ifb_t h5 hg
    refine AWp.rS hV none [2, 3] fun K k6 => ?_
    simp
    repeat refine And.intro (by first | omega | (simp [*]; done) | grind) ?_
    refine kcong (s' := ⟨[(2, .nils 10), (3, .d (enc (1 : Int)))], []⟩) (by first | rfl | (simp []; done) | (simp []; grind)) (k6 _ ?_)
    refine AWp.ret ?_
    refine hQ _ _ (.inl rfl) ?_
    obtain ⟨r0, r1⟩ := r
    have hg := Option.some.inj hg
    simp only [Prod.mk.injEq] at hg
    obtain ⟨rfl, rfl⟩ := hg
    first | (simp [retOk, resT, loadAs]; done) | (simp [retOk, resT, loadAs]; grind)
  · replace hg := ifb_f h5 hg
    refine AWp.skip ?_
    refine k2 _ ?_
    refine AWp.rS hV none [0, 4] fun K k7 => ?_
    simp
    repeat refine And.intro (by first | omega | (simp [*]; done) | grind) ?_
    refine kcong (s' := ⟨[(0, .d (enc (l : (List Event)))), (4, .map 0)], [.map (([] : (List (Int × Mark))).map kE) (([] : (List (Int × Mark))).map vE)]⟩) (by first | rfl | (simp []; done) | (simp []; grind)) (k7 _ ?_)
    refine AWp.seqJ (fun s' => ∃ y8u4 : (List (Int × Mark)), eMarks_j1 y8u4 = some r ∧ Sub s' ⟨[(4, .map 0)], [.map ((y8u4 : (List (Int × Mark))).map kE) ((y8u4 : (List (Int × Mark))).map vE)]⟩) (fun _ k9 => ?_) ?_
    · refine AWp.rS hV none [4, 14, 15, 16] fun K k10 => ?_
      simp
      repeat refine And.intro (by first | omega | (simp [*]; done) | grind) ?_
      refine kcong (s' := ⟨[(4, .map 0), (14, .d (enc (l : (List Event)))), (15, .d (enc ((l.length : Int) : Int))), (16, .d (enc (0 : Int)))], [.map (([] : (List (Int × Mark))).map kE) (([] : (List (Int × Mark))).map vE)]⟩) (by first | rfl | (simp []; done) | (simp []; grind)) (k10 _ ?_)
      refine AWp.block ?_
      obtain ⟨o46, hl47, hg⟩ := bnd_some hg
      refine AWp.loopO (fun ((z2u4, z2u16) : (List (Int × Mark)) × Int) => ⟨[(4, .map 0), (14, .d (enc (l : (List Event)))), (15, .d (enc ((l.length : Int) : Int))), (16, .d (enc (z2u16 : Int)))], [.map ((z2u4 : (List (Int × Mark))).map kE) ((z2u4 : (List (Int × Mark))).map vE)]⟩) (eMarks_s5 l) ([], 0) hl47 ?_ fun z48 w51 _ ho49 hx50 k11 => ?_
      · show Sub _ ⟨[(4, .map 0), (14, .d (enc (l : (List Event)))), (15, .d (enc ((l.length : Int) : Int))), (16, .d (enc (0 : Int)))], [.map (([] : (List (Int × Mark))).map kE) (([] : (List (Int × Mark))).map vE)]⟩
        exact Sub.ren [0] (by decide) (by first | rfl | simp [renL, AO.ren, forgetsR, T.ren, idx, Eva.get]) (by first | exact ⟨rfl, rfl, rfl, rfl, trivial⟩ | (simp [renL, AO.ren, forgetsR, T.ren, idx, Eva.get]; done) | (simp [renL, AO.ren, forgetsR, T.ren, idx, Eva.get]; grind))
      obtain ⟨z2u4, z2u16⟩ := z48
      unfold eMarks_s5 at ho49
      try dsimp only at ho49
      have hq52 := hg
      clear hg
      have hg := ho49
      clear ho49
      show AWp _ _ _ _ _ ⟨[(4, .map 0), (14, .d (enc (l : (List Event)))), (15, .d (enc ((l.length : Int) : Int))), (16, .d (enc (z2u16 : Int)))], [.map ((z2u4 : (List (Int × Mark))).map kE) ((z2u4 : (List (Int × Mark))).map vE)]⟩ _
      refine AWp.rS hV none [4, 14, 15, 16, 17] fun K k53 => ?_
      simp
      repeat refine And.intro (by first | omega | (simp [*]; done) | grind) ?_
      refine kcong (s' := ⟨[(4, .map 0), (14, .d (enc (l : (List Event)))), (15, .d (enc ((l.length : Int) : Int))), (16, .d (enc (z2u16 : Int))), (17, .d (enc ((decide (z2u16 < (l.length : Int))) : Bool)))], [.map ((z2u4 : (List (Int × Mark))).map kE) ((z2u4 : (List (Int × Mark))).map vE)]⟩) (by first | rfl | (simp []; done) | (simp []; grind)) (k53 _ ?_)
      refine AWp.seqG fun _ k54 => ?_
      refine AWp.cond (b := (decide (z2u16 < (l.length : Int)))) rfl (fun h55 => ?_) fun h55 => ?_
      · replace hg := ifb_t h55 hg
        refine AWp.skip ?_
        refine k54 _ ?_
        refine AWp.seqJ (fun s' => ∃ y56u4 : (List (Int × Mark)), eMarks_j6 z2u16 y56u4 = some w51 ∧ Sub s' ⟨[(4, .map 0), (14, .d (enc (l : (List Event)))), (15, .d (enc ((l.length : Int) : Int))), (16, .d (enc (z2u16 : Int)))], [.map ((y56u4 : (List (Int × Mark))).map kE) ((y56u4 : (List (Int × Mark))).map vE)]⟩) (fun _ k57 => ?_) ?_
        · refine AWp.block ?_
          obtain ⟨x58, h59, hg⟩ := bnd_some hg
          obtain ⟨h59a, h59b, h59c⟩ := at_some h59
          have h59f := elAt_enc h59c
          have h59g := h59f
          try simp at h59g
          refine AWp.rS hV none [4, 6, 14, 15, 16] fun K k60 => ?_
          simp [h59f, h59g]
          repeat refine And.intro (by first | omega | (simp [*]; done) | grind) ?_
          refine kcong (s' := ⟨[(4, .map 0), (6, .ptr 1 0), (14, .d (enc (l : (List Event)))), (15, .d (enc ((l.length : Int) : Int))), (16, .d (enc (z2u16 : Int)))], [.map ((z2u4 : (List (Int × Mark))).map kE) ((z2u4 : (List (Int × Mark))).map vE), .var 42 (cellsT (.d (enc (x58 : Event))))]⟩) (by first | rfl | (simp [h59f, h59g]; done) | (simp [h59f, h59g]; grind)) (k60 _ ?_)
          refine AWp.rS hV none [4, 6, 14, 15, 16, 21] fun K k61 => ?_
          simp
          repeat refine And.intro (by first | omega | (simp [*]; done) | grind) ?_
          refine kcong (s' := ⟨[(4, .map 0), (6, .ptr 1 0), (14, .d (enc (l : (List Event)))), (15, .d (enc ((l.length : Int) : Int))), (16, .d (enc (z2u16 : Int))), (21, .d (enc (x58.kind : Int)))], [.map ((z2u4 : (List (Int × Mark))).map kE) ((z2u4 : (List (Int × Mark))).map vE), .var 42 (cellsT (.d (enc (x58 : Event))))]⟩) (by first | rfl | (simp []; done) | (simp []; grind)) (k61 _ ?_)
          refine AWp.block ?_
          refine AWp.rS hV none [4, 6, 14, 15, 16, 21, 22] fun K k62 => ?_
          simp
          repeat refine And.intro (by first | omega | (simp [*]; done) | grind) ?_
          refine kcong (s' := ⟨[(4, .map 0), (6, .ptr 1 0), (14, .d (enc (l : (List Event)))), (15, .d (enc ((l.length : Int) : Int))), (16, .d (enc (z2u16 : Int))), (21, .d (enc (x58.kind : Int))), (22, .d (enc ((decide (x58.kind = 1)) : Bool)))], [.map ((z2u4 : (List (Int × Mark))).map kE) ((z2u4 : (List (Int × Mark))).map vE), .var 42 (cellsT (.d (enc (x58 : Event))))]⟩) (by first | rfl | (simp []; done) | (simp []; grind)) (k62 _ ?_)
          refine AWp.cond (b := (decide (x58.kind = 1))) rfl (fun h63 => ?_) fun h63 => ?_
          · replace hg := ifb_t h63 hg
            refine AWp.regF hV none [4, 14, 15, 16] fun K k64 => ?_
            simp
            repeat refine And.intro (by first | omega | (simp [*]; done) | grind) ?_
            refine kcong (s' := ⟨[(4, .map 0), (14, .d (enc (l : (List Event)))), (15, .d (enc ((l.length : Int) : Int))), (16, .d (enc (z2u16 : Int)))], [.map (((mput z2u4 x58.mark.id x58.mark) : (List (Int × Mark))).map kE) (((mput z2u4 x58.mark.id x58.mark) : (List (Int × Mark))).map vE), .var 42 (cellsT (.d (enc (x58 : Event))))]⟩) (by first | rfl | (simp []; done) | (simp []; grind)) (k64 _ ?_)
            refine k57 _ (Exists.intro _ (And.intro hg ?_))
            show Sub _ ⟨[(4, .map 0), (14, .d (enc (l : (List Event)))), (15, .d (enc ((l.length : Int) : Int))), (16, .d (enc (z2u16 : Int)))], [.map (((mput z2u4 x58.mark.id x58.mark) : (List (Int × Mark))).map kE) (((mput z2u4 x58.mark.id x58.mark) : (List (Int × Mark))).map vE)]⟩
            exact Sub.ren [0] (by decide) (by first | rfl | simp [renL, AO.ren, forgetsR, T.ren, idx, Eva.get]) (by first | exact ⟨rfl, rfl, rfl, rfl, trivial⟩ | (simp [renL, AO.ren, forgetsR, T.ren, idx, Eva.get]; done) | (simp [renL, AO.ren, forgetsR, T.ren, idx, Eva.get]; grind))
          · replace hg := ifb_f h63 hg
            refine AWp.rS hV none [4, 6, 14, 15, 16, 30] fun K k65 => ?_
            simp
            repeat refine And.intro (by first | omega | (simp [*]; done) | grind) ?_
            refine kcong (s' := ⟨[(4, .map 0), (6, .ptr 1 0), (14, .d (enc (l : (List Event)))), (15, .d (enc ((l.length : Int) : Int))), (16, .d (enc (z2u16 : Int))), (30, .d (enc ((decide (x58.kind = 2)) : Bool)))], [.map ((z2u4 : (List (Int × Mark))).map kE) ((z2u4 : (List (Int × Mark))).map vE), .var 42 (cellsT (.d (enc (x58 : Event))))]⟩) (by first | rfl | (simp []; done) | (simp []; grind)) (k65 _ ?_)
            refine AWp.cond (b := (decide (x58.kind = 2))) rfl (fun h66 => ?_) fun h66 => ?_
            · replace hg := ifb_t h66 hg
              refine AWp.regF hV none [4, 14, 15, 16] fun K k67 => ?_
              simp
              repeat refine And.intro (by first | omega | (simp [*]; done) | grind) ?_
              refine kcong (s' := ⟨[(4, .map 0), (14, .d (enc (l : (List Event)))), (15, .d (enc ((l.length : Int) : Int))), (16, .d (enc (z2u16 : Int)))], [.map (((mdel z2u4 x58.n) : (List (Int × Mark))).map kE) (((mdel z2u4 x58.n) : (List (Int × Mark))).map vE), .var 42 (cellsT (.d (enc (x58 : Event))))]⟩) (by first | rfl | (simp []; done) | (simp []; grind)) (k67 _ ?_)
              refine k57 _ (Exists.intro _ (And.intro hg ?_))
              show Sub _ ⟨[(4, .map 0), (14, .d (enc (l : (List Event)))), (15, .d (enc ((l.length : Int) : Int))), (16, .d (enc (z2u16 : Int)))], [.map (((mdel z2u4 x58.n) : (List (Int × Mark))).map kE) (((mdel z2u4 x58.n) : (List (Int × Mark))).map vE)]⟩
              exact Sub.ren [0] (by decide) (by first | rfl | simp [renL, AO.ren, forgetsR, T.ren, idx, Eva.get]) (by first | exact ⟨rfl, rfl, rfl, rfl, trivial⟩ | (simp [renL, AO.ren, forgetsR, T.ren, idx, Eva.get]; done) | (simp [renL, AO.ren, forgetsR, T.ren, idx, Eva.get]; grind))
            · replace hg := ifb_f h66 hg
              refine AWp.skip ?_
              refine k57 _ (Exists.intro _ (And.intro hg ?_))
              show Sub _ ⟨[(4, .map 0), (14, .d (enc (l : (List Event)))), (15, .d (enc ((l.length : Int) : Int))), (16, .d (enc (z2u16 : Int)))], [.map ((z2u4 : (List (Int × Mark))).map kE) ((z2u4 : (List (Int × Mark))).map vE)]⟩
              exact Sub.ren [0] (by decide) (by first | rfl | simp [renL, AO.ren, forgetsR, T.ren, idx, Eva.get]) (by first | exact ⟨rfl, rfl, rfl, rfl, trivial⟩ | (simp [renL, AO.ren, forgetsR, T.ren, idx, Eva.get]; done) | (simp [renL, AO.ren, forgetsR, T.ren, idx, Eva.get]; grind))
        · rintro s' ⟨y56u4, hg, hs⟩
          unfold eMarks_j6 at hg
          refine AWp.sub hs ?_
          obtain ⟨g68, hg⟩ := grd_some hg
          unfold inI at g68
          refine AWp.regF hV none [4, 14, 15, 16] fun K k69 => ?_
          simp
          repeat refine And.intro (by first | omega | (simp [*]; done) | grind) ?_
          refine kcong (s' := ⟨[(4, .map 0), (14, .d (enc (l : (List Event)))), (15, .d (enc ((l.length : Int) : Int))), (16, .d (enc ((z2u16 + 1) : Int)))], [.map ((y56u4 : (List (Int × Mark))).map kE) ((y56u4 : (List (Int × Mark))).map vE)]⟩) (by first | rfl | (simp []; done) | (simp []; grind)) (k69 _ ?_)
          refine k11 _ _ (Option.some.inj hg).symm ?_
          show Sub _ ⟨[(4, .map 0), (14, .d (enc (l : (List Event)))), (15, .d (enc ((l.length : Int) : Int))), (16, .d (enc ((z2u16 + 1) : Int)))], [.map ((y56u4 : (List (Int × Mark))).map kE) ((y56u4 : (List (Int × Mark))).map vE)]⟩
          exact Sub.ren [0] (by decide) (by first | rfl | simp [renL, AO.ren, forgetsR, T.ren, idx, Eva.get]) (by first | exact ⟨rfl, rfl, rfl, rfl, trivial⟩ | (simp [renL, AO.ren, forgetsR, T.ren, idx, Eva.get]; done) | (simp [renL, AO.ren, forgetsR, T.ren, idx, Eva.get]; grind))
      · replace hg := ifb_f h55 hg
        refine AWp.exit ?_
        have e70 := hx50 _ (Option.some.inj hg).symm
        subst e70
        have hg := hq52
        try dsimp only at hg
        refine k9 _ (Exists.intro _ (And.intro hg ?_))
        show Sub _ ⟨[(4, .map 0)], [.map ((z2u4 : (List (Int × Mark))).map kE) ((z2u4 : (List (Int × Mark))).map vE)]⟩
        exact Sub.ren [0] (by decide) (by first | rfl | simp [renL, AO.ren, forgetsR, T.ren, idx, Eva.get]) (by first | exact ⟨rfl, trivial⟩ | (simp [renL, AO.ren, forgetsR, T.ren, idx, Eva.get]; done) | (simp [renL, AO.ren, forgetsR, T.ren, idx, Eva.get]; grind))
    · rintro s' ⟨y8u4, hg, hs⟩
      unfold eMarks_j1 at hg
      refine AWp.sub hs ?_
      refine AWp.rS hV none [4, 7] fun K k72 => ?_
      simp
      repeat refine And.intro (by first | omega | (simp [*]; done) | grind) ?_
      refine kcong (s' := ⟨[(4, .map 0), (7, .nils 10)], [.map ((y8u4 : (List (Int × Mark))).map kE) ((y8u4 : (List (Int × Mark))).map vE)]⟩) (by first | rfl | (simp []; done) | (simp []; grind)) (k72 _ ?_)
      refine AWp.seqJ (fun s' => ∃ y73u7 : (List Mark), eMarks_j7 y73u7 = some r ∧ Sub s' ⟨[(7, .row 0)], [.row 40 10 ((y73u7 : List Mark).map enc)]⟩) (fun _ k74 => ?_) ?_
      · obtain ⟨g75, hg⟩ := grd_some hg
        refine AWp.rS hV none [4, 7, 38, 39, 40] fun K k76 => ?_
        simp [sp39, sp38]
        repeat refine And.intro (by first | omega | (simp [*]; done) | grind) ?_
        refine kcong (s' := ⟨[(4, .map 0), (7, .nils 10), (38, .d (enc ((sortI (mkeys y8u4)) : (List Int)))), (39, .d (enc (((sortI (mkeys y8u4)).length : Int) : Int))), (40, .d (enc (0 : Int)))], [.fmap ((y8u4 : (List (Int × Mark))).map kE) ((y8u4 : (List (Int × Mark))).map vE)]⟩) (by first | rfl | (simp [sp39, sp38]; done) | (simp [sp39, sp38]; grind)) (k76 _ ?_)
        refine AWp.block ?_
        obtain ⟨o102, hl103, hg⟩ := bnd_some hg
        refine AWp.loopO (fun ((z8u7, z8u40) : (List Mark) × Int) => ⟨[(4, .map 0), (7, .row 1), (38, .d (enc ((sortI (mkeys y8u4)) : (List Int)))), (39, .d (enc (((sortI (mkeys y8u4)).length : Int) : Int))), (40, .d (enc (z8u40 : Int)))], [.fmap ((y8u4 : (List (Int × Mark))).map kE) ((y8u4 : (List (Int × Mark))).map vE), .row 40 10 ((z8u7 : List Mark).map enc)]⟩) (eMarks_s11 y8u4) ([], 0) hl103 ?_ fun z104 w107 _ ho105 hx106 k77 => ?_
        · show Sub _ ⟨[(4, .map 0), (7, .row 1), (38, .d (enc ((sortI (mkeys y8u4)) : (List Int)))), (39, .d (enc (((sortI (mkeys y8u4)).length : Int) : Int))), (40, .d (enc (0 : Int)))], [.fmap ((y8u4 : (List (Int × Mark))).map kE) ((y8u4 : (List (Int × Mark))).map vE), .row 40 10 (([] : List Mark).map enc)]⟩
          exact Sub.trans (Sub.adopt 7 40 10 rfl) (Sub.ren [0, 1] (by decide) (by first | rfl | simp [renL, AO.ren, forgetsR, T.ren, idx, Eva.get]) (by first | exact ⟨rfl, rfl, rfl, rfl, rfl, trivial⟩ | (simp [renL, AO.ren, forgetsR, T.ren, idx, Eva.get]; done) | (simp [renL, AO.ren, forgetsR, T.ren, idx, Eva.get]; grind)))
        obtain ⟨z8u7, z8u40⟩ := z104
        unfold eMarks_s11 at ho105
        try dsimp only at ho105
        have hq108 := hg
        clear hg
        have hg := ho105
        clear ho105
        show AWp _ _ _ _ _ ⟨[(4, .map 0), (7, .row 1), (38, .d (enc ((sortI (mkeys y8u4)) : (List Int)))), (39, .d (enc (((sortI (mkeys y8u4)).length : Int) : Int))), (40, .d (enc (z8u40 : Int)))], [.fmap ((y8u4 : (List (Int × Mark))).map kE) ((y8u4 : (List (Int × Mark))).map vE), .row 40 10 ((z8u7 : List Mark).map enc)]⟩ _
        refine AWp.rS hV none [4, 7, 38, 39, 40, 41] fun K k109 => ?_
        simp
        repeat refine And.intro (by first | omega | (simp [*]; done) | grind) ?_
        refine kcong (s' := ⟨[(4, .map 0), (7, .row 1), (38, .d (enc ((sortI (mkeys y8u4)) : (List Int)))), (39, .d (enc (((sortI (mkeys y8u4)).length : Int) : Int))), (40, .d (enc (z8u40 : Int))), (41, .d (enc ((decide (z8u40 < ((sortI (mkeys y8u4)).length : Int))) : Bool)))], [.fmap ((y8u4 : (List (Int × Mark))).map kE) ((y8u4 : (List (Int × Mark))).map vE), .row 40 10 ((z8u7 : List Mark).map enc)]⟩) (by first | rfl | (simp []; done) | (simp []; grind)) (k109 _ ?_)
        refine AWp.seqG fun _ k110 => ?_
        refine AWp.cond (b := (decide (z8u40 < ((sortI (mkeys y8u4)).length : Int)))) rfl (fun h111 => ?_) fun h111 => ?_
        · replace hg := ifb_t h111 hg
          refine AWp.skip ?_
          refine k110 _ ?_
          refine AWp.seqJ (fun s' => ∃ y112u7 : (List Mark), eMarks_j12 z8u40 y112u7 = some w107 ∧ Sub s' ⟨[(4, .map 0), (7, .row 1), (38, .d (enc ((sortI (mkeys y8u4)) : (List Int)))), (39, .d (enc (((sortI (mkeys y8u4)).length : Int) : Int))), (40, .d (enc (z8u40 : Int)))], [.fmap ((y8u4 : (List (Int × Mark))).map kE) ((y8u4 : (List (Int × Mark))).map vE), .row 40 10 ((y112u7 : List Mark).map enc)]⟩) (fun _ k113 => ?_) ?_
          · refine AWp.block ?_
            obtain ⟨x114, h115, hg⟩ := bnd_some hg
            obtain ⟨h115a, h115b, h115c⟩ := at_some h115
            have h115f := elAt_enc h115c
            have h115g := h115f
            try simp at h115g
            refine AWp.rS hV none [4, 7, 9, 38, 39, 40] fun K k116 => ?_
            simp [h115f, h115g]
            repeat refine And.intro (by first | omega | (simp [*]; done) | grind) ?_
            refine kcong (s' := ⟨[(4, .map 0), (7, .row 1), (9, .d (enc (x114 : Int))), (38, .d (enc ((sortI (mkeys y8u4)) : (List Int)))), (39, .d (enc (((sortI (mkeys y8u4)).length : Int) : Int))), (40, .d (enc (z8u40 : Int)))], [.fmap ((y8u4 : (List (Int × Mark))).map kE) ((y8u4 : (List (Int × Mark))).map vE), .row 40 10 ((z8u7 : List Mark).map enc)]⟩) (by first | rfl | (simp [h115f, h115g]; done) | (simp [h115f, h115g]; grind)) (k116 _ ?_)
            obtain ⟨g117, hg⟩ := grd_some hg
            refine AWp.regF hV none [4, 7, 38, 39, 40] fun K k118 => ?_
            simp
            repeat refine And.intro (by first | omega | (simp [*]; done) | grind) ?_
            refine kcong (s' := ⟨[(4, .map 0), (7, .row 2), (38, .d (enc ((sortI (mkeys y8u4)) : (List Int)))), (39, .d (enc (((sortI (mkeys y8u4)).length : Int) : Int))), (40, .d (enc (z8u40 : Int)))], [.fmap ((y8u4 : (List (Int × Mark))).map kE) ((y8u4 : (List (Int × Mark))).map vE), .dead, .row 40 10 (((z8u7 ++ [(mgetD y8u4 x114 (⟨0, 0, 0, (⟨0, 0, 0⟩ : Reader), 0, 0, 0, ⟨#[]⟩⟩ : Mark))]) : List Mark).map enc)]⟩) (by first | rfl | (simp []; done) | (simp []; grind)) (k118 _ ?_)
            refine k113 _ (Exists.intro _ (And.intro hg ?_))
            show Sub _ ⟨[(4, .map 0), (7, .row 1), (38, .d (enc ((sortI (mkeys y8u4)) : (List Int)))), (39, .d (enc (((sortI (mkeys y8u4)).length : Int) : Int))), (40, .d (enc (z8u40 : Int)))], [.fmap ((y8u4 : (List (Int × Mark))).map kE) ((y8u4 : (List (Int × Mark))).map vE), .row 40 10 (((z8u7 ++ [(mgetD y8u4 x114 (⟨0, 0, 0, (⟨0, 0, 0⟩ : Reader), 0, 0, 0, ⟨#[]⟩⟩ : Mark))]) : List Mark).map enc)]⟩
            exact Sub.ren [0, 2] (by decide) (by first | rfl | simp [renL, AO.ren, forgetsR, T.ren, idx, Eva.get]) (by first | exact ⟨rfl, rfl, rfl, rfl, rfl, trivial⟩ | (simp [renL, AO.ren, forgetsR, T.ren, idx, Eva.get]; done) | (simp [renL, AO.ren, forgetsR, T.ren, idx, Eva.get]; grind))
          · rintro s' ⟨y112u7, hg, hs⟩
            unfold eMarks_j12 at hg
            refine AWp.sub hs ?_
            obtain ⟨g119, hg⟩ := grd_some hg
            unfold inI at g119
            refine AWp.regF hV none [4, 7, 38, 39, 40] fun K k120 => ?_
            simp
            repeat refine And.intro (by first | omega | (simp [*]; done) | grind) ?_
            refine kcong (s' := ⟨[(4, .map 0), (7, .row 1), (38, .d (enc ((sortI (mkeys y8u4)) : (List Int)))), (39, .d (enc (((sortI (mkeys y8u4)).length : Int) : Int))), (40, .d (enc ((z8u40 + 1) : Int)))], [.fmap ((y8u4 : (List (Int × Mark))).map kE) ((y8u4 : (List (Int × Mark))).map vE), .row 40 10 ((y112u7 : List Mark).map enc)]⟩) (by first | rfl | (simp []; done) | (simp []; grind)) (k120 _ ?_)
            refine k77 _ _ (Option.some.inj hg).symm ?_
            show Sub _ ⟨[(4, .map 0), (7, .row 1), (38, .d (enc ((sortI (mkeys y8u4)) : (List Int)))), (39, .d (enc (((sortI (mkeys y8u4)).length : Int) : Int))), (40, .d (enc ((z8u40 + 1) : Int)))], [.fmap ((y8u4 : (List (Int × Mark))).map kE) ((y8u4 : (List (Int × Mark))).map vE), .row 40 10 ((y112u7 : List Mark).map enc)]⟩
            exact Sub.ren [0, 1] (by decide) (by first | rfl | simp [renL, AO.ren, forgetsR, T.ren, idx, Eva.get]) (by first | exact ⟨rfl, rfl, rfl, rfl, rfl, trivial⟩ | (simp [renL, AO.ren, forgetsR, T.ren, idx, Eva.get]; done) | (simp [renL, AO.ren, forgetsR, T.ren, idx, Eva.get]; grind))
        · replace hg := ifb_f h111 hg
          refine AWp.exit ?_
          have e121 := hx106 _ (Option.some.inj hg).symm
          subst e121
          have hg := hq108
          try dsimp only at hg
          refine k74 _ (Exists.intro _ (And.intro hg ?_))
          show Sub _ ⟨[(7, .row 0)], [.row 40 10 ((z8u7 : List Mark).map enc)]⟩
          exact Sub.ren [1] (by decide) (by first | rfl | simp [renL, AO.ren, forgetsR, T.ren, idx, Eva.get]) (by first | exact ⟨rfl, trivial⟩ | (simp [renL, AO.ren, forgetsR, T.ren, idx, Eva.get]; done) | (simp [renL, AO.ren, forgetsR, T.ren, idx, Eva.get]; grind))
      · rintro s' ⟨y73u7, hg, hs⟩
        unfold eMarks_j7 at hg
        refine AWp.sub hs ?_
        refine AWp.rS hV none [2, 3] fun K k123 => ?_
        simp
        repeat refine And.intro (by first | omega | (simp [*]; done) | grind) ?_
        refine kcong (s' := ⟨[(2, .row 0), (3, .d (enc (0 : Int)))], [.row 40 10 ((y73u7 : List Mark).map enc)]⟩) (by first | rfl | (simp []; done) | (simp []; grind)) (k123 _ ?_)
        refine AWp.ret ?_
        refine hQ _ _ (.inl rfl) ?_
        obtain ⟨r0, r1⟩ := r
        have hg := Option.some.inj hg
        simp only [Prod.mk.injEq] at hg
        obtain ⟨rfl, rfl⟩ := hg
        first | (simp [retOk, resT, loadAs]; done) | (simp [retOk, resT, loadAs]; grind)
end Go.Proofs.Ytpbhcpeilgmkeaa

/-
  Programs of the events: printed by gen2.py (extraction).
-/
namespace Go.Proofs.Ytpbhcpeilgmkeaa
open Go Go.Eva Enc
set_option linter.unusedVariables false
noncomputable def formedP_j6 (z2u10 : Int) : Option ((Int) ⊕ ((Bool) ⊕ (Unit))) :=
  grd (inI (z2u10 + 1)) (some (.inl (z2u10 + 1)))
noncomputable def formedP_s5 (l : (List Event)) : Int → Option ((Int) ⊕ ((Bool) ⊕ (Unit))) := fun (z2u10 : Int) =>
  ifb (decide (z2u10 < (l.length : Int))) (bnd (at? l z2u10) fun x48 =>
  ifb (!(eventOk x48)) (some (.inr (.inl false)))
  (formedP_j6 z2u10))
  (some (.inr (.inr ())))
noncomputable def formedP_j1 : Option Bool :=
  some true
noncomputable def formedP (l : (List Event)) : Option Bool :=
  ifb (!(decide ((l : List Event).length ≤ 60))) (some false)
  (bnd (loopO (formedP_s5 l) 0) fun o36 =>
  match o36 with
  | .inl q58u0 => some q58u0
  | .inr () => formedP_j1)
noncomputable def headP_r1 (x3 : (List Event)) (x4 : Int) (x8 : Int) (x13 : Int) (x21 : Int) (x25 : Int) : Option Bool :=
  (ifb (decide (x4 = 0)) (ifb (decide (x8 = 0)) (ifb (decide (x13 = 0)) (ifb (decide ((knownR x3 4).2 = 0)) (ifb (decide ((knownR x3 3).2 = 0)) (ifb (decide (x21 = 61)) (some (decide (x25 = 1))) (some false)) (some false)) (some false)) (some false)) (some false)) (some false))
noncomputable def headP_r2 (x3 : (List Event)) (x7 : (List Mark)) (x12 : (List Mark)) (y28u19 : Bool) : Option Bool :=
  (ifb y28u19 (grd ((x3 : List Event).length ≤ 1000000000) (ifb (decide (x3 = [(⟨1, 4, 3, 2, (⟨0, 0, 0, (⟨0, 0, 0⟩ : Reader), 0, 0, 0, ⟨#[]⟩⟩ : Mark)⟩ : Event), (made 5 3 1), (made 6 3 2), (⟨6, 4, 2, 8, (⟨0, 0, 0, (⟨0, 0, 0⟩ : Reader), 0, 0, 0, ⟨#[]⟩⟩ : Mark)⟩ : Event)])) (ifb (decide ((x7.length : Int) = 0)) (grd ((x12 : List Mark).length ≤ 1000000000) (ifb (decide (x12 = [(made 6 3 2).mark])) (ifb (decide ((knownR x3 4).1 = 2)) (ifb (decide ((knownR x3 3).1 = 0)) (grd ((x3 : List Event).length ≤ 1000000000) (ifb (validE x3) (grd (([(made 5 3 1), (made 5 3 1)] : List Event).length ≤ 1000000000) (some (!(validE ([(made 5 3 1), (made 5 3 1)]))))) (some false))) (some false)) (some false)) (some false))) (some false)) (some false))) (some false))
noncomputable def headP : Option Bool :=
  bnd (eAdd ([]) ([(⟨6, 4, 2, 8, (⟨0, 0, 0, (⟨0, 0, 0⟩ : Reader), 0, 0, 0, ⟨#[]⟩⟩ : Mark)⟩ : Event), (made 5 3 1), (made 6 3 2), (⟨1, 4, 3, 2, (⟨0, 0, 0, (⟨0, 0, 0⟩ : Reader), 0, 0, 0, ⟨#[]⟩⟩ : Mark)⟩ : Event), (made 5 3 1)])) fun (x3, x4) =>
  bnd (eMarks x3) fun (x7, x8) =>
  grd (0 ≤ (min 3 (x3.length : Int)) ∧ (min 3 (x3.length : Int)) ≤ (x3.length : Int)) (bnd (eMarks (x3.take (min 3 (x3.length : Int)).toNat)) fun (x12, x13) =>
  grd ((x3 : List Event).length ≤ 1000000000) (grd ((x3 : List Event).length ≤ 1000000000) (bnd (eAdd x3 ([(made 5 3 9)])) fun (x20, x21) =>
  bnd (eAdd x3 ([(⟨0, 0, 0, 0, (⟨0, 0, 0, (⟨0, 0, 0⟩ : Reader), 0, 0, 0, ⟨#[]⟩⟩ : Mark)⟩ : Event)])) fun (x24, x25) =>
  bnd (headP_r1 x3 x4 x8 x13 x21 x25) fun y28u19 =>
  bnd (headP_r2 x3 x7 x12 y28u19) fun y48u0 =>
  some y48u0)))
end Go.Proofs.Ytpbhcpeilgmkeaa
