/-
  The evaluator, the printed walks and the plain laws, part 6 of 12.
-/
import Derived.Test.YtpbhcpeilgmkeaaX5
import Derived.Sort.AssemblyPlain
import Derived.Shelf.SlSortCmp.Insertion
import Derived.Shelf.SlSortCmp.WholeK
import Derived.Shelf.SlSortCmp.NoneTotal
import Derived.Shelf.SlIterI.Nil
import Derived.Shelf.SortM.Plain
import Derived.Shelf.SortM.SortNone
import Derived.Ground.SlsfProg
import Derived.Ground.GgzProg
import Derived.Ground.SlgmProg
import Derived.Test.YtpbhcpeilgmkeaaProg
import Derived.Shelf.GgSortFunc.InsertionK
import Derived.Shelf.SlSortCmp.InsertionK
set_option linter.all false
set_option linter.unnecessarySimpa false
set_option linter.deprecated false
set_option linter.unusedVariables false
set_option linter.unusedSimpArgs false
set_option linter.unusedSectionVars false

/-
  Walks of the events: printed by gen1.py.
-/
namespace Go.Proofs.Ytpbhcpeilgmkeaa
open Go Go.Eva Enc
variable [Drw]
set_option linter.unusedSectionVars false
set_option linter.unusedSimpArgs false
set_option linter.unusedVariables false
set_option maxRecDepth 4000
attribute [local congr] AWp.congrS
attribute [local simp] evalSeq opRes guardPc evalOp evT Eva.get startT strip putT Eva.after constT typed obAll holds dstOk R.ok R.bad ofD binD unD pickT subL subP Op.operands Call.operands toD argsD callD callT typedAll cfind quietT spec0 spec1 spec2 spec3 enc_int enc_bool enc_str enc_fn enc_list dec_int dec_bool dec_str dec_fn dec_list size_int size_str enc_R enc_M enc_E dec_R dec_M dec_E size_R size_M size_E eta_R eta_M eta_E enc_rune size_rune dec_rune eta_rune runesD_eq map_dec_enc map_dec_comp cellsT D.cells T.oneT D.one mkT unD1 setAt loadAs loadEl storeAs fieldP fieldV sizeE intOfT indexP appendT lenT sliceT elemSize arith lfsOk lfOk beqL_R beqL_M beqL_E beqL_R0 beqL_M0 isAggD mkD fillD placeS TD.agg env restr List.map keyIdx keysInt mapTy lookT mapPutT mapDelT mapOf indexS convT evalPure range1 range2 range3 range4 eqT4 eqT38 eqT40 eqT42 te1 te2 te3 te4 te5 te6 te7 te8 te9 te10 te11 te12 te13 te14 te15 te16 te17 te18 te19 te21 te22 te23 te24 te25 te27 te28 te29 te31 te32 te34 te35 te36 te37 te38 te39 te40 te41 te42 te43 te44 te45 te46 te47 te49 te50 te51 te52 te53 te54 te55 te56 te57 te59 te60 te61 te62 te63 te64 te65 te66 te67 te68 te69 te70 te71 te72 te73 te74 te75 te76 te77 te78 te79 te80 te82 te83 te84 te85 te86 te87 te88 te90 te91 te92 te94 te95 te96 te97 te98 te99 te100 te101 te102 te103 te104 te105 te106 te107 te108 te109 te110 te111 te112 te113 te114 te116 te117 te118 te119 te120 te121 te122 te123 te124 te125 te126 te127 te128 te129 te130 te131 te132 te133 te134

def sp33 : Eva.Spec := spec3 (fun (a : List Event) (b : List Event) (f : Eva.Fn) => a.length + b.length ≤ 100000000 ∧ f = ⟨32⟩) fun (a : List Event) (b : List Event) (f : Eva.Fn) => .tup [enc (mergeL a b).1, enc (mergeL a b).2]
set_option maxHeartbeats 4000000 in
theorem ok33 : SpecOk Try.prog 33 sp33 := by
  have hV : VOk Try.prog (env [(32, sp32)]) := env_ok ⟨ok32, trivial⟩
  refine SpecOk.of3 (Enters.of Try.func33 (by decide)) fun a b f hp => ?_
  obtain ⟨hp, rfl⟩ := hp
  refine PureCon.of hV Try.func33 rfl (by rw [Try.ntmps33]; simp) fun w0 I0 => ?_
  rw [Try.ntmps33]
  refine AWp.seqKL hV [0, 1, 2] ?_
  simp [sp32]
  repeat refine And.intro (by first | omega | grind) ?_
  refine AWp.seqKL hV [0, 1, 2, 8] ?_
  simp [sp32]
  repeat refine And.intro (by first | omega | grind) ?_
  refine AWp.seq ?_
  refine AWp.block ?_
  refine AWp.loop (X := List Event × List Event × List Event) (fun z => ⟨[(0, .d (enc z.1)), (1, .d (enc z.2.1)), (2, .d (.fn 32)), (8, .row 0)], [.row 42 14 (z.2.2.map enc)]⟩) (fun z => mergeF (z.1.length + z.2.1.length) z.1 z.2.1 z.2.2 = mergeF (a.length + b.length) a b [] ∧ z.1.length + z.2.1.length + z.2.2.length ≤ 100000000) (fun z => z.1.length + z.2.1.length) ((a, b, [])) ?_ ?_ fun z hz => ?_
  · simp; omega
  · refine Sub.trans (Sub.adopt 8 42 14 rfl) (Sub.ren [0] (by decide) ?_ ?_) <;> simp [renL, AO.ren, forgetsR, T.ren, idx, Eva.get]
  obtain ⟨a2, b2, out⟩ := z
  simp only at hz ⊢
  refine AWp.seq ?_
  refine AWp.seqKL hV [0, 1, 2, 8, 16] ?_
  simp [sp32]
  repeat refine And.intro (by first | omega | grind) ?_
  refine AWp.cond rfl (fun h1 => ?_) fun h1 => ?_
  · try simp at h1
    all_goals try (exfalso; omega)
    all_goals
      refine AWp.skip ?_
      try simp only [thenQ, inBlockQ]
      refine AWp.block ?_
      refine AWp.seqKL hV [0, 1, 2, 8, 9] ?_
      simp [sp32]
      repeat refine And.intro (by first | omega | grind) ?_
      refine AWp.seq ?_
      rcases ab_cases a2 b2 (by omega) with ⟨x, a1, rfl, rfl⟩ | ⟨y, b1, rfl, rfl⟩ | ⟨x, a1, y, b1, rfl, rfl⟩
      · have hm := mergeF_one (a := x :: a1) (b := []) (out := out) x a1 [] rfl (by simp)
        refine AWp.seqDKL hV mixed 19 [0, 1, 2, 8, 9, 35] (by decide) ?_
        simp [sp32, elAt_cons0, elAt_nil]
        repeat refine And.intro (by first | omega | grind) ?_
        refine AWp.cond rfl (fun h2 => ?_) fun h2 => ?_
        · try simp at h2
          all_goals try (exfalso; omega)
          all_goals
            refine AWp.drawF hV mixed 5 [3, 4] (by decide) ?_
            simp [sp32, elAt_cons0, elAt_nil]
            repeat refine And.intro (by first | omega | grind) ?_
            try simp only [thenQ, inBlockQ]
            refine AWp.seqKL hV [0, 1, 2, 8, 9, 10] ?_
            simp [sp32, elAt_cons0, elAt_nil]
            repeat refine And.intro (by first | omega | grind) ?_
            refine AWp.block ?_
            rcases out_cases out with rfl | ⟨q, hq, hq0⟩
            · skip
              refine AWp.seqDKL hV mixed 14 [0, 1, 2, 8, 9, 10, 48] (by decide) ?_
              simp [sp32, elAt_cons0, elAt_nil, stepE_nil]
              repeat refine And.intro (by first | omega | grind) ?_
              refine AWp.cond rfl (fun h3 => ?_) fun h3 => ?_
              · try simp at h3
                all_goals try (exfalso; omega)
                all_goals
                  refine AWp.region hV ?_
                  simp [sp32, elAt_cons0, elAt_nil, stepE_nil]
                  repeat refine And.intro (by first | omega | grind) ?_
                  try simp only [thenQ, inBlockQ]
                  refine ⟨a1, [], [] ++ [x], ?_, ?_, Sub.ren [2] (by decide) ?_ ?_⟩
                  · refine ⟨?_, by simp at hz ⊢; omega⟩; rw [← hz.1, hm]; simp [stepE_nil]
                  · simp <;> omega
                  · simp [renL, AO.ren, T.ren, idx, elAt_cons0, elAt_nil, stepE_nil]
                  · simp [forgetsR, T.ren, idx, elAt_cons0, elAt_nil, stepE_nil] <;> omega
              · try simp at h3
                all_goals try (exfalso; omega)
                all_goals
                  refine AWp.seqDKL hV mixed 8 [0, 1, 2, 8, 66] (by decide) ?_
                  simp [sp32, elAt_cons0, elAt_nil, stepE_nil]
                  repeat refine And.intro (by first | omega | grind) ?_
                  refine AWp.cond rfl (fun h4 => ?_) fun h4 => ?_
                  · try simp at h4
                    all_goals try (exfalso; omega)
                    all_goals
                      refine AWp.seqKL hV [6, 7] ?_
                      simp [sp32, elAt_cons0, elAt_nil, stepE_nil]
                      repeat refine And.intro (by first | omega | grind) ?_
                      refine AWp.ret ?_
                      simp [retOk, resT, thenQ, inBlockQ, mergeL, mergeR, elAt_cons0, elAt_nil, stepE_nil, *]
                      all_goals first | omega | grind
                  · try simp at h4
                    all_goals try (exfalso; omega)
                    all_goals
                      refine AWp.skip ?_
                      try simp only [thenQ, inBlockQ]
                      refine ⟨a1, [], [], ?_, ?_, Sub.ren [0] (by decide) ?_ ?_⟩
                      · refine ⟨?_, by simp at hz ⊢; omega⟩; rw [← hz.1, hm]; simp [stepE_nil]
                      · simp <;> omega
                      · simp [renL, AO.ren, T.ren, idx, elAt_cons0, elAt_nil, stepE_nil]
                      · simp [forgetsR, T.ren, idx, elAt_cons0, elAt_nil, stepE_nil] <;> omega
            · have hst := fun e => stepE_last (out := out) e hq
              refine AWp.seqDKL hV mixed 14 [0, 1, 2, 8, 9, 10, 48] (by decide) ?_
              simp [sp32, elAt_cons0, elAt_nil, elAt_enc hq]
              repeat refine And.intro (by first | omega | grind) ?_
              refine AWp.cond rfl (fun h3 => ?_) fun h3 => ?_
              · try simp at h3
                all_goals try (exfalso; omega)
                all_goals
                  refine AWp.region hV ?_
                  simp [sp32, elAt_cons0, elAt_nil, elAt_enc hq]
                  repeat refine And.intro (by first | omega | grind) ?_
                  try simp only [thenQ, inBlockQ]
                  refine ⟨a1, [], out ++ [x], ?_, ?_, Sub.ren [2] (by decide) ?_ ?_⟩
                  · refine ⟨?_, by simp at hz ⊢; omega⟩; rw [← hz.1, hm, stepE_last x hq, if_neg (by grind)] <;> simp
                  · simp <;> omega
                  · simp [renL, AO.ren, T.ren, idx, elAt_cons0, elAt_nil, elAt_enc hq]
                  · simp [forgetsR, T.ren, idx, elAt_cons0, elAt_nil, elAt_enc hq] <;> omega
              · try simp at h3
                all_goals try (exfalso; omega)
                all_goals
                  refine AWp.seqDKL hV mixed 8 [0, 1, 2, 8, 66] (by decide) ?_
                  simp [sp32, elAt_cons0, elAt_nil, elAt_enc hq]
                  repeat refine And.intro (by first | omega | grind) ?_
                  refine AWp.cond rfl (fun h4 => ?_) fun h4 => ?_
                  · try simp at h4
                    all_goals try (exfalso; omega)
                    all_goals
                      refine AWp.seqKL hV [6, 7] ?_
                      simp [sp32, elAt_cons0, elAt_nil, elAt_enc hq]
                      repeat refine And.intro (by first | omega | grind) ?_
                      refine AWp.ret ?_
                      simp [retOk, resT, thenQ, inBlockQ, mergeL, mergeR, elAt_cons0, elAt_nil, elAt_enc hq, *]
                      all_goals first | omega | grind
                  · try simp at h4
                    all_goals try (exfalso; omega)
                    all_goals
                      refine AWp.skip ?_
                      try simp only [thenQ, inBlockQ]
                      refine ⟨a1, [], out, ?_, ?_, Sub.ren [0] (by decide) ?_ ?_⟩
                      · refine ⟨?_, by simp at hz ⊢; omega⟩; rw [← hz.1, hm, stepE_last x hq, if_pos (by grind), if_pos (by grind)] <;> simp
                      · simp <;> omega
                      · simp [renL, AO.ren, T.ren, idx, elAt_cons0, elAt_nil, elAt_enc hq]
                      · simp [forgetsR, T.ren, idx, elAt_cons0, elAt_nil, elAt_enc hq] <;> omega
        · try simp at h2
          all_goals try (exfalso; omega)
          all_goals
            refine AWp.drawF hV mixed 5 [3, 4] (by decide) ?_
            simp [sp32, elAt_cons0, elAt_nil]
            repeat refine And.intro (by first | omega | grind) ?_
            try simp only [thenQ, inBlockQ]
            refine AWp.seqKL hV [0, 1, 2, 8, 9, 10] ?_
            simp [sp32, elAt_cons0, elAt_nil]
            repeat refine And.intro (by first | omega | grind) ?_
            refine AWp.block ?_
            rcases out_cases out with rfl | ⟨q, hq, hq0⟩
            · skip
              refine AWp.seqDKL hV mixed 14 [0, 1, 2, 8, 9, 10, 48] (by decide) ?_
              simp [sp32, elAt_cons0, elAt_nil, stepE_nil]
              repeat refine And.intro (by first | omega | grind) ?_
              refine AWp.cond rfl (fun h5 => ?_) fun h5 => ?_
              · try simp at h5
                all_goals try (exfalso; omega)
                all_goals
                  refine AWp.region hV ?_
                  simp [sp32, elAt_cons0, elAt_nil, stepE_nil]
                  repeat refine And.intro (by first | omega | grind) ?_
                  try simp only [thenQ, inBlockQ]
                  refine ⟨a1, [], [] ++ [x], ?_, ?_, Sub.ren [2] (by decide) ?_ ?_⟩
                  · refine ⟨?_, by simp at hz ⊢; omega⟩; rw [← hz.1, hm]; simp [stepE_nil]
                  · simp <;> omega
                  · simp [renL, AO.ren, T.ren, idx, elAt_cons0, elAt_nil, stepE_nil]
                  · simp [forgetsR, T.ren, idx, elAt_cons0, elAt_nil, stepE_nil] <;> omega
              · try simp at h5
                all_goals try (exfalso; omega)
                all_goals
                  refine AWp.seqDKL hV mixed 8 [0, 1, 2, 8, 66] (by decide) ?_
                  simp [sp32, elAt_cons0, elAt_nil, stepE_nil]
                  repeat refine And.intro (by first | omega | grind) ?_
                  refine AWp.cond rfl (fun h6 => ?_) fun h6 => ?_
                  · try simp at h6
                    all_goals try (exfalso; omega)
                    all_goals
                      refine AWp.seqKL hV [6, 7] ?_
                      simp [sp32, elAt_cons0, elAt_nil, stepE_nil]
                      repeat refine And.intro (by first | omega | grind) ?_
                      refine AWp.ret ?_
                      simp [retOk, resT, thenQ, inBlockQ, mergeL, mergeR, elAt_cons0, elAt_nil, stepE_nil, *]
                      all_goals first | omega | grind
                  · try simp at h6
                    all_goals try (exfalso; omega)
                    all_goals
                      refine AWp.skip ?_
                      try simp only [thenQ, inBlockQ]
                      refine ⟨a1, [], [], ?_, ?_, Sub.ren [0] (by decide) ?_ ?_⟩
                      · refine ⟨?_, by simp at hz ⊢; omega⟩; rw [← hz.1, hm]; simp [stepE_nil]
                      · simp <;> omega
                      · simp [renL, AO.ren, T.ren, idx, elAt_cons0, elAt_nil, stepE_nil]
                      · simp [forgetsR, T.ren, idx, elAt_cons0, elAt_nil, stepE_nil] <;> omega
            · have hst := fun e => stepE_last (out := out) e hq
              refine AWp.seqDKL hV mixed 14 [0, 1, 2, 8, 9, 10, 48] (by decide) ?_
              simp [sp32, elAt_cons0, elAt_nil, elAt_enc hq]
              repeat refine And.intro (by first | omega | grind) ?_
              refine AWp.cond rfl (fun h5 => ?_) fun h5 => ?_
              · try simp at h5
                all_goals try (exfalso; omega)
                all_goals
                  refine AWp.region hV ?_
                  simp [sp32, elAt_cons0, elAt_nil, elAt_enc hq]
                  repeat refine And.intro (by first | omega | grind) ?_
                  try simp only [thenQ, inBlockQ]
                  refine ⟨a1, [], out ++ [x], ?_, ?_, Sub.ren [2] (by decide) ?_ ?_⟩
                  · refine ⟨?_, by simp at hz ⊢; omega⟩; rw [← hz.1, hm, stepE_last x hq, if_neg (by grind)] <;> simp
                  · simp <;> omega
                  · simp [renL, AO.ren, T.ren, idx, elAt_cons0, elAt_nil, elAt_enc hq]
                  · simp [forgetsR, T.ren, idx, elAt_cons0, elAt_nil, elAt_enc hq] <;> omega
              · try simp at h5
                all_goals try (exfalso; omega)
                all_goals
                  refine AWp.seqDKL hV mixed 8 [0, 1, 2, 8, 66] (by decide) ?_
                  simp [sp32, elAt_cons0, elAt_nil, elAt_enc hq]
                  repeat refine And.intro (by first | omega | grind) ?_
                  refine AWp.cond rfl (fun h6 => ?_) fun h6 => ?_
                  · try simp at h6
                    all_goals try (exfalso; omega)
                    all_goals
                      refine AWp.seqKL hV [6, 7] ?_
                      simp [sp32, elAt_cons0, elAt_nil, elAt_enc hq]
                      repeat refine And.intro (by first | omega | grind) ?_
                      refine AWp.ret ?_
                      simp [retOk, resT, thenQ, inBlockQ, mergeL, mergeR, elAt_cons0, elAt_nil, elAt_enc hq, *]
                      all_goals first | omega | grind
                  · try simp at h6
                    all_goals try (exfalso; omega)
                    all_goals
                      refine AWp.skip ?_
                      try simp only [thenQ, inBlockQ]
                      refine ⟨a1, [], out, ?_, ?_, Sub.ren [0] (by decide) ?_ ?_⟩
                      · refine ⟨?_, by simp at hz ⊢; omega⟩; rw [← hz.1, hm, stepE_last x hq, if_pos (by grind), if_pos (by grind)] <;> simp
                      · simp <;> omega
                      · simp [renL, AO.ren, T.ren, idx, elAt_cons0, elAt_nil, elAt_enc hq]
                      · simp [forgetsR, T.ren, idx, elAt_cons0, elAt_nil, elAt_enc hq] <;> omega
      · have hm := mergeF_one (a := []) (b := y :: b1) (out := out) y [] b1 rfl (by simp)
        refine AWp.seqDKL hV mixed 19 [0, 1, 2, 8, 9, 35] (by decide) ?_
        simp [sp32, elAt_cons0, elAt_nil]
        repeat refine And.intro (by first | omega | grind) ?_
        refine AWp.cond rfl (fun h2 => ?_) fun h2 => ?_
        · try simp at h2
          all_goals try (exfalso; omega)
          all_goals
            refine AWp.drawF hV mixed 5 [3, 4] (by decide) ?_
            simp [sp32, elAt_cons0, elAt_nil]
            repeat refine And.intro (by first | omega | grind) ?_
            try simp only [thenQ, inBlockQ]
            refine AWp.seqKL hV [0, 1, 2, 8, 9, 10] ?_
            simp [sp32, elAt_cons0, elAt_nil]
            repeat refine And.intro (by first | omega | grind) ?_
            refine AWp.block ?_
            rcases out_cases out with rfl | ⟨q, hq, hq0⟩
            · skip
              refine AWp.seqDKL hV mixed 14 [0, 1, 2, 8, 9, 10, 48] (by decide) ?_
              simp [sp32, elAt_cons0, elAt_nil, stepE_nil]
              repeat refine And.intro (by first | omega | grind) ?_
              refine AWp.cond rfl (fun h3 => ?_) fun h3 => ?_
              · try simp at h3
                all_goals try (exfalso; omega)
                all_goals
                  refine AWp.region hV ?_
                  simp [sp32, elAt_cons0, elAt_nil, stepE_nil]
                  repeat refine And.intro (by first | omega | grind) ?_
                  try simp only [thenQ, inBlockQ]
                  refine ⟨[], b1, [] ++ [y], ?_, ?_, Sub.ren [2] (by decide) ?_ ?_⟩
                  · refine ⟨?_, by simp at hz ⊢; omega⟩; rw [← hz.1, hm]; simp [stepE_nil]
                  · simp <;> omega
                  · simp [renL, AO.ren, T.ren, idx, elAt_cons0, elAt_nil, stepE_nil]
                  · simp [forgetsR, T.ren, idx, elAt_cons0, elAt_nil, stepE_nil] <;> omega
              · try simp at h3
                all_goals try (exfalso; omega)
                all_goals
                  refine AWp.seqDKL hV mixed 8 [0, 1, 2, 8, 66] (by decide) ?_
                  simp [sp32, elAt_cons0, elAt_nil, stepE_nil]
                  repeat refine And.intro (by first | omega | grind) ?_
                  refine AWp.cond rfl (fun h4 => ?_) fun h4 => ?_
                  · try simp at h4
                    all_goals try (exfalso; omega)
                    all_goals
                      refine AWp.seqKL hV [6, 7] ?_
                      simp [sp32, elAt_cons0, elAt_nil, stepE_nil]
                      repeat refine And.intro (by first | omega | grind) ?_
                      refine AWp.ret ?_
                      simp [retOk, resT, thenQ, inBlockQ, mergeL, mergeR, elAt_cons0, elAt_nil, stepE_nil, *]
                      all_goals first | omega | grind
                  · try simp at h4
                    all_goals try (exfalso; omega)
                    all_goals
                      refine AWp.skip ?_
                      try simp only [thenQ, inBlockQ]
                      refine ⟨[], b1, [], ?_, ?_, Sub.ren [0] (by decide) ?_ ?_⟩
                      · refine ⟨?_, by simp at hz ⊢; omega⟩; rw [← hz.1, hm]; simp [stepE_nil]
                      · simp <;> omega
                      · simp [renL, AO.ren, T.ren, idx, elAt_cons0, elAt_nil, stepE_nil]
                      · simp [forgetsR, T.ren, idx, elAt_cons0, elAt_nil, stepE_nil] <;> omega
            · have hst := fun e => stepE_last (out := out) e hq
              refine AWp.seqDKL hV mixed 14 [0, 1, 2, 8, 9, 10, 48] (by decide) ?_
              simp [sp32, elAt_cons0, elAt_nil, elAt_enc hq]
              repeat refine And.intro (by first | omega | grind) ?_
              refine AWp.cond rfl (fun h3 => ?_) fun h3 => ?_
              · try simp at h3
                all_goals try (exfalso; omega)
                all_goals
                  refine AWp.region hV ?_
                  simp [sp32, elAt_cons0, elAt_nil, elAt_enc hq]
                  repeat refine And.intro (by first | omega | grind) ?_
                  try simp only [thenQ, inBlockQ]
                  refine ⟨[], b1, out ++ [y], ?_, ?_, Sub.ren [2] (by decide) ?_ ?_⟩
                  · refine ⟨?_, by simp at hz ⊢; omega⟩; rw [← hz.1, hm, stepE_last y hq, if_neg (by grind)] <;> simp
                  · simp <;> omega
                  · simp [renL, AO.ren, T.ren, idx, elAt_cons0, elAt_nil, elAt_enc hq]
                  · simp [forgetsR, T.ren, idx, elAt_cons0, elAt_nil, elAt_enc hq] <;> omega
              · try simp at h3
                all_goals try (exfalso; omega)
                all_goals
                  refine AWp.seqDKL hV mixed 8 [0, 1, 2, 8, 66] (by decide) ?_
                  simp [sp32, elAt_cons0, elAt_nil, elAt_enc hq]
                  repeat refine And.intro (by first | omega | grind) ?_
                  refine AWp.cond rfl (fun h4 => ?_) fun h4 => ?_
                  · try simp at h4
                    all_goals try (exfalso; omega)
                    all_goals
                      refine AWp.seqKL hV [6, 7] ?_
                      simp [sp32, elAt_cons0, elAt_nil, elAt_enc hq]
                      repeat refine And.intro (by first | omega | grind) ?_
                      refine AWp.ret ?_
                      simp [retOk, resT, thenQ, inBlockQ, mergeL, mergeR, elAt_cons0, elAt_nil, elAt_enc hq, *]
                      all_goals first | omega | grind
                  · try simp at h4
                    all_goals try (exfalso; omega)
                    all_goals
                      refine AWp.skip ?_
                      try simp only [thenQ, inBlockQ]
                      refine ⟨[], b1, out, ?_, ?_, Sub.ren [0] (by decide) ?_ ?_⟩
                      · refine ⟨?_, by simp at hz ⊢; omega⟩; rw [← hz.1, hm, stepE_last y hq, if_pos (by grind), if_pos (by grind)] <;> simp
                      · simp <;> omega
                      · simp [renL, AO.ren, T.ren, idx, elAt_cons0, elAt_nil, elAt_enc hq]
                      · simp [forgetsR, T.ren, idx, elAt_cons0, elAt_nil, elAt_enc hq] <;> omega
        · try simp at h2
          all_goals try (exfalso; omega)
          all_goals
            refine AWp.drawF hV mixed 5 [3, 4] (by decide) ?_
            simp [sp32, elAt_cons0, elAt_nil]
            repeat refine And.intro (by first | omega | grind) ?_
            try simp only [thenQ, inBlockQ]
            refine AWp.seqKL hV [0, 1, 2, 8, 9, 10] ?_
            simp [sp32, elAt_cons0, elAt_nil]
            repeat refine And.intro (by first | omega | grind) ?_
            refine AWp.block ?_
            rcases out_cases out with rfl | ⟨q, hq, hq0⟩
            · skip
              refine AWp.seqDKL hV mixed 14 [0, 1, 2, 8, 9, 10, 48] (by decide) ?_
              simp [sp32, elAt_cons0, elAt_nil, stepE_nil]
              repeat refine And.intro (by first | omega | grind) ?_
              refine AWp.cond rfl (fun h5 => ?_) fun h5 => ?_
              · try simp at h5
                all_goals try (exfalso; omega)
                all_goals
                  refine AWp.region hV ?_
                  simp [sp32, elAt_cons0, elAt_nil, stepE_nil]
                  repeat refine And.intro (by first | omega | grind) ?_
                  try simp only [thenQ, inBlockQ]
                  refine ⟨[], b1, [] ++ [y], ?_, ?_, Sub.ren [2] (by decide) ?_ ?_⟩
                  · refine ⟨?_, by simp at hz ⊢; omega⟩; rw [← hz.1, hm]; simp [stepE_nil]
                  · simp <;> omega
                  · simp [renL, AO.ren, T.ren, idx, elAt_cons0, elAt_nil, stepE_nil]
                  · simp [forgetsR, T.ren, idx, elAt_cons0, elAt_nil, stepE_nil] <;> omega
              · try simp at h5
                all_goals try (exfalso; omega)
                all_goals
                  refine AWp.seqDKL hV mixed 8 [0, 1, 2, 8, 66] (by decide) ?_
                  simp [sp32, elAt_cons0, elAt_nil, stepE_nil]
                  repeat refine And.intro (by first | omega | grind) ?_
                  refine AWp.cond rfl (fun h6 => ?_) fun h6 => ?_
                  · try simp at h6
                    all_goals try (exfalso; omega)
                    all_goals
                      refine AWp.seqKL hV [6, 7] ?_
                      simp [sp32, elAt_cons0, elAt_nil, stepE_nil]
                      repeat refine And.intro (by first | omega | grind) ?_
                      refine AWp.ret ?_
                      simp [retOk, resT, thenQ, inBlockQ, mergeL, mergeR, elAt_cons0, elAt_nil, stepE_nil, *]
                      all_goals first | omega | grind
                  · try simp at h6
                    all_goals try (exfalso; omega)
                    all_goals
                      refine AWp.skip ?_
                      try simp only [thenQ, inBlockQ]
                      refine ⟨[], b1, [], ?_, ?_, Sub.ren [0] (by decide) ?_ ?_⟩
                      · refine ⟨?_, by simp at hz ⊢; omega⟩; rw [← hz.1, hm]; simp [stepE_nil]
                      · simp <;> omega
                      · simp [renL, AO.ren, T.ren, idx, elAt_cons0, elAt_nil, stepE_nil]
                      · simp [forgetsR, T.ren, idx, elAt_cons0, elAt_nil, stepE_nil] <;> omega
            · have hst := fun e => stepE_last (out := out) e hq
              refine AWp.seqDKL hV mixed 14 [0, 1, 2, 8, 9, 10, 48] (by decide) ?_
              simp [sp32, elAt_cons0, elAt_nil, elAt_enc hq]
              repeat refine And.intro (by first | omega | grind) ?_
              refine AWp.cond rfl (fun h5 => ?_) fun h5 => ?_
              · try simp at h5
                all_goals try (exfalso; omega)
                all_goals
                  refine AWp.region hV ?_
                  simp [sp32, elAt_cons0, elAt_nil, elAt_enc hq]
                  repeat refine And.intro (by first | omega | grind) ?_
                  try simp only [thenQ, inBlockQ]
                  refine ⟨[], b1, out ++ [y], ?_, ?_, Sub.ren [2] (by decide) ?_ ?_⟩
                  · refine ⟨?_, by simp at hz ⊢; omega⟩; rw [← hz.1, hm, stepE_last y hq, if_neg (by grind)] <;> simp
                  · simp <;> omega
                  · simp [renL, AO.ren, T.ren, idx, elAt_cons0, elAt_nil, elAt_enc hq]
                  · simp [forgetsR, T.ren, idx, elAt_cons0, elAt_nil, elAt_enc hq] <;> omega
              · try simp at h5
                all_goals try (exfalso; omega)
                all_goals
                  refine AWp.seqDKL hV mixed 8 [0, 1, 2, 8, 66] (by decide) ?_
                  simp [sp32, elAt_cons0, elAt_nil, elAt_enc hq]
                  repeat refine And.intro (by first | omega | grind) ?_
                  refine AWp.cond rfl (fun h6 => ?_) fun h6 => ?_
                  · try simp at h6
                    all_goals try (exfalso; omega)
                    all_goals
                      refine AWp.seqKL hV [6, 7] ?_
                      simp [sp32, elAt_cons0, elAt_nil, elAt_enc hq]
                      repeat refine And.intro (by first | omega | grind) ?_
                      refine AWp.ret ?_
                      simp [retOk, resT, thenQ, inBlockQ, mergeL, mergeR, elAt_cons0, elAt_nil, elAt_enc hq, *]
                      all_goals first | omega | grind
                  · try simp at h6
                    all_goals try (exfalso; omega)
                    all_goals
                      refine AWp.skip ?_
                      try simp only [thenQ, inBlockQ]
                      refine ⟨[], b1, out, ?_, ?_, Sub.ren [0] (by decide) ?_ ?_⟩
                      · refine ⟨?_, by simp at hz ⊢; omega⟩; rw [← hz.1, hm, stepE_last y hq, if_pos (by grind), if_pos (by grind)] <;> simp
                      · simp <;> omega
                      · simp [renL, AO.ren, T.ren, idx, elAt_cons0, elAt_nil, elAt_enc hq]
                      · simp [forgetsR, T.ren, idx, elAt_cons0, elAt_nil, elAt_enc hq] <;> omega
      · have hm1 := fun h : order x y ≤ 0 => mergeF_one (a := x :: a1) (b := y :: b1) (out := out) x a1 (y :: b1) (by simp [pickE, h]) (by simp; omega)
        have hm2 := fun h : ¬ order x y ≤ 0 => mergeF_one (a := x :: a1) (b := y :: b1) (out := out) y (x :: a1) b1 (by simp [pickE, h]) (by simp; omega)
        refine AWp.seqDKL hV mixed 19 [0, 1, 2, 8, 9, 35] (by decide) ?_
        simp [sp32, elAt_cons0, elAt_nil]
        repeat refine And.intro (by first | omega | grind) ?_
        refine AWp.cond rfl (fun h2 => ?_) fun h2 => ?_
        · try simp at h2
          all_goals try (exfalso; omega)
          all_goals
            refine AWp.drawF hV mixed 5 [3, 4] (by decide) ?_
            simp [sp32, elAt_cons0, elAt_nil]
            repeat refine And.intro (by first | omega | grind) ?_
            try simp only [thenQ, inBlockQ]
            refine AWp.seqKL hV [0, 1, 2, 8, 9, 10] ?_
            simp [sp32, elAt_cons0, elAt_nil]
            repeat refine And.intro (by first | omega | grind) ?_
            refine AWp.block ?_
            rcases out_cases out with rfl | ⟨q, hq, hq0⟩
            · skip
              refine AWp.seqDKL hV mixed 14 [0, 1, 2, 8, 9, 10, 48] (by decide) ?_
              simp [sp32, elAt_cons0, elAt_nil, stepE_nil]
              repeat refine And.intro (by first | omega | grind) ?_
              refine AWp.cond rfl (fun h3 => ?_) fun h3 => ?_
              · try simp at h3
                all_goals try (exfalso; omega)
                all_goals
                  refine AWp.region hV ?_
                  simp [sp32, elAt_cons0, elAt_nil, stepE_nil]
                  repeat refine And.intro (by first | omega | grind) ?_
                  try simp only [thenQ, inBlockQ]
                  refine ⟨a1, y :: b1, [] ++ [x], ?_, ?_, Sub.ren [2] (by decide) ?_ ?_⟩
                  · refine ⟨?_, by simp at hz ⊢; omega⟩; rw [← hz.1, hm1 (by omega)]; simp [stepE_nil]
                  · simp <;> omega
                  · simp [renL, AO.ren, T.ren, idx, elAt_cons0, elAt_nil, stepE_nil]
                  · simp [forgetsR, T.ren, idx, elAt_cons0, elAt_nil, stepE_nil] <;> omega
              · try simp at h3
                all_goals try (exfalso; omega)
                all_goals
                  refine AWp.seqDKL hV mixed 8 [0, 1, 2, 8, 66] (by decide) ?_
                  simp [sp32, elAt_cons0, elAt_nil, stepE_nil]
                  repeat refine And.intro (by first | omega | grind) ?_
                  refine AWp.cond rfl (fun h4 => ?_) fun h4 => ?_
                  · try simp at h4
                    all_goals try (exfalso; omega)
                    all_goals
                      refine AWp.seqKL hV [6, 7] ?_
                      simp [sp32, elAt_cons0, elAt_nil, stepE_nil]
                      repeat refine And.intro (by first | omega | grind) ?_
                      refine AWp.ret ?_
                      simp [retOk, resT, thenQ, inBlockQ, mergeL, mergeR, elAt_cons0, elAt_nil, stepE_nil, *]
                      all_goals first | omega | grind
                  · try simp at h4
                    all_goals try (exfalso; omega)
                    all_goals
                      refine AWp.skip ?_
                      try simp only [thenQ, inBlockQ]
                      refine ⟨a1, y :: b1, [], ?_, ?_, Sub.ren [0] (by decide) ?_ ?_⟩
                      · refine ⟨?_, by simp at hz ⊢; omega⟩; rw [← hz.1, hm1 (by omega)]; simp [stepE_nil]
                      · simp <;> omega
                      · simp [renL, AO.ren, T.ren, idx, elAt_cons0, elAt_nil, stepE_nil]
                      · simp [forgetsR, T.ren, idx, elAt_cons0, elAt_nil, stepE_nil] <;> omega
            · have hst := fun e => stepE_last (out := out) e hq
              refine AWp.seqDKL hV mixed 14 [0, 1, 2, 8, 9, 10, 48] (by decide) ?_
              simp [sp32, elAt_cons0, elAt_nil, elAt_enc hq]
              repeat refine And.intro (by first | omega | grind) ?_
              refine AWp.cond rfl (fun h3 => ?_) fun h3 => ?_
              · try simp at h3
                all_goals try (exfalso; omega)
                all_goals
                  refine AWp.region hV ?_
                  simp [sp32, elAt_cons0, elAt_nil, elAt_enc hq]
                  repeat refine And.intro (by first | omega | grind) ?_
                  try simp only [thenQ, inBlockQ]
                  refine ⟨a1, y :: b1, out ++ [x], ?_, ?_, Sub.ren [2] (by decide) ?_ ?_⟩
                  · refine ⟨?_, by simp at hz ⊢; omega⟩; rw [← hz.1, hm1 (by omega), stepE_last x hq, if_neg (by grind)] <;> simp
                  · simp <;> omega
                  · simp [renL, AO.ren, T.ren, idx, elAt_cons0, elAt_nil, elAt_enc hq]
                  · simp [forgetsR, T.ren, idx, elAt_cons0, elAt_nil, elAt_enc hq] <;> omega
              · try simp at h3
                all_goals try (exfalso; omega)
                all_goals
                  refine AWp.seqDKL hV mixed 8 [0, 1, 2, 8, 66] (by decide) ?_
                  simp [sp32, elAt_cons0, elAt_nil, elAt_enc hq]
                  repeat refine And.intro (by first | omega | grind) ?_
                  refine AWp.cond rfl (fun h4 => ?_) fun h4 => ?_
                  · try simp at h4
                    all_goals try (exfalso; omega)
                    all_goals
                      refine AWp.seqKL hV [6, 7] ?_
                      simp [sp32, elAt_cons0, elAt_nil, elAt_enc hq]
                      repeat refine And.intro (by first | omega | grind) ?_
                      refine AWp.ret ?_
                      simp [retOk, resT, thenQ, inBlockQ, mergeL, mergeR, elAt_cons0, elAt_nil, elAt_enc hq, *]
                      all_goals first | omega | grind
                  · try simp at h4
                    all_goals try (exfalso; omega)
                    all_goals
                      refine AWp.skip ?_
                      try simp only [thenQ, inBlockQ]
                      refine ⟨a1, y :: b1, out, ?_, ?_, Sub.ren [0] (by decide) ?_ ?_⟩
                      · refine ⟨?_, by simp at hz ⊢; omega⟩; rw [← hz.1, hm1 (by omega), stepE_last x hq, if_pos (by grind), if_pos (by grind)] <;> simp
                      · simp <;> omega
                      · simp [renL, AO.ren, T.ren, idx, elAt_cons0, elAt_nil, elAt_enc hq]
                      · simp [forgetsR, T.ren, idx, elAt_cons0, elAt_nil, elAt_enc hq] <;> omega
        · try simp at h2
          all_goals try (exfalso; omega)
          all_goals
            refine AWp.drawF hV mixed 5 [3, 4] (by decide) ?_
            simp [sp32, elAt_cons0, elAt_nil]
            repeat refine And.intro (by first | omega | grind) ?_
            try simp only [thenQ, inBlockQ]
            refine AWp.seqKL hV [0, 1, 2, 8, 9, 10] ?_
            simp [sp32, elAt_cons0, elAt_nil]
            repeat refine And.intro (by first | omega | grind) ?_
            refine AWp.block ?_
            rcases out_cases out with rfl | ⟨q, hq, hq0⟩
            · skip
              refine AWp.seqDKL hV mixed 14 [0, 1, 2, 8, 9, 10, 48] (by decide) ?_
              simp [sp32, elAt_cons0, elAt_nil, stepE_nil]
              repeat refine And.intro (by first | omega | grind) ?_
              refine AWp.cond rfl (fun h5 => ?_) fun h5 => ?_
              · try simp at h5
                all_goals try (exfalso; omega)
                all_goals
                  refine AWp.region hV ?_
                  simp [sp32, elAt_cons0, elAt_nil, stepE_nil]
                  repeat refine And.intro (by first | omega | grind) ?_
                  try simp only [thenQ, inBlockQ]
                  refine ⟨x :: a1, b1, [] ++ [y], ?_, ?_, Sub.ren [2] (by decide) ?_ ?_⟩
                  · refine ⟨?_, by simp at hz ⊢; omega⟩; rw [← hz.1, hm2 (by omega)]; simp [stepE_nil]
                  · simp <;> omega
                  · simp [renL, AO.ren, T.ren, idx, elAt_cons0, elAt_nil, stepE_nil]
                  · simp [forgetsR, T.ren, idx, elAt_cons0, elAt_nil, stepE_nil] <;> omega
              · try simp at h5
                all_goals try (exfalso; omega)
                all_goals
                  refine AWp.seqDKL hV mixed 8 [0, 1, 2, 8, 66] (by decide) ?_
                  simp [sp32, elAt_cons0, elAt_nil, stepE_nil]
                  repeat refine And.intro (by first | omega | grind) ?_
                  refine AWp.cond rfl (fun h6 => ?_) fun h6 => ?_
                  · try simp at h6
                    all_goals try (exfalso; omega)
                    all_goals
                      refine AWp.seqKL hV [6, 7] ?_
                      simp [sp32, elAt_cons0, elAt_nil, stepE_nil]
                      repeat refine And.intro (by first | omega | grind) ?_
                      refine AWp.ret ?_
                      simp [retOk, resT, thenQ, inBlockQ, mergeL, mergeR, elAt_cons0, elAt_nil, stepE_nil, *]
                      all_goals first | omega | grind
                  · try simp at h6
                    all_goals try (exfalso; omega)
                    all_goals
                      refine AWp.skip ?_
                      try simp only [thenQ, inBlockQ]
                      refine ⟨x :: a1, b1, [], ?_, ?_, Sub.ren [0] (by decide) ?_ ?_⟩
                      · refine ⟨?_, by simp at hz ⊢; omega⟩; rw [← hz.1, hm2 (by omega)]; simp [stepE_nil]
                      · simp <;> omega
                      · simp [renL, AO.ren, T.ren, idx, elAt_cons0, elAt_nil, stepE_nil]
                      · simp [forgetsR, T.ren, idx, elAt_cons0, elAt_nil, stepE_nil] <;> omega
            · have hst := fun e => stepE_last (out := out) e hq
              refine AWp.seqDKL hV mixed 14 [0, 1, 2, 8, 9, 10, 48] (by decide) ?_
              simp [sp32, elAt_cons0, elAt_nil, elAt_enc hq]
              repeat refine And.intro (by first | omega | grind) ?_
              refine AWp.cond rfl (fun h5 => ?_) fun h5 => ?_
              · try simp at h5
                all_goals try (exfalso; omega)
                all_goals
                  refine AWp.region hV ?_
                  simp [sp32, elAt_cons0, elAt_nil, elAt_enc hq]
                  repeat refine And.intro (by first | omega | grind) ?_
                  try simp only [thenQ, inBlockQ]
                  refine ⟨x :: a1, b1, out ++ [y], ?_, ?_, Sub.ren [2] (by decide) ?_ ?_⟩
                  · refine ⟨?_, by simp at hz ⊢; omega⟩; rw [← hz.1, hm2 (by omega), stepE_last y hq, if_neg (by grind)] <;> simp
                  · simp <;> omega
                  · simp [renL, AO.ren, T.ren, idx, elAt_cons0, elAt_nil, elAt_enc hq]
                  · simp [forgetsR, T.ren, idx, elAt_cons0, elAt_nil, elAt_enc hq] <;> omega
              · try simp at h5
                all_goals try (exfalso; omega)
                all_goals
                  refine AWp.seqDKL hV mixed 8 [0, 1, 2, 8, 66] (by decide) ?_
                  simp [sp32, elAt_cons0, elAt_nil, elAt_enc hq]
                  repeat refine And.intro (by first | omega | grind) ?_
                  refine AWp.cond rfl (fun h6 => ?_) fun h6 => ?_
                  · try simp at h6
                    all_goals try (exfalso; omega)
                    all_goals
                      refine AWp.seqKL hV [6, 7] ?_
                      simp [sp32, elAt_cons0, elAt_nil, elAt_enc hq]
                      repeat refine And.intro (by first | omega | grind) ?_
                      refine AWp.ret ?_
                      simp [retOk, resT, thenQ, inBlockQ, mergeL, mergeR, elAt_cons0, elAt_nil, elAt_enc hq, *]
                      all_goals first | omega | grind
                  · try simp at h6
                    all_goals try (exfalso; omega)
                    all_goals
                      refine AWp.skip ?_
                      try simp only [thenQ, inBlockQ]
                      refine ⟨x :: a1, b1, out, ?_, ?_, Sub.ren [0] (by decide) ?_ ?_⟩
                      · refine ⟨?_, by simp at hz ⊢; omega⟩; rw [← hz.1, hm2 (by omega), stepE_last y hq, if_pos (by grind), if_pos (by grind)] <;> simp
                      · simp <;> omega
                      · simp [renL, AO.ren, T.ren, idx, elAt_cons0, elAt_nil, elAt_enc hq]
                      · simp [forgetsR, T.ren, idx, elAt_cons0, elAt_nil, elAt_enc hq] <;> omega
  · try simp at h1
    all_goals try (exfalso; omega)
    all_goals
      have ha2 : a2 = [] := List.length_eq_zero_iff.1 (by omega)
      have hb2 : b2 = [] := List.length_eq_zero_iff.1 (by omega)
      subst ha2
      subst hb2
      have hfin : mergeF (a.length + b.length) a b [] = some out := by rw [← hz.1]; rfl
      refine AWp.exit ?_
      simp [thenQ, inBlockQ]
      try simp only [thenQ, inBlockQ]
      refine AWp.seqKL hV [6, 7] ?_
      simp [sp32]
      repeat refine And.intro (by first | omega | grind) ?_
      refine AWp.ret ?_
      simp [retOk, resT, thenQ, inBlockQ, mergeL, mergeR, *]
      all_goals first | omega | grind
end Go.Proofs.Ytpbhcpeilgmkeaa

/-
  The events' data in plain Lean, part 4: the reference's Marks.
-/
namespace Go.Proofs.Ytpbhcpeilgmkeaa
open Go Go.Eva

def mFrom (id : Int) (out : List Mark) : Nat → Nat
  | 0 => 0
  | z + 1 => match out[z]? with
    | some m => if id ≤ m.id then mFrom id out z else z + 1
    | none => z + 1
def restOf (id : Int) : List Mark → List Mark
  | [] => []
  | m :: r => if m.id = id then r else m :: r
def markStep (out : List Mark) (e : Event) : List Mark :=
  if about e = 0 then out else
  out.take (mFrom (about e) out out.length) ++ (if e.kind = 1 then [e.mark] else []) ++ restOf (about e) (out.drop (mFrom (about e) out out.length))
def marksOf (l : List Event) : List Mark := l.foldl markStep []
def marksR (l : List Event) : List Mark × Int := if validE l then (marksOf l, 0) else ([], 1)
theorem mFrom_pos {id : Int} {out : List Mark} {z : Nat} {q : Mark} (hz : 0 < z) (hq : out[z - 1]? = some q) : mFrom id out z = if id ≤ q.id then mFrom id out (z - 1) else z := by
  obtain ⟨k, rfl⟩ : ∃ k, z = k + 1 := ⟨z - 1, by omega⟩
  simp only [Nat.add_sub_cancel] at hq ⊢
  simp [mFrom, hq]
theorem marks_succ {l : List Event} {z : Nat} {x : Event} (hx : l[z]? = some x) : marksOf (l.take (z + 1)) = markStep (marksOf (l.take z)) x := by
  rw [take_get hx]; simp [marksOf]
theorem marks_end {l : List Event} {z : Nat} (hz : l.length ≤ z) : marksOf (l.take z) = marksOf l := by rw [List.take_of_length_le hz]
theorem restOf_length (id : Int) (r : List Mark) : (restOf id r).length ≤ r.length := by
  cases r with
  | nil => simp [restOf]
  | cons m r => simp only [restOf]; split <;> simp
theorem markStep_length (out : List Mark) (e : Event) : (markStep out e).length ≤ out.length + 1 := by
  unfold markStep
  split
  · omega
  · have := restOf_length (about e) (out.drop (mFrom (about e) out out.length))
    simp only [List.length_append, List.length_take, List.length_drop] at this ⊢
    split <;> simp <;> omega
theorem drop_cases (out : List Mark) (y : Nat) : (out.drop y = [] ∧ List.drop y (out.map (Enc.enc : Mark → D)) = []) ∨ ∃ m r, out.drop y = m :: r ∧ List.drop y (out.map (Enc.enc : Mark → D)) = Enc.enc m :: r.map Enc.enc := by
  rw [← List.map_drop]
  cases out.drop y with
  | nil => exact .inl ⟨rfl, rfl⟩
  | cons m r => exact .inr ⟨m, r, rfl, rfl⟩
end Go.Proofs.Ytpbhcpeilgmkeaa

/-
  The events' data in plain Lean, part 5: Add and Marks of the program.
-/
namespace Go.Proofs.Ytpbhcpeilgmkeaa
open Go Go.Eva

instance : Inhabited Event := ⟨⟨0, 0, 0, 0, noMark⟩⟩
def sortA (d : Array Event) : Array Event := Go.Sort.pdq (Go.Proofs.ltOf order) d 0 d.size (Go.Lib.bitLen d.size) true true
def sortE (m : List Event) : List Event := (sortA m.toArray).toList
def eadd (l m : List Event) : List Event × Int :=
  if !(validE l) || m.any wrongE then ([], 1)
  else if (mergeL l (sortE m)).2 = false then ([], 61)
  else if 20000 < (mergeL l (sortE m)).1.length then ([], 2) else ((mergeL l (sortE m)).1, 0)
end Go.Proofs.Ytpbhcpeilgmkeaa

/-
  DERIVED: THE SHELF's CONTRACTS AT THIS DUMP, IN PLAIN WORDS (tools/lay-plain.mjs out of 'TryShelf.lean', which tools/lay-shelf.mjs wrote): THE SAME DECLARATIONS UNDER THE SAME NAMES: 'import', 'namespace', 'open', 'def', 'theorem' AND NOTHING ELSE: no command of the shelf's: FOR A HAND-IN. Each laying: the table of numbers ('.._ren') and one theorem, a field a fact of the dump's own or the kernel's comparison; each contract: ONE APPLICATION.
-/
namespace Go.Proofs
open Go.Shelf
def Try.sortEv_ren : Go.Shelf.Ren := ⟨fun | 6 => 30 | 15 => 49 | 14 => 48 | 28 => 70 | 29 => 71 | 20 => 62 | 21 => 63 | 22 => 64 | 23 => 65 | 24 => 66 | 25 => 67 | 26 => 68 | 27 => 69 | 46 => 84 | 47 => 85 | 48 => 86 | 49 => 87 | 50 => 88 | 57 => 98 | n => n, fun | 22 => 22 | 24 => 42 | 25 => 57 | 3 => 3 | 39 => 73 | 0 => 0 | 53 => 96 | 55 => 98 | 4 => 4 | 46 => 89 | 45 => 88 | 50 => 93 | 5 => 5 | 9 => 9 | 66 => 102 | 70 => 106 | 76 => 114 | 77 => 115 | n => n, fun | n => n⟩
theorem Try.sortEv : Go.Proofs.SlLaysF0.n6 Try.prog Try.sortEv_ren := {
  mixed := by kernel_rfl
  f6 := ⟨Try.f30.name, by decide, Try.func30.trans (congrArg some (by kernel_rfl))⟩
  f14 := ⟨Try.f48.name, by decide, Try.func48.trans (congrArg some (by kernel_rfl))⟩
  f15 := Try.func49.trans (congrArg some (by kernel_rfl))
  f20 := ⟨Try.f62.name, by decide, Try.func62.trans (congrArg some (by kernel_rfl))⟩
  f21 := ⟨Try.f63.name, by decide, Try.func63.trans (congrArg some (by kernel_rfl))⟩
  f22 := ⟨Try.f64.name, by decide, Try.func64.trans (congrArg some (by kernel_rfl))⟩
  f23 := ⟨Try.f65.name, by decide, Try.func65.trans (congrArg some (by kernel_rfl))⟩
  f24 := ⟨Try.f66.name, by decide, Try.func66.trans (congrArg some (by kernel_rfl))⟩
  f25 := ⟨Try.f67.name, by decide, Try.func67.trans (congrArg some (by kernel_rfl))⟩
  f26 := ⟨Try.f68.name, by decide, Try.func68.trans (congrArg some (by kernel_rfl))⟩
  f27 := ⟨Try.f69.name, by decide, Try.func69.trans (congrArg some (by kernel_rfl))⟩
  f28 := Try.func70.trans (congrArg some (by kernel_rfl))
  f29 := Try.func71.trans (congrArg some (by kernel_rfl))
  f46 := ⟨Try.f84.name, by decide, Try.func84.trans (congrArg some (by kernel_rfl))⟩
  f47 := Try.func85.trans (congrArg some (by kernel_rfl))
  f48 := Try.func86.trans (congrArg some (by kernel_rfl))
  f49 := ⟨Try.f87.name, by decide, Try.func87.trans (congrArg some (by kernel_rfl))⟩
  f50 := ⟨Try.f88.name, by decide, Try.func88.trans (congrArg some (by kernel_rfl))⟩
  f57 := ⟨Try.f98.name, by decide, Try.func98.trans (congrArg some (by kernel_rfl))⟩
  t0 := Try.underlying0
  a0 := Try.isAgg0
  z0 := Try.sizeOf0
  v0 := Try.zeroValue0
  t3 := Try.underlying3
  a3 := Try.isAgg3
  z3 := Try.sizeOf3
  v3 := Try.zeroValue3
  t4 := Try.underlying4
  a4 := Try.isAgg4
  z4 := Try.sizeOf4
  v4 := Try.zeroValue4
  t5 := Try.underlying5
  a5 := Try.isAgg5
  z5 := Try.sizeOf5
  v5 := Try.zeroValue5
  t9 := Try.underlying9
  a9 := Try.isAgg9
  z9 := Try.sizeOf9
  v9 := Try.zeroValue9
  t22 := Try.underlying22
  a22 := Try.isAgg22
  z22 := Try.sizeOf22
  v22 := Try.zeroValue22
  t25 := Try.underlying57
  a25 := Try.isAgg57
  z25 := Try.sizeOf57
  v25 := Try.zeroValue57
  t39 := Try.underlying73
  a39 := Try.isAgg73
  z39 := Try.sizeOf73
  v39 := Try.zeroValue73
  t45 := Try.underlying88
  a45 := Try.isAgg88
  z45 := Try.sizeOf88
  v45 := Try.zeroValue88
  t46 := Try.underlying89
  a46 := Try.isAgg89
  z46 := Try.sizeOf89
  v46 := Try.zeroValue89
  t50 := Try.underlying93
  a50 := Try.isAgg93
  z50 := Try.sizeOf93
  v50 := Try.zeroValue93
  t53 := Try.underlying96
  a53 := Try.isAgg96
  z53 := Try.sizeOf96
  v53 := Try.zeroValue96
  t55 := Try.underlying98
  a55 := Try.isAgg98
  z55 := Try.sizeOf98
  v55 := Try.zeroValue98
  t66 := Try.underlying102
  a66 := Try.isAgg102
  z66 := Try.sizeOf102
  v66 := Try.zeroValue102
  t70 := Try.underlying106
  a70 := Try.isAgg106
  z70 := Try.sizeOf106
  v70 := Try.zeroValue106
  t76 := Try.underlying114
  a76 := Try.isAgg114
  z76 := Try.sizeOf114
  v76 := Try.zeroValue114
  t77 := Try.underlying115
  a77 := Try.isAgg115
  z77 := Try.sizeOf115
  v77 := Try.zeroValue115 }
def Try.keysMk_ren : Go.Shelf.Ren := ⟨fun | 7 => 39 | 10 => 54 | n => n, fun | 23 => 47 | 26 => 3 | 3 => 40 | 28 => 65 | 0 => 0 | 27 => 64 | 33 => 49 | 4 => 4 | n => n, fun | n => n⟩
theorem Try.keysMk : Go.Proofs.SlLaysZI.n7 Try.prog Try.keysMk_ren := {
  mixed := by kernel_rfl
  f7 := ⟨Try.f39.name, by decide, Try.func39.trans (congrArg some (by kernel_rfl))⟩
  f10 := ⟨Try.f54.name, by decide, Try.func54.trans (congrArg some (by kernel_rfl))⟩
  t0 := Try.underlying0
  a0 := Try.isAgg0
  z0 := Try.sizeOf0
  v0 := Try.zeroValue0
  t4 := Try.underlying4
  a4 := Try.isAgg4
  z4 := Try.sizeOf4
  v4 := Try.zeroValue4
  t23 := Try.underlying47
  a23 := Try.isAgg47
  z23 := Try.sizeOf47
  v23 := Try.zeroValue47
  t26 := Try.underlying3
  a26 := Try.isAgg3
  z26 := Try.sizeOf3
  v26 := Try.zeroValue3
  t27 := Try.underlying64
  a27 := Try.isAgg64
  z27 := Try.sizeOf64
  v27 := Try.zeroValue64
  t28 := Try.underlying65
  a28 := Try.isAgg65
  z28 := Try.sizeOf65
  v28 := Try.zeroValue65
  t33 := Try.underlying49
  a33 := Try.isAgg49
  z33 := Try.sizeOf49
  v33 := Try.zeroValue49 }
def Try.sortedInt_ren : Go.Shelf.Ren := ⟨fun | 6 => 38 | 8 => 52 | 9 => 53 | 11 => 73 | 13 => 49 | 12 => 74 | 23 => 70 | 24 => 71 | 14 => 89 | 15 => 90 | 16 => 91 | 17 => 92 | 18 => 93 | 19 => 94 | 20 => 95 | 21 => 96 | 22 => 97 | 25 => 99 | 26 => 85 | 27 => 86 | 28 => 100 | 29 => 101 | 30 => 72 | 31 => 102 | n => n, fun | 26 => 3 | 28 => 65 | 24 => 62 | 0 => 0 | 3 => 3 | 37 => 73 | 48 => 96 | 50 => 98 | 4 => 4 | 40 => 89 | 39 => 88 | 45 => 93 | 5 => 5 | 9 => 9 | 51 => 102 | 55 => 106 | 57 => 114 | 58 => 115 | 33 => 49 | n => n, fun | n => n⟩
theorem Try.sortedInt : Go.Proofs.SlLaysZI.n6 Try.prog Try.sortedInt_ren := {
  mixed := by kernel_rfl
  f6 := ⟨Try.f38.name, by decide, Try.func38.trans (congrArg some (by kernel_rfl))⟩
  f8 := ⟨Try.f52.name, by decide, Try.func52.trans (congrArg some (by kernel_rfl))⟩
  f11 := ⟨Try.f73.name, by decide, Try.func73.trans (congrArg some (by kernel_rfl))⟩
  t0 := Try.underlying0
  a0 := Try.isAgg0
  z0 := Try.sizeOf0
  v0 := Try.zeroValue0
  t24 := Try.underlying62
  a24 := Try.isAgg62
  z24 := Try.sizeOf62
  v24 := Try.zeroValue62
  t26 := Try.underlying3
  a26 := Try.isAgg3
  z26 := Try.sizeOf3
  v26 := Try.zeroValue3
  t28 := Try.underlying65
  a28 := Try.isAgg65
  z28 := Try.sizeOf65
  v28 := Try.zeroValue65
  i26 := by kernel_rfl }
def Try.sortInt_ren : Go.Shelf.Ren := ⟨fun | 5 => 53 | 8 => 49 | 7 => 74 | 19 => 70 | 20 => 71 | 10 => 89 | 11 => 90 | 12 => 91 | 13 => 92 | 14 => 93 | 15 => 94 | 16 => 95 | 17 => 96 | 18 => 97 | 30 => 99 | 31 => 85 | 32 => 86 | 33 => 100 | 34 => 101 | 35 => 72 | 40 => 102 | n => n, fun | 23 => 62 | 25 => 3 | 3 => 3 | 32 => 73 | 22 => 62 | 0 => 0 | 44 => 96 | 46 => 98 | 4 => 4 | 36 => 89 | 35 => 88 | 41 => 93 | 5 => 5 | 9 => 9 | 53 => 102 | 57 => 106 | 63 => 114 | 64 => 115 | n => n, fun | n => n⟩
theorem Try.sortInt : Go.Proofs.SlLaysM.n5 Try.prog Try.sortInt_ren := {
  mixed := by kernel_rfl
  f5 := ⟨Try.f53.name, by decide, Try.func53.trans (congrArg some (by kernel_rfl))⟩
  f7 := ⟨Try.f74.name, by decide, Try.func74.trans (congrArg some (by kernel_rfl))⟩
  f8 := Try.func49.trans (congrArg some (by kernel_rfl))
  f10 := ⟨Try.f89.name, by decide, Try.func89.trans (congrArg some (by kernel_rfl))⟩
  f11 := ⟨Try.f90.name, by decide, Try.func90.trans (congrArg some (by kernel_rfl))⟩
  f12 := ⟨Try.f91.name, by decide, Try.func91.trans (congrArg some (by kernel_rfl))⟩
  f13 := ⟨Try.f92.name, by decide, Try.func92.trans (congrArg some (by kernel_rfl))⟩
  f14 := ⟨Try.f93.name, by decide, Try.func93.trans (congrArg some (by kernel_rfl))⟩
  f15 := ⟨Try.f94.name, by decide, Try.func94.trans (congrArg some (by kernel_rfl))⟩
  f16 := ⟨Try.f95.name, by decide, Try.func95.trans (congrArg some (by kernel_rfl))⟩
  f17 := ⟨Try.f96.name, by decide, Try.func96.trans (congrArg some (by kernel_rfl))⟩
  f18 := ⟨Try.f97.name, by decide, Try.func97.trans (congrArg some (by kernel_rfl))⟩
  f19 := Try.func70.trans (congrArg some (by kernel_rfl))
  f20 := Try.func71.trans (congrArg some (by kernel_rfl))
  f30 := ⟨Try.f99.name, by decide, Try.func99.trans (congrArg some (by kernel_rfl))⟩
  f31 := Try.func85.trans (congrArg some (by kernel_rfl))
  f32 := Try.func86.trans (congrArg some (by kernel_rfl))
  f33 := ⟨Try.f100.name, by decide, Try.func100.trans (congrArg some (by kernel_rfl))⟩
  f34 := ⟨Try.f101.name, by decide, Try.func101.trans (congrArg some (by kernel_rfl))⟩
  f35 := ⟨Try.f72.name, by decide, Try.func72.trans (congrArg some (by kernel_rfl))⟩
  f40 := ⟨Try.f102.name, by decide, Try.func102.trans (congrArg some (by kernel_rfl))⟩
  t0 := Try.underlying0
  a0 := Try.isAgg0
  z0 := Try.sizeOf0
  v0 := Try.zeroValue0
  t3 := Try.underlying3
  a3 := Try.isAgg3
  z3 := Try.sizeOf3
  v3 := Try.zeroValue3
  t4 := Try.underlying4
  a4 := Try.isAgg4
  z4 := Try.sizeOf4
  v4 := Try.zeroValue4
  t5 := Try.underlying5
  a5 := Try.isAgg5
  z5 := Try.sizeOf5
  v5 := Try.zeroValue5
  t9 := Try.underlying9
  a9 := Try.isAgg9
  z9 := Try.sizeOf9
  v9 := Try.zeroValue9
  t22 := Try.underlying62
  a22 := Try.isAgg62
  z22 := Try.sizeOf62
  v22 := Try.zeroValue62
  t23 := Try.underlying62
  a23 := Try.isAgg62
  z23 := Try.sizeOf62
  v23 := Try.zeroValue62
  t25 := Try.underlying3
  a25 := Try.isAgg3
  z25 := Try.sizeOf3
  v25 := Try.zeroValue3
  t32 := Try.underlying73
  a32 := Try.isAgg73
  z32 := Try.sizeOf73
  v32 := Try.zeroValue73
  t35 := Try.underlying88
  a35 := Try.isAgg88
  z35 := Try.sizeOf88
  v35 := Try.zeroValue88
  t36 := Try.underlying89
  a36 := Try.isAgg89
  z36 := Try.sizeOf89
  v36 := Try.zeroValue89
  t41 := Try.underlying93
  a41 := Try.isAgg93
  z41 := Try.sizeOf93
  v41 := Try.zeroValue93
  t44 := Try.underlying96
  a44 := Try.isAgg96
  z44 := Try.sizeOf96
  v44 := Try.zeroValue96
  t46 := Try.underlying98
  a46 := Try.isAgg98
  z46 := Try.sizeOf98
  v46 := Try.zeroValue98
  t53 := Try.underlying102
  a53 := Try.isAgg102
  z53 := Try.sizeOf102
  v53 := Try.zeroValue102
  t57 := Try.underlying106
  a57 := Try.isAgg106
  z57 := Try.sizeOf106
  v57 := Try.zeroValue106
  t63 := Try.underlying114
  a63 := Try.isAgg114
  z63 := Try.sizeOf114
  v63 := Try.zeroValue114
  t64 := Try.underlying115
  a64 := Try.isAgg115
  z64 := Try.sizeOf115
  v64 := Try.zeroValue115 }
end Go.Proofs

/-
  Eva, part W: what the printed walks ('ex.py') use: programs over Lean's own data ('Option'), loops as 'loopO', assertions at the points where ways meet.
-/
namespace Go.Eva
open Go Go.RowKit Enc
variable [Drw]

/-! Programs. -/
def bnd {α β : Type} (o : Option α) (f : α → Option β) : Option β := match o with | some x => f x | none => none
def grd {β : Type} (p : Prop) [Decidable p] (o : Option β) : Option β := if p then o else none
def ifb {β : Type} (c : Bool) (a b : Option β) : Option β := match c with | true => a | false => b
def inI (n : Int) : Prop := -9223372036854775808 ≤ n ∧ n ≤ 9223372036854775807
instance (n : Int) : Decidable (inI n) := inferInstanceAs (Decidable (_ ∧ _))
def at? {α : Type} (l : List α) (i : Int) : Option α := if 0 ≤ i then l[i.toNat]? else none
theorem bnd_some {α β : Type} {o : Option α} {f : α → Option β} {r : β} (h : bnd o f = some r) : ∃ x, o = some x ∧ f x = some r := by
  unfold bnd at h; split at h
  · rename_i x; exact ⟨x, rfl, h⟩
  · cases h
theorem grd_some {β : Type} {p : Prop} [Decidable p] {o : Option β} {r : β} (h : grd p o = some r) : p ∧ o = some r := by
  unfold grd at h; split at h
  · rename_i hp; exact ⟨hp, h⟩
  · cases h
theorem ifb_t {β : Type} {c : Bool} {a b : Option β} {r : β} (hc : c = true) (h : ifb c a b = some r) : a = some r := by subst hc; exact h
theorem ifb_f {β : Type} {c : Bool} {a b : Option β} {r : β} (hc : c = false) (h : ifb c a b = some r) : b = some r := by subst hc; exact h
theorem ifb_eq {β : Type} (c : Bool) (a b : Option β) : ifb c a b = if c = true then a else b := by cases c <;> rfl
theorem bnd_eq {α β : Type} {o : Option α} {f : α → Option β} {x : α} (h : o = some x) : bnd o f = f x := by subst h; rfl
theorem grd_eq {β : Type} {p : Prop} [Decidable p] {o : Option β} (h : p) : grd p o = o := if_pos h
theorem bnd_pure {α β : Type} (x : α) (f : α → Option β) : bnd (some x) f = f x := rfl
theorem at_some {α : Type} {l : List α} {i : Int} {x : α} (h : at? l i = some x) : 0 ≤ i ∧ i < l.length ∧ l[i.toNat]? = some x := by
  unfold at? at h; split at h
  · rename_i hi
    have := (List.getElem?_eq_some_iff.1 h).1
    exact ⟨hi, by omega, h⟩
  · cases h

/-! Loops. -/
def iterO {σ ρ : Type} (step : σ → Option (σ ⊕ ρ)) : Nat → σ → Option ρ
  | 0, _ => none
  | n + 1, z => match step z with
    | some (.inl z') => iterO step n z'
    | some (.inr r) => some r
    | none => none
theorem iterO_mono {σ ρ : Type} {step : σ → Option (σ ⊕ ρ)} {r : ρ} : ∀ {n m : Nat} {z : σ}, n ≤ m → iterO step n z = some r → iterO step m z = some r
  | 0, _, _, _, h => by cases h
  | n + 1, 0, _, hm, _ => by omega
  | n + 1, m + 1, z, hm, h => by
    simp only [iterO] at h ⊢
    split at h <;> try (first | exact h | cases h)
    exact iterO_mono (by omega) h
open Classical in
noncomputable def loopO {σ ρ : Type} (step : σ → Option (σ ⊕ ρ)) (z : σ) : Option ρ := if h : ∃ n r, iterO step n z = some r then some (Classical.choose (Classical.choose_spec h)) else none
theorem loopO_of {σ ρ : Type} {step : σ → Option (σ ⊕ ρ)} {z : σ} {n : Nat} {r : ρ} (h : iterO step n z = some r) : loopO step z = some r := by
  have hx : ∃ n r, iterO step n z = some r := ⟨n, r, h⟩
  unfold loopO
  rw [dif_pos hx]
  have h1 := Classical.choose_spec (Classical.choose_spec hx)
  have h2 := iterO_mono (Nat.le_max_left n (Classical.choose hx)) h
  have h3 := iterO_mono (Nat.le_max_right n (Classical.choose hx)) h1
  rw [h3] at h2; exact h2
theorem loopO_some {σ ρ : Type} {step : σ → Option (σ ⊕ ρ)} {z : σ} {r : ρ} (h : loopO step z = some r) : ∃ n, iterO step n z = some r := by
  unfold loopO at h
  split at h
  · rename_i hx
    have h1 := Classical.choose_spec (Classical.choose_spec hx)
    cases h
    exact ⟨_, h1⟩
  · cases h
theorem loopO_eq {σ ρ : Type} (step : σ → Option (σ ⊕ ρ)) (z : σ) : loopO step z = match step z with | some (.inl z') => loopO step z' | some (.inr r) => some r | none => none := by
  cases hs : step z with
  | none =>
    cases hl : loopO step z with
    | none => rfl
    | some r =>
      obtain ⟨n, hn⟩ := loopO_some hl
      cases n with
      | zero => cases hn
      | succ n => simp only [iterO, hs] at hn; cases hn
  | some x =>
    cases x with
    | inr r => exact loopO_of (n := 1) (by simp only [iterO, hs])
    | inl z' =>
      simp only
      cases hl : loopO step z' with
      | some r =>
        obtain ⟨n, hn⟩ := loopO_some hl
        exact loopO_of (n := n + 1) (by simp only [iterO, hs]; exact hn)
      | none =>
        cases hl' : loopO step z with
        | none => rfl
        | some r =>
          obtain ⟨n, hn⟩ := loopO_some hl'
          cases n with
          | zero => cases hn
          | succ n =>
            simp only [iterO, hs] at hn
            rw [loopO_of hn] at hl; cases hl
theorem loopO_inl {σ ρ : Type} {step : σ → Option (σ ⊕ ρ)} {z z' : σ} (h : step z = some (.inl z')) : loopO step z = loopO step z' := by rw [loopO_eq, h]
theorem loopO_inr {σ ρ : Type} {step : σ → Option (σ ⊕ ρ)} {z : σ} {r : ρ} (h : step z = some (.inr r)) : loopO step z = some r := by rw [loopO_eq, h]

/-! Rules of the walk. What stands behind a piece is always a variable, so that 'simp' never goes there. -/
section
variable {P : Program} {V : Env} {w0 : World} {I0 : Imm} {n : Nat} {Q : Exit → St → Prop} {s s' : St} {x y : Code}
theorem kcong {K : St → Prop} (h : s = s') (k : K s') : K s := h ▸ k
/-- Where ways meet: what stands then. -/
theorem AWp.seqJ (J0 : St → Prop) (h : ∀ J : St → Prop, (∀ s', J0 s' → J s') → AWp P w0 I0 n x s (thenQ J Q)) (k : ∀ s', J0 s' → AWp P w0 I0 n y s' Q) : AWp P w0 I0 n (x.seq y) s Q :=
  AWp.seq (AWp.mono (h J0 fun _ h => h) fun e s' hq => by cases e <;> first | exact k s' hq | exact hq)
theorem AWp.seqG (h : ∀ K : St → Prop, (∀ s', AWp P w0 I0 n y s' Q → K s') → AWp P w0 I0 n x s (thenQ K Q)) : AWp P w0 I0 n (x.seq y) s Q :=
  AWp.seq (h _ fun _ h => h)
theorem AWp.mid {t : St} (h : ∀ R : Exit → St → Prop, (∀ s', Sub s' t → R .normal s') → AWp P w0 I0 n x s R) (k : Q .normal t) : AWp P w0 I0 n x s Q := fun a w hr =>
  Code.wp_mono (fun e a' w' ⟨s', ⟨he, hs⟩, h2⟩ => by
    subst he
    exact ⟨t, k, hs _ _ _ _ _ h2⟩) (h (fun e s' => e = .normal ∧ Sub s' t) (fun _ h => ⟨rfl, h⟩) a w hr)
theorem AWp.regF (hV : VOk P V) (md : Way) (live : List Nat) {id : Nat} {ops : List Oper} (h : ∀ K : St → Prop, (∀ s', Q .normal s' → K s') → evalSeq V n ops md ops s (fun s' => K ⟨Eva.restr live s'.t, s'.l⟩)) : AWp P w0 I0 n (Code.region id ops.toArray false) s Q := fun a w hr => by
  refine wp_region_lit (evalSeq_ok (Q := fun e a' w' => ∃ s', Q e s' ∧ Rel w0 I0 n s' a' w') (K := fun s' => Q .normal ⟨Eva.restr live s'.t, s'.l⟩) hV (fun s a w h1 h2 => ?_) ops s a w hr (h _ fun _ h => h))
  exact ⟨_, h1, Sub.restr live _ _ _ _ _ h2⟩
theorem AWp.regDF (hV : VOk P V) (hm : P.follows .mixedOrders = true) (md : Way) (n1 : Nat) (live : List Nat) {id : Nat} {ops : List Oper} (hd : drawOk ops n1 = true)
    (h : ∀ K : St → Prop, (∀ s', Q .normal s' → K s') → evalPure V n ops md s.l (ops.take n1) 0 s.t [] fun tm news => evalSeq V n ops md (ops.drop n1) ⟨tm, s.l ++ news.map (·.2)⟩ (fun s' => K ⟨Eva.restr live s'.t, s'.l⟩)) : AWp P w0 I0 n (Code.region id ops.toArray true) s Q := fun _ _ hr =>
  evalDraw_ok' (Q := fun e a' w' => ∃ s', Q e s' ∧ Rel w0 I0 n s' a' w') (K := fun s' => Q .normal ⟨Eva.restr live s'.t, s'.l⟩) hV hm (fun _ _ _ h1 h2 => ⟨_, h1, Sub.restr live _ _ _ _ _ h2⟩) n1 hd hr (h _ fun _ h => h)
theorem AWp.regDFF (hV : VOk P V) (hm : P.follows .mixedOrders = true) (md : Way) (n1 : Nat) (F : List Nat) (live : List Nat) {id : Nat} {ops : List Oper} (hd : drawOk2 ops n1 F = true)
    (h : ∀ K : St → Prop, (∀ s', Q .normal s' → K s') → evalPure V n ops md s.l (ops.take n1) 0 s.t [] fun tm news => evalSeq V n ops md (ops.drop n1) ⟨tm, s.l ++ news.map (·.2)⟩ (fun s' => K ⟨Eva.restr live s'.t, s'.l⟩)) : AWp P w0 I0 n (Code.region id ops.toArray true) s Q := fun _ _ hr =>
  evalDraw_ok2 (Q := fun e a' w' => ∃ s', Q e s' ∧ Rel w0 I0 n s' a' w') (K := fun s' => Q .normal ⟨Eva.restr live s'.t, s'.l⟩) hV hm (fun _ _ _ h1 h2 => ⟨_, h1, Sub.restr live _ _ _ _ _ h2⟩) n1 F hd hr (h _ fun _ h => h)
theorem AWp.rS (hV : VOk P V) (md : Way) (live : List Nat) {id : Nat} {ops : List Oper} (h : ∀ K : St → Prop, (∀ s', AWp P w0 I0 n y s' Q → K s') → evalSeq V n ops md ops s (fun s' => K ⟨Eva.restr live s'.t, s'.l⟩)) : AWp P w0 I0 n ((Code.region id ops.toArray false).seq y) s Q :=
  AWp.seqG fun _ hk => AWp.regF hV md live fun _ hk' => h _ fun s' ha => hk' s' (hk s' ha)
theorem AWp.rD (hV : VOk P V) (hm : P.follows .mixedOrders = true) (md : Way) (n1 : Nat) (live : List Nat) {id : Nat} {ops : List Oper} (hd : drawOk ops n1 = true)
    (h : ∀ K : St → Prop, (∀ s', AWp P w0 I0 n y s' Q → K s') → evalPure V n ops md s.l (ops.take n1) 0 s.t [] fun tm news => evalSeq V n ops md (ops.drop n1) ⟨tm, s.l ++ news.map (·.2)⟩ (fun s' => K ⟨Eva.restr live s'.t, s'.l⟩)) : AWp P w0 I0 n ((Code.region id ops.toArray true).seq y) s Q :=
  AWp.seqG fun _ hk => AWp.regDF hV hm md n1 live hd fun _ hk' => h _ fun s' ha => hk' s' (hk s' ha)
theorem AWp.rDF (hV : VOk P V) (hm : P.follows .mixedOrders = true) (md : Way) (n1 : Nat) (F : List Nat) (live : List Nat) {id : Nat} {ops : List Oper} (hd : drawOk2 ops n1 F = true)
    (h : ∀ K : St → Prop, (∀ s', AWp P w0 I0 n y s' Q → K s') → evalPure V n ops md s.l (ops.take n1) 0 s.t [] fun tm news => evalSeq V n ops md (ops.drop n1) ⟨tm, s.l ++ news.map (·.2)⟩ (fun s' => K ⟨Eva.restr live s'.t, s'.l⟩)) : AWp P w0 I0 n ((Code.region id ops.toArray true).seq y) s Q :=
  AWp.seqG fun _ hk => AWp.regDFF hV hm md n1 F live hd fun _ hk' => h _ fun s' ha => hk' s' (hk s' ha)
/-- In another order. -/
theorem AWp.regDP (hV : VOk P V) (hm : P.follows .mixedOrders = true) (md : Way) (p : List Nat) (n1 : Nat) (F : List Nat) (live : List Nat) {id : Nat} {ops : List Oper} (hp : permOk p ops.length = true) (hd : drawOk3 (permOps p ops) n1 F = true) (hptr : floatPtr s.t (permOps p ops) n1 F = true)
    (h : ∀ K : St → Prop, (∀ s', Q .normal s' → K s') → evalPure V n (permOps p ops) md s.l ((permOps p ops).take n1) 0 s.t [] fun tm news => evalSeq V n (permOps p ops) md ((permOps p ops).drop n1) ⟨tm, s.l ++ news.map (·.2)⟩ (fun s' => K ⟨Eva.restr live s'.t, s'.l⟩)) : AWp P w0 I0 n (Code.region id ops.toArray true) s Q := fun _ _ hr =>
  evalDraw_ok3 (Q := fun e a' w' => ∃ s', Q e s' ∧ Rel w0 I0 n s' a' w') (K := fun s' => Q .normal ⟨Eva.restr live s'.t, s'.l⟩) hV hm (fun _ _ _ h1 h2 => ⟨_, h1, Sub.restr live _ _ _ _ _ h2⟩) p n1 F hp hd hptr hr (h _ fun _ h => h)
theorem AWp.rDP (hV : VOk P V) (hm : P.follows .mixedOrders = true) (md : Way) (p : List Nat) (n1 : Nat) (F : List Nat) (live : List Nat) {id : Nat} {ops : List Oper} (hp : permOk p ops.length = true) (hd : drawOk3 (permOps p ops) n1 F = true) (hptr : floatPtr s.t (permOps p ops) n1 F = true)
    (h : ∀ K : St → Prop, (∀ s', AWp P w0 I0 n y s' Q → K s') → evalPure V n (permOps p ops) md s.l ((permOps p ops).take n1) 0 s.t [] fun tm news => evalSeq V n (permOps p ops) md ((permOps p ops).drop n1) ⟨tm, s.l ++ news.map (·.2)⟩ (fun s' => K ⟨Eva.restr live s'.t, s'.l⟩)) : AWp P w0 I0 n ((Code.region id ops.toArray true).seq y) s Q :=
  AWp.seqG fun _ hk => AWp.regDP hV hm md p n1 F live hp hd hptr fun _ hk' => h _ fun s' ha => hk' s' (hk s' ha)
/-- A loop, by its program. -/
theorem AWp.loopO {σ ρ : Type} (F : σ → St) (step : σ → Option (σ ⊕ ρ)) (z0 : σ) {out : ρ} (h : Eva.loopO step z0 = some out) (hs : Sub s (F z0))
    (round : ∀ z o (K : St → Prop), step z = some o → (∀ r, o = .inr r → r = out) → (∀ s' z', o = .inl z' → Sub s' (F z') → K s') → AWp P w0 I0 n x (F z) (thenQ K Q)) : AWp P w0 I0 n (.loop x) s Q := by
  obtain ⟨k, hk⟩ := loopO_some h
  refine AWp.loop (X := Nat × σ) (fun z => F z.2) (fun z => iterO step z.1 z.2 = some out) (fun z => z.1) (k, z0) hk hs fun z hz => ?_
  obtain ⟨k, z⟩ := z
  cases k with
  | zero => cases hz
  | succ k =>
    simp only [iterO] at hz
    cases ho : step z with
    | none => rw [ho] at hz; cases hz
    | some o =>
      rw [ho] at hz
      refine AWp.mono (round z o (fun s' => ∃ z', o = .inl z' ∧ Sub s' (F z')) ho (fun r hr => by subst hr; simp only [Option.some.injEq] at hz; exact hz) fun s' z' h1 h2 => ⟨z', h1, h2⟩) fun e s' hq => ?_
      cases e <;> first | exact hq | skip
      obtain ⟨z', rfl, hz'⟩ := hq
      exact ⟨(k, z'), hz, by simp, hz'⟩
theorem PureCon.ofQ {f : FuncId} {fn : Func} {c : Code} {ds : List D} {r : D} (hV : VOk P V) (hf : P.funcs[f]? = some fn) (hb : fn.body = some c) (hn : ds.length ≤ fn.ntmps)
    (h : ∀ w0 I0 (Q : Exit → St → Prop), (∀ e s, (e = .ret ∨ e = .normal) → retOk V s fn.results.toList r → Q e s) → AWp P w0 I0 fn.ntmps c ⟨startT 0 ds, []⟩ Q) : PureCon P f ds r :=
  PureCon.of hV hf hb hn fun w0 I0 => h w0 I0 _ fun _ _ h1 h2 => ⟨h1, h2⟩
end

section
/-- A slot's content as data. -/
theorem Sub.toData {s : St} (j : Nat) {d : D} {l' : List AO} (h : toD s.l (get s.t j) = some (d, l')) : Sub s ⟨(j, .d d) :: s.t, l'⟩ := by
  intro w0 I0 n a w hr
  obtain ⟨h1, h2, I, m, h3, h4⟩ := hr
  obtain ⟨J, le, r1, hrd, _⟩ := toD_ok h3 (h4 j) h
  refine ⟨h1, h2, J, m, r1, fun k => ?_⟩
  simp only [get]
  by_cases hk : j = k
  · subst hk; rw [if_pos rfl]; exact .d _ _ hrd
  · rw [if_neg hk]; exact (h4 k).mono le

end
/-! Contracts. -/
def opD (o : Option D) : D := o.getD .nilp
def specO0 (f : Option D) : Spec := fun ds => match ds with | [] => some (opD f, f.isSome = true) | _ => none
def specO1 {α : Type} [Enc α] (f : α → Option D) : Spec := fun ds => match ds with | [a] => some (opD (f (dec a)), enc (dec a : α) = a ∧ (f (dec a)).isSome = true) | _ => none
def specO2 {α β : Type} [Enc α] [Enc β] (f : α → β → Option D) : Spec := fun ds => match ds with | [a, b] => some (opD (f (dec a) (dec b)), enc (dec a : α) = a ∧ enc (dec b : β) = b ∧ (f (dec a) (dec b)).isSome = true) | _ => none
def specO3 {α β γ : Type} [Enc α] [Enc β] [Enc γ] (f : α → β → γ → Option D) : Spec := fun ds => match ds with | [a, b, c] => some (opD (f (dec a) (dec b) (dec c)), enc (dec a : α) = a ∧ enc (dec b : β) = b ∧ enc (dec c : γ) = c ∧ (f (dec a) (dec b) (dec c)).isSome = true) | _ => none
def specO4 {α β γ δ : Type} [Enc α] [Enc β] [Enc γ] [Enc δ] (f : α → β → γ → δ → Option D) : Spec := fun ds => match ds with | [a, b, c, d] => some (opD (f (dec a) (dec b) (dec c) (dec d)), enc (dec a : α) = a ∧ enc (dec b : β) = b ∧ enc (dec c : γ) = c ∧ enc (dec d : δ) = d ∧ (f (dec a) (dec b) (dec c) (dec d)).isSome = true) | _ => none
section
variable {P : Program} {g : FuncId}
theorem opD_some {o : Option D} (h : o.isSome = true) : o = some (opD o) := by cases o <;> first | rfl | cases h
theorem SpecOk.ofO0 {f : Option D} (he : Enters P g) (h : ∀ r, f = some r → PureCon P g [] r) : SpecOk P g (specO0 f) := ⟨he, fun ds r ob hs hob => by
  unfold specO0 at hs; split at hs
  · cases hs; exact h _ (opD_some hob)
  · cases hs⟩
theorem SpecOk.ofO1 {α : Type} [Enc α] {f : α → Option D} (he : Enters P g) (h : ∀ a r, f a = some r → PureCon P g [enc a] r) : SpecOk P g (specO1 f) := ⟨he, fun ds r ob hs hob => by
  unfold specO1 at hs; split at hs
  · cases hs
    have := h _ _ (opD_some hob.2); rw [hob.1] at this; exact this
  · cases hs⟩
theorem SpecOk.ofO2 {α β : Type} [Enc α] [Enc β] {f : α → β → Option D} (he : Enters P g) (h : ∀ a b r, f a b = some r → PureCon P g [enc a, enc b] r) : SpecOk P g (specO2 f) := ⟨he, fun ds r ob hs hob => by
  unfold specO2 at hs; split at hs
  · cases hs
    have := h _ _ _ (opD_some hob.2.2); rw [hob.1, hob.2.1] at this; exact this
  · cases hs⟩
theorem SpecOk.ofO3 {α β γ : Type} [Enc α] [Enc β] [Enc γ] {f : α → β → γ → Option D} (he : Enters P g) (h : ∀ a b c r, f a b c = some r → PureCon P g [enc a, enc b, enc c] r) : SpecOk P g (specO3 f) := ⟨he, fun ds r ob hs hob => by
  unfold specO3 at hs; split at hs
  · cases hs
    have := h _ _ _ _ (opD_some hob.2.2.2); rw [hob.1, hob.2.1, hob.2.2.1] at this; exact this
  · cases hs⟩
theorem SpecOk.ofO4 {α β γ δ : Type} [Enc α] [Enc β] [Enc γ] [Enc δ] {f : α → β → γ → δ → Option D} (he : Enters P g) (h : ∀ a b c d r, f a b c d = some r → PureCon P g [enc a, enc b, enc c, enc d] r) : SpecOk P g (specO4 f) := ⟨he, fun ds r ob hs hob => by
  unfold specO4 at hs; split at hs
  · cases hs
    have := h _ _ _ _ _ (opD_some hob.2.2.2.2); rw [hob.1, hob.2.1, hob.2.2.1, hob.2.2.2.1] at this; exact this
  · cases hs⟩
end
end Go.Eva

/-
  Eva, part X: the shelf's sorted rows: an own row, permuted in place.
-/
namespace Go.Eva
set_option linter.unusedSectionVars false
open Go Go.RowKit Enc Go.Proofs Go.Sort
variable [Drw]

theorem mapBlock_setRow (w : World) (b : Nat) (f : Array Value → Array Value) (cur : Array Value) (e : TypeId) (fr : Nat × Nat) (h : w.heap[b]? = some (.cells cur e fr)) : mapBlock w b f = w.setRow b (f cur) := by
  unfold mapBlock World.setRow
  congr 1
  apply Array.ext_getElem?
  intro k
  simp only [Array.getElem?_modify]
  by_cases hk : b = k
  · subst hk; simp [h, onCells]
  · simp [hk]

theorem putCells_list (F cur : Array Value) (hF : F.size ≤ cur.size) : (putCells (fun v => v) 0 F cur).toList = F.toList ++ cur.toList.drop F.size := by
  apply List.ext_getElem?
  intro i
  have h1 : (putCells (fun v => v) 0 F cur).toList[i]? = (cur[i]?).map fun x => if i < F.size then F[i]! else x := by
    rw [Array.getElem?_toList]
    unfold putCells
    rw [Array.getElem?_mapIdx]
    simp
  rw [h1, List.getElem?_append]
  by_cases hi : i < F.size
  · have : i < cur.size := by omega
    simp [hi, this]
  · simp [hi, List.getElem?_drop, show F.size + (i - F.size) = i by omega]

theorem flatK_list {α : Type} [Inhabited α] (venc : α → List Value) (k : Nat) (hv : ∀ x, (venc x).length = k) (d : Array α) : (flatK venc k d).toList = d.toList.flatMap venc := by
  apply List.ext_getElem?
  intro i
  have hfl : ∀ (l : List α) (i : Nat), (l.flatMap venc)[i]? = (l[i / k]?).bind fun x => (venc x)[i % k]? := by
    intro l
    induction l with
    | nil => intro i; simp
    | cons x l ih =>
      intro i
      rw [List.flatMap_cons, List.getElem?_append, hv]
      by_cases hi : i < k
      · rw [if_pos hi, Nat.div_eq_of_lt hi, Nat.mod_eq_of_lt hi]; simp
      · rw [if_neg hi, ih]
        have hk : 0 < k ∨ k = 0 := by omega
        rcases hk with hk | hk
        · have e1 : i / k = (i - k) / k + 1 := by rw [Nat.div_eq_sub_div hk (by omega)]
          have e2 : i % k = (i - k) % k := by rw [Nat.mod_eq_sub_mod (by omega)]
          rw [e1, e2]; simp
        · subst hk
          have hz : ∀ y : α, venc y = [] := fun y => List.eq_nil_of_length_eq_zero (hv y)
          simp [hz]
  rw [hfl]
  have hsz : (flatK venc k d).toList.length = d.size * k := by simp
  by_cases hi : i < d.size * k
  · have hk : 0 < k := by rcases Nat.eq_zero_or_pos k with h | h; · subst h; simp at hi
                          · exact h
    have hd : i / k < d.size := (Nat.div_lt_iff_lt_mul hk).2 hi
    have hm : i % k < k := Nat.mod_lt _ hk
    have hg := get_flatK venc k d i hi
    rw [Array.getElem?_toList, Array.getElem?_eq_getElem (by simpa using hi), Array.getElem?_toList, Array.getElem?_eq_getElem hd]
    rw [getElem!_pos _ i (by simpa using hi), getElem!_pos d _ hd] at hg
    rw [hg]
    simp only [Option.bind_some]
    rw [getElem!_pos _ _ (by rw [hv]; exact hm), List.getElem?_eq_getElem (by rw [hv]; exact hm)]
  · rw [List.getElem?_eq_none (by rw [hsz]; omega)]
    rcases Nat.eq_zero_or_pos k with h | h
    · subst h
      have hz : ∀ y : α, venc y = [] := fun y => List.eq_nil_of_length_eq_zero (hv y)
      cases d.toList[i / 0]? <;> simp [hz]
    · rw [List.getElem?_eq_none (by rw [Array.length_toList]; exact (Nat.le_div_iff_mul_le h).2 (by omega))]; rfl

section
variable {P : Program} {V : Env} {w0 w : World} {I0 I : Imm} {m : Nat → Value} {l : List AO} {α : Type} [Inhabited α]

/-- Draws, and blocks behind all others. -/
theorem WRel.grown (h : WRel w0 I0 w I m l) (q : Nat) (os : Array Obj) : WRel w0 I0 (grow (w.drewN q) os) I m l ∧ Le I m l I m l := by
  have hb : ∀ k, k < w.heap.size → (grow (w.drewN q) os).heap[k]? = w.heap[k]? := fun k hk => by simp [grow, Array.getElem?_append, hk]
  refine h.call ⟨rfl, rfl, rfl, by simp [grow], fun k hk => hb k hk, fun _ => by simp [grow, World.drewN]⟩ (ExtI.refl _ _) ⟨fun b o v hc => ?_, fun b es hc => ?_⟩
  · exact (World.cell?_of_block (w := w) (a := ⟨b, o, none⟩) (hb b (h.sat.lt hc))).trans (h.sat.cell b o v hc)
  · have hh := h.sat.mp b es hc
    exact MapAt.to (hb b (h.sat.ltm hc)) hh

/-- What the shelf says of a sorted row, in Eva's words. 'venc': the cells of an element. -/
theorem WRel.sorted (hrel : WRel w0 I0 w I m l) {id b c e size : Nat} {els : List D} {ys : List α} {venc : α → List Value} {denc : α → D} (ho : l[id]? = some (.row e size els)) (hm : m id = .slice (some ⟨b, 0, none⟩) els.length c)
    (hlen : ys.length = els.length) (hv : ∀ x, (venc x).length = size) (hd : ∀ x, (denc x).cells.length = size ∧ ∀ y ∈ (denc x).cells, y.one = true) (hvd : ∀ x (j : Nat) u y, (venc x)[j]? = some u → (denc x).cells[j]? = some y → Rd I u y) (q : Nat) (os : Array Obj) :
    Le I m l I m (l.set id (.row e size (ys.map denc))) ∧ WRel w0 I0 (sortWorldK venc size w b 0 q ys.toArray os) I m (l.set id (.row e size (ys.map denc))) := by
  obtain ⟨xs, k1, k2, k3, k4⟩ := hrel.obj id _ ho
  rw [hm] at k1
  obtain ⟨hxl, hcase⟩ := k1
  rcases hcase with ⟨hv0, _⟩ | ⟨g, cap, cur, hv0, hb, hg, hnc, hcap, hcs, htk⟩
  · cases hv0
  injection hv0 with hv1 hv2 hv3
  injection hv1 with hv1; injection hv1 with hv1; subst hv1; subst hv3
  have hF : (flatK venc size ys.toArray).size = els.length * size := by simp [hlen]
  have hFl : (flatK venc size ys.toArray).toList = ys.flatMap venc := by rw [flatK_list venc size hv]
  have hle : els.length * size ≤ cur.size := by rw [hcs]; exact Nat.mul_le_mul_right _ hnc
  have hcells := putCells_list (flatK venc size ys.toArray) cur (by rw [hF]; exact hle)
  have hww : sortWorldK venc size w b 0 q ys.toArray os = grow ((w.setRow b (putCells (fun v => v) 0 (flatK venc size ys.toArray) cur)).drewN q) os := by
    unfold sortWorldK putRowK putRow
    have hg' : (Sort.ahead w q).heap[b]? = some (.cells cur e (0, 0)) := hg
    rw [mapBlock_setRow _ b _ cur e (0, 0) hg']
    rfl
  generalize hnew : putCells (fun v => v) 0 (flatK venc size ys.toArray) cur = new at hcells hww
  have hns : new.size = cur.size := by rw [← hnew]; simp [putCells]
  have hfl : flat (ys.map denc) = ys.flatMap fun x => (denc x).cells := by simp [flat, List.flatMap_map]
  have f1 : (ys.flatMap venc).length = (ys.map denc).length * size := by rw [← hFl, Array.length_toList, hF, List.length_map, hlen]
  have f2 : new.toList.take ((ys.map denc).length * size) = ys.flatMap venc := by
    rw [hcells, List.length_map, hlen, ← hF, List.take_append_of_le_length (by rw [Array.length_toList]; exact Nat.le_refl _), List.take_of_length_le (by rw [Array.length_toList]; exact Nat.le_refl _), hFl]
  have f3 : ∀ d ∈ ys.map denc, d.cells.length = size ∧ ∀ x ∈ d.cells, x.one = true := by
    intro d hdm
    obtain ⟨x, _, rfl⟩ := List.mem_map.1 hdm
    exact hd x
  have f4 : ∀ (j : Nat) u y, (ys.flatMap venc)[j]? = some u → (flat (ys.map denc))[j]? = some y → Rd I u y := by
    intro j u y hu hy
    rw [hfl] at hy
    have key : ∀ (zs : List α) (j : Nat), (zs.flatMap venc)[j]? = some u → (zs.flatMap fun x => (denc x).cells)[j]? = some y → Rd I u y := by
      intro zs
      induction zs with
      | nil => intro j hu; simp at hu
      | cons z zs ih =>
        intro j hu hy
        rw [List.flatMap_cons, List.getElem?_append, hv] at hu
        rw [List.flatMap_cons, List.getElem?_append, (hd z).1] at hy
        by_cases hj : j < size
        · rw [if_pos hj] at hu hy; exact hvd z j u y hu hy
        · rw [if_neg hj] at hu hy; exact ih _ hu hy
    exact key ys j hu hy
  obtain ⟨h1, h2⟩ := hrel.turnRow (n := els.length) (c := c) (cur := cur) (new := new) (xs := ys.flatMap venc) (els' := ys.map denc) ho hm hg ⟨f1, .inr ⟨b, c, new, by simp [hlen], hb, setRow_heap w b cur new e (0, 0) hg, by simpa [hlen] using hnc, hcap, by rw [hns, hcs], f2⟩⟩ f3 f4
  obtain ⟨h3, _⟩ := h2.grown q os
  rw [hww]
  exact ⟨h1, h3⟩

theorem grow_of_bel (hon : Drw.on) {w w' : World} (h : Bel w.heap.size w w') : ∃ q os, w' = grow (w.drewN q) os := by
  refine ⟨w'.drawn - w.drawn, w'.heap.extract w.heap.size w'.heap.size, ?_⟩
  obtain ⟨heap, tape, drawn, os, output⟩ := w'
  obtain ⟨h1, h2, h3, h4, h5, h6⟩ := h
  have h6 := h6 hon
  simp only at h1 h2 h3 h4 h5 h6
  subst h1; subst h2; subst h3
  unfold grow World.drewN
  simp only
  congr 1
  · apply Array.ext_getElem?
    intro k
    rw [Array.getElem?_append]
    split
    · rename_i hk; exact h5 k hk
    · rename_i hk
      simp only [Array.getElem?_extract]
      by_cases hk2 : k < heap.size
      · have : w.heap.size + (k - w.heap.size) = k := by omega
        rw [this]; simp; omega
      · rw [Array.getElem?_eq_none (by omega)]; simp; omega
  · omega

def Imm.none : Imm := ⟨fun _ _ => Option.none, fun _ => Option.none⟩
theorem SatI.none (w : World) : SatI w Imm.none := ⟨fun _ _ _ h => (by cases h), fun _ _ h => (by cases h)⟩

/-- A comparing function's contract, as the shelf's sort wants it. -/
theorem cmpLays_of (hon : Drw.on) {P : Program} {g k : Nat} {venc : α → List Value} {denc : α → D} {cf : α → α → Int} (hcon : ∀ x y, PureCon P g [denc x, denc y] (.int .i64 (cf x y))) (hag : ∀ x, Rd Imm.none (.agg (venc x).toArray) (denc x)) (blk off size : Nat) (w : World) :
    CmpLays P g #[] venc k cf blk off size w := by
  intro mm os dk hs x y
  refine (hcon x y _ Imm.none #[.agg (venc x).toArray, .agg (venc y).toArray] (SatI.none _) rfl ?_).mono ?_
  · intro i v d hv hd
    rcases i with _ | _ | i
    · simp at hv hd; subst hv; subst hd; exact hag x
    · simp at hv hd; subst hv; subst hd; exact hag y
    · simp at hv
  · rintro e w' ⟨v, J, he, hb, _, _, hr⟩
    cases hr
    exact ⟨he, grow_of_bel hon hb⟩

theorem sort_fcon {P : Program} {g cmp : Nat} {e size : Nat} {venc : α → List Value} {denc : α → D} {S : Array α → Array α} (hS : ∀ d, (S d).size = d.size)
    (hcon : ∀ (b c : Nat) (d : Array α) (w : World), HoldsK venc size w b 0 d → b < w.heap.size → d.size < 4611686018427387904 → Calls P g #[.slice (some ⟨b, 0, none⟩) d.size c, .func (.func cmp) #[] #[]] w fun e w' => e = .returned (.tuple #[]) ∧ ∃ n os, w' = sortWorldK venc size w b 0 n (S d) os)
    (hnil : ∀ (p : Option Addr) (c : Nat) (fv : Value) (w : World), Calls P g #[.slice p 0 c, fv] w fun e w' => e = .returned (.tuple #[]) ∧ w' = w)
    (hv : ∀ x, (venc x).length = size) (hd : ∀ x, (denc x).cells.length = size ∧ ∀ y ∈ (denc x).cells, y.one = true) (hvd : ∀ (I : Imm) x (j : Nat) u y, (venc x)[j]? = some u → (denc x).cells[j]? = some y → Rd I u y) (hdv : ∀ (I : Imm) x (j : Nat) u y, (denc x).cells[j]? = some y → Rd I u y → (venc x)[j]? = some u)
    {l : List AO} {id : Nat} {xs : List α} (ho : l[id]? = some (.row e size (xs.map denc))) (hx : xs.length < 4611686018427387904) :
    FCon P g [.row id, .d (.fn cmp)] l (.d (.tup [])) (l.set id (.row e size ((S xs.toArray).toList.map denc))) := by
  intro w0 I0 w I m args hrel hsz hargs
  obtain ⟨v0, v1, rfl⟩ : ∃ v0 v1, args = #[v0, v1] := by
    match args, hsz with
    | ⟨[a, b]⟩, _ => exact ⟨a, b, rfl⟩
  have h0 := hargs 0 v0 (.row id) rfl rfl
  have h1 := rdD (hargs 1 v1 (.d (.fn cmp)) rfl rfl)
  cases h1
  obtain ⟨ys, k1, k2, k3, k4⟩ := hrel.obj id _ ho
  obtain ⟨A, n, c, hv0, hm⟩ : ∃ A n c, v0 = .slice A n c ∧ m id = v0 := by
    cases h0 with
    | row A n c _ p1 p2 => exact ⟨A, n, c, rfl, p2 (by simp [isRow, ho, AO.isRow])⟩
  rw [hm, hv0] at k1
  obtain ⟨hxl, hcase⟩ := k1
  have hidl : id < l.length := (List.getElem?_eq_some_iff.1 ho).1
  rcases hcase with ⟨hs, hn0⟩ | ⟨b, cap, cur, hs, hb, hg, hnc, hcap, hcs, htk⟩
  · injection hs with q1 q2 q3; subst q1; subst q2; subst q3
    have hxs : xs = [] := by simpa using hn0
    subst hxs
    subst hv0
    refine (hnil none 0 _ w).mono ?_
    rintro e' w' ⟨he, hw⟩
    subst hw
    have hS0 : (S ([] : List α).toArray).toList = [] := by have := hS ([] : List α).toArray; exact List.eq_nil_of_length_eq_zero (by rw [Array.length_toList, this]; rfl)
    have hset : l.set id (.row e size ((S ([] : List α).toArray).toList.map denc)) = l := by
      rw [hS0]
      apply List.ext_getElem?
      intro k
      rw [List.getElem?_set]
      by_cases hk : id = k
      · subst hk; rw [if_pos rfl, if_pos hidl, ho]
      · rw [if_neg hk]
    rw [hset]
    exact ⟨_, he, I, m, .refl .., hrel, .d _ _ (.tup #[] [] rfl (fun i v d h => by simp at h))⟩
  · injection hs with q1 q2 q3; subst q1; subst q2; subst q3
    subst hv0
    have hlen : (xs.map denc).length = xs.toArray.size := by simp
    have hcell : ∀ j, j < xs.toArray.size * size → ∃ u, cur[j]? = some u ∧ ys[j]? = some u ∧ (flatK venc size xs.toArray)[j]! = u := by
      intro j hj
      have hj' : j < ys.length := by rw [hxl, hlen]; exact hj
      obtain ⟨z, hu⟩ : ∃ z, ys[j]? = some z := ⟨_, List.getElem?_eq_getElem hj'⟩
      have hcu : cur[j]? = some z := by
        have hu := hu
        rw [← htk, List.getElem?_take] at hu
        split at hu
        · simpa using hu
        · cases hu
      refine ⟨_, hcu, hu, ?_⟩
      have hk : 0 < size := by rcases Nat.eq_zero_or_pos size with h | h; · subst h; simp at hj
                               · exact h
      have hdv' : j / size < xs.toArray.size := (Nat.div_lt_iff_lt_mul hk).2 hj
      have hmd : j % size < size := Nat.mod_lt _ hk
      rw [get_flatK venc size xs.toArray j hj]
      have hfg := flat_get (xs.map denc) (fun d hdm => (k2 d hdm).1) (j / size) (j % size) (denc xs[j / size]) (by rw [List.getElem?_map, List.getElem?_eq_getElem (by simpa using hdv')]; rfl) hmd
      rw [Nat.mul_comm, Nat.div_add_mod] at hfg
      obtain ⟨y, hy⟩ : ∃ y, (denc xs[j / size]).cells[j % size]? = some y := ⟨_, List.getElem?_eq_getElem (by rw [(hd (xs[j / size]'(by simpa using hdv'))).1]; exact hmd)⟩
      rw [hy] at hfg
      have hrd := k3 j _ y hu hfg
      have := hdv I _ _ _ _ hy hrd
      rw [getElem!_pos xs.toArray _ hdv', getElem!_pos _ _ (by rw [hv]; exact hmd)]
      rw [List.getElem?_eq_getElem (by rw [hv]; exact hmd)] at this
      simpa using this
    have hH : HoldsK venc size w b 0 xs.toArray := by
      intro j hj
      rw [size_flatK] at hj
      obtain ⟨u, h1, _, h3⟩ := hcell j hj
      rw [h3]
      refine ⟨?_, ?_⟩
      · simp [World.cell?, hg, h1]
      · simp [World.frozen?, hg]
    have hlt : b < w.heap.size := (Array.getElem?_eq_some_iff.1 hg).1
    rw [hlen]
    refine (hcon b c xs.toArray w hH hlt (by simpa using hx)).mono ?_
    rintro e' w' ⟨he, q, os, hw⟩
    obtain ⟨g1, g2⟩ := hrel.sorted (ys := (S xs.toArray).toList) (venc := venc) (denc := denc) ho (by rw [hm]) (by rw [Array.length_toList, hS, hlen]) hv hd (fun x j u y => hvd I x j u y) q os
    refine ⟨_, he, I, m, g1, ?_, .d _ _ (.tup #[] [] rfl (fun i v d h => by simp at h))⟩
    rw [hw]; simpa using g2
end
end Go.Eva

/-
  Eva, part Y: contracts over slots and objects from bodies; a slice against nil; slices.Clone.
-/
namespace Go.Eva
set_option linter.unusedSectionVars false
open Go Go.RowKit Enc
variable [Drw]

section
variable {P : Program} {V : Env} {w0 : World} {I0 : Imm} {n : Nat} {Q : Exit → St → Prop} {s : St}

/-- 'x == nil', of a slice that is known as data: some bool; where it is true the slice is empty. -/
theorem AWp.nilCheck (hV : VOk P V) {id i j k t e size sz bt : Nat} {z els : List D} {o1 o2 : Oper} (h1 : o1.op = .move (.tmp i)) (hd1 : o1.dst = some j) (hg1 : o1.guard = none) (h2 : o2.op = .binOp .eql t (.tmp j) (.const (.slice none 0 0)) t) (hd2 : o2.dst = some k) (hg2 : o2.guard = none)
    (hjn : j < n) (hkn : k < n) (hE : V.E t = some ⟨sz, bt, z, .slice e⟩) (hs : get s.t i = .d (.slice size els))
    (hQ : ∀ b, (b = true → els = []) → Q .normal ⟨(k, .d (.bool b)) :: (j, .d (.slice size els)) :: s.t, s.l⟩) : AWp P w0 I0 n (.region id #[o1, o2] false) s Q := fun a w hr => by
  refine wp_region_lit (l := [o1, o2]) ?_
  unfold wpList
  have he : evalSeq V n [o1, o2] none [o1] s (fun q => q = ⟨(j, .d (.slice size els)) :: s.t, s.l⟩) := by
    simp [evalSeq, hg1, guardPc, opRes, evalOp, h1, evT, hs, typed, R.ok, holds, dstOk, hd1, hjn, after, putT]
  refine evalSeq_step hV hr he fun s1 a1 w1 hq hr1 => ?_
  simp only [evalSeq] at hq
  subst hq
  unfold wpList
  have hw : Region.wanted o2 (yielded [o1, o2].toArray a1.tmps) = true := by simp [Region.wanted, hg2]
  rw [if_pos hw]
  refine .inl (StepOk.wp ?_)
  obtain ⟨q1, q2, I, m, q3, q4⟩ := hr1
  have hv := rdD (by have := q4 j; simpa [get] using this)
  obtain ⟨A, c, hA⟩ := slice_form hv
  have hu := underlying_slice hV.E hE
  have hrun : (execOp a1.eval o2).run P w1 = .ok (.value (.bool A.isNone)) w1 := by
    have hev : a1.eval (.tmp j) = .slice A els.length c := by simpa [Act.eval, Array.getD_eq_getD_getElem?] using hA
    have hev2 : a1.eval (.const (.slice none 0 0)) = .slice none 0 0 := rfl
    have h3 := Lib.run_eql_slice_nil (P := P) w1 t e A els.length c 0 0 hu
    unfold execOp
    simp only [h2, hev, hev2, Sem.run_bind, eqGuard]
    simp [h3]
  rw [hrun]
  simp only [StepOk]
  unfold wpList
  refine ⟨_, hQ A.isNone ?_, ?_⟩
  · intro hb
    rw [hA] at hv
    cases A with
    | none =>
      generalize hl : els.length = q at hv
      cases hv
      rfl
    | some a => cases hb
  · exact ⟨by simp [hd2, Act.put, q1], by simp [hd2, Act.put, q2], I, m, q3, putT_ok (dst := some k) q1 (by simp [dstOk, hkn]) q4 (.d _ _ (.bool _)) |> fun h => by rw [hd2]; exact h⟩
end

/-! Results that are the caller's own. -/
def T.shift (k : Nat) : T → T
  | .row id => .row (id + k)
  | .map id => .map (id + k)
  | .d x => .d x
  | .nils s => .nils s
  | _ => .undef
/-- Rows and maps alone. -/
def rowsOnly (lc : List AO) : Prop := ∀ o ∈ lc, o.isRow = true ∨ o = .dead

section
variable {P : Program} {w0 w w' : World} {I0 I J : Imm} {m mc : Nat → Value} {l lc : List AO}

theorem rowBase {w : World} {base base' : Nat} {e : TypeId} {size : Nat} {v : Value} {n : Nat} {xs : List Value} (h : w.ownsRow base e size v n xs) (hb : base' ≤ base) : w.ownsRow base' e size v n xs := by
  refine ⟨h.1, ?_⟩
  rcases h.2 with hn | ⟨g, cap, cur, hv, hbg, rest⟩
  · exact .inl hn
  · exact .inr ⟨g, cap, cur, hv, Nat.le_trans hb hbg, rest⟩
def joinM (k : Nat) (m mc : Nat → Value) : Nat → Value := fun i => if i < k then m i else mc (i - k)

theorem WRel.join (h : WRel w0 I0 w I m l) (hc : WRel w I w' J mc lc) (hr : rowsOnly lc) : Le I m l J (joinM l.length m mc) (l ++ lc) ∧ WRel w0 I0 w' J (joinM l.length m mc) (l ++ lc) := by
  obtain ⟨h1, hle1⟩ := h.call hc.below hc.ext hc.sat
  have hlt : ∀ id, id < l.length → joinM l.length m mc id = m id := fun id hid => by simp [joinM, hid]
  have hge : ∀ k, joinM l.length m mc (l.length + k) = mc k := fun k => by simp only [joinM]; rw [if_neg (by omega)]; congr 1; omega
  have hV : ∀ id, id < l.length → isVar (l ++ lc) id = isVar l id := fun id hid => by unfold isVar; rw [List.getElem?_append_left hid]
  have hR : ∀ id, id < l.length → isRow (l ++ lc) id = isRow l id := fun id hid => by unfold isRow; rw [List.getElem?_append_left hid]
  have hle2 : Le J m l J (joinM l.length m mc) (l ++ lc) := by
    refine ⟨.refl J, by simp, fun id hid hv => ⟨(hV id hid).trans hv, hlt id hid⟩, fun id hid hv => ⟨(hR id hid).symm.trans hv, hlt id hid⟩, fun id e' s' els hid hl => ⟨els, ?_⟩⟩
    rwa [List.getElem?_append_left hid] at hl
  have hal : ∀ i, alive (l ++ lc) i = true → (i < l.length ∧ alive l i = true) ∨ ∃ k, i = l.length + k ∧ alive lc k = true := by
    intro i hi
    obtain ⟨o, ho, hd⟩ := alive_iff.1 hi
    rcases Nat.lt_or_ge i l.length with h | h
    · rw [List.getElem?_append_left h] at ho
      exact .inl ⟨h, alive_iff.2 ⟨o, ho, hd⟩⟩
    · rw [List.getElem?_append_right h] at ho
      exact .inr ⟨i - l.length, by omega, alive_iff.2 ⟨o, ho, hd⟩⟩
  have low : ∀ i b, i < l.length → alive l i = true → own (m i) = some b → b < w.heap.size := by
    intro i b hi ha hb
    obtain ⟨o, ho, hd⟩ := alive_iff.1 ha
    exact ((h.obj i o ho).lt hd hb).1
  have high : ∀ k b, alive lc k = true → own (mc k) = some b → w.heap.size ≤ b := by
    intro k b ha hb
    obtain ⟨o, ho, hd⟩ := alive_iff.1 ha
    exact ((hc.obj k o ho).lt hd hb).2
  refine ⟨hle1.trans hle2, ⟨h1.below, h1.sat, h1.ext, fun id o ho => ?_, fun i j b hij hi hj hbi hbj => ?_⟩⟩
  · rcases Nat.lt_or_ge id l.length with hid | hid
    · rw [List.getElem?_append_left hid] at ho
      rw [hlt id hid]
      by_cases hd : o = .dead
      · subst hd; trivial
      · exact (h1.obj id o ho).keep hle2 (fun _ _ => rfl) (fun _ _ => ⟨rfl, rfl⟩)
    · rw [List.getElem?_append_right hid] at ho
      have hk := hc.obj _ o ho
      have : joinM l.length m mc id = mc (id - l.length) := by simp [joinM, Nat.not_lt.2 hid]
      rw [this]
      have hb0 : w0.heap.size ≤ w.heap.size := h.below.size
      rcases hr o (List.mem_of_getElem? ho) with hro | rfl
      · cases o with
        | dead => trivial
        | var ty cs => cases hro
        | row e size els =>
          obtain ⟨xs, q1, q2⟩ := hk
          exact ⟨xs, rowBase q1 hb0, q2⟩
        | frow e size els =>
          obtain ⟨xs, q1, q2⟩ := hk
          exact ⟨xs, rowBase q1 hb0, q2⟩
        | map ks vs =>
          obtain ⟨b, es, q1, q2, q3⟩ := hk
          exact ⟨b, es, q1, Nat.le_trans hb0 q2, q3⟩
        | fmap ks vs =>
          obtain ⟨b, es, q1, q2, q3⟩ := hk
          exact ⟨b, es, q1, Nat.le_trans hb0 q2, q3⟩
        | iter ks vs done => cases hro
      · trivial
  · rcases hal i hi with ⟨i1, i2⟩ | ⟨k, rfl, k2⟩
    · rw [hlt i i1] at hbi
      rcases hal j hj with ⟨j1, j2⟩ | ⟨q, rfl, q2⟩
      · rw [hlt j j1] at hbj; exact h.sep i j b hij i2 j2 hbi hbj
      · rw [hge q] at hbj
        have := low i b i1 i2 hbi
        have := high q b q2 hbj
        omega
    · rw [hge k] at hbi
      rcases hal j hj with ⟨j1, j2⟩ | ⟨q, rfl, q2⟩
      · rw [hlt j j1] at hbj
        have := low j b j1 j2 hbj
        have := high k b k2 hbi
        omega
      · rw [hge q] at hbj
        exact hc.sep k q b (fun e => hij (by rw [e])) k2 q2 hbi hbj

theorem RdT.shift {I : Imm} {v : Value} {t : T} (h : RdT I mc lc v t) : RdT I (joinM l.length m mc) (l ++ lc) v (t.shift l.length) := by
  have hge : ∀ k, joinM l.length m mc (k + l.length) = mc k := fun k => by simp only [joinM]; rw [if_neg (by omega)]; congr 1; omega
  have hR : ∀ k, isRow (l ++ lc) (k + l.length) = isRow lc k := fun k => by unfold isRow; rw [List.getElem?_append_right (by omega), Nat.add_sub_cancel]
  cases h with
  | d v x hx => exact .d _ _ hx
  | nils s => exact .nils _
  | row A n c id h1 h2 => exact .row A n c _ (by simp; omega) fun hl => by rw [hge]; rw [hR] at hl; exact h2 hl
  | map r id h1 h2 => exact .map r _ (by simp; omega) fun hl => by rw [hge]; rw [hR] at hl; exact h2 hl
  | _ => exact .undef _

/-- The result is the caller's own: 't' over the new objects 'lc'. -/
def OwnCon (P : Program) (f : FuncId) (ds : List D) (t : T) (lc : List AO) : Prop :=
  ∀ (w : World) (I : Imm) (vs : Array Value), SatI w I → vs.size = ds.length → (∀ (i : Nat) v d, vs[i]? = some v → ds[i]? = some d → Rd I v d) →
    Calls P f vs w fun e w' => ∃ v J mc, e = .returned v ∧ WRel w I w' J mc lc ∧ RdT J mc lc v t

theorem FCon.ofOwn {f : FuncId} {ts : List T} {l l1 : List AO} {ds : List D} {t : T} {lc : List AO} (hd : argsD l ts = some (ds, l1)) (h : OwnCon P f ds t lc) (hr : rowsOnly lc) : FCon P f ts l (t.shift l1.length) (l1 ++ lc) := by
  intro w0 I0 w I m args hrel hsz hargs
  obtain ⟨J1, le1, r1, hl1, hrd, _⟩ := argsD_ok ts l I args.toList ds l1 hrel (by simpa using hsz) (fun i v x hv hx => hargs i v x (by simpa using hv) hx) hd
  refine (h w J1 args r1.sat (by simpa using hl1) (fun i v d hv hd' => hrd i v d (by simpa using hv) hd')).mono ?_
  rintro e w' ⟨v, J, mc, he, hw, hv⟩
  obtain ⟨h1, h2⟩ := r1.join hw hr
  exact ⟨v, he, J, _, le1.trans h1, h2, hv.shift⟩

theorem OwnCon.of {f : FuncId} {fn : Func} {c : Code} {ds : List D} {t : T} {lc : List AO} {k : Nat} (hf : P.funcs[f]? = some fn) (hb : fn.body = some c) (hn : ds.length ≤ fn.ntmps) (hres : fn.results = #[.tmp k])
    (h : ∀ w0 I0 (Q : Exit → St → Prop), (∀ e s, (e = .ret ∨ e = .normal) → Sub s ⟨[(k, t)], lc⟩ → Q e s) → AWp P w0 I0 fn.ntmps c ⟨startT 0 ds, []⟩ Q) : OwnCon P f ds t lc := by
  intro w I vs hsat hlen hrd
  refine calls_of_wp hf hb ?_
  have hrel : Rel w I fn.ntmps ⟨startT 0 ds, []⟩ { tmps := vs ++ Array.replicate (fn.ntmps - vs.size) undef, defers := [] } w := by
    refine ⟨by simp; omega, rfl, I, fun _ => undef, ⟨Bel.refl _ _, hsat, ExtI.refl _ _, by simp, by simp [alive, isVar, isRow]⟩, fun k => ?_⟩
    rw [startT_get]
    simp only [Nat.zero_le, if_true, Nat.sub_zero]
    cases hd : ds[k]? with
    | none => exact .undef _
    | some d =>
      have hk : k < vs.size := by rw [hlen]; exact (List.getElem?_eq_some_iff.1 hd).1
      have hv : vs[k]? = some vs[k] := Array.getElem?_eq_getElem hk
      have : (vs ++ Array.replicate (fn.ntmps - vs.size) undef).getD k undef = vs[k] := by
        rw [Array.getD_eq_getD_getElem?, Array.getElem?_append_left hk, hv]; rfl
      rw [this]
      exact .d _ _ (hrd k _ d hv hd)
  refine Code.wp_mono (fun e a w' ⟨s, ⟨he, hs⟩, hr⟩ => ?_) (h w I (fun e s => (e = .ret ∨ e = .normal) ∧ Sub s ⟨[(k, t)], lc⟩) (fun _ _ h1 h2 => ⟨h1, h2⟩) _ _ hrel)
  obtain ⟨_, hdf, J, m, hw, ht⟩ := hs _ _ _ _ _ hr
  have hrun : (results fn a.tmps).run P w' = .ok (a.tmps.getD k undef) w' := by
    rw [results_eq, hres]
    simp [resSem]
  have hv := ht k
  simp only [get, if_true] at hv
  rcases he with rfl | rfl
  · exact ⟨hdf, _, hrun, _, J, m, rfl, hw, hv⟩
  · exact ⟨hdf, _, hrun, _, J, m, rfl, hw, hv⟩
end
end Go.Eva

/-
  slices.Clone and slices.SortFunc of events, as callees that make and turn rows.
-/
namespace Go.Proofs.Ytpbhcpeilgmkeaa
open Go Go.Eva Enc
@[reducible] def drwOn : Drw := ⟨True⟩
theorem con31 (x y : Event) : @PureCon drwOn Try.prog 31 [enc x, enc y] (.int .i64 (order x y)) :=
  @SpecOk.con drwOn _ _ _ (@ok31 drwOn) [enc x, enc y] _ _ rfl ⟨rfl, rfl, trivial⟩
theorem vencE_rd0 : True := trivial
variable [Drw]
set_option linter.unusedSectionVars false
set_option linter.unusedSimpArgs false
set_option linter.unusedVariables false
set_option maxRecDepth 4000
attribute [local congr] AWp.congrS
attribute [local simp] evalSeq opRes guardPc evalOp evT Eva.get startT strip putT Eva.after constT typed obAll holds dstOk R.ok R.bad ofD binD unD pickT subL subP Op.operands Call.operands toD argsD callD callT typedAll cfind quietT spec0 spec1 spec2 spec3 enc_int enc_bool enc_str enc_fn enc_list dec_int dec_bool dec_str dec_fn dec_list size_int size_str enc_R enc_M enc_E dec_R dec_M dec_E size_R size_M size_E eta_R eta_M eta_E enc_rune size_rune dec_rune eta_rune runesD_eq map_dec_enc map_dec_comp cellsT D.cells T.oneT D.one mkT unD1 setAt loadAs loadEl storeAs fieldP fieldV sizeE intOfT indexP appendT lenT sliceT elemSize arith lfsOk lfOk beqL_R beqL_M beqL_E beqL_R0 beqL_M0 isAggD mkD fillD placeS TD.agg env restr List.map keyIdx keysInt mapTy lookT mapPutT mapDelT mapOf indexS convT evalPure range1 range2 range3 range4 eqT4 eqT38 eqT40 eqT42 te1 te2 te3 te4 te5 te6 te7 te8 te9 te10 te11 te12 te13 te14 te15 te16 te17 te18 te19 te21 te22 te23 te24 te25 te27 te28 te29 te31 te32 te34 te35 te36 te37 te38 te39 te40 te41 te42 te43 te44 te45 te46 te47 te49 te50 te51 te52 te53 te54 te55 te56 te57 te59 te60 te61 te62 te63 te64 te65 te66 te67 te68 te69 te70 te71 te72 te73 te74 te75 te76 te77 te78 te79 te80 te82 te83 te84 te85 te86 te87 te88 te90 te91 te92 te94 te95 te96 te97 te98 te99 te100 te101 te102 te103 te104 te105 te106 te107 te108 te109 te110 te111 te112 te113 te114 te116 te117 te118 te119 te120 te121 te122 te123 te124 te125 te126 te127 te128 te129 te130 te131 te132 te133 te134 specO0 specO1 specO2 specO3 specO4 opD skips gone List.contains_cons List.contains_nil
theorem own29 (els : List D) (hlen : els.length * 120 ≤ 140737488355328) : OwnCon Try.prog 29 [.slice 14 els] (.row 0) [.row 42 14 els] := by
  have hV : VOk Try.prog (env []) := env_ok trivial
  refine OwnCon.of Try.func29 rfl (by rw [Try.ntmps29]; simp) rfl fun w0 I0 Q hQ => ?_
  rw [Try.ntmps29]
  refine AWp.rS hV none [0] fun K k1 => ?_
  simp
  refine k1 _ ?_
  refine AWp.seqG fun _ k2 => ?_
  refine AWp.seqG fun _ k3 => AWp.nilCheck (t := 22) (k := 4) hV rfl rfl rfl rfl rfl rfl (by decide) (by decide) te22 rfl fun b hb => k3 _ ?_
  refine AWp.cond (b := b) rfl (fun h => ?_) fun h => ?_
  · have he := hb h
    subst he
    refine AWp.rS hV none [2] fun K k4 => ?_
    simp
    refine k4 _ ?_
    refine AWp.ret ?_
    refine hQ _ _ (.inl rfl) ?_
    exact Sub.trans (Sub.adopt 2 42 14 rfl) (Sub.ren [0] (by decide) rfl ⟨rfl, trivial⟩)
  · refine AWp.skip (k2 _ ?_)
    refine AWp.rS hV none [2] fun K k4 => ?_
    simp
    repeat refine And.intro (by omega) ?_
    refine k4 _ ?_
    refine AWp.ret ?_
    refine hQ _ _ (.inl rfl) ?_
    exact Sub.ren [1] (by decide) (by simp [renL, AO.ren]) ⟨rfl, trivial⟩

theorem ltOf_order (a b : Event) : Go.Proofs.ltOf order a b = before a b := by
  unfold Go.Proofs.ltOf order before compare
  grind
theorem swo_order : Go.Sort.SWO (Go.Proofs.ltOf order) where
  irrefl x := by rw [ltOf_order]; simp [before]
  trans x y z h1 h2 := by rw [ltOf_order] at *; simp only [before, Bool.or_eq_true, Bool.and_eq_true, decide_eq_true_eq] at *; omega
  ntrans x y z h1 h2 := by
    rw [ltOf_order] at *
    rw [Bool.eq_false_iff] at *
    simp only [before, ne_eq, Bool.or_eq_true, Bool.and_eq_true, decide_eq_true_eq] at *
    omega
theorem sortA_perm (d : Array Event) : Go.Sort.PermIn 0 d.size d (sortA d) ∧ Go.Sort.SortedIn (Go.Proofs.ltOf order) 0 d.size (sortA d) :=
  Go.Sort.pdq_sorts (Go.Proofs.ltOf order) swo_order d 0 d.size (Go.Lib.bitLen d.size) true true (Nat.zero_le _) (Nat.le_refl _) (Or.inl rfl)
def vencE (e : Event) : List Value := [.int .i64 e.clock, .int .i64 e.stand, .int .i64 e.kind, .int .i64 e.n, .int .i64 e.mark.id, .int .i64 e.mark.kind, .int .i64 e.mark.layer, .int .i64 e.mark.own.part, .int .i64 e.mark.own.desk, .int .i64 e.mark.own.seat, .int .i64 e.mark.version, .int .i64 e.mark.note, .int .i64 e.mark.value, .string e.mark.text]
theorem vencE_rd (I : Imm) (x : Event) (j : Nat) (u : Value) (y : D) (hu : (vencE x)[j]? = some u) (hy : (enc x).cells[j]? = some y) : Rd I u y := by
  rw [enc_E] at hy
  simp only [D.cells] at hy
  unfold vencE at hu
  rcases j with _|_|_|_|_|_|_|_|_|_|_|_|_|_|j
  all_goals (simp at hu hy; try (subst hu; subst hy; constructor))
theorem vencE_dr (I : Imm) (x : Event) (j : Nat) (u : Value) (y : D) (hy : (enc x).cells[j]? = some y) (hr : Rd I u y) : (vencE x)[j]? = some u := by
  rw [enc_E] at hy
  simp only [D.cells] at hy
  unfold vencE
  rcases j with _|_|_|_|_|_|_|_|_|_|_|_|_|_|j
  all_goals (simp at hy; try (subst hy; cases hr; rfl))
theorem fcon30 {l : List AO} {id : Nat} {xs : List Event} (ho : l[id]? = some (.row 42 14 (xs.map enc))) (hx : xs.length < 4611686018427387904) :
    FCon Try.prog 30 [.row id, .d (.fn 31)] l (.d (.tup [])) (l.set id (.row 42 14 ((sortE xs).map enc))) := by
  have hag : ∀ x : Event, Rd Imm.none (.agg (vencE x).toArray) (enc x) := fun x => by
    rw [enc_E]
    refine .agg _ _ rfl (by simp [D.one]) fun i v d hv hd => vencE_rd _ x i v d (by simpa using hv) (by rw [enc_E]; simpa [D.cells] using hd)
  have hcmp : ∀ blk off size w, Go.Proofs.CmpLays Try.prog 31 #[] vencE 14 order blk off size w := fun blk off size w =>
    @cmpLays_of drwOn _ _ trivial _ _ _ _ (fun e : Event => (enc e : D)) _ con31 hag blk off size w
  refine sort_fcon (S := sortA) (venc := vencE) (fun d => (sortA_perm d).1.1) (fun b c d w hH hb hd => ?_) (fun p c fv w => ?_) (fun x => rfl) (fun x => ⟨by rw [enc_E]; rfl, by rw [enc_E]; simp [D.cells, D.one]⟩) vencE_rd vencE_dr ho hx
  · exact AnyQ.slices_SortFunc_eq Try.sortEv 14 Try.isAgg42 Try.sizeOf42 vencE (fun _ => rfl) (fun x v hv => by simp [vencE] at hv; rcases hv with rfl | rfl | rfl | rfl | rfl | rfl | rfl | rfl | rfl | rfl | rfl | rfl | rfl | rfl <;> rfl) order swo_order 31 #[] b 0 c d w (Enters.of Try.func31 (by decide)) (hcmp b 0 d.size w) hH hb hd
  · exact AnyF.slices_SortFunc_none { Try.sortEv with } p c fv w

/-- Callees that make and turn rows. -/
def fenv : FEnv := fun g ts l =>
  if g = 29 then (match argsD l ts with | some ([.slice 14 els], l1) => some ⟨.row l1.length, l1 ++ [.row 42 14 els], els.length * 120 ≤ 140737488355328⟩ | _ => none)
  else if g = 30 then (match ts with
    | [.row id, .d (.fn 31)] => (match l[id]? with
      | some (.row 42 14 els) => some ⟨.d (.tup []), l.set id (.row 42 14 ((sortE (els.map dec)).map enc)), (els.map (dec : D → Event)).map enc = els ∧ els.length ≤ 1000000000000⟩
      | _ => none)
    | _ => none)
  else none
theorem fenv_ok : FOk Try.prog fenv := by
  intro g ts l r hr hob
  unfold fenv at hr
  split at hr
  · rename_i hg
    subst hg
    split at hr
    · rename_i els l1 hd
      cases hr
      refine ⟨Enters.of Try.func29 (by decide), ?_⟩
      have := FCon.ofOwn hd (own29 els hob) (fun o ho => by simp at ho; subst ho; exact .inl rfl)
      simpa [T.shift] using this
    · cases hr
  · split at hr
    · rename_i hg
      subst hg
      split at hr
      · rename_i id
        split at hr
        · rename_i els ho
          cases hr
          obtain ⟨h1, h2⟩ := hob
          refine ⟨Enters.of Try.func30 (by decide), ?_⟩
          exact fcon30 (xs := els.map dec) (by rw [h1]; exact ho) (by simp; omega)
        · cases hr
      · cases hr
    · cases hr
def envF (l : List (FuncId × Eva.Spec)) : Env := { E := tenv, C := cfind l, okEq := lfFind eqTab, F := fenv }
theorem envF_ok {l : List (FuncId × Eva.Spec)} (h : Specs Try.prog l) : VOk Try.prog (envF l) := ⟨tenv_ok, h.ok, eqTab_ok, fenv_ok⟩
end Go.Proofs.Ytpbhcpeilgmkeaa

/-
  Programs of the events: printed by gen2.py (extraction).
-/
namespace Go.Proofs.Ytpbhcpeilgmkeaa
open Go Go.Eva Enc
set_option linter.unusedVariables false
noncomputable def rMarks_r30 (z2u5 : (List Mark)) (x215 : Event) (z26u8 : Int) : Option Bool :=
  (ifb (decide (0 < z26u8)) (grd (inI (z26u8 - 1)) (bnd (at? z2u5 (z26u8 - 1)) fun x260 =>
  some (decide ((about x215) ≤ x260.id)))) (some false))
noncomputable def rMarks_s29 (z2u5 : (List Mark)) (x215 : Event) : Int → Option ((Int) ⊕ ((Int))) := fun (z26u8 : Int) =>
  bnd (rMarks_r30 z2u5 x215 z26u8) fun y262u41 =>
  ifb y262u41 (grd (inI (z26u8 - 1)) (some (.inl (z26u8 - 1))))
  (some (.inr z26u8))
noncomputable def rMarks_r32 (z2u5 : (List Mark)) (x215 : Event) (y222u8 : Int) : Option Bool :=
  (ifb (decide (0 < ((z2u5.drop y222u8.toNat).length : Int))) (bnd (at? (z2u5.drop y222u8.toNat) 0) fun x277 =>
  some (decide (x277.id = (about x215)))) (some false))
noncomputable def rMarks_j24 (z2u6 : Int) (y213u5 : (List Mark)) : Option (((List Mark) × Int) ⊕ (((List Mark)))) :=
  grd (inI (z2u6 + 1)) (some (.inl (y213u5, (z2u6 + 1))))
noncomputable def rMarks_j33 (z2u6 : Int) (y275u9 : (List Mark)) (y292u10 : (List Mark)) : Option (((List Mark) × Int) ⊕ (((List Mark)))) :=
  grd (((y292u10 ++ y275u9) : List Mark).length * 88 ≤ 140737488355328) (rMarks_j24 z2u6 (y292u10 ++ y275u9))
noncomputable def rMarks_j31 (l : (List Event)) (z2u5 : (List Mark)) (z2u6 : Int) (y222u8 : Int) (y275u9 : (List Mark)) : Option (((List Mark) × Int) ⊕ (((List Mark)))) :=
  grd (0 ≤ y222u8 ∧ y222u8 ≤ (z2u5.length : Int)) (grd (((z2u5.take y222u8.toNat) : List Mark).length * 88 ≤ 140737488355328) (bnd (at? l z2u6) fun x294 =>
  ifb (decide (x294.kind = 1)) (bnd (at? l z2u6) fun x298 =>
  grd ((((z2u5.take y222u8.toNat) ++ [x298.mark]) : List Mark).length * 88 ≤ 140737488355328) (rMarks_j33 z2u6 y275u9 ((z2u5.take y222u8.toNat) ++ [x298.mark])))
  (rMarks_j33 z2u6 y275u9 (z2u5.take y222u8.toNat))))
noncomputable def rMarks_j25 (l : (List Event)) (z2u5 : (List Mark)) (z2u6 : Int) (x215 : Event) (y222u8 : Int) : Option (((List Mark) × Int) ⊕ (((List Mark)))) :=
  grd (0 ≤ y222u8 ∧ y222u8 ≤ (z2u5.length : Int)) (bnd (rMarks_r32 z2u5 x215 y222u8) fun y279u57 =>
  ifb y279u57 (grd (0 ≤ 1 ∧ 1 ≤ ((z2u5.drop y222u8.toNat).length : Int)) (rMarks_j31 l z2u5 z2u6 y222u8 ((z2u5.drop y222u8.toNat).drop (1 : Int).toNat)))
  (rMarks_j31 l z2u5 z2u6 y222u8 (z2u5.drop y222u8.toNat)))
noncomputable def rMarks_s23 (l : (List Event)) : ((List Mark) × Int) → Option (((List Mark) × Int) ⊕ (((List Mark)))) := fun (z2u5, z2u6) =>
  ifb (decide (z2u6 < (l.length : Int))) (bnd (at? l z2u6) fun x215 =>
  ifb (decide ((about x215) = 0)) (rMarks_j24 z2u6 z2u5)
  (bnd (loopO (rMarks_s29 z2u5 x215) (z2u5.length : Int)) fun q272u8 =>
  rMarks_j25 l z2u5 z2u6 x215 q272u8))
  (some (.inr z2u5))
noncomputable def rMarks_j1 (y9u5 : (List Mark)) : Option ((List Mark) × Int) :=
  some (y9u5, 0)
noncomputable def rMarks (l : (List Event)) : Option ((List Mark) × Int) :=
  grd ((l : List Event).length ≤ 1000000000) (ifb (!(validE l)) (some ([], 1))
  (bnd (loopO (rMarks_s23 l) ([], 0)) fun q307u5 =>
  rMarks_j1 q307u5))
end Go.Proofs.Ytpbhcpeilgmkeaa
