/-
  The evaluator, the printed walks and the plain laws, part 5 of 12.
-/
import Derived.Test.YtpbhcpeilgmkeaaX4
set_option linter.all false
set_option linter.unnecessarySimpa false
set_option linter.deprecated false
set_option linter.unusedVariables false
set_option linter.unusedSimpArgs false
set_option linter.unusedSectionVars false

/-
  Walks of the events: printed by gen1.py.
-/
namespace Go.Proofs.Ytpbhcpeilgmkeaa
open Go Go.Eva Enc
variable [Drw]
set_option linter.unusedSectionVars false
set_option linter.unusedSimpArgs false
set_option linter.unusedVariables false
set_option maxRecDepth 4000
attribute [local congr] AWp.congrS
attribute [local simp] evalSeq opRes guardPc evalOp evT Eva.get startT strip putT Eva.after constT typed obAll holds dstOk R.ok R.bad ofD binD unD pickT subL subP Op.operands Call.operands toD argsD callD callT typedAll cfind quietT spec0 spec1 spec2 spec3 enc_int enc_bool enc_str enc_fn enc_list dec_int dec_bool dec_str dec_fn dec_list size_int size_str enc_R enc_M enc_E dec_R dec_M dec_E size_R size_M size_E eta_R eta_M eta_E enc_rune size_rune dec_rune eta_rune runesD_eq map_dec_enc map_dec_comp cellsT D.cells T.oneT D.one mkT unD1 setAt loadAs loadEl storeAs fieldP fieldV sizeE intOfT indexP appendT lenT sliceT elemSize arith lfsOk lfOk beqL_R beqL_M beqL_E beqL_R0 beqL_M0 isAggD mkD fillD placeS TD.agg env restr List.map keyIdx keysInt mapTy lookT mapPutT mapDelT mapOf indexS convT evalPure range1 range2 range3 range4 eqT4 eqT38 eqT40 eqT42 te1 te2 te3 te4 te5 te6 te7 te8 te9 te10 te11 te12 te13 te14 te15 te16 te17 te18 te19 te21 te22 te23 te24 te25 te27 te28 te29 te31 te32 te34 te35 te36 te37 te38 te39 te40 te41 te42 te43 te44 te45 te46 te47 te49 te50 te51 te52 te53 te54 te55 te56 te57 te59 te60 te61 te62 te63 te64 te65 te66 te67 te68 te69 te70 te71 te72 te73 te74 te75 te76 te77 te78 te79 te80 te82 te83 te84 te85 te86 te87 te88 te90 te91 te92 te94 te95 te96 te97 te98 te99 te100 te101 te102 te103 te104 te105 te106 te107 te108 te109 te110 te111 te112 te113 te114 te116 te117 te118 te119 te120 te121 te122 te123 te124 te125 te126 te127 te128 te129 te130 te131 te132 te133 te134

def sp43 : Eva.Spec := spec1 (fun (s : ByteArray) => True) fun (s : ByteArray) => enc (textOk s)
theorem ok43 : SpecOk Try.prog 43 sp43 := by
  have hV : VOk Try.prog (env []) := env_ok trivial
  refine SpecOk.of1 (Enters.of Try.func43 (by decide)) fun s hp => ?_
  refine PureCon.of hV Try.func43 rfl (by rw [Try.ntmps43]; simp) fun w0 I0 => ?_
  rw [Try.ntmps43]
  refine AWp.seqKL hV [0] ?_
  simp
  repeat refine And.intro (by first | omega | grind) ?_
  refine AWp.seq ?_
  refine AWp.seqKL hV [0, 6] ?_
  simp
  repeat refine And.intro (by first | omega | grind) ?_
  refine AWp.cond rfl (fun h1 => ?_) fun h1 => ?_
  · try simp at h1
    refine AWp.seqKL hV [2] ?_
    simp
    repeat refine And.intro (by first | omega | grind) ?_
    refine AWp.ret ?_
    simp [retOk, resT, thenQ, inBlockQ, textOk, *]
    all_goals first | omega | grind
  · try simp at h1
    refine AWp.skip ?_
    try simp only [thenQ, inBlockQ]
    refine AWp.seq ?_
    refine AWp.seqKL hV [0, 3] ?_
    simp
    repeat refine And.intro (by first | omega | grind) ?_
    refine AWp.block ?_
    refine AWp.loop (X := Nat) (fun z => ⟨[(0, .d (.str s)), (3, .d (.int .i64 (z : Int)))], []⟩) (fun z => z ≤ s.size ∧ allUpTo s z = true) (fun z => s.size - z) (0) ?_ ?_ fun z hz => ?_
    · simp [allUpTo_zero]
    · refine Sub.ren [] (by decide) ?_ ?_ <;> simp [renL, AO.ren, forgetsR, T.ren, idx]
    refine AWp.seq ?_
    refine AWp.seqKL hV [0, 3, 10] ?_
    simp
    repeat refine And.intro (by first | omega | grind) ?_
    refine AWp.cond rfl (fun h2 => ?_) fun h2 => ?_
    · try simp at h2
      refine AWp.skip ?_
      try simp only [thenQ, inBlockQ]
      refine AWp.seq ?_
      refine AWp.block ?_
      refine AWp.seqKL hV [0, 3, 22] ?_
      simp
      repeat refine And.intro (by first | omega | grind) ?_
      refine AWp.cond rfl (fun h3 => ?_) fun h3 => ?_
      · try simp at h3
        have hb := fun hh => allUpTo_lt (s := s) (k := z) (n := s.size) hh h2
        refine AWp.seqKL hV [2] ?_
        simp
        repeat refine And.intro (by first | omega | grind) ?_
        refine AWp.ret ?_
        simp [retOk, resT, thenQ, inBlockQ, textOk, *]
        all_goals first | omega | grind
      · try simp at h3
        refine AWp.skip ?_
        try simp only [thenQ, inBlockQ]
        refine AWp.region hV ?_
        simp
        repeat refine And.intro (by first | omega | grind) ?_
        try simp only [thenQ, inBlockQ]
        refine ⟨z + 1, ?_, ?_, Sub.ren [] (by decide) ?_ ?_⟩
        · simp [allUpTo_succ, byteOk, *]; omega
        · first | omega | grind
        · simp [renL, AO.ren, T.ren, idx]
        · simp [forgetsR, T.ren, idx] <;> omega
    · try simp at h2
      refine AWp.exit ?_
      simp [thenQ, inBlockQ]
      try simp only [thenQ, inBlockQ]
      refine AWp.seqKL hV [2] ?_
      simp
      repeat refine And.intro (by first | omega | grind) ?_
      refine AWp.ret ?_
      simp [retOk, resT, thenQ, inBlockQ, textOk, *]
      all_goals first | omega | grind

def sp44 : Eva.Spec := spec2 (fun (a : Int) (r : Reader) => True) fun (a : Int) (r : Reader) => enc (byOk a r)
theorem ok44 : SpecOk Try.prog 44 sp44 := by
  have hV : VOk Try.prog (env [(56, sp56), (23, sp23), (42, sp42)]) := env_ok ⟨ok56, ok23, ok42, trivial⟩
  refine SpecOk.of2 (Enters.of Try.func44 (by decide)) fun a r hp => ?_
  refine PureCon.of hV Try.func44 rfl (by rw [Try.ntmps44]; simp) fun w0 I0 => ?_
  rw [Try.ntmps44]
  refine AWp.seqKL hV [0, 3] ?_
  simp [sp56, sp23, sp42]
  repeat refine And.intro (by first | omega | grind) ?_
  refine AWp.seq ?_
  refine AWp.seqKL hV [3, 5] ?_
  simp [sp56, sp23, sp42]
  repeat refine And.intro (by first | omega | grind) ?_
  refine AWp.block ?_
  refine AWp.seqKL hV [3, 5, 6] ?_
  simp [sp56, sp23, sp42]
  repeat refine And.intro (by first | omega | grind) ?_
  refine AWp.cond rfl (fun h1 => ?_) fun h1 => ?_
  · try simp at h1
    refine AWp.seqKL hV [4] ?_
    simp [sp56, sp23, sp42]
    repeat refine And.intro (by first | omega | grind) ?_
    refine AWp.ret ?_
    simp [retOk, resT, thenQ, inBlockQ, byOk, *]
    all_goals first | omega | grind
  · try simp at h1
    refine AWp.seqKL hV [3, 5, 10] ?_
    simp [sp56, sp23, sp42]
    repeat refine And.intro (by first | omega | grind) ?_
    refine AWp.cond rfl (fun h2 => ?_) fun h2 => ?_
    · try simp at h2
      refine AWp.seqKL hV [4] ?_
      simp [sp56, sp23, sp42]
      repeat refine And.intro (by first | omega | grind) ?_
      refine AWp.ret ?_
      simp [retOk, resT, thenQ, inBlockQ, byOk, *]
      all_goals first | omega | grind
    · try simp at h2
      refine AWp.seqKL hV [3, 5, 25] ?_
      simp [sp56, sp23, sp42]
      repeat refine And.intro (by first | omega | grind) ?_
      refine AWp.cond rfl (fun h3 => ?_) fun h3 => ?_
      · try simp at h3
        refine AWp.seqKL hV [4] ?_
        simp [sp56, sp23, sp42]
        repeat refine And.intro (by first | omega | grind) ?_
        refine AWp.ret ?_
        simp [retOk, resT, thenQ, inBlockQ, byOk, *]
        all_goals first | omega | grind
      · try simp at h3
        refine AWp.seqKL hV [3, 40] ?_
        simp [sp56, sp23, sp42]
        repeat refine And.intro (by first | omega | grind) ?_
        refine AWp.cond rfl (fun h4 => ?_) fun h4 => ?_
        · try simp at h4
          refine AWp.seqKL hV [4] ?_
          simp [sp56, sp23, sp42]
          repeat refine And.intro (by first | omega | grind) ?_
          refine AWp.ret ?_
          simp [retOk, resT, thenQ, inBlockQ, byOk, *]
          all_goals first | omega | grind
        · try simp at h4
          refine AWp.skip ?_
          try simp only [thenQ, inBlockQ]
          refine AWp.seqKL hV [4] ?_
          simp [sp56, sp23, sp42]
          repeat refine And.intro (by first | omega | grind) ?_
          refine AWp.ret ?_
          simp [retOk, resT, thenQ, inBlockQ, byOk, *]
          all_goals first | omega | grind

def sp50 : Eva.Spec := spec1 (fun (l : List Int) => l.length ≤ 1000000000) fun (l : List Int) => enc (orI l)
theorem ok50 : SpecOk Try.prog 50 sp50 := by
  have hV : VOk Try.prog (env []) := env_ok trivial
  refine SpecOk.of1 (Enters.of Try.func50 (by decide)) fun l hp => ?_
  refine PureCon.of hV Try.func50 rfl (by rw [Try.ntmps50]; simp) fun w0 I0 => ?_
  rw [Try.ntmps50]
  refine AWp.seqKL hV [0] ?_
  simp
  repeat refine And.intro (by first | omega | grind) ?_
  refine AWp.seqKL hV [0, 3] ?_
  simp
  repeat refine And.intro (by first | omega | grind) ?_
  refine AWp.seq ?_
  refine AWp.seqKL hV [3, 6, 7, 8] ?_
  simp
  repeat refine And.intro (by first | omega | grind) ?_
  refine AWp.block ?_
  refine AWp.loop (X := Nat) (fun z => ⟨[(3, .d (.int .i64 0)), (6, .d (enc l)), (7, .d (.int .i64 l.length)), (8, .d (.int .i64 (z : Int)))], []⟩) (fun z => z ≤ l.length ∧ orI l = orI (l.drop z)) (fun z => l.length - z) (0) ?_ ?_ fun z hz => ?_
  · simp
  · refine Sub.ren [] (by decide) ?_ ?_ <;> simp [renL, AO.ren, forgetsR, T.ren, idx]
  refine AWp.seqKL hV [3, 6, 7, 8, 9] ?_
  simp
  repeat refine And.intro (by first | omega | grind) ?_
  refine AWp.seq ?_
  refine AWp.cond rfl (fun h1 => ?_) fun h1 => ?_
  · try simp at h1
    obtain ⟨x, hx⟩ := ex_get h1
    have hd := drop_get hx
    have ho := orI_cons x (l.drop (z + 1))
    refine AWp.skip ?_
    try simp only [thenQ, inBlockQ]
    refine AWp.seq ?_
    refine AWp.block ?_
    refine AWp.seqKL hV [3, 5, 6, 7, 8] ?_
    simp [elAt_enc hx]
    repeat refine And.intro (by first | omega | grind) ?_
    refine AWp.seqKL hV [3, 5, 6, 7, 8, 14] ?_
    simp [elAt_enc hx]
    repeat refine And.intro (by first | omega | grind) ?_
    refine AWp.cond rfl (fun h2 => ?_) fun h2 => ?_
    · try simp at h2
      refine AWp.seqKL hV [2] ?_
      simp [elAt_enc hx]
      repeat refine And.intro (by first | omega | grind) ?_
      refine AWp.ret ?_
      simp [retOk, resT, thenQ, inBlockQ, elAt_enc hx, *]
      all_goals first | omega | grind [orI_nil]
    · try simp at h2
      refine AWp.skip ?_
      try simp only [thenQ, inBlockQ]
      refine AWp.region hV ?_
      simp [elAt_enc hx]
      repeat refine And.intro (by first | omega | grind) ?_
      try simp only [thenQ, inBlockQ]
      refine ⟨z + 1, ?_, ?_, Sub.ren [] (by decide) ?_ ?_⟩
      · grind
      · first | omega | grind
      · simp [renL, AO.ren, T.ren, idx, elAt_enc hx]
      · simp [forgetsR, T.ren, idx, elAt_enc hx] <;> omega
  · try simp at h1
    refine AWp.exit ?_
    simp [thenQ, inBlockQ]
    try simp only [thenQ, inBlockQ]
    refine AWp.seqKL hV [2] ?_
    simp
    repeat refine And.intro (by first | omega | grind) ?_
    refine AWp.ret ?_
    simp [retOk, resT, thenQ, inBlockQ, *]
    all_goals first | omega | grind [orI_nil]

def sp32 : Eva.Spec := spec2 (fun (a : Event) (b : Event) => True) fun (a : Event) (b : Event) => enc (order a b)
theorem ok32 : SpecOk Try.prog 32 sp32 := by
  have hV : VOk Try.prog (env [(51, sp51), (50, sp50)]) := env_ok ⟨ok51, ok50, trivial⟩
  refine SpecOk.of2 (Enters.of Try.func32 (by decide)) fun a b hp => ?_
  refine PureCon.of hV Try.func32 rfl (by rw [Try.ntmps32]; simp) fun w0 I0 => ?_
  rw [Try.ntmps32]
  refine AWp.seqKL hV [2, 3] ?_
  simp [sp51, sp50]
  repeat refine And.intro (by first | omega | grind) ?_
  refine AWp.seqDKL hV mixed 12 [4] (by decide) ?_
  simp [sp51, sp50]
  repeat refine And.intro (by first | omega | grind) ?_
  refine AWp.ret ?_
  simp [retOk, resT, thenQ, inBlockQ, order, orI_cons, orI_nil, *]
  all_goals first | omega | grind

def sp31 : Eva.Spec := spec2 (fun (a : Event) (b : Event) => True) fun (a : Event) (b : Event) => enc (order a b)
theorem ok31 : SpecOk Try.prog 31 sp31 := by
  have hV : VOk Try.prog (env [(32, sp32)]) := env_ok ⟨ok32, trivial⟩
  refine SpecOk.of2 (Enters.of Try.func31 (by decide)) fun a b hp => ?_
  refine PureCon.of hV Try.func31 rfl (by rw [Try.ntmps31]; simp) fun w0 I0 => ?_
  rw [Try.ntmps31]
  refine AWp.seqKL hV [2, 3] ?_
  simp [sp32]
  repeat refine And.intro (by first | omega | grind) ?_
  refine AWp.seqKL hV [4] ?_
  simp [sp32]
  repeat refine And.intro (by first | omega | grind) ?_
  refine AWp.ret ?_
  simp [retOk, resT, thenQ, inBlockQ, *]
  all_goals first | omega | grind

def sp24 : Eva.Spec := spec1 (fun (m : Mark) => True) fun (m : Mark) => enc (markOk m)
theorem ok24 : SpecOk Try.prog 24 sp24 := by
  have hV : VOk Try.prog (env [(43, sp43), (44, sp44), (23, sp23), (42, sp42)]) := env_ok ⟨ok43, ok44, ok23, ok42, trivial⟩
  refine SpecOk.of1 (Enters.of Try.func24 (by decide)) fun m hp => ?_
  refine PureCon.of hV Try.func24 rfl (by rw [Try.ntmps24]; simp) fun w0 I0 => ?_
  rw [Try.ntmps24]
  refine AWp.seqKL hV [1] ?_
  simp [sp43, sp44, sp23, sp42]
  repeat refine And.intro (by first | omega | grind) ?_
  refine AWp.seqKL hV [1, 3] ?_
  simp [sp43, sp44, sp23, sp42]
  repeat refine And.intro (by first | omega | grind) ?_
  refine AWp.seqKL hV [1, 3, 4] ?_
  simp [sp43, sp44, sp23, sp42]
  repeat refine And.intro (by first | omega | grind) ?_
  refine AWp.seq ?_
  refine AWp.seqKL hV [1, 42] ?_
  simp [sp43, sp44, sp23, sp42]
  repeat refine And.intro (by first | omega | grind) ?_
  refine AWp.cond rfl (fun h1 => ?_) fun h1 => ?_
  · try simp at h1
    refine AWp.seqKL hV [2] ?_
    simp [sp43, sp44, sp23, sp42]
    repeat refine And.intro (by first | omega | grind) ?_
    refine AWp.ret ?_
    simp [retOk, resT, thenQ, inBlockQ, markOk, *]
    all_goals first | omega | grind
  · try simp at h1
    refine AWp.skip ?_
    try simp only [thenQ, inBlockQ]
    refine AWp.seqKL hV [2] ?_
    simp [sp43, sp44, sp23, sp42]
    repeat refine And.intro (by first | omega | grind) ?_
    refine AWp.ret ?_
    simp [retOk, resT, thenQ, inBlockQ, markOk, *]
    all_goals first | omega | grind

def sp57 : Eva.Spec := spec0 (D.map [.int .i64 1, .int .i64 2, .int .i64 3, .int .i64 4] [.agg [.fn 75, .fn 76], .agg [.fn 77, .fn 78], .agg [.fn 79, .fn 80], .agg [.fn 81, .fn 82]])
theorem ok57 : SpecOk Try.prog 57 sp57 := by
  have hV : VOk Try.prog (env []) := env_ok trivial
  refine SpecOk.of0 (Enters.of Try.func57 (by decide)) ?_
  refine PureCon.of hV Try.func57 rfl (by rw [Try.ntmps57]; simp) fun w0 I0 => ?_
  rw [Try.ntmps57]
  refine AWp.seqKL hV [] ?_
  simp
  repeat refine And.intro (by first | omega | grind) ?_
  refine AWp.seqKL hV [0] ?_
  simp
  repeat refine And.intro (by first | omega | grind) ?_
  refine AWp.ret ?_
  simp [retOk, resT, thenQ, inBlockQ, *]
  all_goals first | omega | grind

def sp77 : Eva.Spec := spec1 (fun (r : Reader) => True) fun (r : Reader) => enc (isID r.part && within r.desk 1 40 && decide (r.seat = 0))
theorem ok77 : SpecOk Try.prog 77 sp77 := by
  have hV : VOk Try.prog (env [(75, sp75)]) := env_ok ⟨ok75, trivial⟩
  refine SpecOk.of1 (Enters.of Try.func77 (by decide)) fun r hp => ?_
  refine PureCon.of hV Try.func77 rfl (by rw [Try.ntmps77]; simp) fun w0 I0 => ?_
  rw [Try.ntmps77]
  refine AWp.seqKL hV [1] ?_
  simp [sp75]
  repeat refine And.intro (by first | omega | grind) ?_
  refine AWp.seqKL hV [2] ?_
  simp [sp75]
  repeat refine And.intro (by first | omega | grind) ?_
  refine AWp.ret ?_
  simp [retOk, resT, thenQ, inBlockQ, isReader, isID, within, *]
  all_goals first | omega | grind

def sp79 : Eva.Spec := spec1 (fun (r : Reader) => True) fun (r : Reader) => enc (within r.part 0 99 && decide (r.desk = 0) && decide (r.seat = 0))
theorem ok79 : SpecOk Try.prog 79 sp79 := by
  have hV : VOk Try.prog (env [(60, sp60)]) := env_ok ⟨ok60, trivial⟩
  refine SpecOk.of1 (Enters.of Try.func79 (by decide)) fun r hp => ?_
  refine PureCon.of hV Try.func79 rfl (by rw [Try.ntmps79]; simp) fun w0 I0 => ?_
  rw [Try.ntmps79]
  refine AWp.seqKL hV [1] ?_
  simp [sp60]
  repeat refine And.intro (by first | omega | grind) ?_
  refine AWp.seqKL hV [2] ?_
  simp [sp60]
  repeat refine And.intro (by first | omega | grind) ?_
  refine AWp.ret ?_
  simp [retOk, resT, thenQ, inBlockQ, *]
  all_goals first | omega | grind

def sp81 : Eva.Spec := spec1 (fun (r : Reader) => True) fun (r : Reader) => enc (decide (r.part = 0) && decide (r.desk = 0) && decide (r.seat = 0))
theorem ok81 : SpecOk Try.prog 81 sp81 := by
  have hV : VOk Try.prog (env []) := env_ok trivial
  refine SpecOk.of1 (Enters.of Try.func81 (by decide)) fun r hp => ?_
  refine PureCon.of hV Try.func81 rfl (by rw [Try.ntmps81]; simp) fun w0 I0 => ?_
  rw [Try.ntmps81]
  refine AWp.seqKL hV [1] ?_
  simp
  repeat refine And.intro (by first | omega | grind) ?_
  refine AWp.seqKL hV [2] ?_
  simp
  repeat refine And.intro (by first | omega | grind) ?_
  refine AWp.ret ?_
  simp [retOk, resT, thenQ, inBlockQ, *]
  all_goals first | omega | grind

def sp58 : Eva.Spec := spec1 (fun (r : Rune) => True) fun (r : Rune) => enc (oddRune r)
theorem ok58 : SpecOk Try.prog 58 sp58 := by
  have hV : VOk Try.prog (env []) := env_ok trivial
  refine SpecOk.of1 (Enters.of Try.func58 (by decide)) fun r hp => ?_
  refine PureCon.of hV Try.func58 rfl (by rw [Try.ntmps58]; simp) fun w0 I0 => ?_
  rw [Try.ntmps58]
  refine AWp.seqKL hV [0] ?_
  simp
  repeat refine And.intro (by first | omega | grind) ?_
  refine AWp.seqKL hV [2] ?_
  simp
  repeat refine And.intro (by first | omega | grind) ?_
  refine AWp.ret ?_
  simp [retOk, resT, thenQ, inBlockQ, oddRune, *]
  all_goals first | omega | grind

def sp41 : Eva.Spec := spec1 (fun (e : Event) => True) fun (e : Event) => enc (eventOk e)
theorem ok41 : SpecOk Try.prog 41 sp41 := by
  have hV : VOk Try.prog (env [(55, sp55), (23, sp23), (24, sp24)]) := env_ok ⟨ok55, ok23, ok24, trivial⟩
  refine SpecOk.of1 (Enters.of Try.func41 (by decide)) fun e hp => ?_
  refine PureCon.of hV Try.func41 rfl (by rw [Try.ntmps41]; simp) fun w0 I0 => ?_
  rw [Try.ntmps41]
  refine AWp.seqKL hV [1] ?_
  simp [sp55, sp23, sp24]
  repeat refine And.intro (by first | omega | grind) ?_
  refine AWp.seq ?_
  refine AWp.seqKL hV [1, 13] ?_
  simp [sp55, sp23, sp24]
  repeat refine And.intro (by first | omega | grind) ?_
  refine AWp.cond rfl (fun h1 => ?_) fun h1 => ?_
  · try simp at h1
    refine AWp.seqKL hV [2] ?_
    simp [sp55, sp23, sp24]
    repeat refine And.intro (by first | omega | grind) ?_
    refine AWp.ret ?_
    simp [retOk, resT, thenQ, inBlockQ, eventOk, *]
    all_goals first | omega | grind
  · try simp at h1
    refine AWp.skip ?_
    try simp only [thenQ, inBlockQ]
    refine AWp.seq ?_
    refine AWp.seqKL hV [1, 15] ?_
    simp [sp55, sp23, sp24]
    repeat refine And.intro (by first | omega | grind) ?_
    refine AWp.block ?_
    refine AWp.seqKL hV [1, 15, 16] ?_
    simp [sp55, sp23, sp24]
    repeat refine And.intro (by first | omega | grind) ?_
    refine AWp.cond rfl (fun h2 => ?_) fun h2 => ?_
    · try simp at h2
      refine AWp.seqKL hV [1, 3] ?_
      simp [sp55, sp23, sp24]
      repeat refine And.intro (by first | omega | grind) ?_
      refine AWp.seqKL hV [2] ?_
      simp [sp55, sp23, sp24]
      repeat refine And.intro (by first | omega | grind) ?_
      refine AWp.ret ?_
      simp [retOk, resT, thenQ, inBlockQ, eventOk, *]
      all_goals first | omega | grind
    · try simp at h2
      refine AWp.seqKL hV [1, 15, 27] ?_
      simp [sp55, sp23, sp24]
      repeat refine And.intro (by first | omega | grind) ?_
      refine AWp.cond rfl (fun h3 => ?_) fun h3 => ?_
      · try simp at h3
        refine AWp.seqKL hV [2] ?_
        simp [sp55, sp23, sp24]
        repeat refine And.intro (by first | omega | grind) ?_
        refine AWp.ret ?_
        simp [retOk, resT, thenQ, inBlockQ, eventOk, *]
        all_goals first | omega | grind
      · try simp at h3
        refine AWp.seqKL hV [1, 38] ?_
        simp [sp55, sp23, sp24]
        repeat refine And.intro (by first | omega | grind) ?_
        refine AWp.cond rfl (fun h4 => ?_) fun h4 => ?_
        · try simp at h4
          refine AWp.seqKL hV [2] ?_
          simp [sp55, sp23, sp24]
          repeat refine And.intro (by first | omega | grind) ?_
          refine AWp.ret ?_
          simp [retOk, resT, thenQ, inBlockQ, eventOk, *]
          all_goals first | omega | grind
        · try simp at h4
          refine AWp.skip ?_
          try simp only [thenQ, inBlockQ]
          refine AWp.seqKL hV [2] ?_
          simp [sp55, sp23, sp24]
          repeat refine And.intro (by first | omega | grind) ?_
          refine AWp.ret ?_
          simp [retOk, resT, thenQ, inBlockQ, eventOk, *]
          all_goals first | omega | grind
end Go.Proofs.Ytpbhcpeilgmkeaa

/-
  Walks of the events: printed by gen1.py.
-/
namespace Go.Proofs.Ytpbhcpeilgmkeaa
open Go Go.Eva Enc
variable [Drw]
set_option linter.unusedSectionVars false
set_option linter.unusedSimpArgs false
set_option linter.unusedVariables false
set_option maxRecDepth 4000
attribute [local congr] AWp.congrS
attribute [local simp] evalSeq opRes guardPc evalOp evT Eva.get startT strip putT Eva.after constT typed obAll holds dstOk R.ok R.bad ofD binD unD pickT subL subP Op.operands Call.operands toD argsD callD callT typedAll cfind quietT spec0 spec1 spec2 spec3 enc_int enc_bool enc_str enc_fn enc_list dec_int dec_bool dec_str dec_fn dec_list size_int size_str enc_R enc_M enc_E dec_R dec_M dec_E size_R size_M size_E eta_R eta_M eta_E enc_rune size_rune dec_rune eta_rune runesD_eq map_dec_enc map_dec_comp cellsT D.cells T.oneT D.one mkT unD1 setAt loadAs loadEl storeAs fieldP fieldV sizeE intOfT indexP appendT lenT sliceT elemSize arith lfsOk lfOk beqL_R beqL_M beqL_E beqL_R0 beqL_M0 isAggD mkD fillD placeS TD.agg env restr List.map keyIdx keysInt mapTy lookT mapPutT mapDelT mapOf indexS convT evalPure range1 range2 range3 range4 eqT4 eqT38 eqT40 eqT42 te1 te2 te3 te4 te5 te6 te7 te8 te9 te10 te11 te12 te13 te14 te15 te16 te17 te18 te19 te21 te22 te23 te24 te25 te27 te28 te29 te31 te32 te34 te35 te36 te37 te38 te39 te40 te41 te42 te43 te44 te45 te46 te47 te49 te50 te51 te52 te53 te54 te55 te56 te57 te59 te60 te61 te62 te63 te64 te65 te66 te67 te68 te69 te70 te71 te72 te73 te74 te75 te76 te77 te78 te79 te80 te82 te83 te84 te85 te86 te87 te88 te90 te91 te92 te94 te95 te96 te97 te98 te99 te100 te101 te102 te103 te104 te105 te106 te107 te108 te109 te110 te111 te112 te113 te114 te116 te117 te118 te119 te120 te121 te122 te123 te124 te125 te126 te127 te128 te129 te130 te131 te132 te133 te134

def sp83 : Eva.Spec := spec2 (fun (l : List Rune) (f : Eva.Fn) => l.length ≤ 1000000000 ∧ f = ⟨58⟩) fun (l : List Rune) (f : Eva.Fn) => enc (idxI oddRune l)
theorem ok83 : SpecOk Try.prog 83 sp83 := by
  have hV : VOk Try.prog (env [(58, sp58)]) := env_ok ⟨ok58, trivial⟩
  refine SpecOk.of2 (Enters.of Try.func83 (by decide)) fun l f hp => ?_
  obtain ⟨hp, rfl⟩ := hp
  refine PureCon.of hV Try.func83 rfl (by rw [Try.ntmps83]; simp) fun w0 I0 => ?_
  rw [Try.ntmps83]
  refine AWp.seqKL hV [0, 1] ?_
  simp [sp58]
  repeat refine And.intro (by first | omega | grind) ?_
  refine AWp.seq ?_
  refine AWp.seqKL hV [0, 1, 7, 8] ?_
  simp [sp58]
  repeat refine And.intro (by first | omega | grind) ?_
  refine AWp.block ?_
  refine AWp.loop (X := Nat) (fun z => ⟨[(0, .d (enc l)), (1, .d (.fn 58)), (7, .d (.int .i64 l.length)), (8, .d (.int .i64 (z : Int)))], []⟩) (fun z => z ≤ l.length ∧ (l.take z).any oddRune = false) (fun z => l.length - z) (0) ?_ ?_ fun z hz => ?_
  · simp
  · refine Sub.ren [] (by decide) ?_ ?_ <;> simp [renL, AO.ren, forgetsR, T.ren, idx]
  refine AWp.seqKL hV [0, 1, 7, 8, 9] ?_
  simp [sp58]
  repeat refine And.intro (by first | omega | grind) ?_
  refine AWp.seq ?_
  refine AWp.cond rfl (fun h1 => ?_) fun h1 => ?_
  · try simp at h1
    obtain ⟨x, hx⟩ := ex_get h1
    have hs := any_take_succ (p := oddRune) hx
    refine AWp.skip ?_
    try simp only [thenQ, inBlockQ]
    refine AWp.seq ?_
    refine AWp.block ?_
    refine AWp.seqKL hV [0, 1, 5, 7, 8] ?_
    simp [sp58, elAt_enc hx]
    repeat refine And.intro (by first | omega | grind) ?_
    refine AWp.seqKL hV [0, 1, 5, 7, 8, 16] ?_
    simp [sp58, elAt_enc hx]
    repeat refine And.intro (by first | omega | grind) ?_
    refine AWp.cond rfl (fun h2 => ?_) fun h2 => ?_
    · try simp at h2
      have hi := idxI_at hz.2 hx h2
      refine AWp.seqKL hV [4] ?_
      simp [sp58, elAt_enc hx]
      repeat refine And.intro (by first | omega | grind) ?_
      refine AWp.ret ?_
      simp [retOk, resT, thenQ, inBlockQ, elAt_enc hx, *]
      all_goals first | omega | grind
    · try simp at h2
      refine AWp.skip ?_
      try simp only [thenQ, inBlockQ]
      refine AWp.region hV ?_
      simp [sp58, elAt_enc hx]
      repeat refine And.intro (by first | omega | grind) ?_
      try simp only [thenQ, inBlockQ]
      refine ⟨z + 1, ?_, ?_, Sub.ren [] (by decide) ?_ ?_⟩
      · first | omega | grind
      · first | omega | grind
      · simp [renL, AO.ren, T.ren, idx, elAt_enc hx]
      · simp [forgetsR, T.ren, idx, elAt_enc hx] <;> omega
  · try simp at h1
    have hi := idxI_end hz.2 h1
    refine AWp.exit ?_
    simp [thenQ, inBlockQ]
    try simp only [thenQ, inBlockQ]
    refine AWp.seqKL hV [4] ?_
    simp [sp58]
    repeat refine And.intro (by first | omega | grind) ?_
    refine AWp.ret ?_
    simp [retOk, resT, thenQ, inBlockQ, *]
    all_goals first | omega | grind

def sp61 : Eva.Spec := spec2 (fun (l : List Rune) (f : Eva.Fn) => l.length ≤ 1000000000 ∧ f = ⟨58⟩) fun (l : List Rune) (f : Eva.Fn) => enc (l.any oddRune)
theorem ok61 : SpecOk Try.prog 61 sp61 := by
  have hV : VOk Try.prog (env [(83, sp83)]) := env_ok ⟨ok83, trivial⟩
  refine SpecOk.of2 (Enters.of Try.func61 (by decide)) fun l f hp => ?_
  obtain ⟨hp, rfl⟩ := hp
  have hi := idxI_any oddRune l
  refine PureCon.of hV Try.func61 rfl (by rw [Try.ntmps61]; simp) fun w0 I0 => ?_
  rw [Try.ntmps61]
  refine AWp.seqKL hV [0, 1] ?_
  simp [sp83]
  repeat refine And.intro (by first | omega | grind) ?_
  refine AWp.seqKL hV [4] ?_
  simp [sp83]
  repeat refine And.intro (by first | omega | grind) ?_
  refine AWp.ret ?_
  simp [retOk, resT, thenQ, inBlockQ, *]
  all_goals first | omega | grind
end Go.Proofs.Ytpbhcpeilgmkeaa

/-
  Walks of the events: printed by gen1.py.
-/
namespace Go.Proofs.Ytpbhcpeilgmkeaa
open Go Go.Eva Enc
variable [Drw]
set_option linter.unusedSectionVars false
set_option linter.unusedSimpArgs false
set_option linter.unusedVariables false
set_option maxRecDepth 4000
attribute [local congr] AWp.congrS
attribute [local simp] evalSeq opRes guardPc evalOp evT Eva.get startT strip putT Eva.after constT typed obAll holds dstOk R.ok R.bad ofD binD unD pickT subL subP Op.operands Call.operands toD argsD callD callT typedAll cfind quietT spec0 spec1 spec2 spec3 enc_int enc_bool enc_str enc_fn enc_list dec_int dec_bool dec_str dec_fn dec_list size_int size_str enc_R enc_M enc_E dec_R dec_M dec_E size_R size_M size_E eta_R eta_M eta_E enc_rune size_rune dec_rune eta_rune runesD_eq map_dec_enc map_dec_comp cellsT D.cells T.oneT D.one mkT unD1 setAt loadAs loadEl storeAs fieldP fieldV sizeE intOfT indexP appendT lenT sliceT elemSize arith lfsOk lfOk beqL_R beqL_M beqL_E beqL_R0 beqL_M0 isAggD mkD fillD placeS TD.agg env restr List.map keyIdx keysInt mapTy lookT mapPutT mapDelT mapOf indexS convT evalPure range1 range2 range3 range4 eqT4 eqT38 eqT40 eqT42 te1 te2 te3 te4 te5 te6 te7 te8 te9 te10 te11 te12 te13 te14 te15 te16 te17 te18 te19 te21 te22 te23 te24 te25 te27 te28 te29 te31 te32 te34 te35 te36 te37 te38 te39 te40 te41 te42 te43 te44 te45 te46 te47 te49 te50 te51 te52 te53 te54 te55 te56 te57 te59 te60 te61 te62 te63 te64 te65 te66 te67 te68 te69 te70 te71 te72 te73 te74 te75 te76 te77 te78 te79 te80 te82 te83 te84 te85 te86 te87 te88 te90 te91 te92 te94 te95 te96 te97 te98 te99 te100 te101 te102 te103 te104 te105 te106 te107 te108 te109 te110 te111 te112 te113 te114 te116 te117 te118 te119 te120 te121 te122 te123 te124 te125 te126 te127 te128 te129 te130 te131 te132 te133 te134

def sp45 : Eva.Spec := spec1 (fun (m : Mark) => True) fun (m : Mark) => enc (markOk m)
set_option maxHeartbeats 4000000 in
theorem ok45 : SpecOk Try.prog 45 sp45 := by
  have hV : VOk Try.prog (env [(57, sp57), (75, sp75), (77, sp77), (79, sp79), (81, sp81), (59, sp59), (60, sp60), (61, sp61)]) := env_ok ⟨ok57, ok75, ok77, ok79, ok81, ok59, ok60, ok61, trivial⟩
  refine SpecOk.of1 (Enters.of Try.func45 (by decide)) fun m hp => ?_
  have hrl := runes_length m.text
  have htr := textRunes m.text
  have hts := @textOk_size m.text
  refine PureCon.of hV Try.func45 rfl (by rw [Try.ntmps45]; simp) fun w0 I0 => ?_
  rw [Try.ntmps45]
  refine AWp.seqKL hV [1] ?_
  simp [sp57, sp75, sp77, sp79, sp81, sp59, sp60, sp61]
  repeat refine And.intro (by first | omega | grind) ?_
  rcases (show m.layer = 1 ∨ m.layer = 2 ∨ m.layer = 3 ∨ m.layer = 4 ∨ (m.layer ≠ 1 ∧ m.layer ≠ 2 ∧ m.layer ≠ 3 ∧ m.layer ≠ 4) by omega) with hl | hl | hl | hl | ⟨hl1, hl2, hl3, hl4⟩
  · refine AWp.seqDFL hV mixed 8 [6] [1, 3, 4] (by decide) ?_
    simp [sp57, sp75, sp77, sp79, sp81, sp59, sp60, sp61, hl, elAt]
    repeat refine And.intro (by first | omega | grind) ?_
    refine AWp.seqKL hV [1, 3, 4, 5] ?_
    simp [sp57, sp75, sp77, sp79, sp81, sp59, sp60, sp61, hl, elAt]
    repeat refine And.intro (by first | omega | grind) ?_
    refine AWp.seq ?_
    refine AWp.seqKL hV [1, 5, 47] ?_
    simp [sp57, sp75, sp77, sp79, sp81, sp59, sp60, sp61, hl, elAt]
    repeat refine And.intro (by first | omega | grind) ?_
    refine AWp.cond rfl (fun h1 => ?_) fun h1 => ?_
    · try simp at h1
      refine AWp.seqKL hV [2] ?_
      simp [sp57, sp75, sp77, sp79, sp81, sp59, sp60, sp61, hl, elAt]
      repeat refine And.intro (by first | omega | grind) ?_
      refine AWp.ret ?_
      simp [retOk, resT, thenQ, inBlockQ, markOk, byOk, hl, elAt, *]
      all_goals first | omega | grind [within]
    · try simp at h1
      all_goals
        refine AWp.skip ?_
        try simp only [thenQ, inBlockQ]
        refine AWp.seqKL hV [1, 5, 6] ?_
        simp [sp57, sp75, sp77, sp79, sp81, sp59, sp60, sp61, hl, elAt]
        repeat refine And.intro (by first | omega | grind) ?_
        refine AWp.seq ?_
        refine AWp.seqKL hV [1, 5, 6, 50] ?_
        simp [sp57, sp75, sp77, sp79, sp81, sp59, sp60, sp61, hl, elAt]
        repeat refine And.intro (by first | omega | grind) ?_
        refine AWp.cond rfl (fun h2 => ?_) fun h2 => ?_
        · try simp at h2
          refine AWp.region hV ?_
          simp [sp57, sp75, sp77, sp79, sp81, sp59, sp60, sp61, hl, elAt]
          repeat refine And.intro (by first | omega | grind) ?_
          try simp only [thenQ, inBlockQ]
          refine AWp.seqKL hV [2] ?_
          simp [sp57, sp75, sp77, sp79, sp81, sp59, sp60, sp61, hl, elAt]
          repeat refine And.intro (by first | omega | grind) ?_
          refine AWp.ret ?_
          simp [retOk, resT, thenQ, inBlockQ, markOk, byOk, hl, elAt, *]
          all_goals first | omega | grind [within]
        · try simp at h2
          refine AWp.skip ?_
          try simp only [thenQ, inBlockQ]
          refine AWp.seqKL hV [2] ?_
          simp [sp57, sp75, sp77, sp79, sp81, sp59, sp60, sp61, hl, elAt]
          repeat refine And.intro (by first | omega | grind) ?_
          refine AWp.ret ?_
          simp [retOk, resT, thenQ, inBlockQ, markOk, byOk, hl, elAt, *]
          all_goals first | omega | grind [within]
  · refine AWp.seqDFL hV mixed 8 [6] [1, 3, 4] (by decide) ?_
    simp [sp57, sp75, sp77, sp79, sp81, sp59, sp60, sp61, hl, elAt]
    repeat refine And.intro (by first | omega | grind) ?_
    refine AWp.seqKL hV [1, 3, 4, 5] ?_
    simp [sp57, sp75, sp77, sp79, sp81, sp59, sp60, sp61, hl, elAt]
    repeat refine And.intro (by first | omega | grind) ?_
    refine AWp.seq ?_
    refine AWp.seqKL hV [1, 5, 47] ?_
    simp [sp57, sp75, sp77, sp79, sp81, sp59, sp60, sp61, hl, elAt]
    repeat refine And.intro (by first | omega | grind) ?_
    refine AWp.cond rfl (fun h1 => ?_) fun h1 => ?_
    · try simp at h1
      refine AWp.seqKL hV [2] ?_
      simp [sp57, sp75, sp77, sp79, sp81, sp59, sp60, sp61, hl, elAt]
      repeat refine And.intro (by first | omega | grind) ?_
      refine AWp.ret ?_
      simp [retOk, resT, thenQ, inBlockQ, markOk, byOk, hl, elAt, *]
      all_goals first | omega | grind [within]
    · try simp at h1
      all_goals
        refine AWp.skip ?_
        try simp only [thenQ, inBlockQ]
        refine AWp.seqKL hV [1, 5, 6] ?_
        simp [sp57, sp75, sp77, sp79, sp81, sp59, sp60, sp61, hl, elAt]
        repeat refine And.intro (by first | omega | grind) ?_
        refine AWp.seq ?_
        refine AWp.seqKL hV [1, 5, 6, 50] ?_
        simp [sp57, sp75, sp77, sp79, sp81, sp59, sp60, sp61, hl, elAt]
        repeat refine And.intro (by first | omega | grind) ?_
        refine AWp.cond rfl (fun h2 => ?_) fun h2 => ?_
        · try simp at h2
          refine AWp.region hV ?_
          simp [sp57, sp75, sp77, sp79, sp81, sp59, sp60, sp61, hl, elAt]
          repeat refine And.intro (by first | omega | grind) ?_
          try simp only [thenQ, inBlockQ]
          refine AWp.seqKL hV [2] ?_
          simp [sp57, sp75, sp77, sp79, sp81, sp59, sp60, sp61, hl, elAt]
          repeat refine And.intro (by first | omega | grind) ?_
          refine AWp.ret ?_
          simp [retOk, resT, thenQ, inBlockQ, markOk, byOk, hl, elAt, *]
          all_goals first | omega | grind [within]
        · try simp at h2
          refine AWp.skip ?_
          try simp only [thenQ, inBlockQ]
          refine AWp.seqKL hV [2] ?_
          simp [sp57, sp75, sp77, sp79, sp81, sp59, sp60, sp61, hl, elAt]
          repeat refine And.intro (by first | omega | grind) ?_
          refine AWp.ret ?_
          simp [retOk, resT, thenQ, inBlockQ, markOk, byOk, hl, elAt, *]
          all_goals first | omega | grind [within]
  · refine AWp.seqDFL hV mixed 8 [6] [1, 3, 4] (by decide) ?_
    simp [sp57, sp75, sp77, sp79, sp81, sp59, sp60, sp61, hl, elAt]
    repeat refine And.intro (by first | omega | grind) ?_
    refine AWp.seqKL hV [1, 3, 4, 5] ?_
    simp [sp57, sp75, sp77, sp79, sp81, sp59, sp60, sp61, hl, elAt]
    repeat refine And.intro (by first | omega | grind) ?_
    refine AWp.seq ?_
    refine AWp.seqKL hV [1, 5, 47] ?_
    simp [sp57, sp75, sp77, sp79, sp81, sp59, sp60, sp61, hl, elAt]
    repeat refine And.intro (by first | omega | grind) ?_
    refine AWp.cond rfl (fun h1 => ?_) fun h1 => ?_
    · try simp at h1
      refine AWp.seqKL hV [2] ?_
      simp [sp57, sp75, sp77, sp79, sp81, sp59, sp60, sp61, hl, elAt]
      repeat refine And.intro (by first | omega | grind) ?_
      refine AWp.ret ?_
      simp [retOk, resT, thenQ, inBlockQ, markOk, byOk, hl, elAt, *]
      all_goals first | omega | grind [within]
    · try simp at h1
      all_goals
        refine AWp.skip ?_
        try simp only [thenQ, inBlockQ]
        refine AWp.seqKL hV [1, 5, 6] ?_
        simp [sp57, sp75, sp77, sp79, sp81, sp59, sp60, sp61, hl, elAt]
        repeat refine And.intro (by first | omega | grind) ?_
        refine AWp.seq ?_
        refine AWp.seqKL hV [1, 5, 6, 50] ?_
        simp [sp57, sp75, sp77, sp79, sp81, sp59, sp60, sp61, hl, elAt]
        repeat refine And.intro (by first | omega | grind) ?_
        refine AWp.cond rfl (fun h2 => ?_) fun h2 => ?_
        · try simp at h2
          refine AWp.region hV ?_
          simp [sp57, sp75, sp77, sp79, sp81, sp59, sp60, sp61, hl, elAt]
          repeat refine And.intro (by first | omega | grind) ?_
          try simp only [thenQ, inBlockQ]
          refine AWp.seqKL hV [2] ?_
          simp [sp57, sp75, sp77, sp79, sp81, sp59, sp60, sp61, hl, elAt]
          repeat refine And.intro (by first | omega | grind) ?_
          refine AWp.ret ?_
          simp [retOk, resT, thenQ, inBlockQ, markOk, byOk, hl, elAt, *]
          all_goals first | omega | grind [within]
        · try simp at h2
          refine AWp.skip ?_
          try simp only [thenQ, inBlockQ]
          refine AWp.seqKL hV [2] ?_
          simp [sp57, sp75, sp77, sp79, sp81, sp59, sp60, sp61, hl, elAt]
          repeat refine And.intro (by first | omega | grind) ?_
          refine AWp.ret ?_
          simp [retOk, resT, thenQ, inBlockQ, markOk, byOk, hl, elAt, *]
          all_goals first | omega | grind [within]
  · refine AWp.seqDFL hV mixed 8 [6] [1, 3, 4] (by decide) ?_
    simp [sp57, sp75, sp77, sp79, sp81, sp59, sp60, sp61, hl, elAt]
    repeat refine And.intro (by first | omega | grind) ?_
    refine AWp.seqKL hV [1, 3, 4, 5] ?_
    simp [sp57, sp75, sp77, sp79, sp81, sp59, sp60, sp61, hl, elAt]
    repeat refine And.intro (by first | omega | grind) ?_
    refine AWp.seq ?_
    refine AWp.seqKL hV [1, 5, 47] ?_
    simp [sp57, sp75, sp77, sp79, sp81, sp59, sp60, sp61, hl, elAt]
    repeat refine And.intro (by first | omega | grind) ?_
    refine AWp.cond rfl (fun h1 => ?_) fun h1 => ?_
    · try simp at h1
      refine AWp.seqKL hV [2] ?_
      simp [sp57, sp75, sp77, sp79, sp81, sp59, sp60, sp61, hl, elAt]
      repeat refine And.intro (by first | omega | grind) ?_
      refine AWp.ret ?_
      simp [retOk, resT, thenQ, inBlockQ, markOk, byOk, hl, elAt, *]
      all_goals first | omega | grind [within]
    · try simp at h1
      all_goals
        refine AWp.skip ?_
        try simp only [thenQ, inBlockQ]
        refine AWp.seqKL hV [1, 5, 6] ?_
        simp [sp57, sp75, sp77, sp79, sp81, sp59, sp60, sp61, hl, elAt]
        repeat refine And.intro (by first | omega | grind) ?_
        refine AWp.seq ?_
        refine AWp.seqKL hV [1, 5, 6, 50] ?_
        simp [sp57, sp75, sp77, sp79, sp81, sp59, sp60, sp61, hl, elAt]
        repeat refine And.intro (by first | omega | grind) ?_
        refine AWp.cond rfl (fun h2 => ?_) fun h2 => ?_
        · try simp at h2
          refine AWp.region hV ?_
          simp [sp57, sp75, sp77, sp79, sp81, sp59, sp60, sp61, hl, elAt]
          repeat refine And.intro (by first | omega | grind) ?_
          try simp only [thenQ, inBlockQ]
          refine AWp.seqKL hV [2] ?_
          simp [sp57, sp75, sp77, sp79, sp81, sp59, sp60, sp61, hl, elAt]
          repeat refine And.intro (by first | omega | grind) ?_
          refine AWp.ret ?_
          simp [retOk, resT, thenQ, inBlockQ, markOk, byOk, hl, elAt, *]
          all_goals first | omega | grind [within]
        · try simp at h2
          refine AWp.skip ?_
          try simp only [thenQ, inBlockQ]
          refine AWp.seqKL hV [2] ?_
          simp [sp57, sp75, sp77, sp79, sp81, sp59, sp60, sp61, hl, elAt]
          repeat refine And.intro (by first | omega | grind) ?_
          refine AWp.ret ?_
          simp [retOk, resT, thenQ, inBlockQ, markOk, byOk, hl, elAt, *]
          all_goals first | omega | grind [within]
  · refine AWp.seqDFL hV mixed 8 [6] [1, 3, 4] (by decide) ?_
    simp [sp57, sp75, sp77, sp79, sp81, sp59, sp60, sp61, hl1, hl2, hl3, hl4, elAt]
    repeat refine And.intro (by first | omega | grind) ?_
    refine AWp.seqKL hV [1, 3, 4, 5] ?_
    simp [sp57, sp75, sp77, sp79, sp81, sp59, sp60, sp61, hl1, hl2, hl3, hl4, elAt]
    repeat refine And.intro (by first | omega | grind) ?_
    refine AWp.seq ?_
    refine AWp.seqKL hV [1, 5, 47] ?_
    simp [sp57, sp75, sp77, sp79, sp81, sp59, sp60, sp61, hl1, hl2, hl3, hl4, elAt]
    repeat refine And.intro (by first | omega | grind) ?_
    refine AWp.cond rfl (fun h1 => ?_) fun h1 => ?_
    · try simp at h1
      refine AWp.seqKL hV [2] ?_
      simp [sp57, sp75, sp77, sp79, sp81, sp59, sp60, sp61, hl1, hl2, hl3, hl4, elAt]
      repeat refine And.intro (by first | omega | grind) ?_
      refine AWp.ret ?_
      simp [retOk, resT, thenQ, inBlockQ, markOk, byOk, hl1, hl2, hl3, hl4, elAt, *]
      all_goals first | omega | grind [within]
    · try simp at h1
      all_goals
        refine AWp.skip ?_
        try simp only [thenQ, inBlockQ]
        refine AWp.seqKL hV [1, 5, 6] ?_
        simp [sp57, sp75, sp77, sp79, sp81, sp59, sp60, sp61, hl1, hl2, hl3, hl4, elAt]
        repeat refine And.intro (by first | omega | grind) ?_
        refine AWp.seq ?_
        refine AWp.seqKL hV [1, 5, 6, 50] ?_
        simp [sp57, sp75, sp77, sp79, sp81, sp59, sp60, sp61, hl1, hl2, hl3, hl4, elAt]
        repeat refine And.intro (by first | omega | grind) ?_
        refine AWp.cond rfl (fun h2 => ?_) fun h2 => ?_
        · try simp at h2
          refine AWp.region hV ?_
          simp [sp57, sp75, sp77, sp79, sp81, sp59, sp60, sp61, hl1, hl2, hl3, hl4, elAt]
          repeat refine And.intro (by first | omega | grind) ?_
          try simp only [thenQ, inBlockQ]
          refine AWp.seqKL hV [2] ?_
          simp [sp57, sp75, sp77, sp79, sp81, sp59, sp60, sp61, hl1, hl2, hl3, hl4, elAt]
          repeat refine And.intro (by first | omega | grind) ?_
          refine AWp.ret ?_
          simp [retOk, resT, thenQ, inBlockQ, markOk, byOk, hl1, hl2, hl3, hl4, elAt, *]
          all_goals first | omega | grind [within]
        · try simp at h2
          refine AWp.skip ?_
          try simp only [thenQ, inBlockQ]
          refine AWp.seqKL hV [2] ?_
          simp [sp57, sp75, sp77, sp79, sp81, sp59, sp60, sp61, hl1, hl2, hl3, hl4, elAt]
          repeat refine And.intro (by first | omega | grind) ?_
          refine AWp.ret ?_
          simp [retOk, resT, thenQ, inBlockQ, markOk, byOk, hl1, hl2, hl3, hl4, elAt, *]
          all_goals first | omega | grind [within]
end Go.Proofs.Ytpbhcpeilgmkeaa

/-
  Walks of the events: printed by gen1.py.
-/
namespace Go.Proofs.Ytpbhcpeilgmkeaa
open Go Go.Eva Enc
variable [Drw]
set_option linter.unusedSectionVars false
set_option linter.unusedSimpArgs false
set_option linter.unusedVariables false
set_option maxRecDepth 4000
attribute [local congr] AWp.congrS
attribute [local simp] evalSeq opRes guardPc evalOp evT Eva.get startT strip putT Eva.after constT typed obAll holds dstOk R.ok R.bad ofD binD unD pickT subL subP Op.operands Call.operands toD argsD callD callT typedAll cfind quietT spec0 spec1 spec2 spec3 enc_int enc_bool enc_str enc_fn enc_list dec_int dec_bool dec_str dec_fn dec_list size_int size_str enc_R enc_M enc_E dec_R dec_M dec_E size_R size_M size_E eta_R eta_M eta_E enc_rune size_rune dec_rune eta_rune runesD_eq map_dec_enc map_dec_comp cellsT D.cells T.oneT D.one mkT unD1 setAt loadAs loadEl storeAs fieldP fieldV sizeE intOfT indexP appendT lenT sliceT elemSize arith lfsOk lfOk beqL_R beqL_M beqL_E beqL_R0 beqL_M0 isAggD mkD fillD placeS TD.agg env restr List.map keyIdx keysInt mapTy lookT mapPutT mapDelT mapOf indexS convT evalPure range1 range2 range3 range4 eqT4 eqT38 eqT40 eqT42 te1 te2 te3 te4 te5 te6 te7 te8 te9 te10 te11 te12 te13 te14 te15 te16 te17 te18 te19 te21 te22 te23 te24 te25 te27 te28 te29 te31 te32 te34 te35 te36 te37 te38 te39 te40 te41 te42 te43 te44 te45 te46 te47 te49 te50 te51 te52 te53 te54 te55 te56 te57 te59 te60 te61 te62 te63 te64 te65 te66 te67 te68 te69 te70 te71 te72 te73 te74 te75 te76 te77 te78 te79 te80 te82 te83 te84 te85 te86 te87 te88 te90 te91 te92 te94 te95 te96 te97 te98 te99 te100 te101 te102 te103 te104 te105 te106 te107 te108 te109 te110 te111 te112 te113 te114 te116 te117 te118 te119 te120 te121 te122 te123 te124 te125 te126 te127 te128 te129 te130 te131 te132 te133 te134

def sp27 : Eva.Spec := spec1 (fun (e : Event) => True) fun (e : Event) => enc (eventOk e)
set_option maxHeartbeats 1000000 in
theorem ok27 : SpecOk Try.prog 27 sp27 := by
  have hV : VOk Try.prog (env [(45, sp45), (40, sp40), (46, sp46)]) := env_ok ⟨ok45, ok40, ok46, trivial⟩
  refine SpecOk.of1 (Enters.of Try.func27 (by decide)) fun e hp => ?_
  refine PureCon.of hV Try.func27 rfl (by rw [Try.ntmps27]; simp) fun w0 I0 => ?_
  rw [Try.ntmps27]
  refine AWp.seqKL hV [1] ?_
  simp [sp45, sp40, sp46]
  repeat refine And.intro (by first | omega | grind) ?_
  refine AWp.seqKL hV [1, 3] ?_
  simp [sp45, sp40, sp46]
  repeat refine And.intro (by first | omega | grind) ?_
  refine AWp.seqKL hV [1, 3, 4] ?_
  simp [sp45, sp40, sp46]
  repeat refine And.intro (by first | omega | grind) ?_
  refine AWp.seq ?_
  refine AWp.seqKL hV [1, 3, 4, 10] ?_
  simp [sp45, sp40, sp46]
  repeat refine And.intro (by first | omega | grind) ?_
  refine AWp.block ?_
  refine AWp.seqKL hV [1, 3, 4, 10, 11] ?_
  simp [sp45, sp40, sp46]
  repeat refine And.intro (by first | omega | grind) ?_
  refine AWp.cond rfl (fun h1 => ?_) fun h1 => ?_
  · try simp at h1
    refine AWp.region hV ?_
    simp [sp45, sp40, sp46]
    repeat refine And.intro (by first | omega | grind) ?_
    try simp only [thenQ, inBlockQ]
    refine AWp.seqKL hV [2] ?_
    simp [sp45, sp40, sp46]
    repeat refine And.intro (by first | omega | grind) ?_
    refine AWp.ret ?_
    simp [retOk, resT, thenQ, inBlockQ, eventOk, *]
    all_goals first | omega | grind
  · try simp at h1
    refine AWp.seqKL hV [1, 3, 4, 10, 21] ?_
    simp [sp45, sp40, sp46]
    repeat refine And.intro (by first | omega | grind) ?_
    refine AWp.cond rfl (fun h2 => ?_) fun h2 => ?_
    · try simp at h2
      refine AWp.region hV ?_
      simp [sp45, sp40, sp46]
      repeat refine And.intro (by first | omega | grind) ?_
      try simp only [thenQ, inBlockQ]
      refine AWp.seqKL hV [2] ?_
      simp [sp45, sp40, sp46]
      repeat refine And.intro (by first | omega | grind) ?_
      refine AWp.ret ?_
      simp [retOk, resT, thenQ, inBlockQ, eventOk, *]
      all_goals first | omega | grind
    · try simp at h2
      refine AWp.seqKL hV [1, 3, 4, 29] ?_
      simp [sp45, sp40, sp46]
      repeat refine And.intro (by first | omega | grind) ?_
      refine AWp.cond rfl (fun h3 => ?_) fun h3 => ?_
      · try simp at h3
        refine AWp.region hV ?_
        simp [sp45, sp40, sp46]
        repeat refine And.intro (by first | omega | grind) ?_
        try simp only [thenQ, inBlockQ]
        refine AWp.seqKL hV [2] ?_
        simp [sp45, sp40, sp46]
        repeat refine And.intro (by first | omega | grind) ?_
        refine AWp.ret ?_
        simp [retOk, resT, thenQ, inBlockQ, eventOk, *]
        all_goals first | omega | grind
      · try simp at h3
        refine AWp.skip ?_
        try simp only [thenQ, inBlockQ]
        refine AWp.seqKL hV [2] ?_
        simp [sp45, sp40, sp46]
        repeat refine And.intro (by first | omega | grind) ?_
        refine AWp.ret ?_
        simp [retOk, resT, thenQ, inBlockQ, eventOk, *]
        all_goals first | omega | grind

def sp26 : Eva.Spec := spec1 (fun (e : Event) => True) fun (e : Event) => enc (wrongE e)
theorem ok26 : SpecOk Try.prog 26 sp26 := by
  have hV : VOk Try.prog (env [(27, sp27)]) := env_ok ⟨ok27, trivial⟩
  refine SpecOk.of1 (Enters.of Try.func26 (by decide)) fun e hp => ?_
  refine PureCon.of hV Try.func26 rfl (by rw [Try.ntmps26]; simp) fun w0 I0 => ?_
  rw [Try.ntmps26]
  refine AWp.seqKL hV [1] ?_
  simp [sp27]
  repeat refine And.intro (by first | omega | grind) ?_
  refine AWp.seqKL hV [2] ?_
  simp [sp27]
  repeat refine And.intro (by first | omega | grind) ?_
  refine AWp.ret ?_
  simp [retOk, resT, thenQ, inBlockQ, wrongE, *]
  all_goals first | omega | grind

def sp47 : Eva.Spec := spec2 (fun (l : List Event) (f : Eva.Fn) => l.length ≤ 1000000000 ∧ f = ⟨26⟩) fun (l : List Event) (f : Eva.Fn) => enc (idxI wrongE l)
theorem ok47 : SpecOk Try.prog 47 sp47 := by
  have hV : VOk Try.prog (env [(26, sp26)]) := env_ok ⟨ok26, trivial⟩
  refine SpecOk.of2 (Enters.of Try.func47 (by decide)) fun l f hp => ?_
  obtain ⟨hp, rfl⟩ := hp
  refine PureCon.of hV Try.func47 rfl (by rw [Try.ntmps47]; simp) fun w0 I0 => ?_
  rw [Try.ntmps47]
  refine AWp.seqKL hV [0, 1] ?_
  simp [sp26]
  repeat refine And.intro (by first | omega | grind) ?_
  refine AWp.seq ?_
  refine AWp.seqKL hV [0, 1, 7, 8] ?_
  simp [sp26]
  repeat refine And.intro (by first | omega | grind) ?_
  refine AWp.block ?_
  refine AWp.loop (X := Nat) (fun z => ⟨[(0, .d (enc l)), (1, .d (.fn 26)), (7, .d (.int .i64 l.length)), (8, .d (.int .i64 (z : Int)))], []⟩) (fun z => z ≤ l.length ∧ (l.take z).any wrongE = false) (fun z => l.length - z) (0) ?_ ?_ fun z hz => ?_
  · simp
  · refine Sub.ren [] (by decide) ?_ ?_ <;> simp [renL, AO.ren, forgetsR, T.ren, idx]
  refine AWp.seqKL hV [0, 1, 7, 8, 9] ?_
  simp [sp26]
  repeat refine And.intro (by first | omega | grind) ?_
  refine AWp.seq ?_
  refine AWp.cond rfl (fun h1 => ?_) fun h1 => ?_
  · try simp at h1
    obtain ⟨x, hx⟩ := ex_get h1
    have hs := any_take_succ (p := wrongE) hx
    refine AWp.skip ?_
    try simp only [thenQ, inBlockQ]
    refine AWp.seq ?_
    refine AWp.block ?_
    refine AWp.seqKL hV [0, 1, 5, 7, 8] ?_
    simp [sp26, elAt_enc hx]
    repeat refine And.intro (by first | omega | grind) ?_
    refine AWp.seqKL hV [0, 1, 5, 7, 8, 16] ?_
    simp [sp26, elAt_enc hx]
    repeat refine And.intro (by first | omega | grind) ?_
    refine AWp.cond rfl (fun h2 => ?_) fun h2 => ?_
    · try simp at h2
      have hi := idxI_at hz.2 hx h2
      refine AWp.seqKL hV [4] ?_
      simp [sp26, elAt_enc hx]
      repeat refine And.intro (by first | omega | grind) ?_
      refine AWp.ret ?_
      simp [retOk, resT, thenQ, inBlockQ, elAt_enc hx, *]
      all_goals first | omega | grind
    · try simp at h2
      refine AWp.skip ?_
      try simp only [thenQ, inBlockQ]
      refine AWp.region hV ?_
      simp [sp26, elAt_enc hx]
      repeat refine And.intro (by first | omega | grind) ?_
      try simp only [thenQ, inBlockQ]
      refine ⟨z + 1, ?_, ?_, Sub.ren [] (by decide) ?_ ?_⟩
      · first | omega | grind
      · first | omega | grind
      · simp [renL, AO.ren, T.ren, idx, elAt_enc hx]
      · simp [forgetsR, T.ren, idx, elAt_enc hx] <;> omega
  · try simp at h1
    have hi := idxI_end hz.2 h1
    refine AWp.exit ?_
    simp [thenQ, inBlockQ]
    try simp only [thenQ, inBlockQ]
    refine AWp.seqKL hV [4] ?_
    simp [sp26]
    repeat refine And.intro (by first | omega | grind) ?_
    refine AWp.ret ?_
    simp [retOk, resT, thenQ, inBlockQ, *]
    all_goals first | omega | grind

def sp28 : Eva.Spec := spec2 (fun (l : List Event) (f : Eva.Fn) => l.length ≤ 1000000000 ∧ f = ⟨26⟩) fun (l : List Event) (f : Eva.Fn) => enc (l.any wrongE)
theorem ok28 : SpecOk Try.prog 28 sp28 := by
  have hV : VOk Try.prog (env [(47, sp47)]) := env_ok ⟨ok47, trivial⟩
  refine SpecOk.of2 (Enters.of Try.func28 (by decide)) fun l f hp => ?_
  obtain ⟨hp, rfl⟩ := hp
  have hi := idxI_any wrongE l
  refine PureCon.of hV Try.func28 rfl (by rw [Try.ntmps28]; simp) fun w0 I0 => ?_
  rw [Try.ntmps28]
  refine AWp.seqKL hV [0, 1] ?_
  simp [sp47]
  repeat refine And.intro (by first | omega | grind) ?_
  refine AWp.seqKL hV [4] ?_
  simp [sp47]
  repeat refine And.intro (by first | omega | grind) ?_
  refine AWp.ret ?_
  simp [retOk, resT, thenQ, inBlockQ, *]
  all_goals first | omega | grind

def sp34 : Eva.Spec := spec1 (fun (l : List Event) => l.length ≤ 1000000000) fun (l : List Event) => enc (l.all eventOk)
theorem ok34 : SpecOk Try.prog 34 sp34 := by
  have hV : VOk Try.prog (env [(41, sp41)]) := env_ok ⟨ok41, trivial⟩
  refine SpecOk.of1 (Enters.of Try.func34 (by decide)) fun l hp => ?_
  refine PureCon.of hV Try.func34 rfl (by rw [Try.ntmps34]; simp) fun w0 I0 => ?_
  rw [Try.ntmps34]
  refine AWp.seqKL hV [0] ?_
  simp [sp41]
  repeat refine And.intro (by first | omega | grind) ?_
  refine AWp.seq ?_
  refine AWp.seqKL hV [0, 3] ?_
  simp [sp41]
  repeat refine And.intro (by first | omega | grind) ?_
  refine AWp.block ?_
  refine AWp.loop (X := Nat) (fun z => ⟨[(0, .d (enc l)), (3, .d (.int .i64 (z : Int)))], []⟩) (fun z => z ≤ l.length ∧ (l.take z).all eventOk = true) (fun z => l.length - z) (0) ?_ ?_ fun z hz => ?_
  · simp
  · refine Sub.ren [] (by decide) ?_ ?_ <;> simp [renL, AO.ren, forgetsR, T.ren, idx]
  refine AWp.seq ?_
  refine AWp.seqKL hV [0, 3, 8] ?_
  simp [sp41]
  repeat refine And.intro (by first | omega | grind) ?_
  refine AWp.cond rfl (fun h1 => ?_) fun h1 => ?_
  · try simp at h1
    obtain ⟨x, hx⟩ := ex_get h1
    have hs := all_take_succ (p := eventOk) hx
    refine AWp.skip ?_
    try simp only [thenQ, inBlockQ]
    refine AWp.seq ?_
    refine AWp.block ?_
    refine AWp.seqKL hV [0, 3, 4] ?_
    simp [sp41, elAt_enc hx]
    repeat refine And.intro (by first | omega | grind) ?_
    refine AWp.seqKL hV [0, 3, 17] ?_
    simp [sp41, elAt_enc hx]
    repeat refine And.intro (by first | omega | grind) ?_
    refine AWp.cond rfl (fun h2 => ?_) fun h2 => ?_
    · try simp at h2
      have hf := all_false_of hx h2
      refine AWp.seqKL hV [2] ?_
      simp [sp41, elAt_enc hx]
      repeat refine And.intro (by first | omega | grind) ?_
      refine AWp.ret ?_
      simp [retOk, resT, thenQ, inBlockQ, elAt_enc hx, *]
      all_goals first | omega | grind
    · try simp at h2
      refine AWp.skip ?_
      try simp only [thenQ, inBlockQ]
      refine AWp.region hV ?_
      simp [sp41, elAt_enc hx]
      repeat refine And.intro (by first | omega | grind) ?_
      try simp only [thenQ, inBlockQ]
      refine ⟨z + 1, ?_, ?_, Sub.ren [] (by decide) ?_ ?_⟩
      · first | omega | grind
      · first | omega | grind
      · simp [renL, AO.ren, T.ren, idx, elAt_enc hx]
      · simp [forgetsR, T.ren, idx, elAt_enc hx] <;> omega
  · try simp at h1
    have he := all_take_end (p := eventOk) h1
    refine AWp.exit ?_
    simp [thenQ, inBlockQ]
    try simp only [thenQ, inBlockQ]
    refine AWp.seqKL hV [2] ?_
    simp [sp41]
    repeat refine And.intro (by first | omega | grind) ?_
    refine AWp.ret ?_
    simp [retOk, resT, thenQ, inBlockQ, *]
    all_goals first | omega | grind

def sp21 : Eva.Spec := spec1 (fun (l : List Event) => l.length ≤ 1000000000) fun (l : List Event) => enc (decide (l.length ≤ 60) && l.all eventOk)
theorem ok21 : SpecOk Try.prog 21 sp21 := by
  have hV : VOk Try.prog (env [(10, sp10), (41, sp41)]) := env_ok ⟨ok10, ok41, trivial⟩
  refine SpecOk.of1 (Enters.of Try.func21 (by decide)) fun l hp => ?_
  refine PureCon.of hV Try.func21 rfl (by rw [Try.ntmps21]; simp) fun w0 I0 => ?_
  rw [Try.ntmps21]
  refine AWp.seqKL hV [0] ?_
  simp [sp10, sp41]
  repeat refine And.intro (by first | omega | grind) ?_
  refine AWp.seq ?_
  refine AWp.seqKL hV [0, 7] ?_
  simp [sp10, sp41]
  repeat refine And.intro (by first | omega | grind) ?_
  refine AWp.cond rfl (fun h1 => ?_) fun h1 => ?_
  · try simp at h1
    refine AWp.seqKL hV [2] ?_
    simp [sp10, sp41]
    repeat refine And.intro (by first | omega | grind) ?_
    refine AWp.ret ?_
    simp [retOk, resT, thenQ, inBlockQ, *]
    all_goals first | omega | grind
  · try simp at h1
    refine AWp.skip ?_
    try simp only [thenQ, inBlockQ]
    refine AWp.seq ?_
    refine AWp.seqKL hV [8, 9, 10] ?_
    simp [sp10, sp41]
    repeat refine And.intro (by first | omega | grind) ?_
    refine AWp.block ?_
    refine AWp.loop (X := Nat) (fun z => ⟨[(8, .d (enc l)), (9, .d (.int .i64 l.length)), (10, .d (.int .i64 (z : Int)))], []⟩) (fun z => z ≤ l.length ∧ (l.take z).all eventOk = true) (fun z => l.length - z) (0) ?_ ?_ fun z hz => ?_
    · simp
    · refine Sub.ren [] (by decide) ?_ ?_ <;> simp [renL, AO.ren, forgetsR, T.ren, idx]
    refine AWp.seqKL hV [8, 9, 10, 11] ?_
    simp [sp10, sp41]
    repeat refine And.intro (by first | omega | grind) ?_
    refine AWp.seq ?_
    refine AWp.cond rfl (fun h2 => ?_) fun h2 => ?_
    · try simp at h2
      obtain ⟨x, hx⟩ := ex_get h2
      have hs := all_take_succ (p := eventOk) hx
      refine AWp.skip ?_
      try simp only [thenQ, inBlockQ]
      refine AWp.seq ?_
      refine AWp.block ?_
      refine AWp.seqKL hV [4, 8, 9, 10] ?_
      simp [sp10, sp41, elAt_enc hx]
      repeat refine And.intro (by first | omega | grind) ?_
      refine AWp.seqKL hV [8, 9, 10, 16] ?_
      simp [sp10, sp41, elAt_enc hx]
      repeat refine And.intro (by first | omega | grind) ?_
      refine AWp.cond rfl (fun h3 => ?_) fun h3 => ?_
      · try simp at h3
        have hf := all_false_of hx h3
        refine AWp.seqKL hV [2] ?_
        simp [sp10, sp41, elAt_enc hx]
        repeat refine And.intro (by first | omega | grind) ?_
        refine AWp.ret ?_
        simp [retOk, resT, thenQ, inBlockQ, elAt_enc hx, *]
        all_goals first | omega | grind
      · try simp at h3
        refine AWp.skip ?_
        try simp only [thenQ, inBlockQ]
        refine AWp.region hV ?_
        simp [sp10, sp41, elAt_enc hx]
        repeat refine And.intro (by first | omega | grind) ?_
        try simp only [thenQ, inBlockQ]
        refine ⟨z + 1, ?_, ?_, Sub.ren [] (by decide) ?_ ?_⟩
        · first | omega | grind
        · first | omega | grind
        · simp [renL, AO.ren, T.ren, idx, elAt_enc hx]
        · simp [forgetsR, T.ren, idx, elAt_enc hx] <;> omega
    · try simp at h2
      have he := all_take_end (p := eventOk) h2
      refine AWp.exit ?_
      simp [thenQ, inBlockQ]
      try simp only [thenQ, inBlockQ]
      refine AWp.seqKL hV [2] ?_
      simp [sp10, sp41]
      repeat refine And.intro (by first | omega | grind) ?_
      refine AWp.ret ?_
      simp [retOk, resT, thenQ, inBlockQ, *]
      all_goals first | omega | grind
end Go.Proofs.Ytpbhcpeilgmkeaa

/-
  Walks of the events: printed by gen1.py.
-/
namespace Go.Proofs.Ytpbhcpeilgmkeaa
open Go Go.Eva Enc
variable [Drw]
set_option linter.unusedSectionVars false
set_option linter.unusedSimpArgs false
set_option linter.unusedVariables false
set_option maxRecDepth 4000
attribute [local congr] AWp.congrS
attribute [local simp] evalSeq opRes guardPc evalOp evT Eva.get startT strip putT Eva.after constT typed obAll holds dstOk R.ok R.bad ofD binD unD pickT subL subP Op.operands Call.operands toD argsD callD callT typedAll cfind quietT spec0 spec1 spec2 spec3 enc_int enc_bool enc_str enc_fn enc_list dec_int dec_bool dec_str dec_fn dec_list size_int size_str enc_R enc_M enc_E dec_R dec_M dec_E size_R size_M size_E eta_R eta_M eta_E enc_rune size_rune dec_rune eta_rune runesD_eq map_dec_enc map_dec_comp cellsT D.cells T.oneT D.one mkT unD1 setAt loadAs loadEl storeAs fieldP fieldV sizeE intOfT indexP appendT lenT sliceT elemSize arith lfsOk lfOk beqL_R beqL_M beqL_E beqL_R0 beqL_M0 isAggD mkD fillD placeS TD.agg env restr List.map keyIdx keysInt mapTy lookT mapPutT mapDelT mapOf indexS convT evalPure range1 range2 range3 range4 eqT4 eqT38 eqT40 eqT42 te1 te2 te3 te4 te5 te6 te7 te8 te9 te10 te11 te12 te13 te14 te15 te16 te17 te18 te19 te21 te22 te23 te24 te25 te27 te28 te29 te31 te32 te34 te35 te36 te37 te38 te39 te40 te41 te42 te43 te44 te45 te46 te47 te49 te50 te51 te52 te53 te54 te55 te56 te57 te59 te60 te61 te62 te63 te64 te65 te66 te67 te68 te69 te70 te71 te72 te73 te74 te75 te76 te77 te78 te79 te80 te82 te83 te84 te85 te86 te87 te88 te90 te91 te92 te94 te95 te96 te97 te98 te99 te100 te101 te102 te103 te104 te105 te106 te107 te108 te109 te110 te111 te112 te113 te114 te116 te117 te118 te119 te120 te121 te122 te123 te124 te125 te126 te127 te128 te129 te130 te131 te132 te133 te134

def sp15 : Eva.Spec := spec2 (fun (a : List Event) (b : List Event) => a.length ≤ 1000000000) fun (a : List Event) (b : List Event) => enc (decide (a = b))
theorem ok15 : SpecOk Try.prog 15 sp15 := by
  have hV : VOk Try.prog (env []) := env_ok trivial
  refine SpecOk.of2 (Enters.of Try.func15 (by decide)) fun a b hp => ?_
  refine PureCon.of hV Try.func15 rfl (by rw [Try.ntmps15]; simp) fun w0 I0 => ?_
  rw [Try.ntmps15]
  refine AWp.seqKL hV [0, 1] ?_
  simp
  repeat refine And.intro (by first | omega | grind) ?_
  refine AWp.seq ?_
  refine AWp.seqKL hV [0, 1, 10] ?_
  simp
  repeat refine And.intro (by first | omega | grind) ?_
  refine AWp.cond rfl (fun h1 => ?_) fun h1 => ?_
  · try simp at h1
    have hne : a ≠ b := by rintro rfl; simp at h1
    refine AWp.seqKL hV [4] ?_
    simp
    repeat refine And.intro (by first | omega | grind) ?_
    refine AWp.ret ?_
    simp [retOk, resT, thenQ, inBlockQ, *]
    all_goals first | omega | grind
  · try simp at h1
    have hl : a.length = b.length := by omega
    refine AWp.skip ?_
    try simp only [thenQ, inBlockQ]
    refine AWp.seq ?_
    refine AWp.seqKL hV [0, 1, 5] ?_
    simp
    repeat refine And.intro (by first | omega | grind) ?_
    refine AWp.block ?_
    refine AWp.loop (X := Nat) (fun z => ⟨[(0, .d (enc a)), (1, .d (enc b)), (5, .d (.int .i64 (z : Int)))], []⟩) (fun z => z ≤ a.length ∧ a.take z = b.take z) (fun z => a.length - z) (0) ?_ ?_ fun z hz => ?_
    · simp
    · refine Sub.ren [] (by decide) ?_ ?_ <;> simp [renL, AO.ren, forgetsR, T.ren, idx]
    refine AWp.seq ?_
    refine AWp.seqKL hV [0, 1, 5, 14] ?_
    simp
    repeat refine And.intro (by first | omega | grind) ?_
    refine AWp.cond rfl (fun h2 => ?_) fun h2 => ?_
    · try simp at h2
      obtain ⟨x, hx⟩ := ex_get h2
      obtain ⟨y, hy⟩ := ex_get (l := b) (k := z) (by omega)
      have ht := take_eq_succ hz.2 hx hy
      refine AWp.skip ?_
      try simp only [thenQ, inBlockQ]
      refine AWp.seq ?_
      refine AWp.block ?_
      refine AWp.seqDKL hV mixed 9 [0, 1, 5, 25] (by decide) ?_
      simp [elAt_enc hx, elAt_enc hy]
      repeat refine And.intro (by first | omega | grind) ?_
      refine AWp.cond rfl (fun h3 => ?_) fun h3 => ?_
      · try simp at h3
        have hne := ne_of_get hx hy h3
        refine AWp.seqKL hV [4] ?_
        simp [elAt_enc hx, elAt_enc hy]
        repeat refine And.intro (by first | omega | grind) ?_
        refine AWp.ret ?_
        simp [retOk, resT, thenQ, inBlockQ, elAt_enc hx, elAt_enc hy, *]
        all_goals first | omega | grind
      · try simp at h3
        refine AWp.skip ?_
        try simp only [thenQ, inBlockQ]
        refine AWp.region hV ?_
        simp [elAt_enc hx, elAt_enc hy]
        repeat refine And.intro (by first | omega | grind) ?_
        try simp only [thenQ, inBlockQ]
        refine ⟨z + 1, ?_, ?_, Sub.ren [] (by decide) ?_ ?_⟩
        · first | omega | grind
        · first | omega | grind
        · simp [renL, AO.ren, T.ren, idx, elAt_enc hx, elAt_enc hy]
        · simp [forgetsR, T.ren, idx, elAt_enc hx, elAt_enc hy] <;> omega
    · try simp at h2
      have he := take_eq_end hz.2 h2 hl
      refine AWp.exit ?_
      simp [thenQ, inBlockQ]
      try simp only [thenQ, inBlockQ]
      refine AWp.seqKL hV [4] ?_
      simp
      repeat refine And.intro (by first | omega | grind) ?_
      refine AWp.ret ?_
      simp [retOk, resT, thenQ, inBlockQ, *]
      all_goals first | omega | grind

def sp18 : Eva.Spec := spec2 (fun (a : List Mark) (b : List Mark) => a.length ≤ 1000000000) fun (a : List Mark) (b : List Mark) => enc (decide (a = b))
theorem ok18 : SpecOk Try.prog 18 sp18 := by
  have hV : VOk Try.prog (env []) := env_ok trivial
  refine SpecOk.of2 (Enters.of Try.func18 (by decide)) fun a b hp => ?_
  refine PureCon.of hV Try.func18 rfl (by rw [Try.ntmps18]; simp) fun w0 I0 => ?_
  rw [Try.ntmps18]
  refine AWp.seqKL hV [0, 1] ?_
  simp
  repeat refine And.intro (by first | omega | grind) ?_
  refine AWp.seq ?_
  refine AWp.seqKL hV [0, 1, 10] ?_
  simp
  repeat refine And.intro (by first | omega | grind) ?_
  refine AWp.cond rfl (fun h1 => ?_) fun h1 => ?_
  · try simp at h1
    have hne : a ≠ b := by rintro rfl; simp at h1
    refine AWp.seqKL hV [4] ?_
    simp
    repeat refine And.intro (by first | omega | grind) ?_
    refine AWp.ret ?_
    simp [retOk, resT, thenQ, inBlockQ, *]
    all_goals first | omega | grind
  · try simp at h1
    have hl : a.length = b.length := by omega
    refine AWp.skip ?_
    try simp only [thenQ, inBlockQ]
    refine AWp.seq ?_
    refine AWp.seqKL hV [0, 1, 5] ?_
    simp
    repeat refine And.intro (by first | omega | grind) ?_
    refine AWp.block ?_
    refine AWp.loop (X := Nat) (fun z => ⟨[(0, .d (enc a)), (1, .d (enc b)), (5, .d (.int .i64 (z : Int)))], []⟩) (fun z => z ≤ a.length ∧ a.take z = b.take z) (fun z => a.length - z) (0) ?_ ?_ fun z hz => ?_
    · simp
    · refine Sub.ren [] (by decide) ?_ ?_ <;> simp [renL, AO.ren, forgetsR, T.ren, idx]
    refine AWp.seq ?_
    refine AWp.seqKL hV [0, 1, 5, 14] ?_
    simp
    repeat refine And.intro (by first | omega | grind) ?_
    refine AWp.cond rfl (fun h2 => ?_) fun h2 => ?_
    · try simp at h2
      obtain ⟨x, hx⟩ := ex_get h2
      obtain ⟨y, hy⟩ := ex_get (l := b) (k := z) (by omega)
      have ht := take_eq_succ hz.2 hx hy
      refine AWp.skip ?_
      try simp only [thenQ, inBlockQ]
      refine AWp.seq ?_
      refine AWp.block ?_
      refine AWp.seqDKL hV mixed 9 [0, 1, 5, 25] (by decide) ?_
      simp [elAt_enc hx, elAt_enc hy]
      repeat refine And.intro (by first | omega | grind) ?_
      refine AWp.cond rfl (fun h3 => ?_) fun h3 => ?_
      · try simp at h3
        have hne := ne_of_get hx hy h3
        refine AWp.seqKL hV [4] ?_
        simp [elAt_enc hx, elAt_enc hy]
        repeat refine And.intro (by first | omega | grind) ?_
        refine AWp.ret ?_
        simp [retOk, resT, thenQ, inBlockQ, elAt_enc hx, elAt_enc hy, *]
        all_goals first | omega | grind
      · try simp at h3
        refine AWp.skip ?_
        try simp only [thenQ, inBlockQ]
        refine AWp.region hV ?_
        simp [elAt_enc hx, elAt_enc hy]
        repeat refine And.intro (by first | omega | grind) ?_
        try simp only [thenQ, inBlockQ]
        refine ⟨z + 1, ?_, ?_, Sub.ren [] (by decide) ?_ ?_⟩
        · first | omega | grind
        · first | omega | grind
        · simp [renL, AO.ren, T.ren, idx, elAt_enc hx, elAt_enc hy]
        · simp [forgetsR, T.ren, idx, elAt_enc hx, elAt_enc hy] <;> omega
    · try simp at h2
      have he := take_eq_end hz.2 h2 hl
      refine AWp.exit ?_
      simp [thenQ, inBlockQ]
      try simp only [thenQ, inBlockQ]
      refine AWp.seqKL hV [4] ?_
      simp
      repeat refine And.intro (by first | omega | grind) ?_
      refine AWp.ret ?_
      simp [retOk, resT, thenQ, inBlockQ, *]
      all_goals first | omega | grind

def sp13 : Eva.Spec := spec1 (fun (l : List Event) => l.length ≤ 1000000000) fun (l : List Event) => enc (validE l)
set_option maxHeartbeats 1000000 in
theorem ok13 : SpecOk Try.prog 13 sp13 := by
  have hV : VOk Try.prog (env [(27, sp27), (32, sp32)]) := env_ok ⟨ok27, ok32, trivial⟩
  refine SpecOk.of1 (Enters.of Try.func13 (by decide)) fun l hp => ?_
  refine PureCon.of hV Try.func13 rfl (by rw [Try.ntmps13]; simp) fun w0 I0 => ?_
  rw [Try.ntmps13]
  refine AWp.seqKL hV [0] ?_
  simp [sp27, sp32]
  repeat refine And.intro (by first | omega | grind) ?_
  refine AWp.seq ?_
  refine AWp.seqKL hV [0, 5, 6, 7] ?_
  simp [sp27, sp32]
  repeat refine And.intro (by first | omega | grind) ?_
  refine AWp.block ?_
  refine AWp.loop (X := Nat) (fun z => ⟨[(0, .d (enc l)), (5, .d (enc l)), (6, .d (.int .i64 l.length)), (7, .d (.int .i64 (z : Int)))], []⟩) (fun z => z ≤ l.length ∧ (l.take z).all eventOk = true ∧ chain before (l.take z) = true) (fun z => l.length - z) (0) ?_ ?_ fun z hz => ?_
  · simp [chain]
  · refine Sub.ren [] (by decide) ?_ ?_ <;> simp [renL, AO.ren, forgetsR, T.ren, idx]
  refine AWp.seqKL hV [0, 5, 6, 7, 8] ?_
  simp [sp27, sp32]
  repeat refine And.intro (by first | omega | grind) ?_
  refine AWp.seq ?_
  refine AWp.cond rfl (fun h1 => ?_) fun h1 => ?_
  · try simp at h1
    obtain ⟨x, hx⟩ := ex_get h1
    have hs := all_take_succ (p := eventOk) hx
    refine AWp.skip ?_
    try simp only [thenQ, inBlockQ]
    refine AWp.seq ?_
    refine AWp.block ?_
    refine AWp.seqKL hV [0, 3, 4, 5, 6, 7] ?_
    simp [sp27, sp32, elAt_enc hx]
    repeat refine And.intro (by first | omega | grind) ?_
    rcases prev_ex hz.1 with hz0 | ⟨hz1, q, hq⟩
    · have hc := chain_first before hz0 (l := l)
      have hf := all_false_of (p := eventOk) hx
      refine AWp.seqDKL hV mixed 17 [0, 5, 6, 7, 28] (by decide) ?_
      simp [sp27, sp32, elAt_enc hx, hz0]
      repeat refine And.intro (by first | omega | grind) ?_
      refine AWp.cond rfl (fun h2 => ?_) fun h2 => ?_
      · try simp at h2
        refine AWp.seqKL hV [2] ?_
        simp [sp27, sp32, elAt_enc hx, hz0]
        repeat refine And.intro (by first | omega | grind) ?_
        refine AWp.ret ?_
        simp [retOk, resT, thenQ, inBlockQ, validE, elAt_enc hx, hz0, *]
        all_goals first | omega | grind
      · try simp at h2
        refine AWp.skip ?_
        try simp only [thenQ, inBlockQ]
        refine AWp.region hV ?_
        simp [sp27, sp32, elAt_enc hx, hz0]
        repeat refine And.intro (by first | omega | grind) ?_
        try simp only [thenQ, inBlockQ]
        refine ⟨z + 1, ?_, ?_, Sub.ren [] (by decide) ?_ ?_⟩
        · first | omega | grind
        · first | omega | grind
        · simp [renL, AO.ren, T.ren, idx, elAt_enc hx, hz0]
        · simp [forgetsR, T.ren, idx, elAt_enc hx, hz0] <;> omega
    · have hc := chain_succ before hz1 hq hx
      have hb := chain_bad before hz1 hq hx
      have hf := all_false_of (p := eventOk) hx
      refine AWp.seqDKL hV mixed 17 [0, 5, 6, 7, 28] (by decide) ?_
      simp [sp27, sp32, elAt_enc hx, hz1, elAt_enc hq, order_before]
      repeat refine And.intro (by first | omega | grind) ?_
      refine AWp.cond rfl (fun h2 => ?_) fun h2 => ?_
      · try simp at h2
        refine AWp.seqKL hV [2] ?_
        simp [sp27, sp32, elAt_enc hx, hz1, elAt_enc hq, order_before]
        repeat refine And.intro (by first | omega | grind) ?_
        refine AWp.ret ?_
        simp [retOk, resT, thenQ, inBlockQ, validE, elAt_enc hx, hz1, elAt_enc hq, order_before, *]
        all_goals first | omega | grind
      · try simp at h2
        refine AWp.skip ?_
        try simp only [thenQ, inBlockQ]
        refine AWp.region hV ?_
        simp [sp27, sp32, elAt_enc hx, hz1, elAt_enc hq, order_before]
        repeat refine And.intro (by first | omega | grind) ?_
        try simp only [thenQ, inBlockQ]
        refine ⟨z + 1, ?_, ?_, Sub.ren [] (by decide) ?_ ?_⟩
        · first | omega | grind
        · first | omega | grind
        · simp [renL, AO.ren, T.ren, idx, elAt_enc hx, hz1, elAt_enc hq, order_before]
        · simp [forgetsR, T.ren, idx, elAt_enc hx, hz1, elAt_enc hq, order_before] <;> omega
  · try simp at h1
    have he := all_take_end (p := eventOk) h1
    have hce := chain_end before h1
    refine AWp.exit ?_
    simp [thenQ, inBlockQ]
    try simp only [thenQ, inBlockQ]
    refine AWp.seqKL hV [2] ?_
    simp [sp27, sp32]
    repeat refine And.intro (by first | omega | grind) ?_
    refine AWp.ret ?_
    simp [retOk, resT, thenQ, inBlockQ, validE, *]
    all_goals first | omega | grind

def sp14 : Eva.Spec := spec1 (fun (l : List Event) => l.length ≤ 1000000000) fun (l : List Event) => enc (validE l)
set_option maxHeartbeats 1000000 in
theorem ok14 : SpecOk Try.prog 14 sp14 := by
  have hV : VOk Try.prog (env [(34, sp34), (37, sp37)]) := env_ok ⟨ok34, ok37, trivial⟩
  refine SpecOk.of1 (Enters.of Try.func14 (by decide)) fun l hp => ?_
  refine PureCon.of hV Try.func14 rfl (by rw [Try.ntmps14]; simp) fun w0 I0 => ?_
  rw [Try.ntmps14]
  refine AWp.seqKL hV [0] ?_
  simp [sp34, sp37]
  repeat refine And.intro (by first | omega | grind) ?_
  refine AWp.seqKL hV [0, 3] ?_
  simp [sp34, sp37]
  repeat refine And.intro (by first | omega | grind) ?_
  refine AWp.seq ?_
  refine AWp.seqKL hV [0, 13] ?_
  simp [sp34, sp37]
  repeat refine And.intro (by first | omega | grind) ?_
  refine AWp.cond rfl (fun h1 => ?_) fun h1 => ?_
  · try simp at h1
    refine AWp.seqKL hV [2] ?_
    simp [sp34, sp37]
    repeat refine And.intro (by first | omega | grind) ?_
    refine AWp.ret ?_
    simp [retOk, resT, thenQ, inBlockQ, validE, *]
    all_goals first | omega | grind
  · try simp at h1
    refine AWp.skip ?_
    try simp only [thenQ, inBlockQ]
    refine AWp.seq ?_
    refine AWp.seqKL hV [0, 4] ?_
    simp [sp34, sp37]
    repeat refine And.intro (by first | omega | grind) ?_
    refine AWp.block ?_
    refine AWp.loop (X := Nat) (fun z => ⟨[(0, .d (enc l)), (4, .d (.int .i64 (z : Int)))], []⟩) (fun z => 1 ≤ z ∧ (z ≤ l.length ∨ z = 1) ∧ chain before (l.take z) = true) (fun z => l.length - z) (1) ?_ ?_ fun z hz => ?_
    · exact ⟨by omega, .inr rfl, chain_first before (z := 0) (by omega)⟩
    · refine Sub.ren [] (by decide) ?_ ?_ <;> simp [renL, AO.ren, forgetsR, T.ren, idx]
    refine AWp.seq ?_
    refine AWp.seqKL hV [0, 4, 17] ?_
    simp [sp34, sp37]
    repeat refine And.intro (by first | omega | grind) ?_
    refine AWp.cond rfl (fun h2 => ?_) fun h2 => ?_
    · try simp at h2
      obtain ⟨x, hx⟩ := ex_get h2
      obtain ⟨q, hq⟩ := ex_get (l := l) (k := z - 1) (by omega)
      have hz1 : 0 < z := by omega
      have hc := chain_succ before hz1 hq hx
      have hb := chain_bad before hz1 hq hx
      refine AWp.skip ?_
      try simp only [thenQ, inBlockQ]
      refine AWp.seq ?_
      refine AWp.block ?_
      refine AWp.seqDKL hV mixed 11 [0, 4, 30] (by decide) ?_
      simp [sp34, sp37, elAt_enc hx, elAt_enc hq]
      repeat refine And.intro (by first | omega | grind) ?_
      refine AWp.cond rfl (fun h3 => ?_) fun h3 => ?_
      · try simp at h3
        refine AWp.seqKL hV [2] ?_
        simp [sp34, sp37, elAt_enc hx, elAt_enc hq]
        repeat refine And.intro (by first | omega | grind) ?_
        refine AWp.ret ?_
        simp [retOk, resT, thenQ, inBlockQ, validE, elAt_enc hx, elAt_enc hq, *]
        all_goals first | omega | grind
      · try simp at h3
        refine AWp.skip ?_
        try simp only [thenQ, inBlockQ]
        refine AWp.region hV ?_
        simp [sp34, sp37, elAt_enc hx, elAt_enc hq]
        repeat refine And.intro (by first | omega | grind) ?_
        try simp only [thenQ, inBlockQ]
        refine ⟨z + 1, ?_, ?_, Sub.ren [] (by decide) ?_ ?_⟩
        · first | omega | grind
        · first | omega | grind
        · simp [renL, AO.ren, T.ren, idx, elAt_enc hx, elAt_enc hq]
        · simp [forgetsR, T.ren, idx, elAt_enc hx, elAt_enc hq] <;> omega
    · try simp at h2
      have hce := chain_end before h2
      refine AWp.exit ?_
      simp [thenQ, inBlockQ]
      try simp only [thenQ, inBlockQ]
      refine AWp.seqKL hV [2] ?_
      simp [sp34, sp37]
      repeat refine And.intro (by first | omega | grind) ?_
      refine AWp.ret ?_
      simp [retOk, resT, thenQ, inBlockQ, validE, *]
      all_goals first | omega | grind

def sp19 : Eva.Spec := spec2 (fun (l : List Event) (s : Int) => l.length ≤ 1000000000) fun (l : List Event) (s : Int) => .tup [enc (knownR l s).1, enc (knownR l s).2]
theorem ok19 : SpecOk Try.prog 19 sp19 := by
  have hV : VOk Try.prog (env [(13, sp13), (40, sp40)]) := env_ok ⟨ok13, ok40, trivial⟩
  refine SpecOk.of2 (Enters.of Try.func19 (by decide)) fun l s hp => ?_
  refine PureCon.of hV Try.func19 rfl (by rw [Try.ntmps19]; simp) fun w0 I0 => ?_
  rw [Try.ntmps19]
  refine AWp.seqKL hV [0, 1] ?_
  simp [sp13, sp40]
  repeat refine And.intro (by first | omega | grind) ?_
  refine AWp.seq ?_
  refine AWp.seqKL hV [0, 1, 16] ?_
  simp [sp13, sp40]
  repeat refine And.intro (by first | omega | grind) ?_
  refine AWp.cond rfl (fun h1 => ?_) fun h1 => ?_
  · try simp at h1
    refine AWp.seqKL hV [4, 5] ?_
    simp [sp13, sp40]
    repeat refine And.intro (by first | omega | grind) ?_
    refine AWp.ret ?_
    simp [retOk, resT, thenQ, inBlockQ, knownR, *]
    all_goals first | omega | grind
  · try simp at h1
    refine AWp.skip ?_
    try simp only [thenQ, inBlockQ]
    refine AWp.seqKL hV [0, 1, 6] ?_
    simp [sp13, sp40]
    repeat refine And.intro (by first | omega | grind) ?_
    refine AWp.seq ?_
    refine AWp.seqKL hV [1, 6, 17, 18, 19] ?_
    simp [sp13, sp40]
    repeat refine And.intro (by first | omega | grind) ?_
    refine AWp.block ?_
    refine AWp.loop (X := Nat) (fun z => ⟨[(1, .d (.int .i64 s)), (6, .d (.int .i64 (known s (l.take z)))), (17, .d (enc l)), (18, .d (.int .i64 l.length)), (19, .d (.int .i64 (z : Int)))], []⟩) (fun z => z ≤ l.length) (fun z => l.length - z) (0) ?_ ?_ fun z hz => ?_
    · simp
    · refine Sub.ren [] (by decide) ?_ ?_ <;> simp [renL, AO.ren, forgetsR, T.ren, idx, known]
    refine AWp.seqKL hV [1, 6, 17, 18, 19, 20] ?_
    simp [sp13, sp40]
    repeat refine And.intro (by first | omega | grind) ?_
    refine AWp.seq ?_
    refine AWp.cond rfl (fun h2 => ?_) fun h2 => ?_
    · try simp at h2
      obtain ⟨x, hx⟩ := ex_get h2
      have hk := known_succ s hx
      refine AWp.skip ?_
      try simp only [thenQ, inBlockQ]
      refine AWp.seq ?_
      refine AWp.block ?_
      refine AWp.seqKL hV [1, 6, 8, 17, 18, 19] ?_
      simp [sp13, sp40, elAt_enc hx, hk]
      repeat refine And.intro (by first | omega | grind) ?_
      refine AWp.seqKL hV [1, 6, 8, 17, 18, 19, 31] ?_
      simp [sp13, sp40, elAt_enc hx, hk]
      repeat refine And.intro (by first | omega | grind) ?_
      refine AWp.cond rfl (fun h3 => ?_) fun h3 => ?_
      · try simp at h3
        refine AWp.region hV ?_
        simp [sp13, sp40, elAt_enc hx, hk, h3]
        repeat refine And.intro (by first | omega | grind) ?_
        try simp only [thenQ, inBlockQ]
        refine AWp.region hV ?_
        simp [sp13, sp40, elAt_enc hx, hk, h3]
        repeat refine And.intro (by first | omega | grind) ?_
        try simp only [thenQ, inBlockQ]
        refine ⟨z + 1, ?_, ?_, Sub.ren [] (by decide) ?_ ?_⟩
        · first | omega | grind
        · first | omega | grind
        · simp [renL, AO.ren, T.ren, idx, elAt_enc hx, hk, h3]
        · simp [forgetsR, T.ren, idx, elAt_enc hx, hk, h3] <;> omega
      · try simp at h3
        refine AWp.skip ?_
        try simp only [thenQ, inBlockQ]
        refine AWp.region hV ?_
        simp [sp13, sp40, elAt_enc hx, hk, h3]
        repeat refine And.intro (by first | omega | grind) ?_
        try simp only [thenQ, inBlockQ]
        refine ⟨z + 1, ?_, ?_, Sub.ren [] (by decide) ?_ ?_⟩
        · first | omega | grind
        · first | omega | grind
        · simp [renL, AO.ren, T.ren, idx, elAt_enc hx, hk, h3]
        · simp [forgetsR, T.ren, idx, elAt_enc hx, hk, h3] <;> omega
    · try simp at h2
      have he := known_end s h2
      refine AWp.exit ?_
      simp [thenQ, inBlockQ]
      try simp only [thenQ, inBlockQ]
      refine AWp.seqKL hV [4, 5] ?_
      simp [sp13, sp40, he]
      repeat refine And.intro (by first | omega | grind) ?_
      refine AWp.ret ?_
      simp [retOk, resT, thenQ, inBlockQ, knownR, he, *]
      all_goals first | omega | grind
end Go.Proofs.Ytpbhcpeilgmkeaa

/-
  The events' data in plain Lean, part 2.
-/
namespace Go.Proofs.Ytpbhcpeilgmkeaa
open Go Go.Eva

def rowOk (a : List Event) (i : Nat) : Bool := match a[i]? with
  | some x => (a.take i).all fun y => !forks y x
  | none => true
def noFork (a : List Event) : Bool := (List.range a.length).all (rowOk a)
def radd (l m : List Event) : List Event × Int :=
  if validE l && m.all eventOk then
    if noFork (l ++ m) then
      if 20000 < (m.foldl put l).length then ([], 2) else (m.foldl put l, 0)
    else ([], 61)
  else ([], 1)
theorem range_all_succ (p : Nat → Bool) (z : Nat) : (List.range (z + 1)).all p = ((List.range z).all p && p z) := by simp [List.range_succ]
theorem rowOk_at {a : List Event} {z : Nat} {x : Event} (hx : a[z]? = some x) : rowOk a z = (a.take z).all fun y => !forks y x := by simp [rowOk, hx]
theorem noFork_bad {a : List Event} {z y : Nat} {x q : Event} (hx : a[z]? = some x) (hq : a[y]? = some q) (hy : y < z) (hf : forks q x = true) : noFork a = false := by
  have hz : z < a.length := (List.getElem?_eq_some_iff.1 hx).1
  have : rowOk a z = false := by
    rw [rowOk_at hx]
    exact all_false_of (k := y) (x := q) (by rw [List.getElem?_take, if_pos hy]; exact hq) (by simp [hf])
  unfold noFork
  rw [List.all_eq_false]
  exact ⟨z, List.mem_range.2 hz, by simp [this]⟩
theorem noFork_end {a : List Event} {z : Nat} (h : (List.range z).all (rowOk a) = true) (hz : a.length ≤ z) (hz' : z ≤ a.length) : noFork a = true := by
  have : z = a.length := by omega
  subst this; exact h
theorem foldl_put_succ {m : List Event} {z : Nat} {x : Event} (l : List Event) (hx : m[z]? = some x) : (m.take (z + 1)).foldl put l = put ((m.take z).foldl put l) x := by
  rw [take_get hx]; simp
theorem foldl_put_end {m : List Event} {z : Nat} (l : List Event) (hz : m.length ≤ z) : (m.take z).foldl put l = m.foldl put l := by rw [List.take_of_length_le hz]
theorem elAt_nil (k : Nat) : elAt [] k = .nilp := rfl
theorem prev_ex3 {α : Type} {l : List α} {z : Nat} (h : z ≤ l.length) : (¬ 0 < z ∧ l = []) ∨ (¬ 0 < z ∧ ∃ q, l[z - 1]? = some q) ∨ (0 < z ∧ ∃ q, l[z - 1]? = some q) := by
  rcases Nat.eq_zero_or_pos l.length with h0 | h0
  · exact .inl ⟨by omega, List.length_eq_zero_iff.1 h0⟩
  · by_cases hz : 0 < z
    · exact .inr (.inr ⟨hz, ex_get (by omega)⟩)
    · exact .inr (.inl ⟨hz, ex_get (by omega)⟩)
theorem elAt_cons0 (d : D) (ds : List D) : elAt (d :: ds) 0 = d := rfl
end Go.Proofs.Ytpbhcpeilgmkeaa

/-
  Walks of the events: printed by gen1.py.
-/
namespace Go.Proofs.Ytpbhcpeilgmkeaa
open Go Go.Eva Enc
variable [Drw]
set_option linter.unusedSectionVars false
set_option linter.unusedSimpArgs false
set_option linter.unusedVariables false
set_option maxRecDepth 4000
attribute [local congr] AWp.congrS
attribute [local simp] evalSeq opRes guardPc evalOp evT Eva.get startT strip putT Eva.after constT typed obAll holds dstOk R.ok R.bad ofD binD unD pickT subL subP Op.operands Call.operands toD argsD callD callT typedAll cfind quietT spec0 spec1 spec2 spec3 enc_int enc_bool enc_str enc_fn enc_list dec_int dec_bool dec_str dec_fn dec_list size_int size_str enc_R enc_M enc_E dec_R dec_M dec_E size_R size_M size_E eta_R eta_M eta_E enc_rune size_rune dec_rune eta_rune runesD_eq map_dec_enc map_dec_comp cellsT D.cells T.oneT D.one mkT unD1 setAt loadAs loadEl storeAs fieldP fieldV sizeE intOfT indexP appendT lenT sliceT elemSize arith lfsOk lfOk beqL_R beqL_M beqL_E beqL_R0 beqL_M0 isAggD mkD fillD placeS TD.agg env restr List.map keyIdx keysInt mapTy lookT mapPutT mapDelT mapOf indexS convT evalPure range1 range2 range3 range4 eqT4 eqT38 eqT40 eqT42 te1 te2 te3 te4 te5 te6 te7 te8 te9 te10 te11 te12 te13 te14 te15 te16 te17 te18 te19 te21 te22 te23 te24 te25 te27 te28 te29 te31 te32 te34 te35 te36 te37 te38 te39 te40 te41 te42 te43 te44 te45 te46 te47 te49 te50 te51 te52 te53 te54 te55 te56 te57 te59 te60 te61 te62 te63 te64 te65 te66 te67 te68 te69 te70 te71 te72 te73 te74 te75 te76 te77 te78 te79 te80 te82 te83 te84 te85 te86 te87 te88 te90 te91 te92 te94 te95 te96 te97 te98 te99 te100 te101 te102 te103 te104 te105 te106 te107 te108 te109 te110 te111 te112 te113 te114 te116 te117 te118 te119 te120 te121 te122 te123 te124 te125 te126 te127 te128 te129 te130 te131 te132 te133 te134

def sp20 : Eva.Spec := spec2 (fun (l : List Event) (s : Int) => l.length ≤ 1000000000) fun (l : List Event) (s : Int) => .tup [enc (knownR l s).1, enc (knownR l s).2]
theorem ok20 : SpecOk Try.prog 20 sp20 := by
  have hV : VOk Try.prog (env [(14, sp14), (23, sp23)]) := env_ok ⟨ok14, ok23, trivial⟩
  refine SpecOk.of2 (Enters.of Try.func20 (by decide)) fun l s hp => ?_
  refine PureCon.of hV Try.func20 rfl (by rw [Try.ntmps20]; simp) fun w0 I0 => ?_
  rw [Try.ntmps20]
  refine AWp.seqKL hV [0, 1] ?_
  simp [sp14, sp23]
  repeat refine And.intro (by first | omega | grind) ?_
  refine AWp.seqKL hV [0, 1, 6] ?_
  simp [sp14, sp23]
  repeat refine And.intro (by first | omega | grind) ?_
  refine AWp.seq ?_
  refine AWp.seqKL hV [0, 1, 17] ?_
  simp [sp14, sp23]
  repeat refine And.intro (by first | omega | grind) ?_
  refine AWp.cond rfl (fun h1 => ?_) fun h1 => ?_
  · try simp at h1
    refine AWp.seqKL hV [4, 5] ?_
    simp [sp14, sp23]
    repeat refine And.intro (by first | omega | grind) ?_
    refine AWp.ret ?_
    simp [retOk, resT, thenQ, inBlockQ, knownR, *]
    all_goals first | omega | grind
  · try simp at h1
    refine AWp.skip ?_
    try simp only [thenQ, inBlockQ]
    refine AWp.seqKL hV [0, 1, 7] ?_
    simp [sp14, sp23]
    repeat refine And.intro (by first | omega | grind) ?_
    refine AWp.seq ?_
    refine AWp.seqKL hV [0, 1, 7, 8] ?_
    simp [sp14, sp23]
    repeat refine And.intro (by first | omega | grind) ?_
    refine AWp.block ?_
    refine AWp.loop (X := Nat) (fun z => ⟨[(0, .d (enc l)), (1, .d (.int .i64 s)), (7, .d (.int .i64 (known s (l.take z)))), (8, .d (.int .i64 (z : Int)))], []⟩) (fun z => z ≤ l.length) (fun z => l.length - z) (0) ?_ ?_ fun z hz => ?_
    · simp
    · refine Sub.ren [] (by decide) ?_ ?_ <;> simp [renL, AO.ren, forgetsR, T.ren, idx, known]
    refine AWp.seq ?_
    refine AWp.seqKL hV [0, 1, 7, 8, 21] ?_
    simp [sp14, sp23]
    repeat refine And.intro (by first | omega | grind) ?_
    refine AWp.cond rfl (fun h2 => ?_) fun h2 => ?_
    · try simp at h2
      obtain ⟨x, hx⟩ := ex_get h2
      have hk := known_succ s hx
      refine AWp.skip ?_
      try simp only [thenQ, inBlockQ]
      refine AWp.seq ?_
      refine AWp.block ?_
      refine AWp.seqKL hV [0, 1, 7, 8, 38] ?_
      simp [sp14, sp23, elAt_enc hx, hk]
      repeat refine And.intro (by first | omega | grind) ?_
      refine AWp.cond rfl (fun h3 => ?_) fun h3 => ?_
      · try simp at h3
        refine AWp.region hV ?_
        simp [sp14, sp23, elAt_enc hx, hk, h3]
        repeat refine And.intro (by first | omega | grind) ?_
        try simp only [thenQ, inBlockQ]
        refine AWp.region hV ?_
        simp [sp14, sp23, elAt_enc hx, hk, h3]
        repeat refine And.intro (by first | omega | grind) ?_
        try simp only [thenQ, inBlockQ]
        refine ⟨z + 1, ?_, ?_, Sub.ren [] (by decide) ?_ ?_⟩
        · first | omega | grind
        · first | omega | grind
        · simp [renL, AO.ren, T.ren, idx, elAt_enc hx, hk, h3]
        · simp [forgetsR, T.ren, idx, elAt_enc hx, hk, h3] <;> omega
      · try simp at h3
        refine AWp.skip ?_
        try simp only [thenQ, inBlockQ]
        refine AWp.region hV ?_
        simp [sp14, sp23, elAt_enc hx, hk, h3]
        repeat refine And.intro (by first | omega | grind) ?_
        try simp only [thenQ, inBlockQ]
        refine ⟨z + 1, ?_, ?_, Sub.ren [] (by decide) ?_ ?_⟩
        · first | omega | grind
        · first | omega | grind
        · simp [renL, AO.ren, T.ren, idx, elAt_enc hx, hk, h3]
        · simp [forgetsR, T.ren, idx, elAt_enc hx, hk, h3] <;> omega
    · try simp at h2
      have he := known_end s h2
      refine AWp.exit ?_
      simp [thenQ, inBlockQ]
      try simp only [thenQ, inBlockQ]
      refine AWp.seqKL hV [4, 5] ?_
      simp [sp14, sp23, he]
      repeat refine And.intro (by first | omega | grind) ?_
      refine AWp.ret ?_
      simp [retOk, resT, thenQ, inBlockQ, knownR, he, *]
      all_goals first | omega | grind

def sp25 : Eva.Spec := spec3 (fun (c : Int) (s : Int) (v : Int) => True) fun (c : Int) (s : Int) (v : Int) => enc (made c s v)
theorem ok25 : SpecOk Try.prog 25 sp25 := by
  have hV : VOk Try.prog (env []) := env_ok trivial
  refine SpecOk.of3 (Enters.of Try.func25 (by decide)) fun c s v hp => ?_
  refine PureCon.of hV Try.func25 rfl (by rw [Try.ntmps25]; simp) fun w0 I0 => ?_
  rw [Try.ntmps25]
  refine AWp.seqKL hV [0, 1, 2, 6] ?_
  simp
  repeat refine And.intro (by first | omega | grind) ?_
  refine AWp.seqKL hV [6] ?_
  simp
  repeat refine And.intro (by first | omega | grind) ?_
  refine AWp.ret ?_
  simp [retOk, resT, thenQ, inBlockQ, made, loadAs, *]
  all_goals first | omega | grind

def sp36 : Eva.Spec := spec2 (fun (l : List Event) (e : Event) => l.length ≤ 1000000000) fun (l : List Event) (e : Event) => enc (put l e)
theorem ok36 : SpecOk Try.prog 36 sp36 := by
  have hV : VOk Try.prog (env [(37, sp37)]) := env_ok ⟨ok37, trivial⟩
  refine SpecOk.of2 (Enters.of Try.func36 (by decide)) fun l e hp => ?_
  refine PureCon.of hV Try.func36 rfl (by rw [Try.ntmps36]; simp) fun w0 I0 => ?_
  rw [Try.ntmps36]
  refine AWp.seqKL hV [0, 3] ?_
  simp [sp37]
  repeat refine And.intro (by first | omega | grind) ?_
  refine AWp.seqKL hV [0, 3, 5] ?_
  simp [sp37]
  repeat refine And.intro (by first | omega | grind) ?_
  refine AWp.seq ?_
  refine AWp.block ?_
  refine AWp.loop (X := Nat) (fun z => ⟨[(0, .d (enc l)), (3, .ptr 0 0), (5, .d (.int .i64 (z : Int)))], [.var 42 (cellsT (.d (enc e)))]⟩) (fun z => z ≤ l.length ∧ putFrom e l z = putFrom e l l.length) (fun z => z) (l.length) ?_ ?_ fun z hz => ?_
  · simp
  · refine Sub.ren [0] (by decide) ?_ ?_ <;> simp [renL, AO.ren, forgetsR, T.ren, idx]
  refine AWp.seq ?_
  rcases prev_ex3 hz.1 with ⟨hz0, hl⟩ | ⟨hz0, q, hq⟩ | ⟨hz1, q, hq⟩
  · subst hl
    have hpz : put [] e = [e] := by simp [put, putFrom]
    refine AWp.seqDKL hV mixed 11 [0, 3, 5, 19] (by decide) ?_
    simp [sp37, hz0, elAt_nil, hpz]
    repeat refine And.intro (by first | omega | grind) ?_
    refine AWp.cond rfl (fun h1 => ?_) fun h1 => ?_
    · try simp at h1
      all_goals
        refine AWp.skip ?_
        try simp only [thenQ, inBlockQ]
        refine AWp.block ?_
        refine AWp.region hV ?_
        simp [sp37, hz0, elAt_nil, hpz]
        repeat refine And.intro (by first | omega | grind) ?_
        try simp only [thenQ, inBlockQ]
        refine ⟨z - 1, ?_, ?_, Sub.ren [0] (by decide) ?_ ?_⟩
        · first | omega | grind
        · first | omega | grind
        · simp [renL, AO.ren, T.ren, idx, hz0, elAt_nil, hpz]
        · simp [forgetsR, T.ren, idx, hz0, elAt_nil, hpz] <;> omega
    · try simp at h1
      refine AWp.exit ?_
      simp [thenQ, inBlockQ]
      try simp only [thenQ, inBlockQ]
      refine AWp.seq ?_
      refine AWp.seqDKL hV mixed 11 [0, 3, 5, 32] (by decide) ?_
      simp [sp37, hz0, elAt_nil, hpz]
      repeat refine And.intro (by first | omega | grind) ?_
      refine AWp.cond rfl (fun h2 => ?_) fun h2 => ?_
      · try simp at h2
        all_goals
          refine AWp.seqKL hV [4] ?_
          simp [sp37, hz0, elAt_nil, hpz]
          repeat refine And.intro (by first | omega | grind) ?_
          refine AWp.ret ?_
          simp [retOk, resT, thenQ, inBlockQ, hz0, elAt_nil, hpz, *]
          all_goals first | omega | grind
      · try simp at h2
        refine AWp.skip ?_
        try simp only [thenQ, inBlockQ]
        refine AWp.seqKL hV [0, 3, 5, 6] ?_
        simp [sp37, hz0, elAt_nil, hpz]
        repeat refine And.intro (by first | omega | grind) ?_
        refine AWp.seqKL hV [0, 3, 5, 6] ?_
        simp [sp37, hz0, elAt_nil, hpz]
        repeat refine And.intro (by first | omega | grind) ?_
        refine AWp.seqKL hV [0, 5, 6] ?_
        simp [sp37, hz0, elAt_nil, hpz]
        repeat refine And.intro (by first | omega | grind) ?_
        refine AWp.seqKL hV [4] ?_
        simp [sp37, hz0, elAt_nil, hpz]
        repeat refine And.intro (by first | omega | grind) ?_
        refine AWp.ret ?_
        simp [retOk, resT, thenQ, inBlockQ, hz0, elAt_nil, hpz, *]
        all_goals first | omega | grind
  · have hpz := put_zero hz.2 hz0
    refine AWp.seqDKL hV mixed 11 [0, 3, 5, 19] (by decide) ?_
    simp [sp37, hz0, elAt_enc hq]
    repeat refine And.intro (by first | omega | grind) ?_
    refine AWp.cond rfl (fun h1 => ?_) fun h1 => ?_
    · try simp at h1
      all_goals
        refine AWp.skip ?_
        try simp only [thenQ, inBlockQ]
        refine AWp.block ?_
        refine AWp.region hV ?_
        simp [sp37, hz0, elAt_enc hq]
        repeat refine And.intro (by first | omega | grind) ?_
        try simp only [thenQ, inBlockQ]
        refine ⟨z - 1, ?_, ?_, Sub.ren [0] (by decide) ?_ ?_⟩
        · first | omega | grind
        · first | omega | grind
        · simp [renL, AO.ren, T.ren, idx, hz0, elAt_enc hq]
        · simp [forgetsR, T.ren, idx, hz0, elAt_enc hq] <;> omega
    · try simp at h1
      refine AWp.exit ?_
      simp [thenQ, inBlockQ]
      try simp only [thenQ, inBlockQ]
      refine AWp.seq ?_
      refine AWp.seqDKL hV mixed 11 [0, 3, 5, 32] (by decide) ?_
      simp [sp37, hz0, elAt_enc hq]
      repeat refine And.intro (by first | omega | grind) ?_
      refine AWp.cond rfl (fun h2 => ?_) fun h2 => ?_
      · try simp at h2
        all_goals
          refine AWp.seqKL hV [4] ?_
          simp [sp37, hz0, elAt_enc hq]
          repeat refine And.intro (by first | omega | grind) ?_
          refine AWp.ret ?_
          simp [retOk, resT, thenQ, inBlockQ, hz0, elAt_enc hq, *]
          all_goals first | omega | grind
      · try simp at h2
        refine AWp.skip ?_
        try simp only [thenQ, inBlockQ]
        refine AWp.seqKL hV [0, 3, 5, 6] ?_
        simp [sp37, hz0, elAt_enc hq]
        repeat refine And.intro (by first | omega | grind) ?_
        refine AWp.seqKL hV [0, 3, 5, 6] ?_
        simp [sp37, hz0, elAt_enc hq]
        repeat refine And.intro (by first | omega | grind) ?_
        refine AWp.seqKL hV [0, 5, 6] ?_
        simp [sp37, hz0, elAt_enc hq]
        repeat refine And.intro (by first | omega | grind) ?_
        refine AWp.seqKL hV [4] ?_
        simp [sp37, hz0, elAt_enc hq]
        repeat refine And.intro (by first | omega | grind) ?_
        refine AWp.ret ?_
        simp [retOk, resT, thenQ, inBlockQ, hz0, elAt_enc hq, *]
        all_goals first | omega | grind
  · have hpn := put_pos hz.2 hz1 hq
    have hps := put_step hz.2 hz1 hq
    refine AWp.seqDKL hV mixed 11 [0, 3, 5, 19] (by decide) ?_
    simp [sp37, hz1, elAt_enc hq]
    repeat refine And.intro (by first | omega | grind) ?_
    refine AWp.cond rfl (fun h1 => ?_) fun h1 => ?_
    · try simp at h1
      all_goals
        refine AWp.skip ?_
        try simp only [thenQ, inBlockQ]
        refine AWp.block ?_
        refine AWp.region hV ?_
        simp [sp37, hz1, elAt_enc hq]
        repeat refine And.intro (by first | omega | grind) ?_
        try simp only [thenQ, inBlockQ]
        refine ⟨z - 1, ?_, ?_, Sub.ren [0] (by decide) ?_ ?_⟩
        · first | omega | grind
        · first | omega | grind
        · simp [renL, AO.ren, T.ren, idx, hz1, elAt_enc hq]
        · simp [forgetsR, T.ren, idx, hz1, elAt_enc hq] <;> omega
    · try simp at h1
      refine AWp.exit ?_
      simp [thenQ, inBlockQ]
      try simp only [thenQ, inBlockQ]
      refine AWp.seq ?_
      refine AWp.seqDKL hV mixed 11 [0, 3, 5, 32] (by decide) ?_
      simp [sp37, hz1, elAt_enc hq]
      repeat refine And.intro (by first | omega | grind) ?_
      refine AWp.cond rfl (fun h2 => ?_) fun h2 => ?_
      · try simp at h2
        all_goals
          refine AWp.seqKL hV [4] ?_
          simp [sp37, hz1, elAt_enc hq]
          repeat refine And.intro (by first | omega | grind) ?_
          refine AWp.ret ?_
          simp [retOk, resT, thenQ, inBlockQ, hz1, elAt_enc hq, *]
          all_goals first | omega | grind
      · try simp at h2
        refine AWp.skip ?_
        try simp only [thenQ, inBlockQ]
        refine AWp.seqKL hV [0, 3, 5, 6] ?_
        simp [sp37, hz1, elAt_enc hq]
        repeat refine And.intro (by first | omega | grind) ?_
        refine AWp.seqKL hV [0, 3, 5, 6] ?_
        simp [sp37, hz1, elAt_enc hq]
        repeat refine And.intro (by first | omega | grind) ?_
        refine AWp.seqKL hV [0, 5, 6] ?_
        simp [sp37, hz1, elAt_enc hq]
        repeat refine And.intro (by first | omega | grind) ?_
        refine AWp.seqKL hV [4] ?_
        simp [sp37, hz1, elAt_enc hq]
        repeat refine And.intro (by first | omega | grind) ?_
        refine AWp.ret ?_
        simp [retOk, resT, thenQ, inBlockQ, hz1, elAt_enc hq, *]
        all_goals first | omega | grind
end Go.Proofs.Ytpbhcpeilgmkeaa

/-
  Walks of the events: printed by gen1.py.
-/
namespace Go.Proofs.Ytpbhcpeilgmkeaa
open Go Go.Eva Enc
variable [Drw]
set_option linter.unusedSectionVars false
set_option linter.unusedSimpArgs false
set_option linter.unusedVariables false
set_option maxRecDepth 4000
attribute [local congr] AWp.congrS
attribute [local simp] evalSeq opRes guardPc evalOp evT Eva.get startT strip putT Eva.after constT typed obAll holds dstOk R.ok R.bad ofD binD unD pickT subL subP Op.operands Call.operands toD argsD callD callT typedAll cfind quietT spec0 spec1 spec2 spec3 enc_int enc_bool enc_str enc_fn enc_list dec_int dec_bool dec_str dec_fn dec_list size_int size_str enc_R enc_M enc_E dec_R dec_M dec_E size_R size_M size_E eta_R eta_M eta_E enc_rune size_rune dec_rune eta_rune runesD_eq map_dec_enc map_dec_comp cellsT D.cells T.oneT D.one mkT unD1 setAt loadAs loadEl storeAs fieldP fieldV sizeE intOfT indexP appendT lenT sliceT elemSize arith lfsOk lfOk beqL_R beqL_M beqL_E beqL_R0 beqL_M0 isAggD mkD fillD placeS TD.agg env restr List.map keyIdx keysInt mapTy lookT mapPutT mapDelT mapOf indexS convT evalPure range1 range2 range3 range4 eqT4 eqT38 eqT40 eqT42 te1 te2 te3 te4 te5 te6 te7 te8 te9 te10 te11 te12 te13 te14 te15 te16 te17 te18 te19 te21 te22 te23 te24 te25 te27 te28 te29 te31 te32 te34 te35 te36 te37 te38 te39 te40 te41 te42 te43 te44 te45 te46 te47 te49 te50 te51 te52 te53 te54 te55 te56 te57 te59 te60 te61 te62 te63 te64 te65 te66 te67 te68 te69 te70 te71 te72 te73 te74 te75 te76 te77 te78 te79 te80 te82 te83 te84 te85 te86 te87 te88 te90 te91 te92 te94 te95 te96 te97 te98 te99 te100 te101 te102 te103 te104 te105 te106 te107 te108 te109 te110 te111 te112 te113 te114 te116 te117 te118 te119 te120 te121 te122 te123 te124 te125 te126 te127 te128 te129 te130 te131 te132 te133 te134

def sp12 : Eva.Spec := spec2 (fun (l : List Event) (m : List Event) => l.length ≤ 100000000 ∧ m.length ≤ 100000000) fun (l : List Event) (m : List Event) => .tup [enc (radd l m).1, enc (radd l m).2]
set_option maxHeartbeats 2000000 in
theorem ok12 : SpecOk Try.prog 12 sp12 := by
  have hV : VOk Try.prog (env [(14, sp14), (34, sp34), (35, sp35), (36, sp36)]) := env_ok ⟨ok14, ok34, ok35, ok36, trivial⟩
  refine SpecOk.of2 (Enters.of Try.func12 (by decide)) fun l m hp => ?_
  obtain ⟨a, ha⟩ : ∃ a, a = l ++ m := ⟨_, rfl⟩
  have hal : a.length = l.length + m.length := by rw [ha]; simp
  have hra : noFork (l ++ m) = noFork a := by rw [ha]
  refine PureCon.of hV Try.func12 rfl (by rw [Try.ntmps12]; simp) fun w0 I0 => ?_
  rw [Try.ntmps12]
  refine AWp.seqKL hV [0, 1] ?_
  simp [sp14, sp34, sp35, sp36]
  repeat refine And.intro (by first | omega | grind) ?_
  refine AWp.seqKL hV [0, 1, 6] ?_
  simp [sp14, sp34, sp35, sp36]
  repeat refine And.intro (by first | omega | grind) ?_
  refine AWp.seqKL hV [0, 1, 6, 7] ?_
  simp [sp14, sp34, sp35, sp36]
  repeat refine And.intro (by first | omega | grind) ?_
  refine AWp.seq ?_
  refine AWp.seqKL hV [0, 1, 22] ?_
  simp [sp14, sp34, sp35, sp36]
  repeat refine And.intro (by first | omega | grind) ?_
  refine AWp.cond rfl (fun h1 => ?_) fun h1 => ?_
  · try simp at h1
    refine AWp.seqKL hV [4, 5] ?_
    simp [sp14, sp34, sp35, sp36]
    repeat refine And.intro (by first | omega | grind) ?_
    refine AWp.ret ?_
    simp [retOk, resT, thenQ, inBlockQ, radd, *]
    all_goals first | omega | grind
  · try simp at h1
    refine AWp.skip ?_
    try simp only [thenQ, inBlockQ]
    refine AWp.seqKL hV [0, 1, 8] ?_
    simp [sp14, sp34, sp35, sp36]
    repeat refine And.intro (by first | omega | grind) ?_
    refine AWp.seqKL hV [0, 1, 8] ?_
    simp [sp14, sp34, sp35, sp36]
    repeat refine And.intro (by first | omega | grind) ?_
    refine AWp.seqKL hV [0, 1, 8] ?_
    simp [sp14, sp34, sp35, sp36]
    repeat refine And.intro (by first | omega | grind) ?_
    refine AWp.seq ?_
    refine AWp.seqKL hV [0, 1, 8, 9] ?_
    simp [sp14, sp34, sp35, sp36]
    repeat refine And.intro (by first | omega | grind) ?_
    refine AWp.block ?_
    refine AWp.loop (X := Nat) (fun z => ⟨[(0, .d (enc l)), (1, .d (enc m)), (8, .row 0), (9, .d (.int .i64 (z : Int)))], [.row 42 14 (a.map enc)]⟩) (fun z => z ≤ a.length ∧ (List.range z).all (rowOk a) = true) (fun z => a.length - z) (0) ?_ ?_ fun z hz => ?_
    · simp
    · refine Sub.ren [1] (by decide) ?_ ?_ <;> simp [renL, AO.ren, forgetsR, T.ren, idx, ha]
    refine AWp.seq ?_
    refine AWp.seqKL hV [0, 1, 8, 9, 32] ?_
    simp [sp14, sp34, sp35, sp36]
    repeat refine And.intro (by first | omega | grind) ?_
    refine AWp.cond rfl (fun h2 => ?_) fun h2 => ?_
    · try simp at h2
      obtain ⟨x, hx⟩ := ex_get h2
      have hr := rowOk_at hx
      have hrs := range_all_succ (rowOk a) z
      refine AWp.skip ?_
      try simp only [thenQ, inBlockQ]
      refine AWp.seq ?_
      refine AWp.block ?_
      refine AWp.seqKL hV [0, 1, 8, 9, 10] ?_
      simp [sp14, sp34, sp35, sp36, elAt_enc hx]
      repeat refine And.intro (by first | omega | grind) ?_
      refine AWp.block ?_
      refine AWp.loop (X := Nat) (fun y => ⟨[(0, .d (enc l)), (1, .d (enc m)), (8, .row 0), (9, .d (.int .i64 (z : Int))), (10, .d (.int .i64 (y : Int)))], [.row 42 14 (a.map enc)]⟩) (fun y => y ≤ z ∧ (a.take y).all (fun q => !forks q x) = true) (fun y => z - y) (0) ?_ ?_ fun y hy => ?_
      · simp
      · refine Sub.ren [0] (by decide) ?_ ?_ <;> simp [renL, AO.ren, forgetsR, T.ren, idx, elAt_enc hx]
      refine AWp.seq ?_
      refine AWp.seqKL hV [0, 1, 8, 9, 10, 37] ?_
      simp [sp14, sp34, sp35, sp36, elAt_enc hx]
      repeat refine And.intro (by first | omega | grind) ?_
      refine AWp.cond rfl (fun h3 => ?_) fun h3 => ?_
      · try simp at h3
        obtain ⟨q, hq⟩ := ex_get (l := a) (k := y) (by omega)
        have hs := all_take_succ (p := fun q => !forks q x) hq
        refine AWp.skip ?_
        try simp only [thenQ, inBlockQ]
        refine AWp.seq ?_
        refine AWp.block ?_
        refine AWp.seqDKL hV mixed 9 [0, 1, 8, 9, 10, 48] (by decide) ?_
        simp [sp14, sp34, sp35, sp36, elAt_enc hx, elAt_enc hq]
        repeat refine And.intro (by first | omega | grind) ?_
        refine AWp.cond rfl (fun h4 => ?_) fun h4 => ?_
        · try simp at h4
          have hbad := noFork_bad hx hq h3 h4
          refine AWp.seqKL hV [4, 5] ?_
          simp [sp14, sp34, sp35, sp36, elAt_enc hx, elAt_enc hq]
          repeat refine And.intro (by first | omega | grind) ?_
          refine AWp.ret ?_
          simp [retOk, resT, thenQ, inBlockQ, radd, elAt_enc hx, elAt_enc hq, *]
          all_goals first | omega | grind
        · try simp at h4
          refine AWp.skip ?_
          try simp only [thenQ, inBlockQ]
          refine AWp.region hV ?_
          simp [sp14, sp34, sp35, sp36, elAt_enc hx, elAt_enc hq]
          repeat refine And.intro (by first | omega | grind) ?_
          try simp only [thenQ, inBlockQ]
          refine ⟨y + 1, ?_, ?_, Sub.ren [0] (by decide) ?_ ?_⟩
          · first | omega | grind
          · first | omega | grind
          · simp [renL, AO.ren, T.ren, idx, elAt_enc hx, elAt_enc hq]
          · simp [forgetsR, T.ren, idx, elAt_enc hx, elAt_enc hq] <;> omega
      · try simp at h3
        have hyz : y = z := by omega
        have hrz : rowOk a z = true := by rw [hr, ← hyz]; exact hy.2
        refine AWp.exit ?_
        simp [thenQ, inBlockQ]
        try simp only [thenQ, inBlockQ]
        refine AWp.region hV ?_
        simp [sp14, sp34, sp35, sp36, elAt_enc hx]
        repeat refine And.intro (by first | omega | grind) ?_
        try simp only [thenQ, inBlockQ]
        refine ⟨z + 1, ?_, ?_, Sub.ren [0] (by decide) ?_ ?_⟩
        · first | omega | grind
        · first | omega | grind
        · simp [renL, AO.ren, T.ren, idx, elAt_enc hx]
        · simp [forgetsR, T.ren, idx, elAt_enc hx] <;> omega
    · try simp at h2
      have hend := noFork_end hz.2 (by omega) hz.1
      refine AWp.exit ?_
      simp [thenQ, inBlockQ]
      try simp only [thenQ, inBlockQ]
      refine AWp.seqKL hV [1, 11] ?_
      simp [sp14, sp34, sp35, sp36]
      repeat refine And.intro (by first | omega | grind) ?_
      refine AWp.seq ?_
      refine AWp.seqKL hV [1, 11, 12] ?_
      simp [sp14, sp34, sp35, sp36]
      repeat refine And.intro (by first | omega | grind) ?_
      refine AWp.block ?_
      refine AWp.loop (X := Nat) (fun z => ⟨[(1, .d (enc m)), (11, .d (enc ((m.take z).foldl put l))), (12, .d (.int .i64 (z : Int)))], []⟩) (fun z => z ≤ m.length ∧ ((m.take z).foldl put l).length ≤ l.length + z) (fun z => m.length - z) (0) ?_ ?_ fun z hz => ?_
      · simp
      · refine Sub.ren [] (by decide) ?_ ?_ <;> simp [renL, AO.ren, forgetsR, T.ren, idx]
      refine AWp.seq ?_
      refine AWp.seqKL hV [1, 11, 12, 53] ?_
      simp [sp14, sp34, sp35, sp36]
      repeat refine And.intro (by first | omega | grind) ?_
      refine AWp.cond rfl (fun h5 => ?_) fun h5 => ?_
      · try simp at h5
        obtain ⟨x, hx⟩ := ex_get h5
        have hs := foldl_put_succ l hx
        have hpl := put_length ((m.take z).foldl put l) x
        refine AWp.skip ?_
        try simp only [thenQ, inBlockQ]
        refine AWp.seq ?_
        refine AWp.block ?_
        refine AWp.region hV ?_
        simp [sp14, sp34, sp35, sp36, elAt_enc hx, hs]
        repeat refine And.intro (by first | omega | grind) ?_
        try simp only [thenQ, inBlockQ]
        refine AWp.region hV ?_
        simp [sp14, sp34, sp35, sp36, elAt_enc hx, hs]
        repeat refine And.intro (by first | omega | grind) ?_
        try simp only [thenQ, inBlockQ]
        refine ⟨z + 1, ?_, ?_, Sub.ren [] (by decide) ?_ ?_⟩
        · first | omega | grind
        · first | omega | grind
        · simp [renL, AO.ren, T.ren, idx, elAt_enc hx, hs]
        · simp [forgetsR, T.ren, idx, elAt_enc hx, hs] <;> omega
      · try simp at h5
        have hfe := foldl_put_end l h5
        refine AWp.exit ?_
        simp [thenQ, inBlockQ]
        try simp only [thenQ, inBlockQ]
        refine AWp.seq ?_
        refine AWp.seqKL hV [11, 64] ?_
        simp [sp14, sp34, sp35, sp36, hfe]
        repeat refine And.intro (by first | omega | grind) ?_
        refine AWp.cond rfl (fun h6 => ?_) fun h6 => ?_
        · try simp at h6
          refine AWp.seqKL hV [4, 5] ?_
          simp [sp14, sp34, sp35, sp36, hfe]
          repeat refine And.intro (by first | omega | grind) ?_
          refine AWp.ret ?_
          simp [retOk, resT, thenQ, inBlockQ, radd, hfe, *]
          all_goals first | omega | grind
        · try simp at h6
          refine AWp.skip ?_
          try simp only [thenQ, inBlockQ]
          refine AWp.seqKL hV [4, 5] ?_
          simp [sp14, sp34, sp35, sp36, hfe]
          repeat refine And.intro (by first | omega | grind) ?_
          refine AWp.ret ?_
          simp [retOk, resT, thenQ, inBlockQ, radd, hfe, *]
          all_goals first | omega | grind
end Go.Proofs.Ytpbhcpeilgmkeaa

/-
  The events' data in plain Lean, part 3.
-/
namespace Go.Proofs.Ytpbhcpeilgmkeaa
open Go Go.Eva

def pickE : List Event → List Event → Option (Event × List Event × List Event)
  | [], [] => none
  | x :: a, [] => some (x, a, [])
  | [], y :: b => some (y, [], b)
  | x :: a, y :: b => if order x y ≤ 0 then some (x, a, y :: b) else some (y, x :: a, b)
def stepE (out : List Event) (x : Event) : Option (List Event) := match out.getLast? with
  | none => some (out ++ [x])
  | some q => if order q x = 0 then (if q = x then some out else none) else some (out ++ [x])
def mergeF : Nat → List Event → List Event → List Event → Option (List Event)
  | 0, _, _, out => some out
  | n + 1, a, b, out => match pickE a b with
    | none => some out
    | some (x, a', b') => match stepE out x with
      | none => none
      | some out' => mergeF n a' b' out'
def mergeR (a b : List Event) : Option (List Event) := mergeF (a.length + b.length) a b []
def mergeL (a b : List Event) : List Event × Bool := match mergeR a b with | some out => (out, true) | none => ([], false)
theorem mergeF_one {a b out : List Event} (x : Event) (a' b' : List Event) (h : pickE a b = some (x, a', b')) (hl : a.length + b.length = a'.length + b'.length + 1) :
    mergeF (a.length + b.length) a b out = match stepE out x with | none => none | some out' => mergeF (a'.length + b'.length) a' b' out' := by
  rw [hl, mergeF, h]
theorem stepE_nil (x : Event) : stepE [] x = some [x] := rfl
theorem stepE_last {out : List Event} {q : Event} (x : Event) (hq : out[out.length - 1]? = some q) : stepE out x = if order q x = 0 then (if q = x then some out else none) else some (out ++ [x]) := by
  rw [stepE, List.getLast?_eq_getElem?, hq]
theorem ab_cases (a b : List Event) (h : 0 < a.length + b.length) : (∃ x a1, a = x :: a1 ∧ b = []) ∨ (∃ y b1, a = [] ∧ b = y :: b1) ∨ (∃ x a1 y b1, a = x :: a1 ∧ b = y :: b1) := by
  rcases a with _ | ⟨x, a⟩ <;> rcases b with _ | ⟨y, b⟩
  · simp at h
  · exact .inr (.inl ⟨y, b, rfl, rfl⟩)
  · exact .inl ⟨x, a, rfl, rfl⟩
  · exact .inr (.inr ⟨x, a, y, b, rfl, rfl⟩)
theorem out_cases (out : List Event) : out = [] ∨ ∃ q, out[out.length - 1]? = some q ∧ 0 < out.length := by
  by_cases h : 0 < out.length
  · obtain ⟨q, hq⟩ := ex_get (l := out) (k := out.length - 1) (by omega)
    exact .inr ⟨q, hq, h⟩
  · exact .inl (List.length_eq_zero_iff.1 (by omega))
end Go.Proofs.Ytpbhcpeilgmkeaa
