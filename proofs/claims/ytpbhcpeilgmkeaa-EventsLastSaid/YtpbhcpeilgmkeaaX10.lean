/-
  The evaluator, the printed walks and the plain laws, part 10 of 12.
-/
import Derived.Test.YtpbhcpeilgmkeaaX9
set_option linter.all false
set_option linter.unnecessarySimpa false
set_option linter.deprecated false
set_option linter.unusedVariables false
set_option linter.unusedSimpArgs false
set_option linter.unusedSectionVars false

/-
  The frame of this seat: its types in memory.
-/
namespace Go.Proofs.Ytpbhcpeilgmkeaa
open Go Go.Eva Go.RowKit Go.ChangeShapes Go.WideShapes

theorem own : ownKnob Try.prog.godebug = none := by kernel_rfl
theorem laidOut : laidOutB Try.prog = true := by kernel_rfl
theorem field_some {H : Type} {en : TypeId × Value → H} {P : Program} {w : World} {base : Nat} {spare : Nat → Bool} {held : Bool} {n : Nat} {cs : List Value} {xs : List (DataW H × List MemPlace)} {fs : Array Field} (hl : xs.length = fs.size)
    (hf : ∀ (i : Nat) (f : Field), fs[i]? = some f → DataW.trod en P w base spare held n f.type ((cs.drop f.offset).take (P.cellsOf f.type)) = xs[i]?) (i : Nat) (f : Field) (hi : fs[i]? = some f) {s : Nat} (hs : P.cellsOf f.type = s) :
    ∃ x, DataW.trod en P w base spare held n f.type ((cs.drop f.offset).take s) = some x := by
  have h := hf i f hi
  rw [hs] at h
  have : i < xs.length := by rw [hl]; exact (Array.getElem?_eq_some_iff.1 hi).1
  exact ⟨xs[i], by rw [h]; exact List.getElem?_eq_getElem this⟩
theorem opens_3 : Opens Try.prog 3 Int fun n => -9223372036854775808 ≤ n ∧ n ≤ 9223372036854775807 := opens_int Try.underlying3
theorem opens_9 : Opens Try.prog 9 ByteArray fun s => s.size ≤ maxLen := opens_str Try.underlying9
theorem opens_38 : Opens Try.prog 38 Reader fun _ => True := by
  intro H en w base spare held fuel cs x h
  obtain ⟨xs, n, _, _, hl, hxl, hf⟩ := DataW.trod_struct Try.underlying38 h
  obtain ⟨_, h0⟩ := field_some hxl hf 0 _ rfl (s := 1) (by kernel_rfl)
  obtain ⟨_, h1⟩ := field_some hxl hf 1 _ rfl (s := 1) (by kernel_rfl)
  obtain ⟨_, h2⟩ := field_some hxl hf 2 _ rfl (s := 1) (by kernel_rfl)
  obtain ⟨a0, _, k0⟩ := opens_3 _ _ _ _ _ _ _ _ _ h0
  obtain ⟨a1, _, k1⟩ := opens_3 _ _ _ _ _ _ _ _ _ h1
  obtain ⟨a2, _, k2⟩ := opens_3 _ _ _ _ _ _ _ _ _ h2
  have hn : cs.length = 3 := hl.trans (by kernel_rfl)
  exact ⟨⟨a0, a1, a2⟩, trivial, cells_cons k0 (cells_cons k1 (cells_cons k2 (cells_nil _ hn)))⟩
theorem opens_40 : Opens Try.prog 40 Mark fun _ => True := by
  intro H en w base spare held fuel cs x h
  obtain ⟨xs, n, _, _, hl, hxl, hf⟩ := DataW.trod_struct Try.underlying40 h
  obtain ⟨_, h0⟩ := field_some hxl hf 0 _ rfl (s := 1) (by kernel_rfl)
  obtain ⟨_, h1⟩ := field_some hxl hf 1 _ rfl (s := 1) (by kernel_rfl)
  obtain ⟨_, h2⟩ := field_some hxl hf 2 _ rfl (s := 1) (by kernel_rfl)
  obtain ⟨_, h3⟩ := field_some hxl hf 3 _ rfl (s := 3) (by kernel_rfl)
  obtain ⟨_, h4⟩ := field_some hxl hf 4 _ rfl (s := 1) (by kernel_rfl)
  obtain ⟨_, h5⟩ := field_some hxl hf 5 _ rfl (s := 1) (by kernel_rfl)
  obtain ⟨_, h6⟩ := field_some hxl hf 6 _ rfl (s := 1) (by kernel_rfl)
  obtain ⟨_, h7⟩ := field_some hxl hf 7 _ rfl (s := 1) (by kernel_rfl)
  obtain ⟨a0, _, k0⟩ := opens_3 _ _ _ _ _ _ _ _ _ h0
  obtain ⟨a1, _, k1⟩ := opens_3 _ _ _ _ _ _ _ _ _ h1
  obtain ⟨a2, _, k2⟩ := opens_3 _ _ _ _ _ _ _ _ _ h2
  obtain ⟨a3, _, k3⟩ := opens_38 _ _ _ _ _ _ _ _ _ h3
  obtain ⟨a4, _, k4⟩ := opens_3 _ _ _ _ _ _ _ _ _ h4
  obtain ⟨a5, _, k5⟩ := opens_3 _ _ _ _ _ _ _ _ _ h5
  obtain ⟨a6, _, k6⟩ := opens_3 _ _ _ _ _ _ _ _ _ h6
  obtain ⟨a7, _, k7⟩ := opens_9 _ _ _ _ _ _ _ _ _ h7
  have hn : cs.length = 10 := hl.trans (by kernel_rfl)
  exact ⟨⟨a0, a1, a2, a3, a4, a5, a6, a7⟩, trivial, cells_cons k0 (cells_cons k1 (cells_cons k2 (cells_cons k3 (cells_cons k4 (cells_cons k5 (cells_cons k6 (cells_cons k7 (cells_nil _ hn))))))))⟩
theorem opens_42 : Opens Try.prog 42 Event fun _ => True := by
  intro H en w base spare held fuel cs x h
  obtain ⟨xs, n, _, _, hl, hxl, hf⟩ := DataW.trod_struct Try.underlying42 h
  obtain ⟨_, h0⟩ := field_some hxl hf 0 _ rfl (s := 1) (by kernel_rfl)
  obtain ⟨_, h1⟩ := field_some hxl hf 1 _ rfl (s := 1) (by kernel_rfl)
  obtain ⟨_, h2⟩ := field_some hxl hf 2 _ rfl (s := 1) (by kernel_rfl)
  obtain ⟨_, h3⟩ := field_some hxl hf 3 _ rfl (s := 1) (by kernel_rfl)
  obtain ⟨_, h4⟩ := field_some hxl hf 4 _ rfl (s := 10) (by kernel_rfl)
  obtain ⟨a0, _, k0⟩ := opens_3 _ _ _ _ _ _ _ _ _ h0
  obtain ⟨a1, _, k1⟩ := opens_3 _ _ _ _ _ _ _ _ _ h1
  obtain ⟨a2, _, k2⟩ := opens_3 _ _ _ _ _ _ _ _ _ h2
  obtain ⟨a3, _, k3⟩ := opens_3 _ _ _ _ _ _ _ _ _ h3
  obtain ⟨a4, _, k4⟩ := opens_40 _ _ _ _ _ _ _ _ _ h4
  have hn : cs.length = 14 := hl.trans (by kernel_rfl)
  exact ⟨⟨a0, a1, a2, a3, a4⟩, trivial, cells_cons k0 (cells_cons k1 (cells_cons k2 (cells_cons k3 (cells_cons k4 (cells_nil _ hn)))))⟩
theorem opens_22 : Opens Try.prog 22 (List Event) fun l => l.length ≤ maxLen ∧ ∀ a ∈ l, True := opens_slice Try.underlying22 (by kernel_rfl) (by rw [show Try.prog.cellsOf 42 = 14 by kernel_rfl]; omega) opens_42
theorem opens_5 : Opens Try.prog 5 (IntK .u8) fun n => (Lit.int .u8 n.n).wf = true := opens_intk Try.underlying5
theorem shutBool {H : Type} {en : TypeId × Value → H} {W : World} {base : Nat} {sp : Nat → Bool} {held : Bool} (b : Bool) : DataW.Trod en Try.prog W base sp held 4 (.bool b) (.lit (.bool b)) [] := ⟨1, by simp [DataW.trod, Value.cells, Try.underlying4]⟩

theorem ran3 (l more : List Event) (stand : Int) : PureCon Try.prog 3 [Enc.enc l, Enc.enc more, Enc.enc stand] (.bool true) := by
  have h := ok3.con [Enc.enc l, Enc.enc more, Enc.enc stand] _ _ rfl (by simp only [Enc.dec_enc, matches_eq]; exact ⟨trivial, trivial, trivial, rfl⟩)
  simp only [Enc.dec_enc, matches_eq] at h
  exact h
theorem ran8 (l more : List Event) (stand : Int) : PureCon Try.prog 8 [Enc.enc l, Enc.enc more, Enc.enc stand] (.bool true) := by
  have h := ok8.con [Enc.enc l, Enc.enc more, Enc.enc stand] _ _ rfl (by simp only [Enc.dec_enc, known_eq]; exact ⟨trivial, trivial, trivial, rfl⟩)
  simp only [Enc.dec_enc, known_eq] at h
  exact h
theorem ran5 (l m n : List Event) (part : IntK .u8) (h0 : 0 ≤ part.n) (h1 : part.n ≤ 255) : PureCon Try.prog 5 [Enc.enc l, Enc.enc m, Enc.enc n, Enc.enc part] (.bool true) := by
  have h := ok5.con [Enc.enc l, Enc.enc m, Enc.enc n, Enc.enc part] _ _ rfl (by simp only [Enc.dec_enc, join_eq l m n part h0 h1]; exact ⟨trivial, trivial, trivial, trivial, rfl⟩)
  simp only [Enc.dec_enc, join_eq l m n part h0 h1] at h
  exact h
end Go.Proofs.Ytpbhcpeilgmkeaa

/-
  Programs of the events: printed by gen2.py (extraction).
-/
namespace Go.Proofs.Ytpbhcpeilgmkeaa
open Go Go.Eva Enc
set_option linter.unusedVariables false
noncomputable def lawOrder_r1 (l : (List Event)) (swaps : (List (IntK .u8))) : Option Bool :=
  (bnd (formedP l) fun x6 =>
  ifb (!x6) (some true) (some (decide (80 < (swaps.length : Int)))))
noncomputable def lawOrder_j7 (z3u39 : Int) (y80u8 : (List Event)) : Option (((List Event) × Int) ⊕ (((List Event)))) :=
  grd (inI (z3u39 + 1)) (some (.inl (y80u8, (z3u39 + 1))))
noncomputable def lawOrder_s6 (l : (List Event)) (swaps : (List (IntK .u8))) : ((List Event) × Int) → Option (((List Event) × Int) ⊕ (((List Event)))) := fun (z3u8, z3u39) =>
  ifb (decide (z3u39 < (swaps.length : Int))) (bnd (at? swaps z3u39) fun x82 =>
  ifb (decide (0 < (l.length : Int))) (grd (0 ≤ z3u39 ∧ 0 < (l.length : Int)) (grd (0 ≤ (IntKind.wrap .i64 x82.n) ∧ 0 < (l.length : Int)) (bnd (at? z3u8 ((IntKind.wrap .i64 x82.n) % (l.length : Int))) fun x90 =>
  bnd (at? z3u8 (z3u39 % (l.length : Int))) fun x92 =>
  bnd (at? z3u8 (z3u39 % (l.length : Int))) fun x94 =>
  bnd (at? (z3u8.set (z3u39 % (l.length : Int)).toNat x90) ((IntKind.wrap .i64 x82.n) % (l.length : Int))) fun x96 =>
  lawOrder_j7 z3u39 ((z3u8.set (z3u39 % (l.length : Int)).toNat x90).set ((IntKind.wrap .i64 x82.n) % (l.length : Int)).toNat x92))))
  (lawOrder_j7 z3u39 z3u8))
  (some (.inr z3u8))
noncomputable def lawOrder_r16 (l : (List Event)) (z9u73 : Int) : Option Bool :=
  (ifb (decide (0 < (l.length : Int))) (grd (0 ≤ z9u73 ∧ 0 < 3) (some (decide ((z9u73 % 3) = 0)))) (some false))
noncomputable def lawOrder_j15 (z9u73 : Int) (y163u8 : (List Event)) : Option (((List Event) × Int) ⊕ (((List Event)))) :=
  grd (inI (z9u73 + 1)) (some (.inl (y163u8, (z9u73 + 1))))
noncomputable def lawOrder_s14 (l : (List Event)) (swaps : (List (IntK .u8))) : ((List Event) × Int) → Option (((List Event) × Int) ⊕ (((List Event)))) := fun (z9u8, z9u73) =>
  ifb (decide (z9u73 < (swaps.length : Int))) (bnd (at? swaps z9u73) fun x165 =>
  bnd (lawOrder_r16 l z9u73) fun y169u85 =>
  ifb y169u85 (grd (0 ≤ (IntKind.wrap .i64 x165.n) ∧ 0 < (l.length : Int)) (bnd (at? l ((IntKind.wrap .i64 x165.n) % (l.length : Int))) fun x177 =>
  grd (((z9u8 ++ [x177]) : List Event).length * 120 ≤ 140737488355328) (lawOrder_j15 z9u73 (z9u8 ++ [x177]))))
  (lawOrder_j15 z9u73 z9u8))
  (some (.inr z9u8))
noncomputable def lawOrder_r17 (x185 : (List Event)) (x186 : Int) (x189 : (List Event)) (x190 : Int) : Option Bool :=
  (ifb (!decide (x186 = x190)) (some true) (grd ((x185 : List Event).length ≤ 1000000000) (some (!(decide (x185 = x189))))))
noncomputable def lawOrder_r18 (x2 : Bool) (x186 : Int) (x208 : Int) (x213 : Int) : Option Bool :=
  (ifb x2 (ifb (decide (x186 = 61)) (ifb (decide (x208 = 61)) (some true) (ifb (decide (x208 = 0)) (some (decide (x213 = 61))) (some false))) (some false)) (some false))
noncomputable def lawOrder_r19 (x2 : Bool) (x185 : (List Event)) (x208 : Int) (x212 : (List Event)) (x213 : Int) : Option Bool :=
  (ifb x2 (ifb (decide (x208 = 0)) (ifb (decide (x213 = 0)) (grd ((x185 : List Event).length ≤ 1000000000) (ifb (decide (x185 = x212)) (grd ((x185 : List Event).length ≤ 1000000000) (some (validE x185))) (some false))) (some false)) (some false)) (some false))
noncomputable def lawOrder_j8 (l : (List Event)) (split : (IntK .u8)) (x2 : Bool) (y103u8 : (List Event)) : Option Bool :=
  bnd (eAdd ([]) l) fun (x185, x186) =>
  bnd (eAdd ([]) y103u8) fun (x189, x190) =>
  bnd (lawOrder_r17 x185 x186 x189 x190) fun y195u116 =>
  ifb y195u116 (some false)
  (grd (inI ((l.length : Int) + 1)) (grd (0 ≤ (IntKind.wrap .i64 split.n) ∧ 0 < ((l.length : Int) + 1)) (grd (0 ≤ ((IntKind.wrap .i64 split.n) % ((l.length : Int) + 1)) ∧ ((IntKind.wrap .i64 split.n) % ((l.length : Int) + 1)) ≤ (l.length : Int)) (bnd (eAdd ([]) (l.take ((IntKind.wrap .i64 split.n) % ((l.length : Int) + 1)).toNat)) fun (x207, x208) =>
  grd (0 ≤ ((IntKind.wrap .i64 split.n) % ((l.length : Int) + 1)) ∧ ((IntKind.wrap .i64 split.n) % ((l.length : Int) + 1)) ≤ (l.length : Int)) (bnd (eAdd x207 (l.drop ((IntKind.wrap .i64 split.n) % ((l.length : Int) + 1)).toNat)) fun (x212, x213) =>
  ifb (!decide (x186 = 0)) (bnd (lawOrder_r18 x2 x186 x208 x213) fun y219u6 =>
  some y219u6)
  (bnd (lawOrder_r19 x2 x185 x208 x212 x213) fun y233u6 =>
  some y233u6))))))
noncomputable def lawOrder_j2 (l : (List Event)) (swaps : (List (IntK .u8))) (split : (IntK .u8)) (x2 : Bool) (y18u8 : (List Event)) : Option Bool :=
  bnd (loopO (lawOrder_s14 l swaps) (y18u8, 0)) fun q184u8 =>
  lawOrder_j8 l split x2 q184u8
noncomputable def lawOrder (l : (List Event)) (swaps : (List (IntK .u8))) (split : (IntK .u8)) : Option Bool :=
  bnd (headP) fun x2 =>
  bnd (lawOrder_r1 l swaps) fun y8u32 =>
  ifb y8u32 (some x2)
  (grd ((([] ++ l) : List Event).length * 120 ≤ 140737488355328) (bnd (loopO (lawOrder_s6 l swaps) (([] ++ l), 0)) fun q102u8 =>
  lawOrder_j2 l swaps split x2 q102u8))
end Go.Proofs.Ytpbhcpeilgmkeaa

/-
  Walks of the events: printed by gen2.py (extraction).
-/
namespace Go.Proofs.Ytpbhcpeilgmkeaa
open Go Go.Eva Enc
set_option linter.unusedSectionVars false
set_option linter.unusedSimpArgs false
set_option linter.unusedVariables false
set_option maxRecDepth 4000
attribute [local congr] AWp.congrS
attribute [local simp] evalSeq opRes guardPc evalOp evT Eva.get startT strip putT Eva.after constT typed obAll holds dstOk R.ok R.bad ofD binD unD pickT subL subP Op.operands Call.operands toD argsD callD callT typedAll cfind quietT spec0 spec1 spec2 spec3 enc_int enc_bool enc_str enc_fn enc_list dec_int dec_bool dec_str dec_fn dec_list size_int size_str enc_R enc_M enc_E dec_R dec_M dec_E size_R size_M size_E eta_R eta_M eta_E enc_rune size_rune dec_rune eta_rune runesD_eq map_dec_enc map_dec_comp cellsT D.cells T.oneT D.one mkT unD1 setAt loadAs loadEl storeAs fieldP fieldV sizeE intOfT indexP appendT lenT sliceT elemSize arith lfsOk lfOk beqL_R beqL_M beqL_E beqL_R0 beqL_M0 isAggD mkD fillD placeS TD.agg env restr List.map keyIdx mapTy lookT mapPutT mapDelT mapOf indexS convT evalPure range1 range2 range3 range4 eqT4 eqT38 eqT40 eqT42 te1 te2 te3 te4 te5 te6 te7 te8 te9 te10 te11 te12 te13 te14 te15 te16 te17 te18 te19 te21 te22 te23 te24 te25 te27 te28 te29 te31 te32 te34 te35 te36 te37 te38 te39 te40 te41 te42 te43 te44 te45 te46 te47 te49 te50 te51 te52 te53 te54 te55 te56 te57 te59 te60 te61 te62 te63 te64 te65 te66 te67 te68 te69 te70 te71 te72 te73 te74 te75 te76 te77 te78 te79 te80 te82 te83 te84 te85 te86 te87 te88 te90 te91 te92 te94 te95 te96 te97 te98 te99 te100 te101 te102 te103 te104 te105 te106 te107 te108 te109 te110 te111 te112 te113 te114 te116 te117 te118 te119 te120 te121 te122 te123 te124 te125 te126 te127 te128 te129 te130 te131 te132 te133 te134 enc_intk size_intk dec_intk eta_intk range5 range6 range7 range8 keysInt_nil keyIdx_E keysInt_E okKeys_E isE_iff put_E del_E get_E getok_E mkeys_E mkeys_E' mkeys_enc specO0 specO1 specO2 specO3 specO4 opD skips gone List.contains_cons List.contains_nil envF fenv

noncomputable def sp4 : Eva.Spec := specO3 fun (l : (List Event)) (swaps : (List (IntK .u8))) (split : (IntK .u8)) => (lawOrder l swaps split).map fun r => enc r
set_option maxHeartbeats 4000000 in
theorem ok4 : SpecOk Try.prog 4 sp4 := by
  have hV : VOk Try.prog (envF [(9, sp9), (21, tp21), (11, sp11), (15, sp15), (13, sp13)]) := envF_ok ⟨ok9, tk21, ok11, ok15, ok13, trivial⟩
  refine SpecOk.ofO3 (Enters.of Try.func4 (by decide)) ?_
  intro l swaps split rr hr
  obtain ⟨r, hg, rfl⟩ := Option.map_eq_some_iff.1 hr
  clear hr
  refine PureCon.ofQ hV Try.func4 rfl (by rw [Try.ntmps4]; simp) fun w0 I0 Q hQ => ?_
  rw [Try.ntmps4]
  unfold lawOrder at hg
  refine AWp.rS hV none [0, 1, 2] fun K k1 => ?_
  simp
  repeat refine And.intro (by first | omega | (simp [*]; done) | grind) ?_
  refine kcong (s' := ⟨[(0, .d (enc (l : (List Event)))), (1, .d (enc (swaps : (List (IntK .u8))))), (2, .d (enc (split : (IntK .u8))))], []⟩) (by first | rfl | (simp []; done) | (simp []; grind)) (k1 _ ?_)
  obtain ⟨x2, h3, hg⟩ := bnd_some hg
  have h3g := h3
  try simp at h3g
  refine AWp.rS hV none [0, 1, 2, 7] fun K k4 => ?_
  simp [sp9, h3, h3g]
  repeat refine And.intro (by first | omega | (simp [*]; done) | grind) ?_
  refine kcong (s' := ⟨[(0, .d (enc (l : (List Event)))), (1, .d (enc (swaps : (List (IntK .u8))))), (2, .d (enc (split : (IntK .u8)))), (7, .d (enc (x2 : Bool)))], []⟩) (by first | rfl | (simp [sp9, h3, h3g]; done) | (simp [sp9, h3, h3g]; grind)) (k4 _ ?_)
  refine AWp.seqG fun _ k5 => ?_
  obtain ⟨y8u32, hx9, hg⟩ := bnd_some hg
  unfold lawOrder_r1 at hx9
  refine AWp.seqJ (fun s' => Sub s' ⟨[(0, .d (enc (l : (List Event)))), (1, .d (enc (swaps : (List (IntK .u8))))), (2, .d (enc (split : (IntK .u8)))), (7, .d (enc (x2 : Bool))), (32, .d (enc (y8u32 : Bool)))], []⟩) (fun _ k10 => ?_) ?_
  · obtain ⟨x6, h7, hx9⟩ := bnd_some hx9
    have h7g := h7
    try simp at h7g
    rcases Bool.eq_false_or_eq_true (!x6) with c11 | c11
    · replace hx9 := ifb_t c11 hx9
      have c11g := c11
      try simp at c11g
      refine AWp.regF hV (some [29, 30, 31]) [0, 1, 2, 7, 32] fun K k12 => ?_
      simp [tp21, h7, h7g, c11, c11g]
      repeat refine And.intro (by first | omega | (simp [*]; done) | grind) ?_
      refine kcong (s' := ⟨[(0, .d (enc (l : (List Event)))), (1, .d (enc (swaps : (List (IntK .u8))))), (2, .d (enc (split : (IntK .u8)))), (7, .d (enc (x2 : Bool))), (32, .d (enc (true : Bool)))], []⟩) (by first | rfl | (simp [tp21, h7, h7g, c11, c11g]; done) | (simp [tp21, h7, h7g, c11, c11g]; grind)) (k12 _ ?_)
      have hx9 := Option.some.inj hx9
      subst hx9
      refine k10 _ ?_
      show Sub _ ⟨[(0, .d (enc (l : (List Event)))), (1, .d (enc (swaps : (List (IntK .u8))))), (2, .d (enc (split : (IntK .u8)))), (7, .d (enc (x2 : Bool))), (32, .d (enc (true : Bool)))], []⟩
      exact Sub.ren [] (by decide) (by first | rfl | simp [renL, AO.ren, forgetsR, T.ren, idx, Eva.get]) (by first | exact ⟨rfl, rfl, rfl, rfl, rfl, trivial⟩ | (simp [renL, AO.ren, forgetsR, T.ren, idx, Eva.get]; done) | (simp [renL, AO.ren, forgetsR, T.ren, idx, Eva.get]; grind))
    · replace hx9 := ifb_f c11 hx9
      have c11g := c11
      try simp at c11g
      refine AWp.regF hV (some []) [0, 1, 2, 7, 32] fun K k13 => ?_
      simp [tp21, h7, h7g, c11, c11g]
      repeat refine And.intro (by first | omega | (simp [*]; done) | grind) ?_
      refine kcong (s' := ⟨[(0, .d (enc (l : (List Event)))), (1, .d (enc (swaps : (List (IntK .u8))))), (2, .d (enc (split : (IntK .u8)))), (7, .d (enc (x2 : Bool))), (32, .d (enc ((decide (80 < (swaps.length : Int))) : Bool)))], []⟩) (by first | rfl | (simp [tp21, h7, h7g, c11, c11g]; done) | (simp [tp21, h7, h7g, c11, c11g]; grind)) (k13 _ ?_)
      have hx9 := Option.some.inj hx9
      subst hx9
      refine k10 _ ?_
      show Sub _ ⟨[(0, .d (enc (l : (List Event)))), (1, .d (enc (swaps : (List (IntK .u8))))), (2, .d (enc (split : (IntK .u8)))), (7, .d (enc (x2 : Bool))), (32, .d (enc ((decide (80 < (swaps.length : Int))) : Bool)))], []⟩
      exact Sub.ren [] (by decide) (by first | rfl | simp [renL, AO.ren, forgetsR, T.ren, idx, Eva.get]) (by first | exact ⟨rfl, rfl, rfl, rfl, rfl, trivial⟩ | (simp [renL, AO.ren, forgetsR, T.ren, idx, Eva.get]; done) | (simp [renL, AO.ren, forgetsR, T.ren, idx, Eva.get]; grind))
  · intro s' hs
    refine AWp.sub hs ?_
    clear hs s'
    refine AWp.cond (b := y8u32) rfl (fun h14 => ?_) fun h14 => ?_
    · replace hg := ifb_t h14 hg
      refine AWp.rS hV none [6] fun K k15 => ?_
      simp
      repeat refine And.intro (by first | omega | (simp [*]; done) | grind) ?_
      refine kcong (s' := ⟨[(6, .d (enc (x2 : Bool)))], []⟩) (by first | rfl | (simp []; done) | (simp []; grind)) (k15 _ ?_)
      refine AWp.ret ?_
      refine hQ _ _ (.inl rfl) ?_
      have hg := Option.some.inj hg
      subst hg
      first | (simp [retOk, resT, loadAs]; done) | (simp [retOk, resT, loadAs]; grind)
    · replace hg := ifb_f h14 hg
      refine AWp.skip ?_
      refine k5 _ ?_
      obtain ⟨g16, hg⟩ := grd_some hg
      refine AWp.rS hV none [0, 1, 2, 7, 8] fun K k17 => ?_
      simp
      repeat refine And.intro (by first | omega | (simp [*]; done) | grind) ?_
      refine kcong (s' := ⟨[(0, .d (enc (l : (List Event)))), (1, .d (enc (swaps : (List (IntK .u8))))), (2, .d (enc (split : (IntK .u8)))), (7, .d (enc (x2 : Bool))), (8, .row 1)], [.dead, .row 42 14 ((([] ++ l) : List Event).map enc)]⟩) (by first | rfl | (simp []; done) | (simp []; grind)) (k17 _ ?_)
      refine AWp.seqJ (fun s' => ∃ y18u8 : (List Event), lawOrder_j2 l swaps split x2 y18u8 = some r ∧ Sub s' ⟨[(0, .d (enc (l : (List Event)))), (1, .d (enc (swaps : (List (IntK .u8))))), (2, .d (enc (split : (IntK .u8)))), (7, .d (enc (x2 : Bool))), (8, .row 0)], [.row 42 14 ((y18u8 : List Event).map enc)]⟩) (fun _ k19 => ?_) ?_
      · refine AWp.rS hV none [0, 1, 2, 7, 8, 37, 38, 39] fun K k20 => ?_
        simp
        repeat refine And.intro (by first | omega | (simp [*]; done) | grind) ?_
        refine kcong (s' := ⟨[(0, .d (enc (l : (List Event)))), (1, .d (enc (swaps : (List (IntK .u8))))), (2, .d (enc (split : (IntK .u8)))), (7, .d (enc (x2 : Bool))), (8, .row 1), (37, .d (enc (swaps : (List (IntK .u8))))), (38, .d (enc ((swaps.length : Int) : Int))), (39, .d (enc (0 : Int)))], [.dead, .row 42 14 ((([] ++ l) : List Event).map enc)]⟩) (by first | rfl | (simp []; done) | (simp []; grind)) (k20 _ ?_)
        refine AWp.block ?_
        obtain ⟨o70, hl71, hg⟩ := bnd_some hg
        refine AWp.loopO (fun ((z3u8, z3u39) : (List Event) × Int) => ⟨[(0, .d (enc (l : (List Event)))), (1, .d (enc (swaps : (List (IntK .u8))))), (2, .d (enc (split : (IntK .u8)))), (7, .d (enc (x2 : Bool))), (8, .row 0), (37, .d (enc (swaps : (List (IntK .u8))))), (38, .d (enc ((swaps.length : Int) : Int))), (39, .d (enc (z3u39 : Int)))], [.row 42 14 ((z3u8 : List Event).map enc)]⟩) (lawOrder_s6 l swaps) (([] ++ l), 0) hl71 ?_ fun z72 w75 _ ho73 hx74 k21 => ?_
        · show Sub _ ⟨[(0, .d (enc (l : (List Event)))), (1, .d (enc (swaps : (List (IntK .u8))))), (2, .d (enc (split : (IntK .u8)))), (7, .d (enc (x2 : Bool))), (8, .row 0), (37, .d (enc (swaps : (List (IntK .u8))))), (38, .d (enc ((swaps.length : Int) : Int))), (39, .d (enc (0 : Int)))], [.row 42 14 ((([] ++ l) : List Event).map enc)]⟩
          exact Sub.ren [1] (by decide) (by first | rfl | simp [renL, AO.ren, forgetsR, T.ren, idx, Eva.get]) (by first | exact ⟨rfl, rfl, rfl, rfl, rfl, rfl, rfl, rfl, trivial⟩ | (simp [renL, AO.ren, forgetsR, T.ren, idx, Eva.get]; done) | (simp [renL, AO.ren, forgetsR, T.ren, idx, Eva.get]; grind))
        obtain ⟨z3u8, z3u39⟩ := z72
        unfold lawOrder_s6 at ho73
        try dsimp only at ho73
        have hq76 := hg
        clear hg
        have hg := ho73
        clear ho73
        show AWp _ _ _ _ _ ⟨[(0, .d (enc (l : (List Event)))), (1, .d (enc (swaps : (List (IntK .u8))))), (2, .d (enc (split : (IntK .u8)))), (7, .d (enc (x2 : Bool))), (8, .row 0), (37, .d (enc (swaps : (List (IntK .u8))))), (38, .d (enc ((swaps.length : Int) : Int))), (39, .d (enc (z3u39 : Int)))], [.row 42 14 ((z3u8 : List Event).map enc)]⟩ _
        refine AWp.rS hV none [0, 1, 2, 7, 8, 37, 38, 39, 40] fun K k77 => ?_
        simp
        repeat refine And.intro (by first | omega | (simp [*]; done) | grind) ?_
        refine kcong (s' := ⟨[(0, .d (enc (l : (List Event)))), (1, .d (enc (swaps : (List (IntK .u8))))), (2, .d (enc (split : (IntK .u8)))), (7, .d (enc (x2 : Bool))), (8, .row 0), (37, .d (enc (swaps : (List (IntK .u8))))), (38, .d (enc ((swaps.length : Int) : Int))), (39, .d (enc (z3u39 : Int))), (40, .d (enc ((decide (z3u39 < (swaps.length : Int))) : Bool)))], [.row 42 14 ((z3u8 : List Event).map enc)]⟩) (by first | rfl | (simp []; done) | (simp []; grind)) (k77 _ ?_)
        refine AWp.seqG fun _ k78 => ?_
        refine AWp.cond (b := (decide (z3u39 < (swaps.length : Int)))) rfl (fun h79 => ?_) fun h79 => ?_
        · replace hg := ifb_t h79 hg
          refine AWp.skip ?_
          refine k78 _ ?_
          refine AWp.seqJ (fun s' => ∃ y80u8 : (List Event), lawOrder_j7 z3u39 y80u8 = some w75 ∧ Sub s' ⟨[(0, .d (enc (l : (List Event)))), (1, .d (enc (swaps : (List (IntK .u8))))), (2, .d (enc (split : (IntK .u8)))), (7, .d (enc (x2 : Bool))), (8, .row 0), (37, .d (enc (swaps : (List (IntK .u8))))), (38, .d (enc ((swaps.length : Int) : Int))), (39, .d (enc (z3u39 : Int)))], [.row 42 14 ((y80u8 : List Event).map enc)]⟩) (fun _ k81 => ?_) ?_
          · refine AWp.block ?_
            obtain ⟨x82, h83, hg⟩ := bnd_some hg
            obtain ⟨h83a, h83b, h83c⟩ := at_some h83
            have h83f := elAt_enc h83c
            have h83g := h83f
            try simp at h83g
            refine AWp.rS hV none [0, 1, 2, 7, 8, 9, 10, 37, 38, 39] fun K k84 => ?_
            simp [h83f, h83g]
            repeat refine And.intro (by first | omega | (simp [*]; done) | grind) ?_
            refine kcong (s' := ⟨[(0, .d (enc (l : (List Event)))), (1, .d (enc (swaps : (List (IntK .u8))))), (2, .d (enc (split : (IntK .u8)))), (7, .d (enc (x2 : Bool))), (8, .row 0), (9, .d (enc (z3u39 : Int))), (10, .d (enc (x82 : (IntK .u8)))), (37, .d (enc (swaps : (List (IntK .u8))))), (38, .d (enc ((swaps.length : Int) : Int))), (39, .d (enc (z3u39 : Int)))], [.row 42 14 ((z3u8 : List Event).map enc)]⟩) (by first | rfl | (simp [h83f, h83g]; done) | (simp [h83f, h83g]; grind)) (k84 _ ?_)
            refine AWp.rS hV none [0, 1, 2, 7, 8, 9, 10, 37, 38, 39, 46] fun K k85 => ?_
            simp
            repeat refine And.intro (by first | omega | (simp [*]; done) | grind) ?_
            refine kcong (s' := ⟨[(0, .d (enc (l : (List Event)))), (1, .d (enc (swaps : (List (IntK .u8))))), (2, .d (enc (split : (IntK .u8)))), (7, .d (enc (x2 : Bool))), (8, .row 0), (9, .d (enc (z3u39 : Int))), (10, .d (enc (x82 : (IntK .u8)))), (37, .d (enc (swaps : (List (IntK .u8))))), (38, .d (enc ((swaps.length : Int) : Int))), (39, .d (enc (z3u39 : Int))), (46, .d (enc ((decide (0 < (l.length : Int))) : Bool)))], [.row 42 14 ((z3u8 : List Event).map enc)]⟩) (by first | rfl | (simp []; done) | (simp []; grind)) (k85 _ ?_)
            refine AWp.cond (b := (decide (0 < (l.length : Int)))) rfl (fun h86 => ?_) fun h86 => ?_
            · replace hg := ifb_t h86 hg
              obtain ⟨g87, hg⟩ := grd_some hg
              obtain ⟨g88, hg⟩ := grd_some hg
              refine AWp.rD hV mixed none 10 [0, 1, 2, 7, 8, 11, 12, 37, 38, 39] (by decide) fun K k89 => ?_
              simp
              repeat refine And.intro (by first | omega | (simp [*]; done) | grind) ?_
              refine kcong (s' := ⟨[(0, .d (enc (l : (List Event)))), (1, .d (enc (swaps : (List (IntK .u8))))), (2, .d (enc (split : (IntK .u8)))), (7, .d (enc (x2 : Bool))), (8, .row 0), (11, .d (enc ((z3u39 % (l.length : Int)) : Int))), (12, .d (enc (((IntKind.wrap .i64 x82.n) % (l.length : Int)) : Int))), (37, .d (enc (swaps : (List (IntK .u8))))), (38, .d (enc ((swaps.length : Int) : Int))), (39, .d (enc (z3u39 : Int)))], [.row 42 14 ((z3u8 : List Event).map enc)]⟩) (by first | rfl | (simp []; done) | (simp []; grind)) (k89 _ ?_)
              obtain ⟨x90, h91, hg⟩ := bnd_some hg
              obtain ⟨h91a, h91b, h91c⟩ := at_some h91
              have h91f := elAt_enc h91c
              have h91g := h91f
              try simp at h91g
              obtain ⟨x92, h93, hg⟩ := bnd_some hg
              obtain ⟨h93a, h93b, h93c⟩ := at_some h93
              have h93f := elAt_enc h93c
              have h93g := h93f
              try simp at h93g
              obtain ⟨x94, h95, hg⟩ := bnd_some hg
              obtain ⟨h95a, h95b, h95c⟩ := at_some h95
              have h95f := elAt_enc h95c
              have h95g := h95f
              try simp at h95g
              obtain ⟨x96, h97, hg⟩ := bnd_some hg
              obtain ⟨h97a, h97b, h97c⟩ := at_some h97
              have h97f := elAt_enc h97c
              have h97g := h97f
              try simp at h97g
              refine AWp.regDFF hV mixed none 12 [2, 3] [0, 1, 2, 7, 8, 37, 38, 39] (by decide) fun K k98 => ?_
              simp [h91f, h91g, h93f, h93g, h95f, h95g, h97f, h97g]
              repeat refine And.intro (by first | omega | (simp [*]; done) | grind) ?_
              refine kcong (s' := ⟨[(0, .d (enc (l : (List Event)))), (1, .d (enc (swaps : (List (IntK .u8))))), (2, .d (enc (split : (IntK .u8)))), (7, .d (enc (x2 : Bool))), (8, .row 0), (37, .d (enc (swaps : (List (IntK .u8))))), (38, .d (enc ((swaps.length : Int) : Int))), (39, .d (enc (z3u39 : Int)))], [.row 42 14 ((((z3u8.set (z3u39 % (l.length : Int)).toNat x90).set ((IntKind.wrap .i64 x82.n) % (l.length : Int)).toNat x92) : List Event).map enc)]⟩) (by first | rfl | (simp [h91f, h91g, h93f, h93g, h95f, h95g, h97f, h97g]; done) | (simp [h91f, h91g, h93f, h93g, h95f, h95g, h97f, h97g]; grind)) (k98 _ ?_)
              refine k81 _ (Exists.intro _ (And.intro hg ?_))
              show Sub _ ⟨[(0, .d (enc (l : (List Event)))), (1, .d (enc (swaps : (List (IntK .u8))))), (2, .d (enc (split : (IntK .u8)))), (7, .d (enc (x2 : Bool))), (8, .row 0), (37, .d (enc (swaps : (List (IntK .u8))))), (38, .d (enc ((swaps.length : Int) : Int))), (39, .d (enc (z3u39 : Int)))], [.row 42 14 ((((z3u8.set (z3u39 % (l.length : Int)).toNat x90).set ((IntKind.wrap .i64 x82.n) % (l.length : Int)).toNat x92) : List Event).map enc)]⟩
              exact Sub.ren [0] (by decide) (by first | rfl | simp [renL, AO.ren, forgetsR, T.ren, idx, Eva.get]) (by first | exact ⟨rfl, rfl, rfl, rfl, rfl, rfl, rfl, rfl, trivial⟩ | (simp [renL, AO.ren, forgetsR, T.ren, idx, Eva.get]; done) | (simp [renL, AO.ren, forgetsR, T.ren, idx, Eva.get]; grind))
            · replace hg := ifb_f h86 hg
              refine AWp.skip ?_
              refine k81 _ (Exists.intro _ (And.intro hg ?_))
              show Sub _ ⟨[(0, .d (enc (l : (List Event)))), (1, .d (enc (swaps : (List (IntK .u8))))), (2, .d (enc (split : (IntK .u8)))), (7, .d (enc (x2 : Bool))), (8, .row 0), (37, .d (enc (swaps : (List (IntK .u8))))), (38, .d (enc ((swaps.length : Int) : Int))), (39, .d (enc (z3u39 : Int)))], [.row 42 14 ((z3u8 : List Event).map enc)]⟩
              exact Sub.ren [0] (by decide) (by first | rfl | simp [renL, AO.ren, forgetsR, T.ren, idx, Eva.get]) (by first | exact ⟨rfl, rfl, rfl, rfl, rfl, rfl, rfl, rfl, trivial⟩ | (simp [renL, AO.ren, forgetsR, T.ren, idx, Eva.get]; done) | (simp [renL, AO.ren, forgetsR, T.ren, idx, Eva.get]; grind))
          · rintro s' ⟨y80u8, hg, hs⟩
            unfold lawOrder_j7 at hg
            refine AWp.sub hs ?_
            obtain ⟨g99, hg⟩ := grd_some hg
            unfold inI at g99
            refine AWp.regF hV none [0, 1, 2, 7, 8, 37, 38, 39] fun K k100 => ?_
            simp
            repeat refine And.intro (by first | omega | (simp [*]; done) | grind) ?_
            refine kcong (s' := ⟨[(0, .d (enc (l : (List Event)))), (1, .d (enc (swaps : (List (IntK .u8))))), (2, .d (enc (split : (IntK .u8)))), (7, .d (enc (x2 : Bool))), (8, .row 0), (37, .d (enc (swaps : (List (IntK .u8))))), (38, .d (enc ((swaps.length : Int) : Int))), (39, .d (enc ((z3u39 + 1) : Int)))], [.row 42 14 ((y80u8 : List Event).map enc)]⟩) (by first | rfl | (simp []; done) | (simp []; grind)) (k100 _ ?_)
            refine k21 _ _ (Option.some.inj hg).symm ?_
            show Sub _ ⟨[(0, .d (enc (l : (List Event)))), (1, .d (enc (swaps : (List (IntK .u8))))), (2, .d (enc (split : (IntK .u8)))), (7, .d (enc (x2 : Bool))), (8, .row 0), (37, .d (enc (swaps : (List (IntK .u8))))), (38, .d (enc ((swaps.length : Int) : Int))), (39, .d (enc ((z3u39 + 1) : Int)))], [.row 42 14 ((y80u8 : List Event).map enc)]⟩
            exact Sub.ren [0] (by decide) (by first | rfl | simp [renL, AO.ren, forgetsR, T.ren, idx, Eva.get]) (by first | exact ⟨rfl, rfl, rfl, rfl, rfl, rfl, rfl, rfl, trivial⟩ | (simp [renL, AO.ren, forgetsR, T.ren, idx, Eva.get]; done) | (simp [renL, AO.ren, forgetsR, T.ren, idx, Eva.get]; grind))
        · replace hg := ifb_f h79 hg
          refine AWp.exit ?_
          have e101 := hx74 _ (Option.some.inj hg).symm
          subst e101
          have hg := hq76
          try dsimp only at hg
          refine k19 _ (Exists.intro _ (And.intro hg ?_))
          show Sub _ ⟨[(0, .d (enc (l : (List Event)))), (1, .d (enc (swaps : (List (IntK .u8))))), (2, .d (enc (split : (IntK .u8)))), (7, .d (enc (x2 : Bool))), (8, .row 0)], [.row 42 14 ((z3u8 : List Event).map enc)]⟩
          exact Sub.ren [0] (by decide) (by first | rfl | simp [renL, AO.ren, forgetsR, T.ren, idx, Eva.get]) (by first | exact ⟨rfl, rfl, rfl, rfl, rfl, trivial⟩ | (simp [renL, AO.ren, forgetsR, T.ren, idx, Eva.get]; done) | (simp [renL, AO.ren, forgetsR, T.ren, idx, Eva.get]; grind))
      · rintro s' ⟨y18u8, hg, hs⟩
        unfold lawOrder_j2 at hg
        refine AWp.sub hs ?_
        refine AWp.seqJ (fun s' => ∃ y103u8 : (List Event), lawOrder_j8 l split x2 y103u8 = some r ∧ Sub s' ⟨[(0, .d (enc (l : (List Event)))), (2, .d (enc (split : (IntK .u8)))), (7, .d (enc (x2 : Bool))), (8, .row 0)], [.row 42 14 ((y103u8 : List Event).map enc)]⟩) (fun _ k104 => ?_) ?_
        · refine AWp.rS hV none [0, 2, 7, 8, 71, 72, 73] fun K k105 => ?_
          simp
          repeat refine And.intro (by first | omega | (simp [*]; done) | grind) ?_
          refine kcong (s' := ⟨[(0, .d (enc (l : (List Event)))), (2, .d (enc (split : (IntK .u8)))), (7, .d (enc (x2 : Bool))), (8, .row 0), (71, .d (enc (swaps : (List (IntK .u8))))), (72, .d (enc ((swaps.length : Int) : Int))), (73, .d (enc (0 : Int)))], [.row 42 14 ((y18u8 : List Event).map enc)]⟩) (by first | rfl | (simp []; done) | (simp []; grind)) (k105 _ ?_)
          refine AWp.block ?_
          obtain ⟨o153, hl154, hg⟩ := bnd_some hg
          refine AWp.loopO (fun ((z9u8, z9u73) : (List Event) × Int) => ⟨[(0, .d (enc (l : (List Event)))), (2, .d (enc (split : (IntK .u8)))), (7, .d (enc (x2 : Bool))), (8, .row 0), (71, .d (enc (swaps : (List (IntK .u8))))), (72, .d (enc ((swaps.length : Int) : Int))), (73, .d (enc (z9u73 : Int)))], [.row 42 14 ((z9u8 : List Event).map enc)]⟩) (lawOrder_s14 l swaps) (y18u8, 0) hl154 ?_ fun z155 w158 _ ho156 hx157 k106 => ?_
          · show Sub _ ⟨[(0, .d (enc (l : (List Event)))), (2, .d (enc (split : (IntK .u8)))), (7, .d (enc (x2 : Bool))), (8, .row 0), (71, .d (enc (swaps : (List (IntK .u8))))), (72, .d (enc ((swaps.length : Int) : Int))), (73, .d (enc (0 : Int)))], [.row 42 14 ((y18u8 : List Event).map enc)]⟩
            exact Sub.ren [0] (by decide) (by first | rfl | simp [renL, AO.ren, forgetsR, T.ren, idx, Eva.get]) (by first | exact ⟨rfl, rfl, rfl, rfl, rfl, rfl, rfl, trivial⟩ | (simp [renL, AO.ren, forgetsR, T.ren, idx, Eva.get]; done) | (simp [renL, AO.ren, forgetsR, T.ren, idx, Eva.get]; grind))
          obtain ⟨z9u8, z9u73⟩ := z155
          unfold lawOrder_s14 at ho156
          try dsimp only at ho156
          have hq159 := hg
          clear hg
          have hg := ho156
          clear ho156
          show AWp _ _ _ _ _ ⟨[(0, .d (enc (l : (List Event)))), (2, .d (enc (split : (IntK .u8)))), (7, .d (enc (x2 : Bool))), (8, .row 0), (71, .d (enc (swaps : (List (IntK .u8))))), (72, .d (enc ((swaps.length : Int) : Int))), (73, .d (enc (z9u73 : Int)))], [.row 42 14 ((z9u8 : List Event).map enc)]⟩ _
          refine AWp.rS hV none [0, 2, 7, 8, 71, 72, 73, 74] fun K k160 => ?_
          simp
          repeat refine And.intro (by first | omega | (simp [*]; done) | grind) ?_
          refine kcong (s' := ⟨[(0, .d (enc (l : (List Event)))), (2, .d (enc (split : (IntK .u8)))), (7, .d (enc (x2 : Bool))), (8, .row 0), (71, .d (enc (swaps : (List (IntK .u8))))), (72, .d (enc ((swaps.length : Int) : Int))), (73, .d (enc (z9u73 : Int))), (74, .d (enc ((decide (z9u73 < (swaps.length : Int))) : Bool)))], [.row 42 14 ((z9u8 : List Event).map enc)]⟩) (by first | rfl | (simp []; done) | (simp []; grind)) (k160 _ ?_)
          refine AWp.seqG fun _ k161 => ?_
          refine AWp.cond (b := (decide (z9u73 < (swaps.length : Int)))) rfl (fun h162 => ?_) fun h162 => ?_
          · replace hg := ifb_t h162 hg
            refine AWp.skip ?_
            refine k161 _ ?_
            refine AWp.seqJ (fun s' => ∃ y163u8 : (List Event), lawOrder_j15 z9u73 y163u8 = some w158 ∧ Sub s' ⟨[(0, .d (enc (l : (List Event)))), (2, .d (enc (split : (IntK .u8)))), (7, .d (enc (x2 : Bool))), (8, .row 0), (71, .d (enc (swaps : (List (IntK .u8))))), (72, .d (enc ((swaps.length : Int) : Int))), (73, .d (enc (z9u73 : Int)))], [.row 42 14 ((y163u8 : List Event).map enc)]⟩) (fun _ k164 => ?_) ?_
            · refine AWp.block ?_
              obtain ⟨x165, h166, hg⟩ := bnd_some hg
              obtain ⟨h166a, h166b, h166c⟩ := at_some h166
              have h166f := elAt_enc h166c
              have h166g := h166f
              try simp at h166g
              refine AWp.rS hV none [0, 2, 7, 8, 13, 14, 71, 72, 73] fun K k167 => ?_
              simp [h166f, h166g]
              repeat refine And.intro (by first | omega | (simp [*]; done) | grind) ?_
              refine kcong (s' := ⟨[(0, .d (enc (l : (List Event)))), (2, .d (enc (split : (IntK .u8)))), (7, .d (enc (x2 : Bool))), (8, .row 0), (13, .d (enc (z9u73 : Int))), (14, .d (enc (x165 : (IntK .u8)))), (71, .d (enc (swaps : (List (IntK .u8))))), (72, .d (enc ((swaps.length : Int) : Int))), (73, .d (enc (z9u73 : Int)))], [.row 42 14 ((z9u8 : List Event).map enc)]⟩) (by first | rfl | (simp [h166f, h166g]; done) | (simp [h166f, h166g]; grind)) (k167 _ ?_)
              obtain ⟨y169u85, hx170, hg⟩ := bnd_some hg
              unfold lawOrder_r16 at hx170
              refine AWp.seqJ (fun s' => Sub s' ⟨[(0, .d (enc (l : (List Event)))), (2, .d (enc (split : (IntK .u8)))), (7, .d (enc (x2 : Bool))), (8, .row 0), (14, .d (enc (x165 : (IntK .u8)))), (71, .d (enc (swaps : (List (IntK .u8))))), (72, .d (enc ((swaps.length : Int) : Int))), (73, .d (enc (z9u73 : Int))), (85, .d (enc (y169u85 : Bool)))], [.row 42 14 ((z9u8 : List Event).map enc)]⟩) (fun _ k171 => ?_) ?_
              · rcases Bool.eq_false_or_eq_true (decide (0 < (l.length : Int))) with c172 | c172
                · replace hx170 := ifb_t c172 hx170
                  have c172g := c172
                  try simp at c172g
                  obtain ⟨g168, hx170⟩ := grd_some hx170
                  refine AWp.regF hV (some []) [0, 2, 7, 8, 14, 71, 72, 73, 85] fun K k173 => ?_
                  simp [c172, c172g]
                  repeat refine And.intro (by first | omega | (simp [*]; done) | grind) ?_
                  refine kcong (s' := ⟨[(0, .d (enc (l : (List Event)))), (2, .d (enc (split : (IntK .u8)))), (7, .d (enc (x2 : Bool))), (8, .row 0), (14, .d (enc (x165 : (IntK .u8)))), (71, .d (enc (swaps : (List (IntK .u8))))), (72, .d (enc ((swaps.length : Int) : Int))), (73, .d (enc (z9u73 : Int))), (85, .d (enc ((decide ((z9u73 % 3) = 0)) : Bool)))], [.row 42 14 ((z9u8 : List Event).map enc)]⟩) (by first | rfl | (simp [c172, c172g]; done) | (simp [c172, c172g]; grind)) (k173 _ ?_)
                  have hx170 := Option.some.inj hx170
                  subst hx170
                  refine k171 _ ?_
                  show Sub _ ⟨[(0, .d (enc (l : (List Event)))), (2, .d (enc (split : (IntK .u8)))), (7, .d (enc (x2 : Bool))), (8, .row 0), (14, .d (enc (x165 : (IntK .u8)))), (71, .d (enc (swaps : (List (IntK .u8))))), (72, .d (enc ((swaps.length : Int) : Int))), (73, .d (enc (z9u73 : Int))), (85, .d (enc ((decide ((z9u73 % 3) = 0)) : Bool)))], [.row 42 14 ((z9u8 : List Event).map enc)]⟩
                  exact Sub.ren [0] (by decide) (by first | rfl | simp [renL, AO.ren, forgetsR, T.ren, idx, Eva.get]) (by first | exact ⟨rfl, rfl, rfl, rfl, rfl, rfl, rfl, rfl, rfl, trivial⟩ | (simp [renL, AO.ren, forgetsR, T.ren, idx, Eva.get]; done) | (simp [renL, AO.ren, forgetsR, T.ren, idx, Eva.get]; grind))
                · replace hx170 := ifb_f c172 hx170
                  have c172g := c172
                  try simp at c172g
                  refine AWp.regF hV (some [82, 83, 84]) [0, 2, 7, 8, 14, 71, 72, 73, 85] fun K k174 => ?_
                  simp [c172, c172g]
                  repeat refine And.intro (by first | omega | (simp [*]; done) | grind) ?_
                  refine kcong (s' := ⟨[(0, .d (enc (l : (List Event)))), (2, .d (enc (split : (IntK .u8)))), (7, .d (enc (x2 : Bool))), (8, .row 0), (14, .d (enc (x165 : (IntK .u8)))), (71, .d (enc (swaps : (List (IntK .u8))))), (72, .d (enc ((swaps.length : Int) : Int))), (73, .d (enc (z9u73 : Int))), (85, .d (enc (false : Bool)))], [.row 42 14 ((z9u8 : List Event).map enc)]⟩) (by first | rfl | (simp [c172, c172g]; done) | (simp [c172, c172g]; grind)) (k174 _ ?_)
                  have hx170 := Option.some.inj hx170
                  subst hx170
                  refine k171 _ ?_
                  show Sub _ ⟨[(0, .d (enc (l : (List Event)))), (2, .d (enc (split : (IntK .u8)))), (7, .d (enc (x2 : Bool))), (8, .row 0), (14, .d (enc (x165 : (IntK .u8)))), (71, .d (enc (swaps : (List (IntK .u8))))), (72, .d (enc ((swaps.length : Int) : Int))), (73, .d (enc (z9u73 : Int))), (85, .d (enc (false : Bool)))], [.row 42 14 ((z9u8 : List Event).map enc)]⟩
                  exact Sub.ren [0] (by decide) (by first | rfl | simp [renL, AO.ren, forgetsR, T.ren, idx, Eva.get]) (by first | exact ⟨rfl, rfl, rfl, rfl, rfl, rfl, rfl, rfl, rfl, trivial⟩ | (simp [renL, AO.ren, forgetsR, T.ren, idx, Eva.get]; done) | (simp [renL, AO.ren, forgetsR, T.ren, idx, Eva.get]; grind))
              · intro s' hs
                refine AWp.sub hs ?_
                clear hs s'
                refine AWp.cond (b := y169u85) rfl (fun h175 => ?_) fun h175 => ?_
                · replace hg := ifb_t h175 hg
                  obtain ⟨g176, hg⟩ := grd_some hg
                  obtain ⟨x177, h178, hg⟩ := bnd_some hg
                  obtain ⟨h178a, h178b, h178c⟩ := at_some h178
                  have h178f := elAt_enc h178c
                  have h178g := h178f
                  try simp at h178g
                  obtain ⟨g179, hg⟩ := grd_some hg
                  refine AWp.regF hV none [0, 2, 7, 8, 71, 72, 73] fun K k180 => ?_
                  simp [h178f, h178g]
                  repeat refine And.intro (by first | omega | (simp [*]; done) | grind) ?_
                  refine kcong (s' := ⟨[(0, .d (enc (l : (List Event)))), (2, .d (enc (split : (IntK .u8)))), (7, .d (enc (x2 : Bool))), (8, .row 1), (71, .d (enc (swaps : (List (IntK .u8))))), (72, .d (enc ((swaps.length : Int) : Int))), (73, .d (enc (z9u73 : Int)))], [.dead, .row 42 14 (((z9u8 ++ [x177]) : List Event).map enc)]⟩) (by first | rfl | (simp [h178f, h178g]; done) | (simp [h178f, h178g]; grind)) (k180 _ ?_)
                  refine k164 _ (Exists.intro _ (And.intro hg ?_))
                  show Sub _ ⟨[(0, .d (enc (l : (List Event)))), (2, .d (enc (split : (IntK .u8)))), (7, .d (enc (x2 : Bool))), (8, .row 0), (71, .d (enc (swaps : (List (IntK .u8))))), (72, .d (enc ((swaps.length : Int) : Int))), (73, .d (enc (z9u73 : Int)))], [.row 42 14 (((z9u8 ++ [x177]) : List Event).map enc)]⟩
                  exact Sub.ren [1] (by decide) (by first | rfl | simp [renL, AO.ren, forgetsR, T.ren, idx, Eva.get]) (by first | exact ⟨rfl, rfl, rfl, rfl, rfl, rfl, rfl, trivial⟩ | (simp [renL, AO.ren, forgetsR, T.ren, idx, Eva.get]; done) | (simp [renL, AO.ren, forgetsR, T.ren, idx, Eva.get]; grind))
                · replace hg := ifb_f h175 hg
                  refine AWp.skip ?_
                  refine k164 _ (Exists.intro _ (And.intro hg ?_))
                  show Sub _ ⟨[(0, .d (enc (l : (List Event)))), (2, .d (enc (split : (IntK .u8)))), (7, .d (enc (x2 : Bool))), (8, .row 0), (71, .d (enc (swaps : (List (IntK .u8))))), (72, .d (enc ((swaps.length : Int) : Int))), (73, .d (enc (z9u73 : Int)))], [.row 42 14 ((z9u8 : List Event).map enc)]⟩
                  exact Sub.ren [0] (by decide) (by first | rfl | simp [renL, AO.ren, forgetsR, T.ren, idx, Eva.get]) (by first | exact ⟨rfl, rfl, rfl, rfl, rfl, rfl, rfl, trivial⟩ | (simp [renL, AO.ren, forgetsR, T.ren, idx, Eva.get]; done) | (simp [renL, AO.ren, forgetsR, T.ren, idx, Eva.get]; grind))
            · rintro s' ⟨y163u8, hg, hs⟩
              unfold lawOrder_j15 at hg
              refine AWp.sub hs ?_
              obtain ⟨g181, hg⟩ := grd_some hg
              unfold inI at g181
              refine AWp.regF hV none [0, 2, 7, 8, 71, 72, 73] fun K k182 => ?_
              simp
              repeat refine And.intro (by first | omega | (simp [*]; done) | grind) ?_
              refine kcong (s' := ⟨[(0, .d (enc (l : (List Event)))), (2, .d (enc (split : (IntK .u8)))), (7, .d (enc (x2 : Bool))), (8, .row 0), (71, .d (enc (swaps : (List (IntK .u8))))), (72, .d (enc ((swaps.length : Int) : Int))), (73, .d (enc ((z9u73 + 1) : Int)))], [.row 42 14 ((y163u8 : List Event).map enc)]⟩) (by first | rfl | (simp []; done) | (simp []; grind)) (k182 _ ?_)
              refine k106 _ _ (Option.some.inj hg).symm ?_
              show Sub _ ⟨[(0, .d (enc (l : (List Event)))), (2, .d (enc (split : (IntK .u8)))), (7, .d (enc (x2 : Bool))), (8, .row 0), (71, .d (enc (swaps : (List (IntK .u8))))), (72, .d (enc ((swaps.length : Int) : Int))), (73, .d (enc ((z9u73 + 1) : Int)))], [.row 42 14 ((y163u8 : List Event).map enc)]⟩
              exact Sub.ren [0] (by decide) (by first | rfl | simp [renL, AO.ren, forgetsR, T.ren, idx, Eva.get]) (by first | exact ⟨rfl, rfl, rfl, rfl, rfl, rfl, rfl, trivial⟩ | (simp [renL, AO.ren, forgetsR, T.ren, idx, Eva.get]; done) | (simp [renL, AO.ren, forgetsR, T.ren, idx, Eva.get]; grind))
          · replace hg := ifb_f h162 hg
            refine AWp.exit ?_
            have e183 := hx157 _ (Option.some.inj hg).symm
            subst e183
            have hg := hq159
            try dsimp only at hg
            refine k104 _ (Exists.intro _ (And.intro hg ?_))
            show Sub _ ⟨[(0, .d (enc (l : (List Event)))), (2, .d (enc (split : (IntK .u8)))), (7, .d (enc (x2 : Bool))), (8, .row 0)], [.row 42 14 ((z9u8 : List Event).map enc)]⟩
            exact Sub.ren [0] (by decide) (by first | rfl | simp [renL, AO.ren, forgetsR, T.ren, idx, Eva.get]) (by first | exact ⟨rfl, rfl, rfl, rfl, trivial⟩ | (simp [renL, AO.ren, forgetsR, T.ren, idx, Eva.get]; done) | (simp [renL, AO.ren, forgetsR, T.ren, idx, Eva.get]; grind))
        · rintro s' ⟨y103u8, hg, hs⟩
          unfold lawOrder_j8 at hg
          refine AWp.sub hs ?_
          obtain ⟨⟨x185, x186⟩, h187, hg⟩ := bnd_some hg
          try dsimp only at hg
          have h187g := h187
          try simp at h187g
          refine AWp.rS hV none [0, 2, 7, 8, 15, 16] fun K k188 => ?_
          simp [sp11, h187, h187g]
          repeat refine And.intro (by first | omega | (simp [*]; done) | grind) ?_
          refine kcong (s' := ⟨[(0, .d (enc (l : (List Event)))), (2, .d (enc (split : (IntK .u8)))), (7, .d (enc (x2 : Bool))), (8, .row 0), (15, .d (enc (x185 : (List Event)))), (16, .d (enc (x186 : Int)))], [.row 42 14 ((y103u8 : List Event).map enc)]⟩) (by first | rfl | (simp [sp11, h187, h187g]; done) | (simp [sp11, h187, h187g]; grind)) (k188 _ ?_)
          obtain ⟨⟨x189, x190⟩, h191, hg⟩ := bnd_some hg
          try dsimp only at hg
          have h191g := h191
          try simp at h191g
          refine AWp.rS hV none [0, 2, 7, 15, 16, 17, 18] fun K k192 => ?_
          simp [sp11, h191, h191g]
          repeat refine And.intro (by first | omega | (simp [*]; done) | grind) ?_
          refine kcong (s' := ⟨[(0, .d (enc (l : (List Event)))), (2, .d (enc (split : (IntK .u8)))), (7, .d (enc (x2 : Bool))), (15, .d (enc (x185 : (List Event)))), (16, .d (enc (x186 : Int))), (17, .d (enc (x189 : (List Event)))), (18, .d (enc (x190 : Int)))], [.frow 42 14 ((y103u8 : List Event).map enc)]⟩) (by first | rfl | (simp [sp11, h191, h191g]; done) | (simp [sp11, h191, h191g]; grind)) (k192 _ ?_)
          refine AWp.seqG fun _ k193 => ?_
          obtain ⟨y195u116, hx196, hg⟩ := bnd_some hg
          unfold lawOrder_r17 at hx196
          refine AWp.seqJ (fun s' => Sub s' ⟨[(0, .d (enc (l : (List Event)))), (2, .d (enc (split : (IntK .u8)))), (7, .d (enc (x2 : Bool))), (15, .d (enc (x185 : (List Event)))), (16, .d (enc (x186 : Int))), (116, .d (enc (y195u116 : Bool)))], []⟩) (fun _ k197 => ?_) ?_
          · rcases Bool.eq_false_or_eq_true (!decide (x186 = x190)) with c198 | c198
            · replace hx196 := ifb_t c198 hx196
              have c198g := c198
              try simp at c198g
              refine AWp.regF hV (some [112, 113, 114, 115]) [0, 2, 7, 15, 16, 116] fun K k199 => ?_
              simp [sp15, c198, c198g]
              repeat refine And.intro (by first | omega | (simp [*]; done) | grind) ?_
              refine kcong (s' := ⟨[(0, .d (enc (l : (List Event)))), (2, .d (enc (split : (IntK .u8)))), (7, .d (enc (x2 : Bool))), (15, .d (enc (x185 : (List Event)))), (16, .d (enc (x186 : Int))), (116, .d (enc (true : Bool)))], [.frow 42 14 ((y103u8 : List Event).map enc)]⟩) (by first | rfl | (simp [sp15, c198, c198g]; done) | (simp [sp15, c198, c198g]; grind)) (k199 _ ?_)
              have hx196 := Option.some.inj hx196
              subst hx196
              refine k197 _ ?_
              show Sub _ ⟨[(0, .d (enc (l : (List Event)))), (2, .d (enc (split : (IntK .u8)))), (7, .d (enc (x2 : Bool))), (15, .d (enc (x185 : (List Event)))), (16, .d (enc (x186 : Int))), (116, .d (enc (true : Bool)))], []⟩
              exact Sub.ren [] (by decide) (by first | rfl | simp [renL, AO.ren, forgetsR, T.ren, idx, Eva.get]) (by first | exact ⟨rfl, rfl, rfl, rfl, rfl, rfl, trivial⟩ | (simp [renL, AO.ren, forgetsR, T.ren, idx, Eva.get]; done) | (simp [renL, AO.ren, forgetsR, T.ren, idx, Eva.get]; grind))
            · replace hx196 := ifb_f c198 hx196
              have c198g := c198
              try simp at c198g
              obtain ⟨g194, hx196⟩ := grd_some hx196
              refine AWp.regF hV (some []) [0, 2, 7, 15, 16, 116] fun K k200 => ?_
              simp [sp15, c198, c198g]
              repeat refine And.intro (by first | omega | (simp [*]; done) | grind) ?_
              refine kcong (s' := ⟨[(0, .d (enc (l : (List Event)))), (2, .d (enc (split : (IntK .u8)))), (7, .d (enc (x2 : Bool))), (15, .d (enc (x185 : (List Event)))), (16, .d (enc (x186 : Int))), (116, .d (enc ((!(decide (x185 = x189))) : Bool)))], [.frow 42 14 ((y103u8 : List Event).map enc)]⟩) (by first | rfl | (simp [sp15, c198, c198g]; done) | (simp [sp15, c198, c198g]; grind)) (k200 _ ?_)
              have hx196 := Option.some.inj hx196
              subst hx196
              refine k197 _ ?_
              show Sub _ ⟨[(0, .d (enc (l : (List Event)))), (2, .d (enc (split : (IntK .u8)))), (7, .d (enc (x2 : Bool))), (15, .d (enc (x185 : (List Event)))), (16, .d (enc (x186 : Int))), (116, .d (enc ((!(decide (x185 = x189))) : Bool)))], []⟩
              exact Sub.ren [] (by decide) (by first | rfl | simp [renL, AO.ren, forgetsR, T.ren, idx, Eva.get]) (by first | exact ⟨rfl, rfl, rfl, rfl, rfl, rfl, trivial⟩ | (simp [renL, AO.ren, forgetsR, T.ren, idx, Eva.get]; done) | (simp [renL, AO.ren, forgetsR, T.ren, idx, Eva.get]; grind))
          · intro s' hs
            refine AWp.sub hs ?_
            clear hs s'
            refine AWp.cond (b := y195u116) rfl (fun h201 => ?_) fun h201 => ?_
            · replace hg := ifb_t h201 hg
              refine AWp.rS hV none [6] fun K k202 => ?_
              simp
              repeat refine And.intro (by first | omega | (simp [*]; done) | grind) ?_
              refine kcong (s' := ⟨[(6, .d (enc (false : Bool)))], []⟩) (by first | rfl | (simp []; done) | (simp []; grind)) (k202 _ ?_)
              refine AWp.ret ?_
              refine hQ _ _ (.inl rfl) ?_
              have hg := Option.some.inj hg
              subst hg
              first | (simp [retOk, resT, loadAs]; done) | (simp [retOk, resT, loadAs]; grind)
            · replace hg := ifb_f h201 hg
              refine AWp.skip ?_
              refine k193 _ ?_
              obtain ⟨g203, hg⟩ := grd_some hg
              unfold inI at g203
              obtain ⟨g204, hg⟩ := grd_some hg
              refine AWp.rS hV none [0, 7, 15, 16, 19] fun K k205 => ?_
              simp
              repeat refine And.intro (by first | omega | (simp [*]; done) | grind) ?_
              refine kcong (s' := ⟨[(0, .d (enc (l : (List Event)))), (7, .d (enc (x2 : Bool))), (15, .d (enc (x185 : (List Event)))), (16, .d (enc (x186 : Int))), (19, .d (enc (((IntKind.wrap .i64 split.n) % ((l.length : Int) + 1)) : Int)))], []⟩) (by first | rfl | (simp []; done) | (simp []; grind)) (k205 _ ?_)
              obtain ⟨g206, hg⟩ := grd_some hg
              obtain ⟨⟨x207, x208⟩, h209, hg⟩ := bnd_some hg
              try dsimp only at hg
              have h209g := h209
              try simp at h209g
              refine AWp.rS hV none [0, 7, 15, 16, 19, 20, 21] fun K k210 => ?_
              simp [sp11, h209, h209g]
              repeat refine And.intro (by first | omega | (simp [*]; done) | grind) ?_
              refine kcong (s' := ⟨[(0, .d (enc (l : (List Event)))), (7, .d (enc (x2 : Bool))), (15, .d (enc (x185 : (List Event)))), (16, .d (enc (x186 : Int))), (19, .d (enc (((IntKind.wrap .i64 split.n) % ((l.length : Int) + 1)) : Int))), (20, .d (enc (x207 : (List Event)))), (21, .d (enc (x208 : Int)))], []⟩) (by first | rfl | (simp [sp11, h209, h209g]; done) | (simp [sp11, h209, h209g]; grind)) (k210 _ ?_)
              obtain ⟨g211, hg⟩ := grd_some hg
              obtain ⟨⟨x212, x213⟩, h214, hg⟩ := bnd_some hg
              try dsimp only at hg
              have h214g := h214
              try simp at h214g
              refine AWp.rS hV none [7, 15, 16, 21, 22, 23] fun K k215 => ?_
              simp [sp11, h214, h214g]
              repeat refine And.intro (by first | omega | (simp [*]; done) | grind) ?_
              refine kcong (s' := ⟨[(7, .d (enc (x2 : Bool))), (15, .d (enc (x185 : (List Event)))), (16, .d (enc (x186 : Int))), (21, .d (enc (x208 : Int))), (22, .d (enc (x212 : (List Event)))), (23, .d (enc (x213 : Int)))], []⟩) (by first | rfl | (simp [sp11, h214, h214g]; done) | (simp [sp11, h214, h214g]; grind)) (k215 _ ?_)
              refine AWp.seqG fun _ k216 => ?_
              refine AWp.rS hV none [7, 15, 16, 21, 22, 23, 139] fun K k217 => ?_
              simp
              repeat refine And.intro (by first | omega | (simp [*]; done) | grind) ?_
              refine kcong (s' := ⟨[(7, .d (enc (x2 : Bool))), (15, .d (enc (x185 : (List Event)))), (16, .d (enc (x186 : Int))), (21, .d (enc (x208 : Int))), (22, .d (enc (x212 : (List Event)))), (23, .d (enc (x213 : Int))), (139, .d (enc ((!decide (x186 = 0)) : Bool)))], []⟩) (by first | rfl | (simp []; done) | (simp []; grind)) (k217 _ ?_)
              refine AWp.cond (b := (!decide (x186 = 0))) rfl (fun h218 => ?_) fun h218 => ?_
              · replace hg := ifb_t h218 hg
                obtain ⟨y219u6, hx220, hg⟩ := bnd_some hg
                unfold lawOrder_r18 at hx220
                refine AWp.seqJ (fun s' => Sub s' ⟨[(6, .d (enc (y219u6 : Bool)))], []⟩) (fun _ k221 => ?_) ?_
                · rcases Bool.eq_false_or_eq_true x2 with c222 | c222
                  · replace hx220 := ifb_t c222 hx220
                    have c222g := c222
                    try simp at c222g
                    rcases Bool.eq_false_or_eq_true (decide (x186 = 61)) with c223 | c223
                    · replace hx220 := ifb_t c223 hx220
                      have c223g := c223
                      try simp at c223g
                      rcases Bool.eq_false_or_eq_true (decide (x208 = 61)) with c224 | c224
                      · replace hx220 := ifb_t c224 hx220
                        have c224g := c224
                        try simp at c224g
                        refine AWp.regF hV (some [149, 150, 151, 152, 153, 154]) [6] fun K k225 => ?_
                        simp [c222, c222g, c223, c223g, c224, c224g]
                        repeat refine And.intro (by first | omega | (simp [*]; done) | grind) ?_
                        refine kcong (s' := ⟨[(6, .d (enc (true : Bool)))], []⟩) (by first | rfl | (simp [c222, c222g, c223, c223g, c224, c224g]; done) | (simp [c222, c222g, c223, c223g, c224, c224g]; grind)) (k225 _ ?_)
                        have hx220 := Option.some.inj hx220
                        subst hx220
                        refine k221 _ ?_
                        show Sub _ ⟨[(6, .d (enc (true : Bool)))], []⟩
                        exact Sub.ren [] (by decide) (by first | rfl | simp [renL, AO.ren, forgetsR, T.ren, idx, Eva.get]) (by first | exact ⟨rfl, trivial⟩ | (simp [renL, AO.ren, forgetsR, T.ren, idx, Eva.get]; done) | (simp [renL, AO.ren, forgetsR, T.ren, idx, Eva.get]; grind))
                      · replace hx220 := ifb_f c224 hx220
                        have c224g := c224
                        try simp at c224g
                        rcases Bool.eq_false_or_eq_true (decide (x208 = 0)) with c226 | c226
                        · replace hx220 := ifb_t c226 hx220
                          have c226g := c226
                          try simp at c226g
                          refine AWp.regF hV (some []) [6] fun K k227 => ?_
                          simp [c222, c222g, c223, c223g, c224, c224g, c226, c226g]
                          repeat refine And.intro (by first | omega | (simp [*]; done) | grind) ?_
                          refine kcong (s' := ⟨[(6, .d (enc ((decide (x213 = 61)) : Bool)))], []⟩) (by first | rfl | (simp [c222, c222g, c223, c223g, c224, c224g, c226, c226g]; done) | (simp [c222, c222g, c223, c223g, c224, c224g, c226, c226g]; grind)) (k227 _ ?_)
                          have hx220 := Option.some.inj hx220
                          subst hx220
                          refine k221 _ ?_
                          show Sub _ ⟨[(6, .d (enc ((decide (x213 = 61)) : Bool)))], []⟩
                          exact Sub.ren [] (by decide) (by first | rfl | simp [renL, AO.ren, forgetsR, T.ren, idx, Eva.get]) (by first | exact ⟨rfl, trivial⟩ | (simp [renL, AO.ren, forgetsR, T.ren, idx, Eva.get]; done) | (simp [renL, AO.ren, forgetsR, T.ren, idx, Eva.get]; grind))
                        · replace hx220 := ifb_f c226 hx220
                          have c226g := c226
                          try simp at c226g
                          refine AWp.regF hV (some [152, 153]) [6] fun K k228 => ?_
                          simp [c222, c222g, c223, c223g, c224, c224g, c226, c226g]
                          repeat refine And.intro (by first | omega | (simp [*]; done) | grind) ?_
                          refine kcong (s' := ⟨[(6, .d (enc (false : Bool)))], []⟩) (by first | rfl | (simp [c222, c222g, c223, c223g, c224, c224g, c226, c226g]; done) | (simp [c222, c222g, c223, c223g, c224, c224g, c226, c226g]; grind)) (k228 _ ?_)
                          have hx220 := Option.some.inj hx220
                          subst hx220
                          refine k221 _ ?_
                          show Sub _ ⟨[(6, .d (enc (false : Bool)))], []⟩
                          exact Sub.ren [] (by decide) (by first | rfl | simp [renL, AO.ren, forgetsR, T.ren, idx, Eva.get]) (by first | exact ⟨rfl, trivial⟩ | (simp [renL, AO.ren, forgetsR, T.ren, idx, Eva.get]; done) | (simp [renL, AO.ren, forgetsR, T.ren, idx, Eva.get]; grind))
                    · replace hx220 := ifb_f c223 hx220
                      have c223g := c223
                      try simp at c223g
                      refine AWp.regF hV (some [146, 147, 148, 149, 150, 151, 152, 153, 154, 155]) [6] fun K k229 => ?_
                      simp [c222, c222g, c223, c223g]
                      repeat refine And.intro (by first | omega | (simp [*]; done) | grind) ?_
                      refine kcong (s' := ⟨[(6, .d (enc (false : Bool)))], []⟩) (by first | rfl | (simp [c222, c222g, c223, c223g]; done) | (simp [c222, c222g, c223, c223g]; grind)) (k229 _ ?_)
                      have hx220 := Option.some.inj hx220
                      subst hx220
                      refine k221 _ ?_
                      show Sub _ ⟨[(6, .d (enc (false : Bool)))], []⟩
                      exact Sub.ren [] (by decide) (by first | rfl | simp [renL, AO.ren, forgetsR, T.ren, idx, Eva.get]) (by first | exact ⟨rfl, trivial⟩ | (simp [renL, AO.ren, forgetsR, T.ren, idx, Eva.get]; done) | (simp [renL, AO.ren, forgetsR, T.ren, idx, Eva.get]; grind))
                  · replace hx220 := ifb_f c222 hx220
                    have c222g := c222
                    try simp at c222g
                    refine AWp.regF hV (some [142, 143, 146, 147, 148, 149, 150, 151, 152, 153, 154, 155]) [6] fun K k230 => ?_
                    simp [c222, c222g]
                    repeat refine And.intro (by first | omega | (simp [*]; done) | grind) ?_
                    refine kcong (s' := ⟨[(6, .d (enc (false : Bool)))], []⟩) (by first | rfl | (simp [c222, c222g]; done) | (simp [c222, c222g]; grind)) (k230 _ ?_)
                    have hx220 := Option.some.inj hx220
                    subst hx220
                    refine k221 _ ?_
                    show Sub _ ⟨[(6, .d (enc (false : Bool)))], []⟩
                    exact Sub.ren [] (by decide) (by first | rfl | simp [renL, AO.ren, forgetsR, T.ren, idx, Eva.get]) (by first | exact ⟨rfl, trivial⟩ | (simp [renL, AO.ren, forgetsR, T.ren, idx, Eva.get]; done) | (simp [renL, AO.ren, forgetsR, T.ren, idx, Eva.get]; grind))
                · intro s' hs
                  refine AWp.sub hs ?_
                  clear hs s'
                  refine AWp.ret ?_
                  refine hQ _ _ (.inl rfl) ?_
                  have hg := Option.some.inj hg
                  subst hg
                  first | (simp [retOk, resT, loadAs]; done) | (simp [retOk, resT, loadAs]; grind)
              · replace hg := ifb_f h218 hg
                refine AWp.skip ?_
                refine k216 _ ?_
                obtain ⟨y233u6, hx234, hg⟩ := bnd_some hg
                unfold lawOrder_r19 at hx234
                refine AWp.seqJ (fun s' => Sub s' ⟨[(6, .d (enc (y233u6 : Bool)))], []⟩) (fun _ k235 => ?_) ?_
                · rcases Bool.eq_false_or_eq_true x2 with c236 | c236
                  · replace hx234 := ifb_t c236 hx234
                    have c236g := c236
                    try simp at c236g
                    rcases Bool.eq_false_or_eq_true (decide (x208 = 0)) with c237 | c237
                    · replace hx234 := ifb_t c237 hx234
                      have c237g := c237
                      try simp at c237g
                      rcases Bool.eq_false_or_eq_true (decide (x213 = 0)) with c238 | c238
                      · replace hx234 := ifb_t c238 hx234
                        have c238g := c238
                        try simp at c238g
                        obtain ⟨g231, hx234⟩ := grd_some hx234
                        rcases Bool.eq_false_or_eq_true (decide (x185 = x212)) with c239 | c239
                        · replace hx234 := ifb_t c239 hx234
                          have c239g := c239
                          try simp at c239g
                          obtain ⟨g232, hx234⟩ := grd_some hx234
                          refine AWp.regF hV (some []) [6] fun K k240 => ?_
                          simp [sp15, sp13, c236, c236g, c237, c237g, c238, c238g, c239, c239g]
                          repeat refine And.intro (by first | omega | (simp [*]; done) | grind) ?_
                          refine kcong (s' := ⟨[(6, .d (enc ((validE x185) : Bool)))], []⟩) (by first | rfl | (simp [sp15, sp13, c236, c236g, c237, c237g, c238, c238g, c239, c239g]; done) | (simp [sp15, sp13, c236, c236g, c237, c237g, c238, c238g, c239, c239g]; grind)) (k240 _ ?_)
                          have hx234 := Option.some.inj hx234
                          subst hx234
                          refine k235 _ ?_
                          show Sub _ ⟨[(6, .d (enc ((validE x185) : Bool)))], []⟩
                          exact Sub.ren [] (by decide) (by first | rfl | simp [renL, AO.ren, forgetsR, T.ren, idx, Eva.get]) (by first | exact ⟨rfl, trivial⟩ | (simp [renL, AO.ren, forgetsR, T.ren, idx, Eva.get]; done) | (simp [renL, AO.ren, forgetsR, T.ren, idx, Eva.get]; grind))
                        · replace hx234 := ifb_f c239 hx234
                          have c239g := c239
                          try simp at c239g
                          refine AWp.regF hV (some [172, 173]) [6] fun K k241 => ?_
                          simp [sp15, sp13, c236, c236g, c237, c237g, c238, c238g, c239, c239g]
                          repeat refine And.intro (by first | omega | (simp [*]; done) | grind) ?_
                          refine kcong (s' := ⟨[(6, .d (enc (false : Bool)))], []⟩) (by first | rfl | (simp [sp15, sp13, c236, c236g, c237, c237g, c238, c238g, c239, c239g]; done) | (simp [sp15, sp13, c236, c236g, c237, c237g, c238, c238g, c239, c239g]; grind)) (k241 _ ?_)
                          have hx234 := Option.some.inj hx234
                          subst hx234
                          refine k235 _ ?_
                          show Sub _ ⟨[(6, .d (enc (false : Bool)))], []⟩
                          exact Sub.ren [] (by decide) (by first | rfl | simp [renL, AO.ren, forgetsR, T.ren, idx, Eva.get]) (by first | exact ⟨rfl, trivial⟩ | (simp [renL, AO.ren, forgetsR, T.ren, idx, Eva.get]; done) | (simp [renL, AO.ren, forgetsR, T.ren, idx, Eva.get]; grind))
                      · replace hx234 := ifb_f c238 hx234
                        have c238g := c238
                        try simp at c238g
                        refine AWp.regF hV (some [167, 168, 169, 172, 173]) [6] fun K k242 => ?_
                        simp [sp15, sp13, c236, c236g, c237, c237g, c238, c238g]
                        repeat refine And.intro (by first | omega | (simp [*]; done) | grind) ?_
                        refine kcong (s' := ⟨[(6, .d (enc (false : Bool)))], []⟩) (by first | rfl | (simp [sp15, sp13, c236, c236g, c237, c237g, c238, c238g]; done) | (simp [sp15, sp13, c236, c236g, c237, c237g, c238, c238g]; grind)) (k242 _ ?_)
                        have hx234 := Option.some.inj hx234
                        subst hx234
                        refine k235 _ ?_
                        show Sub _ ⟨[(6, .d (enc (false : Bool)))], []⟩
                        exact Sub.ren [] (by decide) (by first | rfl | simp [renL, AO.ren, forgetsR, T.ren, idx, Eva.get]) (by first | exact ⟨rfl, trivial⟩ | (simp [renL, AO.ren, forgetsR, T.ren, idx, Eva.get]; done) | (simp [renL, AO.ren, forgetsR, T.ren, idx, Eva.get]; grind))
                    · replace hx234 := ifb_f c237 hx234
                      have c237g := c237
                      try simp at c237g
                      refine AWp.regF hV (some [163, 164, 167, 168, 169, 172, 173]) [6] fun K k243 => ?_
                      simp [sp15, sp13, c236, c236g, c237, c237g]
                      repeat refine And.intro (by first | omega | (simp [*]; done) | grind) ?_
                      refine kcong (s' := ⟨[(6, .d (enc (false : Bool)))], []⟩) (by first | rfl | (simp [sp15, sp13, c236, c236g, c237, c237g]; done) | (simp [sp15, sp13, c236, c236g, c237, c237g]; grind)) (k243 _ ?_)
                      have hx234 := Option.some.inj hx234
                      subst hx234
                      refine k235 _ ?_
                      show Sub _ ⟨[(6, .d (enc (false : Bool)))], []⟩
                      exact Sub.ren [] (by decide) (by first | rfl | simp [renL, AO.ren, forgetsR, T.ren, idx, Eva.get]) (by first | exact ⟨rfl, trivial⟩ | (simp [renL, AO.ren, forgetsR, T.ren, idx, Eva.get]; done) | (simp [renL, AO.ren, forgetsR, T.ren, idx, Eva.get]; grind))
                  · replace hx234 := ifb_f c236 hx234
                    have c236g := c236
                    try simp at c236g
                    refine AWp.regF hV (some [159, 160, 163, 164, 167, 168, 169, 172, 173]) [6] fun K k244 => ?_
                    simp [sp15, sp13, c236, c236g]
                    repeat refine And.intro (by first | omega | (simp [*]; done) | grind) ?_
                    refine kcong (s' := ⟨[(6, .d (enc (false : Bool)))], []⟩) (by first | rfl | (simp [sp15, sp13, c236, c236g]; done) | (simp [sp15, sp13, c236, c236g]; grind)) (k244 _ ?_)
                    have hx234 := Option.some.inj hx234
                    subst hx234
                    refine k235 _ ?_
                    show Sub _ ⟨[(6, .d (enc (false : Bool)))], []⟩
                    exact Sub.ren [] (by decide) (by first | rfl | simp [renL, AO.ren, forgetsR, T.ren, idx, Eva.get]) (by first | exact ⟨rfl, trivial⟩ | (simp [renL, AO.ren, forgetsR, T.ren, idx, Eva.get]; done) | (simp [renL, AO.ren, forgetsR, T.ren, idx, Eva.get]; grind))
                · intro s' hs
                  refine AWp.sub hs ?_
                  clear hs s'
                  refine AWp.ret ?_
                  refine hQ _ _ (.inl rfl) ?_
                  have hg := Option.some.inj hg
                  subst hg
                  first | (simp [retOk, resT, loadAs]; done) | (simp [retOk, resT, loadAs]; grind)
end Go.Proofs.Ytpbhcpeilgmkeaa

/-
  Plain laws, part 8: EventsOrder.
-/
namespace Go.Eva
open Go
/-- A loop once for each element, by position, held by what is true at each turn. -/
theorem forR {σ ρ α Z : Type} (mk : σ → Int → Z) (step : Z → Option (Z ⊕ ρ)) (l : List α) (Inv : Nat → σ → Prop) (fin : σ → ρ)
    (h1 : ∀ i a x, l[i]? = some x → Inv i a → ∃ a', step (mk a i) = some (.inl (mk a' ((i : Int) + 1))) ∧ Inv (i + 1) a')
    (h2 : ∀ a, Inv l.length a → step (mk a l.length) = some (.inr (fin a))) (a0 : σ) (h0 : Inv 0 a0) : ∃ a, Inv l.length a ∧ loopO step (mk a0 0) = some (fin a) := by
  have key : ∀ n i a, i + n = l.length → Inv i a → ∃ b, Inv l.length b ∧ loopO step (mk a i) = some (fin b) := by
    intro n
    induction n with
    | zero =>
      intro i a hi hI
      have : i = l.length := by omega
      subst this
      exact ⟨a, hI, loopO_inr (h2 _ hI)⟩
    | succ n ih =>
      intro i a hi hI
      have hx : l[i]? = some l[i] := List.getElem?_eq_getElem (by omega)
      obtain ⟨a', e1, e2⟩ := h1 i a _ hx hI
      obtain ⟨b, k1, k2⟩ := ih (i + 1) a' (by omega) e2
      exact ⟨b, k1, (loopO_inl e1).trans k2⟩
  exact key l.length 0 a0 (by omega) h0
end Go.Eva
namespace Go.Proofs.Ytpbhcpeilgmkeaa
open Go Go.Eva

theorem order_eq (l : List Event) (swaps : List (IntK .u8)) (split : IntK .u8) (hsw : ∀ x ∈ swaps, 0 ≤ x.n ∧ x.n ≤ 255) (h0 : 0 ≤ split.n) (h1 : split.n ≤ 255) : lawOrder l swaps split = some true := by
  have hwr : ∀ n : Int, 0 ≤ n → n ≤ 255 → IntKind.i64.wrap n = n := fun n a b => wrap_small n a (by omega)
  unfold lawOrder
  refine (bnd_eq head_eq).trans ?_
  have hr1 : lawOrder_r1 l swaps = some (!((decide (l.length ≤ 60) && l.all eventOk) && decide (swaps.length ≤ 80))) := by
    unfold lawOrder_r1
    refine (bnd_eq (formed_eq l)).trans ?_
    cases (decide (l.length ≤ 60) && l.all eventOk) with
    | false => rfl
    | true =>
      refine (ifbF rfl).trans ?_
      simp only [Bool.true_and, Option.some.injEq]
      by_cases h : swaps.length ≤ 80
      · rw [decide_eq_true h, decide_eq_false (by omega)]; rfl
      · rw [decide_eq_false h, decide_eq_true (by omega)]; rfl
  refine (bnd_eq hr1).trans ?_
  cases hc : ((decide (l.length ≤ 60) && l.all eventOk) && decide (swaps.length ≤ 80)) with
  | false => rfl
  | true =>
    simp only [Bool.and_eq_true, decide_eq_true_eq] at hc
    obtain ⟨⟨hl, wl⟩, hs⟩ := hc
    refine (ifbF rfl).trans ?_
    refine (grd_eq (by simp; omega)).trans ?_
    -- the swaps
    obtain ⟨z, ⟨hz1, hz2⟩, hloop⟩ := forR (fun (a : List Event) i => (a, i)) (lawOrder_s6 l swaps) swaps (fun _ a => a.length = l.length ∧ ∀ y, y ∈ a ↔ y ∈ l) (fun a => a) (fun i a x hx hI => by
      have hi := lt_of_get hx
      have hxm := hsw x (List.mem_of_getElem? hx)
      have hj : ∀ o, lawOrder_j7 (i : Int) o = some (.inl (o, (i : Int) + 1)) := fun o => by
        unfold lawOrder_j7
        exact grd_eq (by unfold inI; omega)
      unfold lawOrder_s6
      by_cases hne : 0 < l.length
      · have hb1 : 0 ≤ x.n % (l.length : Int) ∧ x.n % (l.length : Int) < l.length := ⟨Int.emod_nonneg _ (by omega), Int.emod_lt_of_pos _ (by omega)⟩
        have hb2 : 0 ≤ (i : Int) % (l.length : Int) ∧ (i : Int) % (l.length : Int) < l.length := ⟨Int.emod_nonneg _ (by omega), Int.emod_lt_of_pos _ (by omega)⟩
        obtain ⟨p, hp⟩ : ∃ p : Nat, x.n % (l.length : Int) = p := ⟨(x.n % (l.length : Int)).toNat, by omega⟩
        obtain ⟨q, hq⟩ : ∃ q : Nat, (i : Int) % (l.length : Int) = q := ⟨((i : Int) % (l.length : Int)).toNat, by omega⟩
        rw [hp] at hb1
        rw [hq] at hb2
        have hpl : p < a.length := by rw [hI.1]; omega
        have hql : q < a.length := by rw [hI.1]; omega
        refine ⟨(a.set q a[p]).set p a[q], ?_, by simp [hI.1], fun y => ?_⟩
        · refine (ifbT (decide_eq_true (by omega))).trans ?_
          refine (bnd_eq (at_nat hx)).trans ?_
          refine (ifbT (decide_eq_true (by omega))).trans ?_
          refine (grd_eq (by omega)).trans ?_
          rw [hwr x.n hxm.1 hxm.2, hp, hq]
          refine (grd_eq (by omega)).trans ?_
          refine (bnd_eq (at_nat (List.getElem?_eq_getElem hpl))).trans ?_
          refine (bnd_eq (at_nat (List.getElem?_eq_getElem hql))).trans ?_
          refine (bnd_eq (at_nat (List.getElem?_eq_getElem hql))).trans ?_
          refine (bnd_eq (at_nat (List.getElem?_eq_getElem (by simpa using hpl)))).trans ?_
          simp only [Int.toNat_natCast]
          exact hj _
        · rw [(List.set_set_perm hql hpl).mem_iff, hI.2]
      · refine ⟨a, ?_, hI⟩
        refine (ifbT (decide_eq_true (by omega))).trans ?_
        refine (bnd_eq (at_nat hx)).trans ?_
        refine (ifbF (decide_eq_false (by omega))).trans ?_
        exact hj _) (fun a _ => by
      unfold lawOrder_s6
      exact (ifbF (decide_eq_false (by omega))).trans rfl) ([] ++ l) ⟨by simp, by simp⟩
    refine (bnd_eq hloop).trans ?_
    clear hloop
    -- the repeats
    unfold lawOrder_j2
    obtain ⟨y2, ⟨g1, g2⟩, hloop2⟩ := forR (fun (a : List Event) i => (a, i)) (lawOrder_s14 l swaps) swaps (fun i a => a.length ≤ l.length + i ∧ ∀ y, y ∈ a ↔ y ∈ l) (fun a => a) (fun i a x hx hI => by
      have hi := lt_of_get hx
      have hxm := hsw x (List.mem_of_getElem? hx)
      have hj : ∀ o, lawOrder_j15 (i : Int) o = some (.inl (o, (i : Int) + 1)) := fun o => by
        unfold lawOrder_j15
        exact grd_eq (by unfold inI; omega)
      have h16 : lawOrder_r16 l (i : Int) = some (decide (0 < l.length) && decide (i % 3 = 0)) := by
        unfold lawOrder_r16
        by_cases hne : 0 < l.length
        · refine (ifbT (decide_eq_true (by omega))).trans ?_
          refine (grd_eq (by omega)).trans ?_
          rw [decide_eq_true hne, Bool.true_and]
          congr 1
          by_cases h3 : i % 3 = 0
          · rw [decide_eq_true h3, decide_eq_true (by omega)]
          · rw [decide_eq_false h3, decide_eq_false (by omega)]
        · refine (ifbF (decide_eq_false (by omega))).trans ?_
          rw [decide_eq_false hne]; rfl
      unfold lawOrder_s14
      cases hb : (decide (0 < l.length) && decide (i % 3 = 0)) with
      | false =>
        refine ⟨a, ?_, by omega, hI.2⟩
        refine (ifbT (decide_eq_true (by omega))).trans ?_
        refine (bnd_eq (at_nat hx)).trans ?_
        refine (bnd_eq h16).trans ?_
        rw [hb]
        exact (ifbF rfl).trans (hj _)
      | true =>
        have hne : 0 < l.length := by simp only [Bool.and_eq_true, decide_eq_true_eq] at hb; exact hb.1
        have hb1 : 0 ≤ x.n % (l.length : Int) ∧ x.n % (l.length : Int) < l.length := ⟨Int.emod_nonneg _ (by omega), Int.emod_lt_of_pos _ (by omega)⟩
        obtain ⟨p, hp⟩ : ∃ p : Nat, x.n % (l.length : Int) = p := ⟨(x.n % (l.length : Int)).toNat, by omega⟩
        rw [hp] at hb1
        have hpl : p < l.length := by omega
        refine ⟨a ++ [l[p]], ?_, by simp; omega, fun y => ?_⟩
        · refine (ifbT (decide_eq_true (by omega))).trans ?_
          refine (bnd_eq (at_nat hx)).trans ?_
          refine (bnd_eq h16).trans ?_
          rw [hb]
          refine (ifbT rfl).trans ?_
          rw [hwr x.n hxm.1 hxm.2, hp]
          refine (grd_eq (by omega)).trans ?_
          refine (bnd_eq (at_nat (List.getElem?_eq_getElem hpl))).trans ?_
          refine (grd_eq (by rw [List.length_append]; simp; omega)).trans ?_
          exact hj _
        · rw [List.mem_append, hI.2]
          simp only [List.mem_singleton]
          exact ⟨fun h => h.elim id fun h => h ▸ List.getElem_mem hpl, .inl⟩) (fun a _ => by
      unfold lawOrder_s14
      exact (ifbF (decide_eq_false (by omega))).trans rfl) z ⟨by omega, hz2⟩
    refine (bnd_eq hloop2).trans ?_
    clear hloop2
    unfold lawOrder_j8
    have wy : y2.all eventOk = true := List.all_eq_true.2 fun x hx => List.all_eq_true.1 wl x ((g2 x).1 hx)
    refine bnd2 (eAdd_eq [] l (by simp) (by omega)) ?_
    have he : radd [] y2 = radd [] l := radd_ext (by simp) (by omega) (by simp) (by omega) validE_nil wy validE_nil wl fun x => by rw [g2]
    refine bnd2 ((eAdd_eq [] y2 (by simp) (by omega)).trans (congrArg some he)) ?_
    have hla : (radd [] l).1.length ≤ 1000000000 := by
      rcases radd_nil hl wl with ⟨a, ra, _, la, _⟩ | ra
      · rw [ra]; simp only; omega
      · rw [ra]; simp
    refine (bnd_eq (x := false) ?_).trans ?_
    · unfold lawOrder_r17
      refine (ifbF (by simp)).trans ?_
      refine (grd_eq hla).trans ?_
      simp
    refine (ifbF rfl).trans ?_
    refine (grd_eq (by unfold inI; omega)).trans ?_
    rw [hwr split.n h0 h1]
    have hmod : 0 ≤ split.n % ((l.length : Int) + 1) ∧ split.n % ((l.length : Int) + 1) ≤ (l.length : Int) := ⟨Int.emod_nonneg _ (by omega), by have := Int.emod_lt_of_pos split.n (b := (l.length : Int) + 1) (by omega); omega⟩
    refine (grd_eq (by omega)).trans ?_
    refine (grd_eq hmod).trans ?_
    generalize (split.n % ((l.length : Int) + 1)).toNat = k
    have wt : (l.take k).all eventOk = true := List.all_eq_true.2 fun x hx => List.all_eq_true.1 wl x (List.mem_of_mem_take hx)
    have wd : (l.drop k).all eventOk = true := List.all_eq_true.2 fun x hx => List.all_eq_true.1 wl x (List.mem_of_mem_drop hx)
    have lt : (l.take k).length ≤ 60 := by rw [List.length_take]; omega
    have ld : (l.drop k).length ≤ 60 := by rw [List.length_drop]; omega
    refine bnd2 (eAdd_eq [] (l.take k) (by simp) (by omega)) ?_
    refine (grd_eq hmod).trans ?_
    have hmem : ∀ x, x ∈ l ↔ x ∈ l.take k ∨ x ∈ l.drop k := fun x => by rw [← List.mem_append, List.take_append_drop]
    rcases radd_nil lt wt with ⟨b, rb, vb, lb, mb⟩ | rb
    · rw [rb]
      have hr : radd b (l.drop k) = radd [] l := radd_ext (by omega) (by omega) (by simp) (by omega) vb wd validE_nil wl fun x => by rw [mb, hmem]; simp
      refine bnd2 ((eAdd_eq b (l.drop k) (by omega) (by omega)).trans (congrArg some hr)) ?_
      rcases radd_nil hl wl with ⟨a, ra, va, la, ma⟩ | ra
      · rw [ra]
        refine (ifbF rfl).trans ?_
        refine (bnd_eq (x := true) ?_).trans rfl
        unfold lawOrder_r19
        refine (ifbT rfl).trans ((ifbT rfl).trans ((ifbT rfl).trans ((grd_eq (by simp only; omega)).trans ((ifbT (by simp)).trans ((grd_eq (by simp only; omega)).trans ?_)))))
        rw [va]
      · rw [ra]; rfl
    · rw [rb]
      refine bnd2 (eAdd_eq [] (l.drop k) (by simp) (by omega)) ?_
      have ra : radd [] l = ([], 61) := by
        rcases radd_cases [] l (by simp) (by omega) validE_nil wl with ⟨n1, r1, v1, m1⟩ | ⟨_, r1⟩
        · exfalso
          rcases radd_cases [] (l.take k) (by simp) (by omega) validE_nil wt with ⟨_, r2, _, _⟩ | ⟨n2, _⟩
          · rw [r2] at rb; exact absurd (congrArg Prod.snd rb) (by simp)
          · have : noFork ([] ++ l.take k) = true := by
              rw [noFork_iff] at n1 ⊢
              exact fun x hx y hy => n1 x (by simp at hx ⊢; exact List.mem_of_mem_take hx) y (by simp at hy ⊢; exact List.mem_of_mem_take hy)
            rw [n2] at this; cases this
        · exact r1
      rw [ra]
      rfl
end Go.Proofs.Ytpbhcpeilgmkeaa

/-
  Eva, part Wm: loops over an own map, in whatever order the entries come.
-/
set_option linter.all false
namespace Go.Eva
open Go Go.RowKit Enc
variable [Drw]

/-- The loop's body for each entry, in the order of the list. -/
def iterM {σ ρ ε : Type} (step : σ → ε → Option (σ ⊕ ρ)) : List ε → σ → Option (σ ⊕ ρ)
  | [], z => some (.inl z)
  | e :: l, z => match step z e with
    | some (.inl z') => iterM step l z'
    | some (.inr r) => some (.inr r)
    | none => none
open Classical in
/-- What comes of it whatever the order. -/
noncomputable def loopM {σ ρ ε : Type} (step : σ → ε → Option (σ ⊕ ρ)) (m : List ε) (z : σ) : Option (σ ⊕ ρ) := if h : ∃ r, ∀ l, l.Perm m → iterM step l z = some r then some (Classical.choose h) else none
theorem loopM_some {σ ρ ε : Type} {step : σ → ε → Option (σ ⊕ ρ)} {m : List ε} {z : σ} {r : σ ⊕ ρ} (h : loopM step m z = some r) : ∀ l, l.Perm m → iterM step l z = some r := by
  unfold loopM at h
  split at h
  · rename_i hx
    injection h with h
    rw [← h]; exact Classical.choose_spec hx
  · cases h
theorem loopM_of {σ ρ ε : Type} {step : σ → ε → Option (σ ⊕ ρ)} {m : List ε} {z : σ} {r : σ ⊕ ρ} (h : ∀ l, l.Perm m → iterM step l z = some r) : loopM step m z = some r := by
  have hx : ∃ r, ∀ l, l.Perm m → iterM step l z = some r := ⟨r, h⟩
  unfold loopM
  rw [dif_pos hx]
  have h1 := Classical.choose_spec hx m (List.Perm.refl m)
  rw [h m (List.Perm.refl m)] at h1
  exact h1.symm

/-- Entries that are still to come. -/
def restM {ε : Type} (done : List Nat) : Nat → List ε → List ε
  | _, [] => []
  | k, e :: l => if k ∈ done then restM done (k + 1) l else e :: restM done (k + 1) l
theorem restM_nil {ε : Type} : ∀ (k : Nat) (m : List ε), restM [] k m = m
  | _, [] => rfl
  | k, e :: l => by simp [restM, restM_nil (k + 1) l]
theorem restM_all {ε : Type} {done : List Nat} : ∀ {k : Nat} {m : List ε}, (∀ i, i < m.length → k + i ∈ done) → restM done k m = []
  | _, [], _ => rfl
  | k, e :: l, h => by
    have h0 := h 0 (by simp)
    simp only [Nat.add_zero] at h0
    simp only [restM, if_pos h0]
    exact restM_all fun i hi => by have := h (i + 1) (by simp; omega); rwa [show k + (i + 1) = k + 1 + i by omega] at this
theorem restM_far {ε : Type} {done : List Nat} {j : Nat} : ∀ {k : Nat} {m : List ε}, j < k → restM (done ++ [j]) k m = restM done k m
  | _, [], _ => rfl
  | k, e :: l, h => by
    have hk : (k ∈ done ++ [j]) = (k ∈ done) := by simp; omega
    simp only [restM, hk, restM_far (show j < k + 1 by omega)]
theorem restM_one {ε : Type} {done : List Nat} : ∀ {k i : Nat} {m : List ε} {e : ε}, m[i]? = some e → k + i ∉ done → (e :: restM (done ++ [k + i]) k m).Perm (restM done k m)
  | k, i, [], e, h, _ => by simp at h
  | k, 0, x :: l, e, h, hn => by
    simp at h; subst h
    simp only [Nat.add_zero] at hn ⊢
    have : k ∈ done ++ [k] := by simp
    simp only [restM, if_pos this, if_neg hn, restM_far (Nat.lt_succ_self k)]
    exact .refl _
  | k, i + 1, x :: l, e, h, hn => by
    have ih := restM_one (k := k + 1) (i := i) (m := l) (e := e) (by simpa using h) (by rwa [show k + 1 + i = k + (i + 1) by omega])
    rw [show k + 1 + i = k + (i + 1) by omega] at ih
    have hk : (k ∈ done ++ [k + (i + 1)]) = (k ∈ done) := by simp
    simp only [restM, hk]
    split
    · exact ih
    · exact (List.Perm.swap _ _ _).trans (ih.cons _)
theorem nodup_bound {done : List Nat} {n : Nat} (hn : done.Nodup) (h : ∀ i ∈ done, i < n) : done.length ≤ n := by
  have : done.Perm ((List.range n).filter fun i => done.contains i) := (List.perm_ext_iff_of_nodup hn (List.nodup_range.filter _)).2 fun x => by simp; exact h x
  rw [this.length_eq]
  exact Nat.le_trans (List.length_filter_le _ _) (by simp)
theorem kv_get {α : Type} [Enc α] {m : List (Int × α)} {i : Nat} {kd vd : D} (hk : (m.map kE)[i]? = some kd) (hv : (m.map vE)[i]? = some vd) : ∃ e, m[i]? = some e ∧ kd = kE e ∧ vd = vE e := by
  rw [List.getElem?_map] at hk hv
  cases he : m[i]? with
  | none => rw [he] at hk; cases hk
  | some e => rw [he] at hk hv; simp at hk hv; exact ⟨e, rfl, hk.symm, hv.symm⟩
theorem kE_pair {α : Type} (k : Int) (v : α) : kE (k, v) = .int .i64 k := rfl
theorem vE_pair {α : Type} [Enc α] (k : Int) (v : α) : vE (k, v) = enc v := rfl

section
variable {P : Program} {V : Env} {w0 w : World} {I0 I : Imm} {m : Nat → Value} {l : List AO}
theorem next_step (hrel : WRel w0 I0 w I m l) {id : Nat} {ks vs : List D} {done : List Nat} (hl : l[id]? = some (.iter ks vs done)) {b : Nat} (hm : m id = .pointer (some ⟨b, 0, none⟩)) (ty : TypeId) :
    ((∀ i, i < ks.length → i ∈ done) ∧ (Instr.next (.pointer (some ⟨b, 0, none⟩)) false ty).run P w = .ok (.tuple #[.bool false]) w) ∨
    ∃ i key val kd vd w', ks[i]? = some kd ∧ vs[i]? = some vd ∧ i ∉ done ∧ (Instr.next (.pointer (some ⟨b, 0, none⟩)) false ty).run P w = .ok (.tuple #[.bool true, key, val]) w' ∧ Rd I key kd ∧ Rd I val vd ∧
      Le I m l I m (l.set id (.iter ks vs (done ++ [i]))) ∧ WRel w0 I0 w' I m (l.set id (.iter ks vs (done ++ [i]))) := by
  obtain ⟨b', mb, es, seen, q1, q2, q3, q4, q5, q6, q7, q8, ⟨q9, q10⟩, q11⟩ := hrel.obj id _ hl
  rw [hm] at q1; injection q1 with q1; injection q1 with q1; injection q1 with q1; subst q1
  have hh := hrel.sat.mp mb es q4
  have hmem : ∀ x, seen.contains x = true ↔ ∃ i ∈ done, bornAt es i = x := fun x => by
    rw [← Array.contains_toList, q9]; simp
  have hidx : ∀ (i j : Nat) (hi : i < es.1.size) (hj : j < es.1.size), es.1[i].born = es.1[j].born → i = j := fun i j hi hj h => by
    refine nodup_inj hh.2.2.1 (a := es.1[i].born) ?_ ?_
    · simp [hi]
    · simp [hj, h]
  rcases run_next_at (P := P) w ty b mb es.2 es.2 seen es.1 es.2 q3 hh.1 hh.2.1 (Nat.le_refl _) with ⟨h0, hrun⟩ | ⟨e, he, w1, hal, hrun⟩
  · refine .inl ⟨fun i hi => ?_, hrun⟩
    have hi' : i < es.1.size := by omega
    have := all_seen es.1 seen h0 es.1[i] (by simp)
    obtain ⟨j, hj, hb⟩ := (hmem _).1 this
    have hj' := q10 j hj
    rw [bornAt_get (Array.getElem?_eq_getElem hj')] at hb
    rw [hidx i j hi' hj' hb.symm]; exact hj
  · obtain ⟨hem, hes⟩ := mem_left he
    obtain ⟨i, hi, hei⟩ := List.mem_iff_getElem.1 hem
    have hi' : i < es.1.size := by simpa using hi
    have hei' : es.1[i]? = some e := by rw [Array.getElem?_eq_getElem hi']; simpa using hei
    have hnd : i ∉ done := fun hd => by
      have := (hmem e.born).2 ⟨i, hd, bornAt_get hei'⟩
      rw [this] at hes; cases hes
    have hkd : ks[i]? = some ks[i] := List.getElem?_eq_getElem (by omega)
    have hvd : vs[i]? = some vs[i] := List.getElem?_eq_getElem (by omega)
    refine .inr ⟨i, e.key, e.val, ks[i], vs[i], _, hkd, hvd, hnd, hrun, q7 i e _ hei' hkd, q8 i e _ hei' hvd, Le.setKind hl rfl rfl (by simp), ?_⟩
    have hrel1 : WRel w0 I0 w1 I m l := by rcases hal with rfl | rfl; exact hrel; exact hrel.drew
    have hr1 : w1.heap[b]? = some (.mapIter (some mb) es.2 seen es.2) := by rcases hal with rfl | rfl <;> exact q3
    have hset := MapKept.heap_set (o' := .mapIter (some mb) es.2 (seen.push e.born) es.2) hr1
    refine hrel1.turnB hl (by simp) (b := b) (by rw [hm]; rfl) q11 rfl rfl (Le.setKind hl rfl rfl (by simp)) rfl rfl rfl (Nat.le_refl _) (by simp [ChangeMaps.setBlock]) (fun k hk => hset.2 k hk) ?_
    exact ⟨b, mb, es, seen.push e.born, hm, q2, hset.1, q4, q5, q6, q7, q8, ⟨by simp [q9, bornAt_get hei'], fun j hj => by
      rcases List.mem_append.1 hj with h | h
      · exact q10 j h
      · simp at h; subst h; exact hi'⟩, q11⟩
end

section
variable {P : Program} {V : Env} {w0 : World} {I0 : Imm} {n : Nat} {Q : Exit → St → Prop} {s : St} {x y : Code}
/-- The head of a loop over a map. -/
theorem AWp.mNext (hV : VOk P V) {id E it d d2 k : Nat} {ks vs : List D} {done : List Nat} {o o2 : Oper} (ho : o.op = .next (.tmp it) false) (hd : o.dst = some d) (hg : o.guard = none) (ho2 : o2.op = .extract (.tmp d) 0) (hd2 : o2.dst = some d2) (hg2 : o2.guard = none)
    (hdn : d < n) (hdn2 : d2 < n) (hu : get s.t d = .undef) (hu2 : get s.t d2 = .undef) (hit : get s.t it = .ptr k 0) (hk : s.l[k]? = some (.iter ks vs done))
    (hA : ∀ i kd vd, ks[i]? = some kd → vs[i]? = some vd → i ∉ done → AWp P w0 I0 n y ⟨s.t, s.l.set k (.iter ks vs (done ++ [i]))⟩ Q)
    (hB : (∀ i, i < ks.length → i ∈ done) → Q (.exit E) ⟨(d2, .d (.bool false)) :: (d, .d (.tup [.bool false])) :: s.t, s.l⟩) : AWp P w0 I0 n ((Code.region id #[o, o2] false).seq ((Code.cond (.tmp d2) .skip (.exit E)).seq y)) s Q := by
  refine AWp.seq fun a w hr => ?_
  obtain ⟨r1, r2, I, m, r3, r4⟩ := hr
  have hptr := r4 it
  rw [hit] at hptr
  generalize hva : a.tmps.getD it undef = va at hptr
  cases hptr with
  | ptr _ b _ p1 p2 =>
  have hset : ∀ (v : Value) (j : Nat), (a.put (some d) v).tmps.getD j undef = if j = d then v else a.tmps.getD j undef := fun v j => by
    by_cases h : j = d
    · subst h; simp [Act.put, Array.getD_eq_getD_getElem?, r1, hdn]
    · have : d ≠ j := Ne.symm h
      simp [Act.put, Array.getD_eq_getD_getElem?, this, h]
  -- behind the step
  have after1 : ∀ (v : Value) (w' : World) (l' : List AO) (t : T), Le I m s.l I m l' → WRel w0 I0 w' I m l' → RdT I m l' v t → Rel w0 I0 n ⟨putT s.t (some d) t, l'⟩ (a.put (some d) v) w' := fun v w' l' t hle hw hv => by
    refine ⟨by simp [Act.put, r1], r2, I, m, hw, fun j => ?_⟩
    rw [hset]
    simp only [putT, get]
    by_cases h : j = d
    · subst h; simp; exact hv
    · rw [if_neg h, if_neg (Ne.symm h)]; exact (r4 j).mono hle
  refine wp_region_lit (l := [o, o2]) ?_
  unfold wpList
  have hw : Region.wanted o (yielded [o, o2].toArray a.tmps) = true := by simp [Region.wanted, hg]
  rw [if_pos hw]
  have hev : a.eval (.tmp it) = .pointer (some ⟨b, 0, none⟩) := by simpa [Act.eval, Array.getD_eq_getD_getElem?] using hva
  have two : ∀ (bb : Bool) (ds : List D) (l' : List AO) (a' : Act) (w' : World), Rel w0 I0 n ⟨putT s.t (some d) (.d (.tup (.bool bb :: ds))), l'⟩ a' w' → AWp P w0 I0 n ((Code.cond (.tmp d2) .skip (.exit E)).seq y) ⟨(d2, .d (.bool bb)) :: (d, .d (.tup (.bool bb :: ds))) :: s.t, l'⟩ Q →
      wpList P [o, o2].toArray (fun e a' w' => ∃ s', thenQ (fun s' => AWp P w0 I0 n ((Code.cond (.tmp d2) .skip (.exit E)).seq y) s' Q) Q e s' ∧ Rel w0 I0 n s' a' w') [o2] a' w' := fun bb ds l' a' w' hr' hy => by
    refine evalSeq_ok (K := fun q => q = ⟨(d2, .d (.bool bb)) :: (d, .d (.tup (.bool bb :: ds))) :: s.t, l'⟩) (md := none) hV (fun q a w hq hr => ?_) [o2] _ a' w' hr' ?_
    · subst hq; exact ⟨_, hy, hr⟩
    · simp [evalSeq, hg2, guardPc, opRes, evalOp, ho2, evT, putT, get, R.ok, holds, dstOk, hd2, hdn2, after]
  refine .inl (StepOk.wp ?_)
  rcases next_step (P := P) r3 hk p2 o.type with ⟨hall, hrun⟩ | ⟨i, key, val, kd, vd, w', h1, h2, h3, hrun, h5, h6, h7, h8⟩
  · have hex : (execOp a.eval o).run P w = .ok (.value (.tuple #[.bool false])) w := by unfold execOp; simp [ho, hev, hrun]
    rw [hex]
    simp only [StepOk, hd]
    refine two false [] s.l _ _ (after1 _ w s.l _ (.refl ..) r3 (.d _ _ (.tup _ _ rfl fun j u x hu hx => ?_))) ?_
    · rcases j with _ | j
      · simp at hu hx; subst hu; subst hx; exact .bool _
      · simp at hu
    · exact AWp.seq (AWp.cond (b := false) (by simp [evT, get, boolOf]) (fun h => by cases h) (fun _ => AWp.exit (hB hall)))
  · have hex : (execOp a.eval o).run P w = .ok (.value (.tuple #[.bool true, key, val])) w' := by unfold execOp; simp [ho, hev, hrun]
    rw [hex]
    simp only [StepOk, hd]
    refine two true [kd, vd] _ _ _ (after1 _ w' _ _ h7 h8 (.d _ _ (.tup _ _ rfl fun j u x hu hx => ?_))) ?_
    · rcases j with _ | _ | _ | j
      · simp at hu hx; subst hu; subst hx; exact .bool _
      · simp at hu hx; subst hu; subst hx; exact h5
      · simp at hu hx; subst hu; subst hx; exact h6
      · simp at hu
    · refine AWp.seq (AWp.cond (b := true) (by simp [evT, get, boolOf]) (fun _ => AWp.skip ?_) (fun h => by cases h))
      refine AWp.sub ?_ (hA i kd vd h1 h2 h3)
      intro w0 I0 n a w hr
      obtain ⟨h1, h2, I, m, h3, h4⟩ := hr
      refine ⟨h1, h2, I, m, h3, fun j => ?_⟩
      have := h4 j
      simp only [get] at this
      by_cases e2 : d2 = j
      · subst e2; rw [hu2]; exact .undef _
      · rw [if_neg e2] at this
        by_cases e1 : d = j
        · subst e1; rw [hu]; exact .undef _
        · rw [if_neg e1] at this; exact this

/-- A loop over a map, by its program. -/
theorem AWp.loopM {σ ρ α : Type} [Enc α] (mm : List (Int × α)) (F : List Nat → σ → St) (step : σ → Int × α → Option (σ ⊕ ρ)) (z0 : σ) {out : σ ⊕ ρ} (h : Eva.loopM step mm z0 = some out) (hs : Sub s (F [] z0))
    (round : ∀ (done : List Nat) (z : σ) (K : St → Prop), ((∀ i, i < mm.length → i ∈ done) → out = .inl z) → (∀ i e, mm[i]? = some e → i ∉ done → ∃ o, step z e = some o ∧ (∀ r, o = .inr r → out = .inr r) ∧ ∀ s' z', o = .inl z' → Sub s' (F (done ++ [i]) z') → K s') →
      AWp P w0 I0 n x (F done z) (thenQ K Q)) : AWp P w0 I0 n (.loop x) s Q := by
  have h0 := loopM_some h
  refine AWp.loop (X := List Nat × σ) (fun z => F z.1 z.2) (fun z => z.1.Nodup ∧ (∀ i ∈ z.1, i < mm.length) ∧ ∀ l, l.Perm (restM z.1 0 mm) → iterM step l z.2 = some out) (fun z => mm.length - z.1.length) ([], z0) ⟨by simp, by simp, fun l hl => h0 l (by rwa [restM_nil] at hl)⟩ hs fun z hz => ?_
  obtain ⟨done, z⟩ := z
  obtain ⟨hn, hb, hp⟩ := hz
  refine round done z _ (fun hall => ?_) (fun i e he hi => ?_)
  · have := hp [] (by rw [restM_all fun i hi => by simpa using hall i hi])
    simp only [iterM] at this
    injection this with this; exact this.symm
  · have hone := restM_one (done := done) (k := 0) (i := i) (m := mm) he (by simpa using hi)
    simp only [Nat.zero_add] at hone
    have hl : ∀ l, l.Perm (restM (done ++ [i]) 0 mm) → iterM step (e :: l) z = some out := fun l hl => hp _ ((hl.cons e).trans hone)
    have h1 := hl _ (.refl _)
    simp only [iterM] at h1 hl
    have hil : i < mm.length := (List.getElem?_eq_some_iff.1 he).1
    cases hst : step z e with
    | none => rw [hst] at h1; cases h1
    | some o =>
      refine ⟨o, rfl, fun r hr => ?_, fun s' z' hz hs' => ⟨(done ++ [i], z'), ⟨?_, ?_, fun l hl' => ?_⟩, ?_, hs'⟩⟩
      · subst hr; rw [hst] at h1; injection h1 with h1; exact h1.symm
      · rw [List.nodup_append]; exact ⟨hn, by simp, fun a ha b hb' => by simp at hb'; subst hb'; exact fun e => hi (e ▸ ha)⟩
      · intro j hj
        rcases List.mem_append.1 hj with h | h
        · exact hb j h
        · simp at h; subst h; exact hil
      · have := hl l hl'
        rw [hst, hz] at this; exact this
      · have := nodup_bound (done := done ++ [i]) (n := mm.length) (by rw [List.nodup_append]; exact ⟨hn, by simp, fun a ha b hb' => by simp at hb'; subst hb'; exact fun e => hi (e ▸ ha)⟩) (fun j hj => by
          rcases List.mem_append.1 hj with h | h
          · exact hb j h
          · simp at h; subst h; exact hil)
        simp at this ⊢; omega
end
end Go.Eva

/-
  Programs of the events: printed by gen2.py (extraction).
-/
namespace Go.Proofs.Ytpbhcpeilgmkeaa
open Go Go.Eva Enc
set_option linter.unusedVariables false
noncomputable def lawLast_r1 (l : (List Event)) : Option Bool :=
  (ifb (!(decide ((l : List Event).length ≤ 60))) (some true) (grd ((l : List Event).length ≤ 1000000000) (some (!(validE l)))))
noncomputable def lawLast_j7 (z3u37 : Int) (y66u6 : (List (Int × Event))) : Option (((List (Int × Event)) × Int) ⊕ (((List (Int × Event))))) :=
  grd (inI (z3u37 + 1)) (some (.inl (y66u6, (z3u37 + 1))))
noncomputable def lawLast_s6 (l : (List Event)) : ((List (Int × Event)) × Int) → Option (((List (Int × Event)) × Int) ⊕ (((List (Int × Event))))) := fun (z3u6, z3u37) =>
  ifb (decide (z3u37 < (l.length : Int))) (bnd (at? l z3u37) fun x68 =>
  ifb (decide (0 < (about x68))) (lawLast_j7 z3u37 (mput z3u6 (about x68) x68))
  (lawLast_j7 z3u37 z3u6))
  (some (.inr z3u6))
noncomputable def lawLast_r16 (x15 : (List Mark)) (z9u52 : Int) (x142 : Mark) : Option Bool :=
  (ifb (decide (0 < z9u52)) (grd (inI (z9u52 - 1)) (bnd (at? x15 (z9u52 - 1)) fun x147 =>
  some (decide (x142.id ≤ x147.id)))) (some false))
noncomputable def lawLast_j15 (z9u52 : Int) (y140u10 : (List (Int × Mark))) : Option (((List (Int × Mark)) × Int) ⊕ ((Bool) ⊕ ((List (Int × Mark))))) :=
  grd (inI (z9u52 + 1)) (some (.inl (y140u10, (z9u52 + 1))))
noncomputable def lawLast_s14 (x15 : (List Mark)) : ((List (Int × Mark)) × Int) → Option (((List (Int × Mark)) × Int) ⊕ ((Bool) ⊕ ((List (Int × Mark))))) := fun (z9u10, z9u52) =>
  ifb (decide (z9u52 < (x15.length : Int))) (bnd (at? x15 z9u52) fun x142 =>
  bnd (lawLast_r16 x15 z9u52 x142) fun y149u69 =>
  ifb y149u69 (some (.inr (.inl false)))
  (lawLast_j15 z9u52 (mput z9u10 x142.id x142)))
  (some (.inr (.inr z9u10)))
noncomputable def lawLast_r22 (z18u10 : (List (Int × Mark))) (k169 : Int) (v170 : Event) : Option Bool :=
  (ifb (!((mhas z18u10 k169) == (decide (v170.kind = 1)))) (some true) (ifb (mhas z18u10 k169) (some (!decide ((mgetD z18u10 k169 (⟨0, 0, 0, (⟨0, 0, 0⟩ : Reader), 0, 0, 0, ⟨#[]⟩⟩ : Mark)) = v170.mark))) (some false)))
noncomputable def lawLast_m21 : (List (Int × Mark)) → (Int × Event) → Option (((List (Int × Mark))) ⊕ ((Bool))) := fun (z18u10) (k169, v170) =>
  bnd (lawLast_r22 z18u10 k169 v170) fun y222u101 =>
  ifb y222u101 (some (.inr false))
  (some (.inl (mdel z18u10 k169)))
noncomputable def lawLast_r23 (x2 : Bool) (y164u10 : (List (Int × Mark))) : Option Bool :=
  (ifb x2 (some (decide ((y164u10.length : Int) = 0))) (some false))
noncomputable def lawLast_j17 (x2 : Bool) (y164u10 : (List (Int × Mark))) : Option Bool :=
  bnd (lawLast_r23 x2 y164u10) fun y235u2 =>
  some y235u2
noncomputable def lawLast_j8 (x2 : Bool) (y24u6 : (List (Int × Event))) (y80u10 : (List (Int × Mark))) : Option Bool :=
  bnd (loopM lawLast_m21 y24u6 y80u10) fun o200 =>
  match o200 with
  | .inl z18u10 => lawLast_j17 x2 z18u10
  | .inr q234u0 => some q234u0
noncomputable def lawLast_j2 (x2 : Bool) (x15 : (List Mark)) (y24u6 : (List (Int × Event))) : Option Bool :=
  bnd (loopO (lawLast_s14 x15) ([], 0)) fun o130 =>
  match o130 with
  | .inl q162u0 => some q162u0
  | .inr q163u10 => lawLast_j8 x2 y24u6 q163u10
noncomputable def lawLast (l : (List Event)) : Option Bool :=
  bnd (headP) fun x2 =>
  bnd (lawLast_r1 l) fun y7u25 =>
  ifb y7u25 (some x2)
  (bnd (eMarks l) fun (x15, x16) =>
  ifb (!decide (x16 = 0)) (some false)
  (bnd (loopO (lawLast_s6 l) ([], 0)) fun q78u6 =>
  lawLast_j2 x2 x15 q78u6))
end Go.Proofs.Ytpbhcpeilgmkeaa
