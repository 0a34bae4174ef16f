/-
  The evaluator, the printed walks and the plain laws, part 7 of 9.
-/
import Derived.Test.YtjfkfkjkbgiciaaGreatDoorX6
import Derived.Shelf.SlGeneric
import Derived.Shelf.SlSortCmp.WholeK
import Derived.Shelf.SlSortCmp.NoneTotal
import Derived.Shelf.SlIterI.Nil
import Derived.Shelf.SortM.Plain
import Derived.Shelf.SortM.SortNone
import Derived.Ground.SlsfProg
import Derived.Ground.GgzProg
import Derived.Ground.SlgmProg
import Derived.Test.YtjfkfkjkbgiciaaGreatDoorProg
import Derived.Test.YtjfkfkjkbgiciaaGreatDoorCards
import Derived.Test.YtjfkfkjkbgiciaaGreatDoorTie
import Derived.OpenShut
import Derived.Deep.DeepHandedRow
import Derived.Lib.LaidTab
set_option linter.all false
set_option linter.unnecessarySimpa false
set_option linter.deprecated false
set_option linter.unusedVariables false
set_option linter.unusedSimpArgs false
set_option linter.unusedSectionVars false
namespace Go.Proofs
open Go.Shelf
def Tryz.sortW_ren : Go.Shelf.Ren := ⟨fun | 6 => 71 | 15 => 82 | 14 => 86 | 28 => 101 | 29 => 102 | 20 => 104 | 21 => 105 | 22 => 106 | 23 => 107 | 24 => 108 | 25 => 109 | 26 => 110 | 27 => 111 | 46 => 119 | 47 => 115 | 48 => 116 | 49 => 120 | 50 => 121 | 57 => 125 | n => n, fun | 22 => 45 | 24 => 51 | 25 => 79 | 3 => 3 | 39 => 107 | 0 => 0 | 53 => 121 | 55 => 123 | 4 => 4 | 46 => 114 | 45 => 113 | 50 => 118 | 5 => 5 | 9 => 9 | 66 => 134 | 70 => 138 | 76 => 142 | 77 => 143 | n => n, fun | n => n⟩
theorem Tryz.sortW : Go.Proofs.SlLaysF0.n6 Tryz.prog Tryz.sortW_ren := {
  mixed := by kernel_rfl
  f6 := ⟨Tryz.f71.name, by decide, Tryz.func71.trans (congrArg some (by kernel_rfl))⟩
  f14 := ⟨Tryz.f86.name, by decide, Tryz.func86.trans (congrArg some (by kernel_rfl))⟩
  f15 := Tryz.func82.trans (congrArg some (by kernel_rfl))
  f20 := ⟨Tryz.f104.name, by decide, Tryz.func104.trans (congrArg some (by kernel_rfl))⟩
  f21 := ⟨Tryz.f105.name, by decide, Tryz.func105.trans (congrArg some (by kernel_rfl))⟩
  f22 := ⟨Tryz.f106.name, by decide, Tryz.func106.trans (congrArg some (by kernel_rfl))⟩
  f23 := ⟨Tryz.f107.name, by decide, Tryz.func107.trans (congrArg some (by kernel_rfl))⟩
  f24 := ⟨Tryz.f108.name, by decide, Tryz.func108.trans (congrArg some (by kernel_rfl))⟩
  f25 := ⟨Tryz.f109.name, by decide, Tryz.func109.trans (congrArg some (by kernel_rfl))⟩
  f26 := ⟨Tryz.f110.name, by decide, Tryz.func110.trans (congrArg some (by kernel_rfl))⟩
  f27 := ⟨Tryz.f111.name, by decide, Tryz.func111.trans (congrArg some (by kernel_rfl))⟩
  f28 := Tryz.func101.trans (congrArg some (by kernel_rfl))
  f29 := Tryz.func102.trans (congrArg some (by kernel_rfl))
  f46 := ⟨Tryz.f119.name, by decide, Tryz.func119.trans (congrArg some (by kernel_rfl))⟩
  f47 := Tryz.func115.trans (congrArg some (by kernel_rfl))
  f48 := Tryz.func116.trans (congrArg some (by kernel_rfl))
  f49 := ⟨Tryz.f120.name, by decide, Tryz.func120.trans (congrArg some (by kernel_rfl))⟩
  f50 := ⟨Tryz.f121.name, by decide, Tryz.func121.trans (congrArg some (by kernel_rfl))⟩
  f57 := ⟨Tryz.f125.name, by decide, Tryz.func125.trans (congrArg some (by kernel_rfl))⟩
  t0 := Tryz.underlying0
  a0 := Tryz.isAgg0
  z0 := Tryz.sizeOf0
  v0 := Tryz.zeroValue0
  t3 := Tryz.underlying3
  a3 := Tryz.isAgg3
  z3 := Tryz.sizeOf3
  v3 := Tryz.zeroValue3
  t4 := Tryz.underlying4
  a4 := Tryz.isAgg4
  z4 := Tryz.sizeOf4
  v4 := Tryz.zeroValue4
  t5 := Tryz.underlying5
  a5 := Tryz.isAgg5
  z5 := Tryz.sizeOf5
  v5 := Tryz.zeroValue5
  t9 := Tryz.underlying9
  a9 := Tryz.isAgg9
  z9 := Tryz.sizeOf9
  v9 := Tryz.zeroValue9
  t22 := Tryz.underlying45
  a22 := Tryz.isAgg45
  z22 := Tryz.sizeOf45
  v22 := Tryz.zeroValue45
  t25 := Tryz.underlying79
  a25 := Tryz.isAgg79
  z25 := Tryz.sizeOf79
  v25 := Tryz.zeroValue79
  t39 := Tryz.underlying107
  a39 := Tryz.isAgg107
  z39 := Tryz.sizeOf107
  v39 := Tryz.zeroValue107
  t45 := Tryz.underlying113
  a45 := Tryz.isAgg113
  z45 := Tryz.sizeOf113
  v45 := Tryz.zeroValue113
  t46 := Tryz.underlying114
  a46 := Tryz.isAgg114
  z46 := Tryz.sizeOf114
  v46 := Tryz.zeroValue114
  t50 := Tryz.underlying118
  a50 := Tryz.isAgg118
  z50 := Tryz.sizeOf118
  v50 := Tryz.zeroValue118
  t53 := Tryz.underlying121
  a53 := Tryz.isAgg121
  z53 := Tryz.sizeOf121
  v53 := Tryz.zeroValue121
  t55 := Tryz.underlying123
  a55 := Tryz.isAgg123
  z55 := Tryz.sizeOf123
  v55 := Tryz.zeroValue123
  t66 := Tryz.underlying134
  a66 := Tryz.isAgg134
  z66 := Tryz.sizeOf134
  v66 := Tryz.zeroValue134
  t70 := Tryz.underlying138
  a70 := Tryz.isAgg138
  z70 := Tryz.sizeOf138
  v70 := Tryz.zeroValue138
  t76 := Tryz.underlying142
  a76 := Tryz.isAgg142
  z76 := Tryz.sizeOf142
  v76 := Tryz.zeroValue142
  t77 := Tryz.underlying143
  a77 := Tryz.isAgg143
  z77 := Tryz.sizeOf143
  v77 := Tryz.zeroValue143 }
def Tryz.keysMk_ren : Go.Shelf.Ren := ⟨fun | 7 => 28 | 10 => 55 | n => n, fun | 23 => 56 | 26 => 3 | 3 => 4 | 28 => 59 | 0 => 0 | 27 => 58 | 33 => 83 | 4 => 4 | n => n, fun | n => n⟩
theorem Tryz.keysMk : Go.Proofs.SlLaysZI.n7 Tryz.prog Tryz.keysMk_ren := {
  mixed := by kernel_rfl
  f7 := ⟨Tryz.f28.name, by decide, Tryz.func28.trans (congrArg some (by kernel_rfl))⟩
  f10 := ⟨Tryz.f55.name, by decide, Tryz.func55.trans (congrArg some (by kernel_rfl))⟩
  t0 := Tryz.underlying0
  a0 := Tryz.isAgg0
  z0 := Tryz.sizeOf0
  v0 := Tryz.zeroValue0
  t4 := Tryz.underlying4
  a4 := Tryz.isAgg4
  z4 := Tryz.sizeOf4
  v4 := Tryz.zeroValue4
  t23 := Tryz.underlying56
  a23 := Tryz.isAgg56
  z23 := Tryz.sizeOf56
  v23 := Tryz.zeroValue56
  t26 := Tryz.underlying3
  a26 := Tryz.isAgg3
  z26 := Tryz.sizeOf3
  v26 := Tryz.zeroValue3
  t27 := Tryz.underlying58
  a27 := Tryz.isAgg58
  z27 := Tryz.sizeOf58
  v27 := Tryz.zeroValue58
  t28 := Tryz.underlying59
  a28 := Tryz.isAgg59
  z28 := Tryz.sizeOf59
  v28 := Tryz.zeroValue59
  t33 := Tryz.underlying83
  a33 := Tryz.isAgg83
  z33 := Tryz.sizeOf83
  v33 := Tryz.zeroValue83 }
def Tryz.sortedInt_ren : Go.Shelf.Ren := ⟨fun | 6 => 27 | 8 => 53 | 9 => 54 | 11 => 80 | 13 => 82 | 12 => 81 | 23 => 101 | 24 => 102 | 14 => 92 | 15 => 93 | 16 => 94 | 17 => 95 | 18 => 96 | 19 => 97 | 20 => 98 | 21 => 99 | 22 => 100 | 25 => 114 | 26 => 115 | 27 => 116 | 28 => 117 | 29 => 118 | 30 => 89 | 31 => 124 | n => n, fun | 26 => 3 | 28 => 59 | 24 => 26 | 0 => 0 | 3 => 3 | 37 => 107 | 48 => 121 | 50 => 123 | 4 => 4 | 40 => 114 | 39 => 113 | 45 => 118 | 5 => 5 | 9 => 9 | 51 => 134 | 55 => 138 | 57 => 142 | 58 => 143 | 33 => 83 | n => n, fun | n => n⟩
theorem Tryz.sortedInt : Go.Proofs.SlLaysZI.n6 Tryz.prog Tryz.sortedInt_ren := {
  mixed := by kernel_rfl
  f6 := ⟨Tryz.f27.name, by decide, Tryz.func27.trans (congrArg some (by kernel_rfl))⟩
  f8 := ⟨Tryz.f53.name, by decide, Tryz.func53.trans (congrArg some (by kernel_rfl))⟩
  f11 := ⟨Tryz.f80.name, by decide, Tryz.func80.trans (congrArg some (by kernel_rfl))⟩
  t0 := Tryz.underlying0
  a0 := Tryz.isAgg0
  z0 := Tryz.sizeOf0
  v0 := Tryz.zeroValue0
  t24 := Tryz.underlying26
  a24 := Tryz.isAgg26
  z24 := Tryz.sizeOf26
  v24 := Tryz.zeroValue26
  t26 := Tryz.underlying3
  a26 := Tryz.isAgg3
  z26 := Tryz.sizeOf3
  v26 := Tryz.zeroValue3
  t28 := Tryz.underlying59
  a28 := Tryz.isAgg59
  z28 := Tryz.sizeOf59
  v28 := Tryz.zeroValue59
  i26 := by kernel_rfl }
def Tryz.sortInt_ren : Go.Shelf.Ren := ⟨fun | 5 => 54 | 8 => 82 | 7 => 81 | 19 => 101 | 20 => 102 | 10 => 92 | 11 => 93 | 12 => 94 | 13 => 95 | 14 => 96 | 15 => 97 | 16 => 98 | 17 => 99 | 18 => 100 | 30 => 114 | 31 => 115 | 32 => 116 | 33 => 117 | 34 => 118 | 35 => 89 | 40 => 124 | n => n, fun | 23 => 26 | 25 => 3 | 3 => 3 | 32 => 107 | 22 => 26 | 0 => 0 | 44 => 121 | 46 => 123 | 4 => 4 | 36 => 114 | 35 => 113 | 41 => 118 | 5 => 5 | 9 => 9 | 53 => 134 | 57 => 138 | 63 => 142 | 64 => 143 | n => n, fun | n => n⟩
theorem Tryz.sortInt : Go.Proofs.SlLaysM.n5 Tryz.prog Tryz.sortInt_ren := {
  mixed := by kernel_rfl
  f5 := ⟨Tryz.f54.name, by decide, Tryz.func54.trans (congrArg some (by kernel_rfl))⟩
  f7 := ⟨Tryz.f81.name, by decide, Tryz.func81.trans (congrArg some (by kernel_rfl))⟩
  f8 := Tryz.func82.trans (congrArg some (by kernel_rfl))
  f10 := ⟨Tryz.f92.name, by decide, Tryz.func92.trans (congrArg some (by kernel_rfl))⟩
  f11 := ⟨Tryz.f93.name, by decide, Tryz.func93.trans (congrArg some (by kernel_rfl))⟩
  f12 := ⟨Tryz.f94.name, by decide, Tryz.func94.trans (congrArg some (by kernel_rfl))⟩
  f13 := ⟨Tryz.f95.name, by decide, Tryz.func95.trans (congrArg some (by kernel_rfl))⟩
  f14 := ⟨Tryz.f96.name, by decide, Tryz.func96.trans (congrArg some (by kernel_rfl))⟩
  f15 := ⟨Tryz.f97.name, by decide, Tryz.func97.trans (congrArg some (by kernel_rfl))⟩
  f16 := ⟨Tryz.f98.name, by decide, Tryz.func98.trans (congrArg some (by kernel_rfl))⟩
  f17 := ⟨Tryz.f99.name, by decide, Tryz.func99.trans (congrArg some (by kernel_rfl))⟩
  f18 := ⟨Tryz.f100.name, by decide, Tryz.func100.trans (congrArg some (by kernel_rfl))⟩
  f19 := Tryz.func101.trans (congrArg some (by kernel_rfl))
  f20 := Tryz.func102.trans (congrArg some (by kernel_rfl))
  f30 := ⟨Tryz.f114.name, by decide, Tryz.func114.trans (congrArg some (by kernel_rfl))⟩
  f31 := Tryz.func115.trans (congrArg some (by kernel_rfl))
  f32 := Tryz.func116.trans (congrArg some (by kernel_rfl))
  f33 := ⟨Tryz.f117.name, by decide, Tryz.func117.trans (congrArg some (by kernel_rfl))⟩
  f34 := ⟨Tryz.f118.name, by decide, Tryz.func118.trans (congrArg some (by kernel_rfl))⟩
  f35 := ⟨Tryz.f89.name, by decide, Tryz.func89.trans (congrArg some (by kernel_rfl))⟩
  f40 := ⟨Tryz.f124.name, by decide, Tryz.func124.trans (congrArg some (by kernel_rfl))⟩
  t0 := Tryz.underlying0
  a0 := Tryz.isAgg0
  z0 := Tryz.sizeOf0
  v0 := Tryz.zeroValue0
  t3 := Tryz.underlying3
  a3 := Tryz.isAgg3
  z3 := Tryz.sizeOf3
  v3 := Tryz.zeroValue3
  t4 := Tryz.underlying4
  a4 := Tryz.isAgg4
  z4 := Tryz.sizeOf4
  v4 := Tryz.zeroValue4
  t5 := Tryz.underlying5
  a5 := Tryz.isAgg5
  z5 := Tryz.sizeOf5
  v5 := Tryz.zeroValue5
  t9 := Tryz.underlying9
  a9 := Tryz.isAgg9
  z9 := Tryz.sizeOf9
  v9 := Tryz.zeroValue9
  t22 := Tryz.underlying26
  a22 := Tryz.isAgg26
  z22 := Tryz.sizeOf26
  v22 := Tryz.zeroValue26
  t23 := Tryz.underlying26
  a23 := Tryz.isAgg26
  z23 := Tryz.sizeOf26
  v23 := Tryz.zeroValue26
  t25 := Tryz.underlying3
  a25 := Tryz.isAgg3
  z25 := Tryz.sizeOf3
  v25 := Tryz.zeroValue3
  t32 := Tryz.underlying107
  a32 := Tryz.isAgg107
  z32 := Tryz.sizeOf107
  v32 := Tryz.zeroValue107
  t35 := Tryz.underlying113
  a35 := Tryz.isAgg113
  z35 := Tryz.sizeOf113
  v35 := Tryz.zeroValue113
  t36 := Tryz.underlying114
  a36 := Tryz.isAgg114
  z36 := Tryz.sizeOf114
  v36 := Tryz.zeroValue114
  t41 := Tryz.underlying118
  a41 := Tryz.isAgg118
  z41 := Tryz.sizeOf118
  v41 := Tryz.zeroValue118
  t44 := Tryz.underlying121
  a44 := Tryz.isAgg121
  z44 := Tryz.sizeOf121
  v44 := Tryz.zeroValue121
  t46 := Tryz.underlying123
  a46 := Tryz.isAgg123
  z46 := Tryz.sizeOf123
  v46 := Tryz.zeroValue123
  t53 := Tryz.underlying134
  a53 := Tryz.isAgg134
  z53 := Tryz.sizeOf134
  v53 := Tryz.zeroValue134
  t57 := Tryz.underlying138
  a57 := Tryz.isAgg138
  z57 := Tryz.sizeOf138
  v57 := Tryz.zeroValue138
  t63 := Tryz.underlying142
  a63 := Tryz.isAgg142
  z63 := Tryz.sizeOf142
  v63 := Tryz.zeroValue142
  t64 := Tryz.underlying143
  a64 := Tryz.isAgg143
  z64 := Tryz.sizeOf143
  v64 := Tryz.zeroValue143 }
end Go.Proofs
namespace Go.Proofs.YtjfkfkjkbgiciaaGreatDoor
open Go Go.Eva Enc
set_option maxRecDepth 4000
attribute [local instance] rndX
attribute [local congr] AWp.congrS
attribute [local simp] evalSeq opRes guardPc evalOp evT Eva.get startT strip putT Eva.after constT typed obAll holds dstOk R.ok R.bad ofD binD unD pickT subL subP Op.operands Call.operands toD toD1 argsD argsD1 callD callT typedAll cfind quietT quietT1 spec0 spec1 spec2 spec3 enc_int enc_bool enc_str enc_fn enc_list dec_int dec_bool dec_str dec_fn dec_list size_int size_str map_dec_enc map_dec_comp cellsT D.cells T.oneT D.one mkT dataT zeroT unD1 setAt loadAs loadEl storeAs fieldP fieldV sizeE intOfT indexP appendT lenT sliceT elemSize arith lfsOk lfOk isAggD mkD fillT placeS TD.agg env restr List.map keyIdx mapTy lookT mapPutT mapDelT mapOf indexS convT evalPure range1 range2 range3 range4 range5 range6 range7 range8 enc_intk size_intk dec_intk eta_intk keysInt_nil keyIdx_E keysInt_E isE_iff put_E del_E get_E getok_E mkeys_E mkeys_E' mkeys_enc specO0 specO1 specO2 specO3 specO4 opD skips gone unbox cloT subO clearT makeT enc_bx dec_bx size_bx selS cloIs List.contains_cons List.contains_nil elAt_zero enc_Rat dec_Rat size_Rat eta_Rat beqL_Rat beqR_Rat enc_Pitch dec_Pitch size_Pitch eta_Pitch beqL_Pitch beqR_Pitch enc_Written dec_Written size_Written eta_Written beqL_Written beqR_Written enc_Measure dec_Measure size_Measure eta_Measure enc_View dec_View size_View eta_View enc_Fraction dec_Fraction size_Fraction eta_Fraction beqL_Fraction beqR_Fraction dat0 len_natTab eqT4 eqT44 eqT49 eqT51 eqT130 te1 te2 te3 te4 te5 te6 te7 te8 te9 te10 te11 te12 te13 te14 te15 te16 te17 te18 te19 te21 te22 te23 te24 te25 te26 te27 te28 te29 te30 te32 te33 te34 te36 te37 te38 te39 te40 te41 te42 te43 te44 te45 te46 te47 te48 te49 te50 te51 te52 te53 te54 te55 te56 te57 te58 te59 te60 te61 te62 te63 te64 te65 te66 te67 te68 te69 te70 te71 te72 te73 te75 te76 te77 te78 te79 te81 te82 te83 te84 te85 te86 te87 te88 te89 te90 te91 te92 te93 te94 te95 te96 te97 te99 te100 te101 te102 te103 te104 te105 te106 te107 te108 te109 te110 te111 te112 te113 te115 te116 te117 te119 te120 te121 te122 te123 te124 te125 te126 te127 te128 te129 te130 te131 te132 te133 te134 te135 te136 te137 te138 te139 te140 te141 te142 te144 te145 te146 te147 te148 te149 te150 te151 te152 te153 te154 te155 te156 te157 te158 te159 te160 te161
section
open Go.Maps Go.Sort Go.Shelf Go.RowKit
instance onnOff : Onn := ⟨False⟩
theorem con28 (ks vs : List D) : PureCon Tryz.prog 28 [.map ks vs] (.clo 55 [.box (.map ks vs)]) := by
  intro w I args hsat hlen hrd
  obtain ⟨v, rfl⟩ : ∃ v, args = #[v] := by
    match args, hlen with
    | ⟨[a]⟩, _ => exact ⟨a, rfl⟩
  have hv := hrd 0 v _ rfl rfl
  obtain ⟨mb, rfl⟩ : ∃ mb, v = .map mb := by cases hv <;> exact ⟨_, rfl⟩
  have cK : CallsIn Fence.wide 5 Tryz.prog 28 #[.map mb] w fun e w' => e = .returned (.func (.func 55) #[] #[.pointer (some ⟨w.heap.size, 0, none⟩)]) ∧ w' = w.alloc (.cells #[.map mb] 56) := AnyZI.keys_in Tryz.keysMk Fence.wide 5 trivial rfl mb w
  refine ((callsIn_wide (n := 5)).1 cK).mono ?_
  rintro e w' ⟨rfl, rfl⟩
  let J : Imm := ⟨fun b o => if b = w.heap.size then (if o = 0 then some (.map mb) else none) else I.cell b o, I.mp, I.df⟩
  have hno := hsat.noB (Nat.le_refl w.heap.size)
  have hle : I.le J := ⟨fun b o u hc => by
    have : b ≠ w.heap.size := fun e => by subst e; rw [hno.1] at hc; cases hc
    simp only [J, if_neg this]; exact hc, fun _ _ h => h, fun _ h => h⟩
  refine ⟨_, J, rfl, (Bel.refl _ _).alloc (Nat.le_refl _) _, .of hle (fun b hb => by funext o; simp only [J, if_neg (Nat.ne_of_lt hb)]) (fun _ _ => rfl), ⟨fun b o u hc => ?_, fun b es hc => ?_, fun b hd => (Below.heap_alloc w _ b (hsat.ltd hd)).trans (hsat.df b hd), fun g d hg => (hsat.glob g d hg).mono hle⟩, ?_⟩
  · by_cases hb : b = w.heap.size
    · subst hb
      simp only [J, if_true] at hc
      by_cases ho : o = 0
      · subst ho; simp at hc; subst hc
        show (w.alloc _).cell? ⟨w.heap.size, 0, none⟩ = _
        rw [World.cell?_alloc_new]; rfl
      · simp [ho] at hc
    · simp only [J, if_neg hb] at hc
      exact (World.cell?_of_block (w := w) (a := ⟨b, o, none⟩) (Below.heap_alloc w _ b (hsat.lt hc))).trans (hsat.cell b o u hc)
  · exact MapAt.to (Below.heap_alloc w _ b (hsat.ltm hc)) (hsat.mp b es hc)
  · refine .clo _ _ _ rfl fun i u d hu hd => ?_
    rcases i with _ | i
    · simp at hu hd; subst hu; subst hd
      refine .box _ _ (fun _ => .map mb) (by simp [D.cells, D.one]) (fun k hk => ?_) (fun k x hx => ?_)
      · simp [D.cells] at hk; subst hk; simp [J]
      · rcases k with _ | k
        · simp [D.cells] at hx; subst hx; exact hv.mono hle
        · simp [D.cells] at hx
    · simp at hu
def R0 : Value → Option (DataW Unit × List MemPlace) := fun _ => some (.lit (.bool true), [])
theorem keys_own {w : World} {b clk : Nat} {es : Array MapEntry} {xs : List Int} (hh : MapAt w.heap[b]? (es, clk)) (hsz : es.size = xs.length) (hk : ∀ (i : Nat) (e : MapEntry) x, es[i]? = some e → xs[i]? = some x → e.key = .int .i64 x) (hwf : ∀ x ∈ xs, -9223372036854775808 ≤ x ∧ x ≤ 9223372036854775807) (hmax : xs.length ≤ 1000000000) :
    ∃ D0 : DataW Unit, w.ownsMap Tryz.prog 3 R0 b xs.length D0 ∧ (intKeys D0).Perm xs ∧ Maps.size D0 = xs.length := by
  have hwf' : ∀ x ∈ xs, (Lit.int .i64 x).wf = true := fun x hx => WalkArith.wf_i64 (by have := hwf x hx; omega)
  have hkx : ∀ e ∈ es.toList, ∃ x ∈ xs, e.key = .int .i64 x := by
    intro e he
    obtain ⟨i, hi, rfl⟩ := List.mem_iff_getElem.1 he
    have hi' : i < es.size := by simpa using hi
    have hx : xs[i]? = some xs[i] := List.getElem?_eq_getElem (by omega)
    exact ⟨_, List.mem_of_getElem? hx, hk i _ _ (by simp [hi']) hx⟩
  have hrd : ∀ e ∈ es.toList, ∀ x ∈ xs, e.key = .int .i64 x → WideElems.rd Tryz.prog 3 R0 e = some (.int .i64 x, .lit (.bool true)) := by
    intro e he x hx hkey
    simp [WideElems.rd, hkey, keyOf_int_mk Tryz.underlying3 (hwf' x hx), R0]
  refine ⟨_, ⟨es, clk, hh.1, ⟨by rw [hsz]; unfold maxLen; omega, hh.2, fun e he => ?_⟩, by omega, rfl⟩, ?_, ?_⟩
  · obtain ⟨x, hx, hkey⟩ := hkx e he
    exact ⟨_, hrd e he x hx hkey⟩
  · show (((es.toList.map (WideElems.rg Tryz.prog 3 R0)).foldr DataW.insert []).map fun p => Go.intOf p.1).Perm xs
    refine ((WideShapes.sorted_perm _).map _).trans ?_
    have : (es.toList.map (WideElems.rg Tryz.prog 3 R0)).map (fun p => Go.intOf p.1) = xs := by
      apply List.ext_getElem?
      intro i
      rw [List.getElem?_map, List.getElem?_map]
      by_cases hi : i < es.size
      · have he : es.toList[i]? = some es[i] := by simp [hi]
        have hx : xs[i]? = some xs[i] := List.getElem?_eq_getElem (by omega)
        have hkey := hk i es[i] xs[i] (by simp [hi]) hx
        have := hrd es[i] (List.mem_of_getElem? he) _ (List.mem_of_getElem? hx) hkey
        rw [he, hx]
        simp [WideElems.rg, this, Go.intOf]
      · rw [List.getElem?_eq_none (by simp; omega), List.getElem?_eq_none (by omega)]; rfl
    rw [this]
  · show ((es.toList.map (WideElems.rg Tryz.prog 3 R0)).foldr DataW.insert []).length = xs.length
    rw [(WideShapes.sorted_perm _).length_eq]; simp [hsz]
def sortI (xs : List Int) : List Int := xs.mergeSort leI
theorem sortI_perm {xs ys : List Int} (h : xs.Perm ys) : sortI xs = sortI ys := mergeSort_of_perm_i h
theorem sealRow {w : World} {I : Imm} {B g : Nat} {cur : Array Value} {e : TypeId} {fl : Nat × Nat} (hsat : SatI w I) (hno : I.noB g) (hB : B ≤ g) (hh : w.heap[g]? = some (.cells cur e fl)) :
    SatI w (I.withCells g cur.toList) ∧ ExtI B I (I.withCells g cur.toList) := by
  have hout : ∀ b, b ≠ g → (I.withCells g cur.toList).cell b = I.cell b := fun b hb => by funext o; simp [Imm.withCells, hb]
  have hle : I.le (I.withCells g cur.toList) := ⟨fun b o v hc => by
    have hb : b ≠ g := by rintro rfl; rw [hno.1 o] at hc; cases hc
    rw [hout b hb]; exact hc, fun _ _ h => h, fun _ h => h⟩
  refine ⟨⟨fun b o v hc => ?_, fun b es hc => hsat.mp b es hc, hsat.df, fun g d hd => (hsat.glob g d hd).mono hle⟩, .of hle (fun b hb => hout b (by omega)) (fun _ _ => rfl)⟩
  by_cases hb : b = g
  · subst hb
    simp only [Imm.withCells, if_true] at hc
    cases hx : cur[o]? with
    | none => simp [hx, hno.1 o] at hc
    | some x => simp [hx] at hc; subst hc; simp [World.cell?, hh, hx]
  · rw [hout b hb] at hc; exact hsat.cell b o v hc
theorem sorts53 (m : Nat) : AnyZI.SortsIn Tryz.prog Tryz.sortedInt_ren Fence.wide m :=
  ⟨fun blk off cap ss W hH hblk hsz => callsIn_wide.2 (AnyM.slices_Sort_int Tryz.sortInt blk off cap ss W hH hblk hsz),
   fun p cap W => callsIn_wide.2 (AnyM.slices_Sort_int_none Tryz.sortInt p cap W)⟩
theorem con27 (xs : List Int) (vs : List D) (hwf : ∀ x ∈ xs, -9223372036854775808 ≤ x ∧ x ≤ 9223372036854775807) (hmax : xs.length ≤ 1000000000) :
    PureCon Tryz.prog 27 [.clo 55 [.box (.map (xs.map enc) vs)]] (.slice 1 ((sortI xs).map enc)) := by
  intro w I args hsat hlen hrd
  obtain ⟨v, rfl⟩ : ∃ v, args = #[v] := by
    match args, hlen with
    | ⟨[a]⟩, _ => exact ⟨a, rfl⟩
  have hv := hrd 0 v _ rfl rfl
  obtain ⟨p, rfl, hp⟩ : ∃ p, v = .func (.func 55) #[] #[p] ∧ Rd I p (.box (.map (xs.map enc) vs)) := by
    generalize xs.map (enc : Int → D) = ks at hv ⊢
    cases hv with
    | clo f ps ds h1 h2 =>
      match ps, h1 with
      | ⟨[p]⟩, _ => exact ⟨p, rfl, h2 0 p _ rfl rfl⟩
  obtain ⟨b, mb, rfl, hcell, hm⟩ : ∃ b mb, p = .pointer (some ⟨b, 0, none⟩) ∧ w.cell? ⟨b, 0, none⟩ = some (.map mb) ∧ Rd I (.map mb) (.map (xs.map enc) vs) := by
    generalize xs.map (enc : Int → D) = ks at hp ⊢
    cases hp with
    | box b d val h1 h2 h3 =>
      have h4 := h2 0 (by simp [D.cells])
      have h5 := h3 0 _ rfl
      obtain ⟨mb, hmb⟩ : ∃ mb, val 0 = .map mb := by
        generalize val 0 = z at h5
        cases h5 <;> exact ⟨_, rfl⟩
      rw [hmb] at h4 h5
      exact ⟨b, mb, rfl, hsat.cell _ _ _ h4, h5⟩
  have hb : b < w.heap.size := World.block_lt_of_cell? w ⟨b, 0, none⟩ hcell
  have main : ∀ (S : List Int → Prop) (N : Nat), N ≤ 1000000000 → SeqGives Fence.wide 2 Tryz.prog 55 #[.pointer (some ⟨b, 0, none⟩)] encZ S N w → (∀ ss, S ss → sortI ss = sortI xs) →
      Calls Tryz.prog 27 #[.func (.func 55) #[] #[.pointer (some ⟨b, 0, none⟩)]] w fun e w' => ∃ v J, e = .returned v ∧ Bel w.heap.size w w' ∧ ExtI w.heap.size I J ∧ SatI w' J ∧ Rd J v (.slice 1 ((sortI xs).map enc)) := by
    intro S N hN hseq hS
    have cS := AnyZI.sorted_in Tryz.sortedInt Fence.wide 5 trivial trivial trivial trivial rfl (by omega) (sorts53 _) (enters_of Tryz.func54 (by kernel_rfl) rfl) 55 #[.pointer (some ⟨b, 0, none⟩)] trivial (enters_of Tryz.func55 (by kernel_rfl) rfl) S N (by unfold maxLen; omega) (by omega) w hseq
    change CallsIn _ _ Tryz.prog 27 _ _ _ at cS
    refine ((callsIn_wide (n := 5)).1 cS).mono ?_
    rintro e w' ⟨v, ss, rfl, hSs, hrow, _, hbel⟩
    have hss := hS ss hSs
    unfold sortI at hss
    have hlen : (sortI xs).length = xs.length := by unfold sortI; rw [(List.mergeSort_perm _ _).length_eq]
    change ss.mergeSort leI = sortI xs at hss
    rw [hss] at hrow
    generalize sortI xs = ys at hrow hlen
    obtain ⟨n, hrow⟩ : ∃ n, w'.ownsRow w.heap.size 3 1 v n (ys.map encZ) := ⟨_, hrow⟩
    have hBel : Bel w.heap.size w w' := Bel.of hbel fun h => h.elim
    have hsat' : SatI w' I := ⟨fun b o u hc => (World.cell?_of_block (w := w) (a := ⟨b, o, none⟩) (hBel.block b (hsat.lt hc))).trans (hsat.cell b o u hc), fun b es hc => by
      exact MapAt.to (hBel.block b (hsat.ltm hc)) (hsat.mp b es hc), fun b hd => (hBel.block b (hsat.ltd hd)).trans (hsat.df b hd), hsat.glob⟩
    obtain ⟨hn, ⟨rfl, h0⟩ | ⟨g, cap, cur, rfl, hg, hh, hnc, hcap, hsz, htk⟩⟩ := hrow
    · have : ys = [] := by simpa [h0] using hn
      subst this
      exact ⟨_, I, rfl, hBel, ExtI.refl _ _, hsat', .slice0 _ _ _ (Nat.zero_le _)⟩
    · have hno := hsat.noB hg
      obtain ⟨k1, k2⟩ := sealRow (B := w.heap.size) hsat' hno hg hh
      refine ⟨_, _, rfl, hBel, k2, k1, .slice _ _ _ _ _ _ (fun k => (cur[k]?).getD undef) (by simpa using hn) hnc hcap (fun d hd => ?_) (fun k hk => ?_) (fun k x hx => ?_)⟩
      · obtain ⟨y, _, rfl⟩ := List.mem_map.1 hd
        simp [enc_int, D.cells, D.one]
      · have : cur[k]? = some (cur[k]'(by omega)) := Array.getElem?_eq_getElem (by omega)
        simp [Imm.withCells, this]
      · have hfl : flat (ys.map (enc : Int → D)) = ys.map enc := by
          unfold flat
          rw [List.flatMap_map]
          simp [enc_int, D.cells]
          rw [← List.map_eq_flatMap]
          exact List.map_congr_left fun z _ => (enc_int z).symm
        rw [hfl] at hx
        have hk : k < ys.length := by have := (List.getElem?_eq_some_iff.1 hx).1; simpa using this
        have hy : ys[k]? = some ys[k] := List.getElem?_eq_getElem hk
        have hx' : x = enc ys[k] := by simpa [hy] using hx.symm
        have hc : cur[k]? = some (encZ ys[k]) := by
          have h1 : (cur.toList.take (n * 1))[k]? = (ys.map encZ)[k]? := by rw [htk]
          rw [List.getElem?_take_of_lt (by simp at hn; omega)] at h1
          simpa [hy] using h1
        rw [hc, hx', enc_int]
        exact .int _ _
  cases mb with
  | none =>
    have hx : xs = [] := by
      generalize hks : xs.map (enc : Int → D) = ks at hm
      cases hm
      simpa using hks
    subst hx
    exact main (fun ss => ss = []) 0 (by omega) (AnyZI.keys_gives_nil (ρ := Tryz.keysMk_ren) { Tryz.keysMk with } Fence.wide _ trivial rfl b w hb hcell) (fun ss h => by rw [h])
  | some bb =>
    obtain ⟨⟨es, clk⟩, h1, h2, h3⟩ : ∃ es : ME, I.mp bb = some es ∧ es.1.size = (xs.map (enc : Int → D)).length ∧ ∀ (i : Nat) (e : MapEntry) (d : D), es.1[i]? = some e → (xs.map (enc : Int → D))[i]? = some d → Rd I e.key d := by
      generalize hks : xs.map (enc : Int → D) = ks at hm
      cases hm with
      | map _ es _ _ q1 q2 q3 q4 q5 => exact ⟨es, q1, q2, q4⟩
    have hh := hsat.mp bb (es, clk) h1
    obtain ⟨D0, g1, g2, g3⟩ := keys_own (xs := xs) hh (by simpa using h2) (fun i e x he hx => by
      have := h3 i e (enc x) he (by simp [hx])
      rw [enc_int] at this
      generalize e.key = z at this
      cases this; rfl) hwf hmax
    exact main (fun ss => ss.Perm (intKeys D0)) (Maps.size D0) (by omega) (AnyZI.keys_gives (ρ := Tryz.keysMk_ren) { Tryz.keysMk with } Fence.wide _ trivial rfl (by omega) b bb xs.length D0 w hb hcell g1) (fun ss h => sortI_perm (h.trans g2))
def sp28 : Eva.Spec := fun ds => match ds with
  | [.map ks vs] => some (.clo 55 [.box (.map ks vs)], True)
  | _ => none
theorem ok28 : SpecOk Tryz.prog 28 sp28 := ⟨Enters.of Tryz.func28 (by decide), fun ds r ob hs hob => by
  unfold sp28 at hs; split at hs
  · cases hs; exact con28 _ _
  · cases hs⟩
def okKeys (ks : List D) : Prop := (ks.map (dec : D → Int)).map enc = ks ∧ (∀ x ∈ ks.map (dec : D → Int), -9223372036854775808 ≤ x ∧ x ≤ 9223372036854775807) ∧ ks.length ≤ 1000000000
theorem okKeys_E {α : Type} (x : List (Int × α)) : okKeys (x.map kE) ↔ (∀ k ∈ mkeys x, inI k) ∧ x.length ≤ 1000000000 := by
  unfold okKeys
  rw [mkeys_E, mkeys_enc, List.length_map]
  exact ⟨fun h => h.2, fun h => ⟨rfl, h⟩⟩
def sp27 : Eva.Spec := fun ds => match ds with
  | [.clo 55 [.box (.map ks vs)]] => some (.slice 1 ((sortI (ks.map dec)).map enc), okKeys ks)
  | _ => none
theorem ok27 : SpecOk Tryz.prog 27 sp27 := ⟨Enters.of Tryz.func27 (by decide), fun ds r ob hs hob => by
  unfold sp27 at hs; split at hs
  · cases hs
    rename_i ks vs
    obtain ⟨h1, h2, h3⟩ := hob
    have := con27 (ks.map dec) vs h2 (by simpa using h3)
    rw [h1] at this
    exact this
  · cases hs⟩
end
end Go.Proofs.YtjfkfkjkbgiciaaGreatDoor
namespace Go.Proofs.YtjfkfkjkbgiciaaGreatDoor
open Go Go.Eva Go.RowKit Go.ChangeShapes Go.WideShapes
theorem own : ownKnob Tryz.prog.godebug = none := by kernel_rfl
theorem laidOut : laidOutB Tryz.prog = true := by kernel_rfl
theorem field_at {H : Type} {en : TypeId × Value → H} {P : Program} {w : World} {base : Nat} {spare : Nat → Bool} {held : Bool} {n : Nat} {cs : List Value} {xs : List (DataW H × List MemPlace)} {fs : Array Field} (hl : xs.length = fs.size)
    (hf : ∀ (i : Nat) (f : Field), fs[i]? = some f → DataW.trod en P w base spare held n f.type ((cs.drop f.offset).take (P.cellsOf f.type)) = xs[i]?) (i : Nat) (f : Field) (hi : fs[i]? = some f) {s : Nat} (hs : P.cellsOf f.type = s) :
    ∃ x, xs[i]? = some x ∧ DataW.trod en P w base spare held n f.type ((cs.drop f.offset).take s) = some x := by
  have h := hf i f hi
  rw [hs] at h
  have : i < xs.length := by rw [hl]; exact (Array.getElem?_eq_some_iff.1 hi).1
  have hx := List.getElem?_eq_getElem this
  exact ⟨xs[i], hx, h.trans hx⟩
def goodM (H : Type) (d : DataW H) (m : Measure) : Prop := ∃ ds d', d = .agg ds ∧ d' ∈ ds ∧ goodL (fun _ _ (_ : Written) => True) H d' m.notes
def goodV (H : Type) (d : DataW H) (v : View) : Prop := ∃ ds d', d = .agg ds ∧ d' ∈ ds ∧ goodL goodM H d' v.measures
theorem opens_3 : Opens Tryz.prog 3 Int fun _ _ n => -9223372036854775808 ≤ n ∧ n ≤ 9223372036854775807 := opens_int Tryz.underlying3
theorem opens_5 : Opens Tryz.prog 5 (IntK .u8) fun _ _ n => (Lit.int .u8 n.n).wf = true := opens_intk Tryz.underlying5
theorem opens_44 : Opens Tryz.prog 44 Rat fun _ _ _ => True := by
  intro H en w base spare held fuel cs x h
  obtain ⟨xs, n, _, hx, hl, hxl, hf⟩ := DataW.trod_struct Tryz.underlying44 h
  obtain ⟨x0, e0, h0⟩ := field_at hxl hf 0 _ rfl (s := 1) (by kernel_rfl)
  obtain ⟨x1, e1, h1⟩ := field_at hxl hf 1 _ rfl (s := 1) (by kernel_rfl)
  obtain ⟨a0, g0, k0⟩ := opens_3 _ _ _ _ _ _ _ _ _ h0
  obtain ⟨a1, g1, k1⟩ := opens_3 _ _ _ _ _ _ _ _ _ h1
  have hn : cs.length = 2 := hl.trans (by kernel_rfl)
  exact ⟨⟨a0, a1⟩, trivial, (cells_cons k0 (cells_cons k1 (cells_nil _ hn)))⟩
theorem opens_49 : Opens Tryz.prog 49 Pitch fun _ _ _ => True := by
  intro H en w base spare held fuel cs x h
  obtain ⟨xs, n, _, hx, hl, hxl, hf⟩ := DataW.trod_struct Tryz.underlying49 h
  obtain ⟨x0, e0, h0⟩ := field_at hxl hf 0 _ rfl (s := 1) (by kernel_rfl)
  obtain ⟨x1, e1, h1⟩ := field_at hxl hf 1 _ rfl (s := 1) (by kernel_rfl)
  obtain ⟨x2, e2, h2⟩ := field_at hxl hf 2 _ rfl (s := 1) (by kernel_rfl)
  obtain ⟨a0, g0, k0⟩ := opens_3 _ _ _ _ _ _ _ _ _ h0
  obtain ⟨a1, g1, k1⟩ := opens_3 _ _ _ _ _ _ _ _ _ h1
  obtain ⟨a2, g2, k2⟩ := opens_3 _ _ _ _ _ _ _ _ _ h2
  have hn : cs.length = 3 := hl.trans (by kernel_rfl)
  exact ⟨⟨a0, a1, a2⟩, trivial, (cells_cons k0 (cells_cons k1 (cells_cons k2 (cells_nil _ hn))))⟩
theorem opens_51 : Opens Tryz.prog 51 Written fun _ _ _ => True := by
  intro H en w base spare held fuel cs x h
  obtain ⟨xs, n, _, hx, hl, hxl, hf⟩ := DataW.trod_struct Tryz.underlying51 h
  obtain ⟨x0, e0, h0⟩ := field_at hxl hf 0 _ rfl (s := 1) (by kernel_rfl)
  obtain ⟨x1, e1, h1⟩ := field_at hxl hf 1 _ rfl (s := 1) (by kernel_rfl)
  obtain ⟨x2, e2, h2⟩ := field_at hxl hf 2 _ rfl (s := 1) (by kernel_rfl)
  obtain ⟨x3, e3, h3⟩ := field_at hxl hf 3 _ rfl (s := 2) (by kernel_rfl)
  obtain ⟨x4, e4, h4⟩ := field_at hxl hf 4 _ rfl (s := 2) (by kernel_rfl)
  obtain ⟨x5, e5, h5⟩ := field_at hxl hf 5 _ rfl (s := 3) (by kernel_rfl)
  obtain ⟨a0, g0, k0⟩ := opens_3 _ _ _ _ _ _ _ _ _ h0
  obtain ⟨a1, g1, k1⟩ := opens_3 _ _ _ _ _ _ _ _ _ h1
  obtain ⟨a2, g2, k2⟩ := opens_3 _ _ _ _ _ _ _ _ _ h2
  obtain ⟨a3, g3, k3⟩ := opens_44 _ _ _ _ _ _ _ _ _ h3
  obtain ⟨a4, g4, k4⟩ := opens_44 _ _ _ _ _ _ _ _ _ h4
  obtain ⟨a5, g5, k5⟩ := opens_49 _ _ _ _ _ _ _ _ _ h5
  have hn : cs.length = 10 := hl.trans (by kernel_rfl)
  exact ⟨⟨a0, a1, a2, a3, a4, a5⟩, trivial, (cells_cons k0 (cells_cons k1 (cells_cons k2 (cells_cons k3 (cells_cons k4 (cells_cons k5 (cells_nil _ hn)))))))⟩
theorem opens_45 : Opens Tryz.prog 45 (List Written) (goodL (fun _ _ _ => True)) := opens_slice Tryz.underlying45 (by kernel_rfl) (by rw [show Tryz.prog.cellsOf 51 = 10 by kernel_rfl]; omega) opens_51
theorem opens_47 : Opens Tryz.prog 47 Measure goodM := by
  intro H en w base spare held fuel cs x h
  obtain ⟨xs, n, _, hx, hl, hxl, hf⟩ := DataW.trod_struct Tryz.underlying47 h
  obtain ⟨x0, e0, h0⟩ := field_at hxl hf 0 _ rfl (s := 1) (by kernel_rfl)
  obtain ⟨x1, e1, h1⟩ := field_at hxl hf 1 _ rfl (s := 1) (by kernel_rfl)
  obtain ⟨x2, e2, h2⟩ := field_at hxl hf 2 _ rfl (s := 2) (by kernel_rfl)
  obtain ⟨x3, e3, h3⟩ := field_at hxl hf 3 _ rfl (s := 1) (by kernel_rfl)
  obtain ⟨a0, g0, k0⟩ := opens_3 _ _ _ _ _ _ _ _ _ h0
  obtain ⟨a1, g1, k1⟩ := opens_3 _ _ _ _ _ _ _ _ _ h1
  obtain ⟨a2, g2, k2⟩ := opens_44 _ _ _ _ _ _ _ _ _ h2
  obtain ⟨a3, g3, k3⟩ := opens_45 _ _ _ _ _ _ _ _ _ h3
  have hn : cs.length = 5 := hl.trans (by kernel_rfl)
  exact ⟨⟨a0, a1, a2, a3⟩, ⟨_, x3.1, by rw [hx], List.mem_map.2 ⟨x3, List.mem_of_getElem? e3, rfl⟩, g3⟩, (cells_cons k0 (cells_cons k1 (cells_cons k2 (cells_cons k3 (cells_nil _ hn)))))⟩
theorem opens_22 : Opens Tryz.prog 22 (List Measure) (goodL goodM) := opens_slice Tryz.underlying22 (by kernel_rfl) (by rw [show Tryz.prog.cellsOf 47 = 5 by kernel_rfl]; omega) opens_47
theorem opens_24 : Opens Tryz.prog 24 View goodV := by
  intro H en w base spare held fuel cs x h
  obtain ⟨xs, n, _, hx, hl, hxl, hf⟩ := DataW.trod_struct Tryz.underlying24 h
  obtain ⟨x0, e0, h0⟩ := field_at hxl hf 0 _ rfl (s := 1) (by kernel_rfl)
  obtain ⟨x1, e1, h1⟩ := field_at hxl hf 1 _ rfl (s := 1) (by kernel_rfl)
  obtain ⟨a0, g0, k0⟩ := opens_3 _ _ _ _ _ _ _ _ _ h0
  obtain ⟨a1, g1, k1⟩ := opens_22 _ _ _ _ _ _ _ _ _ h1
  have hn : cs.length = 2 := hl.trans (by kernel_rfl)
  exact ⟨⟨a0, a1⟩, ⟨_, x1.1, by rw [hx], List.mem_map.2 ⟨x1, List.mem_of_getElem? e1, rfl⟩, g1⟩, (cells_cons k0 (cells_cons k1 (cells_nil _ hn)))⟩
theorem opens_25 : Opens Tryz.prog 25 (List View) (goodL goodV) := opens_slice Tryz.underlying25 (by kernel_rfl) (by rw [show Tryz.prog.cellsOf 24 = 2 by kernel_rfl]; omega) opens_24
theorem opens_26 : Opens Tryz.prog 26 (List Int) (goodL (fun _ _ n => -9223372036854775808 ≤ n ∧ n ≤ 9223372036854775807)) := opens_slice Tryz.underlying26 (by kernel_rfl) (by rw [show Tryz.prog.cellsOf 3 = 1 by kernel_rfl]; omega) opens_3
theorem shutBool {H : Type} {en : TypeId × Value → H} {W : World} {base : Nat} {sp : Nat → Bool} {held : Bool} (b : Bool) : DataW.Trod en Tryz.prog W base sp held 4 (.bool b) (.lit (.bool b)) [] := ⟨1, by simp [DataW.trod, Value.cells, Tryz.underlying4]⟩
theorem bulk_one {H : Type} (d : DataW H) : 1 ≤ Rows.uptoBulk d := by
  cases d with
  | lit l => cases l <;> simp [Rows.uptoBulk]
  | nil => simp [Rows.uptoBulk]
  | ptr d => simp [Rows.uptoBulk]
  | slice elems spare => simp [Rows.uptoBulk]
  | agg parts => simp [Rows.uptoBulk]
  | iface t d => simp [Rows.uptoBulk]
  | map entries => simp [Rows.uptoBulk]
  | held h => simp [Rows.uptoBulk]
theorem bulk_part {H : Type} {d : DataW H} {l : List (DataW H)} (h : d ∈ l) : Rows.uptoBulk d ≤ Rows.uptoBulkAll l := by
  induction l with
  | nil => cases h
  | cons x r ih =>
    simp only [Rows.uptoBulkAll]
    rcases List.mem_cons.1 h with e | e
    · subst e; omega
    · have := ih e; omega
theorem bulk_len {H : Type} (l : List (DataW H)) : l.length ≤ Rows.uptoBulkAll l := by
  induction l with
  | nil => simp [Rows.uptoBulkAll]
  | cons x r ih => have := bulk_one x; simp only [Rows.uptoBulkAll, List.length_cons]; omega
theorem goodL_len {α : Type} {good : (H : Type) → DataW H → α → Prop} {H : Type} {d : DataW H} {l : List α} (h : goodL good H d l) {B : Nat} (hB : Rows.uptoBulk d ≤ B) : l.length ≤ B := by
  rcases h.2 with rfl | ⟨elems, spare, rfl, h1, h2⟩
  · exact Nat.zero_le _
  · have := bulk_len elems
    simp only [Rows.uptoBulk] at hB
    omega
theorem goodL_mem {α : Type} {good : (H : Type) → DataW H → α → Prop} {H : Type} {d : DataW H} {l : List α} (h : goodL good H d l) {B : Nat} (hB : Rows.uptoBulk d ≤ B) {a : α} (ha : a ∈ l) : ∃ d', good H d' a ∧ Rows.uptoBulk d' ≤ B := by
  rcases h.2 with rfl | ⟨elems, spare, rfl, h1, h2⟩
  · cases ha
  · obtain ⟨i, hi⟩ := List.getElem?_of_mem ha
    obtain ⟨d', h3, h4⟩ := h2 i a hi
    have := bulk_part (List.mem_of_getElem? h3)
    simp only [Rows.uptoBulk] at hB
    exact ⟨d', h4, by omega⟩
theorem goodM_len {H : Type} {d : DataW H} {m : Measure} (h : goodM H d m) {B : Nat} (hB : Rows.uptoBulk d ≤ B) : m.notes.length ≤ B := by
  obtain ⟨ds, d', rfl, h1, h2⟩ := h
  have := bulk_part h1
  simp only [Rows.uptoBulk] at hB
  exact goodL_len h2 (by omega)
theorem goodV_sm {H : Type} {d : DataW H} {v : View} (h : goodV H d v) (hB : Rows.uptoBulk d ≤ 1048576) : Sm v := by
  obtain ⟨ds, d', rfl, h1, h2⟩ := h
  have := bulk_part h1
  simp only [Rows.uptoBulk] at hB
  refine ⟨goodL_len h2 (by omega), fun m hm => ?_⟩
  obtain ⟨d'', h3, h4⟩ := goodL_mem (B := 1048576) h2 (by omega) hm
  exact goodM_len h3 h4
theorem goodVs_sm {H : Type} {d : DataW H} {l : List View} (h : goodL goodV H d l) (hB : Rows.uptoBulk d ≤ 1048576) : ∀ v ∈ l, Sm v := fun v hv => by
  obtain ⟨d', h1, h2⟩ := goodL_mem h hB hv
  exact goodV_sm h1 h2
theorem small_at {H : Type} {ds : List (DataW H)} (h : Rows.uptoSmall H ds = true) {d : DataW H} (hd : d ∈ ds) : Rows.uptoBulk d ≤ 1048576 := by
  have h1 : Rows.uptoBulkAll ds ≤ 1048576 := of_decide_eq_true h
  have := bulk_part hd
  omega
theorem gTab : Tryz.prog.globalNamed "partbook/pitch.naturals" = some 0 := by kernel_rfl
theorem gTabType : (Tryz.prog.globals[0]?).map (·.type) = some 132 := by kernel_rfl
theorem cellsTab : Tryz.prog.cellsOf 132 = 7 := by kernel_rfl
theorem cellsInt : Tryz.prog.cellsOf 3 = 1 := by kernel_rfl
theorem table {W : World} (h : laidMetH Tryz.prog [("partbook/pitch.naturals", Rows.laid_partbook_pitch_naturals)] W) : Lib.TabIs Tryz.prog W "partbook/pitch.naturals" .i64 natTab :=
  Lib.tabIs_of_head (rest := []) gTab gTabType Tryz.underlying132 Tryz.underlying3 cellsInt cellsTab h
theorem glob {W : World} (h : laidMetH Tryz.prog [("partbook/pitch.naturals", Rows.laid_partbook_pitch_naturals)] W) : ∀ g d, Drw.dat g = some d → Rd (allI W) (.pointer (some ⟨g, 0, none⟩)) (.box d) := by
  intro g d hd
  have hd' : tabs g = some d := hd
  unfold tabs at hd'
  split at hd'
  · rename_i hg
    subst hg
    injection hd' with hd'
    subst hd'
    have ht := fun i hi => (table h).cell gTab i hi
    refine .box 0 _ (fun k => (W.cell? ⟨0, k, none⟩).getD undef) (fun x hx => ?_) (fun k hk => ?_) (fun k x hx => ?_)
    · obtain ⟨n, _, rfl⟩ := List.mem_map.1 (show x ∈ natTab.map Enc.enc from hx); rfl
    · have hk' : k < natTab.length := by simpa [D.cells] using hk
      show W.cell? ⟨0, k, none⟩ = _
      rw [ht k hk']; rfl
    · have hx' : (natTab.map (Enc.enc : Int → D))[k]? = some x := hx
      rw [List.getElem?_map] at hx'
      obtain ⟨n, hn, rfl⟩ := Option.map_eq_some_iff.1 hx'
      have hk' : k < natTab.length := (List.getElem?_eq_some_iff.1 hn).1
      rw [ht k hk', List.getD_eq_getElem?_getD, hn]
      exact .int _ _
  · cases hd'
end Go.Proofs.YtjfkfkjkbgiciaaGreatDoor
namespace Go.Proofs.YtjfkfkjkbgiciaaGreatDoor
open Go Go.Eva Enc
set_option maxRecDepth 4000
attribute [local instance] rndX
attribute [local congr] AWp.congrS
attribute [local simp] evalSeq opRes guardPc evalOp evT Eva.get startT strip putT Eva.after constT typed obAll holds dstOk R.ok R.bad ofD binD unD pickT subL subP Op.operands Call.operands toD toD1 argsD argsD1 callD callT typedAll cfind quietT quietT1 spec0 spec1 spec2 spec3 enc_int enc_bool enc_str enc_fn enc_list dec_int dec_bool dec_str dec_fn dec_list size_int size_str map_dec_enc map_dec_comp cellsT D.cells T.oneT D.one mkT dataT zeroT unD1 setAt loadAs loadEl storeAs fieldP fieldV sizeE intOfT indexP appendT lenT sliceT elemSize arith lfsOk lfOk isAggD mkD fillT placeS TD.agg env restr List.map keyIdx mapTy lookT mapPutT mapDelT mapOf indexS convT evalPure range1 range2 range3 range4 range5 range6 range7 range8 enc_intk size_intk dec_intk eta_intk keysInt_nil keyIdx_E keysInt_E isE_iff put_E del_E get_E getok_E mkeys_E mkeys_E' mkeys_enc specO0 specO1 specO2 specO3 specO4 opD skips gone unbox cloT subO clearT makeT enc_bx dec_bx size_bx selS cloIs List.contains_cons List.contains_nil elAt_zero enc_Rat dec_Rat size_Rat eta_Rat beqL_Rat beqR_Rat enc_Pitch dec_Pitch size_Pitch eta_Pitch beqL_Pitch beqR_Pitch enc_Written dec_Written size_Written eta_Written beqL_Written beqR_Written enc_Measure dec_Measure size_Measure eta_Measure enc_View dec_View size_View eta_View enc_Fraction dec_Fraction size_Fraction eta_Fraction beqL_Fraction beqR_Fraction dat0 len_natTab eqT4 eqT44 eqT49 eqT51 eqT130 te1 te2 te3 te4 te5 te6 te7 te8 te9 te10 te11 te12 te13 te14 te15 te16 te17 te18 te19 te21 te22 te23 te24 te25 te26 te27 te28 te29 te30 te32 te33 te34 te36 te37 te38 te39 te40 te41 te42 te43 te44 te45 te46 te47 te48 te49 te50 te51 te52 te53 te54 te55 te56 te57 te58 te59 te60 te61 te62 te63 te64 te65 te66 te67 te68 te69 te70 te71 te72 te73 te75 te76 te77 te78 te79 te81 te82 te83 te84 te85 te86 te87 te88 te89 te90 te91 te92 te93 te94 te95 te96 te97 te99 te100 te101 te102 te103 te104 te105 te106 te107 te108 te109 te110 te111 te112 te113 te115 te116 te117 te119 te120 te121 te122 te123 te124 te125 te126 te127 te128 te129 te130 te131 te132 te133 te134 te135 te136 te137 te138 te139 te140 te141 te142 te144 te145 te146 te147 te148 te149 te150 te151 te152 te153 te154 te155 te156 te157 te158 te159 te160 te161
section
variable [Onn]
noncomputable def sp87 : Eva.Spec := specO1 fun (q : Rat) => (ratValid q).map fun r => enc r
theorem ok87 : SpecOk Tryz.prog 87 sp87 := by
 have hV : VOk Tryz.prog (env [(112, sp112)]) := env_ok ⟨ok112, trivial⟩
 refine SpecOk.ofO1 (Enters.of Tryz.func87 (by decide)) fun q rr hr => ?_
 obtain ⟨r, hg, rfl⟩ := mpj hr; clear hr
 refine PureCon.ofN hV Tryz.func87 rfl Tryz.ntmps87 fun R hR w0 I0 Q hQ => ?_
 unfold ratValid at hg
 refine AWp.rS hV none [1] fun K k1 => ?_
 simp; repeat refine ai ?_
 refine kc [(1, .ptr 0 0)] [.w 44 q] (k1 _ ?_)
 refine AWp.seqG fun _ k2 => ?_
 obtain ⟨y3u20, hx4, hg⟩ := bnd_some hg
 unfold ratValid_r1 at hx4
 refine AWp.seqJ (fun s' => Sub s' ⟨[(1, .ptr 0 0), se 20 y3u20], [.w 44 q]⟩) (fun _ k5 => ?_) ?_
 ·rcases ifb_o hx4 with ⟨c6, hx4⟩ | ⟨c6, hx4⟩
  ·have c6g := c6; try simp at c6g
   refine AWp.regF hV (some [7, 8, 9, 12, 13, 14, 17, 18, 19]) [1, 20] fun K k7 => ?_
   simp [c6, c6g]; repeat refine ai ?_
   cases hx4; exact k7 _ (k5 _ (Sub.rm [0]))
  ·have c6g := c6; try simp at c6g
   rcases ifb_o hx4 with ⟨c8, hx4⟩ | ⟨c8, hx4⟩
   ·have c8g := c8; try simp at c8g
    refine AWp.regF hV (some [12, 13, 14, 17, 18, 19]) [1, 20] fun K k9 => ?_
    simp [c6, c6g, c8, c8g]; repeat refine ai ?_
    cases hx4; exact k9 _ (k5 _ (Sub.rm [0]))
   ·have c8g := c8; try simp at c8g
    rcases ifb_o hx4 with ⟨c10, hx4⟩ | ⟨c10, hx4⟩
    ·have c10g := c10; try simp at c10g
     refine AWp.regF hV (some [17, 18, 19]) [1, 20] fun K k11 => ?_
     simp [c6, c6g, c8, c8g, c10, c10g]; repeat refine ai ?_
     cases hx4; exact k11 _ (k5 _ (Sub.rm [0]))
    ·have c10g := c10; try simp at c10g
     refine AWp.regF hV (some []) [1, 20] fun K k12 => ?_
     simp [c6, c6g, c8, c8g, c10, c10g]; repeat refine ai ?_
     cases hx4; exact k12 _ (k5 _ (Sub.rm [0]))
 ·intro s' hs
  refine AWp.sub hs ?_
  clear hs s'
  refine AWp.cnd hg rfl ?_ ?_ <;> (clear hg; intro h13 hg)
  ·refine AWp.rS hV none [2] fun K k14 => ?_
   simp; repeat refine ai ?_
   refine kc [se 2 false] [.w 44 q] (k14 _ ?_)
   refine AWp.ret ?_
   cases hg; exact hQ _ _ (.inl rfl) rt
  ·refine AWp.skip ?_
   refine k2 _ ?_
   obtain ⟨x15, h16, hg⟩ := bnd_some hg
   have h16g := h16; try simp at h16g
   refine AWp.rDF hV mixed none 11 [] [2] (by decide) fun K k17 => ?_
   simp [sp112, h16, h16g]; repeat refine ai ?_
   refine kd [se 2 (decide (x15 = (⟨q.n, q.d⟩ : Fraction)))] [.w 44 q] (by first | rfl | (simp [sp112, h16, h16g] <;> grind)) (k17 _ ?_)
   refine AWp.ret ?_
   cases hg; exact hQ _ _ (.inl rfl) rt
noncomputable def sp78 : Eva.Spec := specO1 fun (q : Rat) => (isStart q).map fun r => enc r
theorem ok78 : SpecOk Tryz.prog 78 sp78 := by
 have hV : VOk Tryz.prog (env [(87, sp87)]) := env_ok ⟨ok87, trivial⟩
 refine SpecOk.ofO1 (Enters.of Tryz.func78 (by decide)) fun q rr hr => ?_
 obtain ⟨r, hg, rfl⟩ := mpj hr; clear hr
 refine PureCon.ofN hV Tryz.func78 rfl Tryz.ntmps78 fun R hR w0 I0 Q hQ => ?_
 unfold isStart at hg
 refine AWp.rS hV none [1] fun K k1 => ?_
 simp; repeat refine ai ?_
 refine kc [(1, .ptr 0 0)] [.w 44 q] (k1 _ ?_)
 obtain ⟨y5u2, hx6, hg⟩ := bnd_some hg
 unfold isStart_r1 at hx6
 refine AWp.seqJ (fun s' => Sub s' ⟨[se 2 y5u2], []⟩) (fun _ k7 => ?_) ?_
 ·obtain ⟨x2, h3, hx6⟩ := bnd_some hx6
  rcases ifb_o hx6 with ⟨c8, hx6⟩ | ⟨c8, hx6⟩
  ·rcases ifb_o hx6 with ⟨c9, hx6⟩ | ⟨c9, hx6⟩
   ·have c9g := c9; try simp at c9g
    obtain ⟨g4, hx6⟩ := grd_some hx6
    refine AWp.regF hV (some []) [2] fun K k10 => ?_
    simp [sp87, h3, c8, c9, c9g]; repeat refine ai ?_
    cases hx6; exact k10 _ (k7 _ (Sub.rm []))
   ·have c9g := c9; try simp at c9g
    refine AWp.regF hV (some [11, 12, 13, 14]) [2] fun K k11 => ?_
    simp [sp87, h3, c8, c9, c9g]; repeat refine ai ?_
    cases hx6; exact k11 _ (k7 _ (Sub.rm []))
  ·refine AWp.regF hV (some [6, 7, 8, 11, 12, 13, 14]) [2] fun K k12 => ?_
   simp [sp87, h3, c8]; repeat refine ai ?_
   cases hx6; exact k12 _ (k7 _ (Sub.rm []))
 ·intro s' hs
  refine AWp.sub hs ?_
  clear hs s'
  refine AWp.ret ?_
  cases hg; exact hQ _ _ (.inl rfl) rt
noncomputable def sp52 : Eva.Spec := specO1 fun (w : Written) => (isNote w).map fun r => enc r
theorem ok52 : SpecOk Tryz.prog 52 sp52 := by
 have hV : VOk Tryz.prog (env [(78, sp78), (79, sp79)]) := env_ok ⟨ok78, ok79, trivial⟩
 refine SpecOk.ofO1 (Enters.of Tryz.func52 (by decide)) fun w rr hr => ?_
 obtain ⟨r, hg, rfl⟩ := mpj hr; clear hr
 refine PureCon.ofN hV Tryz.func52 rfl Tryz.ntmps52 fun R hR w0 I0 Q hQ => ?_
 unfold isNote at hg
 refine AWp.rS hV none [1] fun K k1 => ?_
 simp; repeat refine ai ?_
 refine kc [(1, .ptr 0 0)] [.w 51 w] (k1 _ ?_)
 obtain ⟨y6u2, hx7, hg⟩ := bnd_some hg
 unfold isNote_r1 at hx7
 refine AWp.seqJ (fun s' => Sub s' ⟨[se 2 y6u2], []⟩) (fun _ k8 => ?_) ?_
 ·rcases ifb_o hx7 with ⟨c9, hx7⟩ | ⟨c9, hx7⟩
  ·have c9g := c9; try simp at c9g
   rcases ifb_o hx7 with ⟨c10, hx7⟩ | ⟨c10, hx7⟩
   ·have c10g := c10; try simp at c10g
    rcases ifb_o hx7 with ⟨c11, hx7⟩ | ⟨c11, hx7⟩
    ·have c11g := c11; try simp at c11g
     rcases ifb_o hx7 with ⟨c12, hx7⟩ | ⟨c12, hx7⟩
     ·have c12g := c12; try simp at c12g
      obtain ⟨x2, h3, hx7⟩ := bnd_some hx7
      rcases ifb_o hx7 with ⟨c13, hx7⟩ | ⟨c13, hx7⟩
      ·obtain ⟨x4, h5, hx7⟩ := bnd_some hx7
       refine AWp.regF hV (some []) [2] fun K k14 => ?_
       simp [sp78, sp79, c9, c9g, c10, c10g, c11, c11g, c12, c12g, h3, c13, h5]; repeat refine ai ?_
       cases hx7; exact k14 _ (k8 _ (Sub.rm []))
      ·refine AWp.regF hV (some [27, 28, 29]) [2] fun K k15 => ?_
       simp [sp78, sp79, c9, c9g, c10, c10g, c11, c11g, c12, c12g, h3, c13]; repeat refine ai ?_
       cases hx7; exact k15 _ (k8 _ (Sub.rm []))
     ·have c12g := c12; try simp at c12g
      refine AWp.regF hV (some [22, 23, 24, 27, 28, 29]) [2] fun K k16 => ?_
      simp [sp78, sp79, c9, c9g, c10, c10g, c11, c11g, c12, c12g]; repeat refine ai ?_
      cases hx7; exact k16 _ (k8 _ (Sub.rm []))
    ·have c11g := c11; try simp at c11g
     refine AWp.regF hV (some [17, 18, 19, 22, 23, 24, 27, 28, 29]) [2] fun K k17 => ?_
     simp [sp78, sp79, c9, c9g, c10, c10g, c11, c11g]; repeat refine ai ?_
     cases hx7; exact k17 _ (k8 _ (Sub.rm []))
   ·have c10g := c10; try simp at c10g
    refine AWp.regF hV (some [12, 13, 14, 17, 18, 19, 22, 23, 24, 27, 28, 29]) [2] fun K k18 => ?_
    simp [sp78, sp79, c9, c9g, c10, c10g]; repeat refine ai ?_
    cases hx7; exact k18 _ (k8 _ (Sub.rm []))
  ·have c9g := c9; try simp at c9g
   refine AWp.regF hV (some [7, 8, 9, 12, 13, 14, 17, 18, 19, 22, 23, 24, 27, 28, 29]) [2] fun K k19 => ?_
   simp [sp78, sp79, c9, c9g]; repeat refine ai ?_
   cases hx7; exact k19 _ (k8 _ (Sub.rm []))
 ·intro s' hs
  refine AWp.sub hs ?_
  clear hs s'
  refine AWp.ret ?_
  cases hg; exact hQ _ _ (.inl rfl) rt
noncomputable def sp51 : Eva.Spec := specO1 fun (w : Written) => (noNote w).map fun r => enc r
theorem ok51 : SpecOk Tryz.prog 51 sp51 := by
 have hV : VOk Tryz.prog (env [(52, sp52)]) := env_ok ⟨ok52, trivial⟩
 refine SpecOk.ofO1 (Enters.of Tryz.func51 (by decide)) fun w rr hr => ?_
 obtain ⟨r, hg, rfl⟩ := mpj hr; clear hr
 refine PureCon.ofN hV Tryz.func51 rfl Tryz.ntmps51 fun R hR w0 I0 Q hQ => ?_
 unfold noNote at hg
 refine AWp.rS hV none [1] fun K k1 => ?_
 simp; repeat refine ai ?_
 refine kc [(1, .ptr 0 0)] [.w 51 w] (k1 _ ?_)
 obtain ⟨x2, h3, hg⟩ := bnd_some hg
 refine AWp.rS hV none [2] fun K k4 => ?_
 simp [sp52, h3]; repeat refine ai ?_
 refine kd [se 2 (!x2)] [.w 51 w] (by first | rfl | (simp [sp52, h3] <;> grind)) (k4 _ ?_)
 refine AWp.ret ?_
 cases hg; exact hQ _ _ (.inl rfl) rt
noncomputable def sp73 : Eva.Spec := specO2 fun (a : Rat) (b : Rat) => (ratCompare a b).map fun r => .tup [enc r.1, enc r.2]
theorem ok73 : SpecOk Tryz.prog 73 sp73 := by
 have hV : VOk Tryz.prog (env [(87, sp87)]) := env_ok ⟨ok87, trivial⟩
 refine SpecOk.ofO2 (Enters.of Tryz.func73 (by decide)) fun a b rr hr => ?_
 obtain ⟨r, hg, rfl⟩ := mpj hr; clear hr
 refine PureCon.ofN hV Tryz.func73 rfl Tryz.ntmps73 fun R hR w0 I0 Q hQ => ?_
 unfold ratCompare at hg
 refine AWp.rS hV none [2, 3] fun K k1 => ?_
 simp; repeat refine ai ?_
 refine kc [(2, .ptr 0 0), (3, .ptr 1 0)] [.w 44 a, .w 44 b] (k1 _ ?_)
 refine AWp.seqG fun _ k2 => ?_
 obtain ⟨y7u15, hx8, hg⟩ := bnd_some hg
 unfold ratCompare_r1 at hx8
 refine AWp.seqJ (fun s' => Sub s' ⟨[(2, .ptr 0 0), (3, .ptr 1 0), se 15 y7u15], [.w 44 a, .w 44 b]⟩) (fun _ k9 => ?_) ?_
 ·obtain ⟨x3, h4, hx8⟩ := bnd_some hx8
  rcases ifb_o hx8 with ⟨c10, hx8⟩ | ⟨c10, hx8⟩
  ·have c10g := c10; try simp at c10g
   refine AWp.regF hV (some [12, 13, 14]) [2, 3, 15] fun K k11 => ?_
   simp [sp87, h4, c10, c10g]; repeat refine ai ?_
   cases hx8; exact k11 _ (k9 _ (Sub.rm [0, 1]))
  ·have c10g := c10; try simp at c10g
   obtain ⟨x5, h6, hx8⟩ := bnd_some hx8
   refine AWp.regF hV (some []) [2, 3, 15] fun K k12 => ?_
   simp [sp87, h4, c10, c10g, h6]; repeat refine ai ?_
   cases hx8; exact k12 _ (k9 _ (Sub.rm [0, 1]))
 ·intro s' hs
  refine AWp.sub hs ?_
  clear hs s'
  refine AWp.cnd hg rfl ?_ ?_ <;> (clear hg; intro h13 hg)
  ·refine AWp.rS hV none [4, 5] fun K k14 => ?_
   simp; repeat refine ai ?_
   refine kc [se 4 (0 : Int), se 5 (1 : Int)] [.w 44 a, .w 44 b] (k14 _ ?_)
   refine AWp.ret ?_
   cases hg; exact hQ _ _ (.inl rfl) rt
  ·refine AWp.skip ?_
   refine k2 _ ?_
   refine AWp.seqJ (fun s' => ratCompare_j2 = some r ∧ Sub s' ⟨[], []⟩) (fun _ k16 => ?_) ?_
   ·obtain ⟨g17, hg⟩ := grd_some hg
    unfold inI at g17
    obtain ⟨g18, hg⟩ := grd_some hg
    unfold inI at g18
    refine AWp.rD hV mixed none 11 [6, 7] (by decide) fun K k19 => ?_
    simp; repeat refine ai ?_
    refine kc [se 6 (a.n * b.d), se 7 (b.n * a.d)] [.w 44 a, .w 44 b] (k19 _ ?_)
    refine AWp.block ?_
    refine AWp.rS hV none [6, 7, 26] fun K k20 => ?_
    simp; repeat refine ai ?_
    refine kc [se 6 (a.n * b.d), se 7 (b.n * a.d), se 26 (decide ((a.n * b.d) < (b.n * a.d)))] [.w 44 a, .w 44 b] (k20 _ ?_)
    refine AWp.cnd hg rfl ?_ ?_ <;> (clear hg; intro h21 hg)
    ·refine AWp.rS hV none [4, 5] fun K k22 => ?_
     simp; repeat refine ai ?_
     refine kc [se 4 ((-1) : Int), se 5 (0 : Int)] [.w 44 a, .w 44 b] (k22 _ ?_)
     refine AWp.ret ?_
     cases hg; exact hQ _ _ (.inl rfl) rt
    ·refine AWp.rS hV none [30] fun K k23 => ?_
     simp; repeat refine ai ?_
     refine kc [se 30 (decide ((b.n * a.d) < (a.n * b.d)))] [.w 44 a, .w 44 b] (k23 _ ?_)
     refine AWp.cnd hg rfl ?_ ?_ <;> (clear hg; intro h24 hg)
     ·refine AWp.rS hV none [4, 5] fun K k25 => ?_
      simp; repeat refine ai ?_
      refine kc [se 4 (1 : Int), se 5 (0 : Int)] [.w 44 a, .w 44 b] (k25 _ ?_)
      refine AWp.ret ?_
      cases hg; exact hQ _ _ (.inl rfl) rt
     ·refine AWp.skip ?_
      exact k16 _ ⟨hg, Sub.rm []⟩
   ·rintro s' ⟨hg, hs⟩
    unfold ratCompare_j2 at hg
    refine AWp.sub hs ?_
    refine AWp.rS hV none [4, 5] fun K k26 => ?_
    simp; repeat refine ai ?_
    refine kc [se 4 (0 : Int), se 5 (0 : Int)] [] (k26 _ ?_)
    refine AWp.ret ?_
    cases hg; exact hQ _ _ (.inl rfl) rt
noncomputable def sp48 : Eva.Spec := specO2 fun (a : Written) (b : Written) => (wCompare a b).map fun r => enc r
theorem ok48 : SpecOk Tryz.prog 48 sp48 := by
 have hV : VOk Tryz.prog (env [(73, sp73), (74, sp74), (76, sp76), (75, sp75)]) := env_ok ⟨ok73, ok74, ok76, ok75, trivial⟩
 refine SpecOk.ofO2 (Enters.of Tryz.func48 (by decide)) fun a b rr hr => ?_
 obtain ⟨r, hg, rfl⟩ := mpj hr; clear hr
 refine PureCon.ofN hV Tryz.func48 rfl Tryz.ntmps48 fun R hR w0 I0 Q hQ => ?_
 unfold wCompare at hg
 refine AWp.rS hV none [2, 3] fun K k1 => ?_
 simp; repeat refine ai ?_
 refine kc [(2, .ptr 0 0), (3, .ptr 1 0)] [.w 51 a, .w 51 b] (k1 _ ?_)
 obtain ⟨⟨x2, x3⟩, h4, hg⟩ := bnd_some hg; try dsimp only at hg
 refine AWp.rS hV none [2, 3, 5] fun K k5 => ?_
 simp [sp73, h4]; repeat refine ai ?_
 refine kd [(2, .ptr 0 0), (3, .ptr 1 0), se 5 x2] [.w 51 a, .w 51 b] (by first | rfl | (simp [sp73, h4] <;> grind)) (k5 _ ?_)
 obtain ⟨⟨x6, x7⟩, h8, hg⟩ := bnd_some hg; try dsimp only at hg
 refine AWp.rS hV none [2, 3, 5, 7] fun K k9 => ?_
 simp [sp74, h8]; repeat refine ai ?_
 refine kd [(2, .ptr 0 0), (3, .ptr 1 0), se 5 x2, se 7 x6] [.w 51 a, .w 51 b] (by first | rfl | (simp [sp74, h8] <;> grind)) (k9 _ ?_)
 obtain ⟨⟨x10, x11⟩, h12, hg⟩ := bnd_some hg; try dsimp only at hg
 refine AWp.rS hV none [2, 3, 5, 7, 9] fun K k13 => ?_
 simp [sp74, h12]; repeat refine ai ?_
 refine kd [(2, .ptr 0 0), (3, .ptr 1 0), se 5 x2, se 7 x6, se 9 x10] [.w 51 a, .w 51 b] (by first | rfl | (simp [sp74, h12] <;> grind)) (k13 _ ?_)
 obtain ⟨g14, hg⟩ := grd_some hg
 unfold inI at g14
 obtain ⟨g15, hg⟩ := grd_some hg
 unfold inI at g15
 obtain ⟨x16, h17, hg⟩ := bnd_some hg
 obtain ⟨x18, h19, hg⟩ := bnd_some hg
 have h19g := h19; try simp at h19g
 refine AWp.rDF hV mixed none 14 [] [4] (by decide) fun K k20 => ?_
 simp [sp76, sp75, h17, h19, h19g]; repeat refine ai ?_
 refine kd [se 4 x18] [.w 51 a, .w 51 b] (by first | rfl | (simp [sp76, sp75, h17, h19, h19g] <;> grind)) (k20 _ ?_)
 refine AWp.ret ?_
 cases hg; exact hQ _ _ (.inl rfl) rt
noncomputable def sp69 : Eva.Spec := specO2 fun (x : Measure) (y : Measure) => (fit1 x y).map fun r => enc r
theorem ok69 : SpecOk Tryz.prog 69 sp69 := by
 have hV : VOk Tryz.prog (env []) := env_ok trivial
 refine SpecOk.ofO2 (Enters.of Tryz.func69 (by decide)) fun x y rr hr => ?_
 obtain ⟨r, hg, rfl⟩ := mpj hr; clear hr
 refine PureCon.ofN hV Tryz.func69 rfl Tryz.ntmps69 fun R hR w0 I0 Q hQ => ?_
 unfold fit1 at hg
 refine AWp.rS hV none [2, 3] fun K k1 => ?_
 simp; repeat refine ai ?_
 refine kc [(2, .ptr 0 0), (3, .ptr 1 0)] [.w 47 x, .w 47 y] (k1 _ ?_)
 obtain ⟨y2u4, hx3, hg⟩ := bnd_some hg
 unfold fit1_r1 at hx3
 refine AWp.seqJ (fun s' => Sub s' ⟨[se 4 y2u4], []⟩) (fun _ k4 => ?_) ?_
 ·rcases ifb_o hx3 with ⟨c5, hx3⟩ | ⟨c5, hx3⟩
  ·have c5g := eq_true (of_decide_eq_true c5)
   rcases ifb_o hx3 with ⟨c6, hx3⟩ | ⟨c6, hx3⟩
   ·have c6g := eq_true (of_decide_eq_true c6)
    refine AWp.regF hV (some []) [4] fun K k7 => ?_
    simp [c5, c5g, c6, c6g]; repeat refine ai ?_
    cases hx3; exact k7 _ (k4 _ (Sub.rm []))
   ·have c6g := c6; try simp at c6g
    refine AWp.regF hV (some [18, 19, 20, 21, 22]) [4] fun K k8 => ?_
    simp [c5, c5g, c6, c6g]; repeat refine ai ?_
    cases hx3; exact k8 _ (k4 _ (Sub.rm []))
  ·have c5g := c5; try simp at c5g
   refine AWp.regF hV (some [11, 12, 13, 14, 15, 18, 19, 20, 21, 22]) [4] fun K k9 => ?_
   simp [c5, c5g]; repeat refine ai ?_
   cases hx3; exact k9 _ (k4 _ (Sub.rm []))
 ·intro s' hs
  refine AWp.sub hs ?_
  clear hs s'
  refine AWp.ret ?_
  cases hg; exact hQ _ _ (.inl rfl) rt
end
section
variable [Onn]
section
variable {f : FuncId} {s : Eva.Spec} {caps : List D} {xs : List Written}
theorem sem66 (hs : SpecOk Tryz.prog f s) {LL : List AO} {id : Nat} (hid : LL[id]? = some (.row 51 10 (xs.map enc))) (hlow : Low LL) (hok : ∀ x ∈ xs, okB s caps (enc x)) (hmax : xs.length ≤ 9223372036854775807) :
    SemC Tryz.prog 66 [.row id, .d (.clo f caps)] LL fun u l' => u = .d (.int .i64 (match xs.findIdx? fun x => boolS s caps (enc x) with | some i => (i : Int) | none => -1)) ∧ ∃ vals ft, l' = LL ++ [.frame LL.length vals ft] := by
  have hV : VOk Tryz.prog (env [(f, s)]) := env_ok ⟨hs, trivial⟩
  refine SemC.of hV (Enters.of Tryz.func66 (by decide)) Tryz.func66 rfl (by rw [Tryz.ntmps66]; simp) fun R hR w0 I0 vals ft Q hQ => ?_
  rw [Tryz.ntmps66]
  have hid' := get_app hid [.frame LL.length vals ft]
  have hlow' := hlow.frame vals ft
  have hlast : (LL ++ [AO.frame LL.length vals ft])[LL.length]? = some (.frame LL.length vals ft) := by simp
  have hfin : ∀ (n : Int) (t : Tm), Eva.get t 4 = .d (.int .i64 n) → n = (match xs.findIdx? fun x => boolS s caps (enc x) with | some i => (i : Int) | none => -1) → Q .ret ⟨t, LL ++ [AO.frame LL.length vals ft]⟩ := by
    intro n t ht hn
    refine hQ _ _ (.inl rfl) ⟨_, Sub.refl _, by simp [resT], hlast, ?_, vals, ft, rfl⟩
    simp [resT, tupT, ht, hn]
  generalize LL ++ [AO.frame LL.length vals ft] = L at *
  simp only [startTT]
  refine AWp.rS hV none [0, 1] fun K k1 => ?_
  simp
  refine kcong (s' := ⟨[(0, .row id), (1, .d (.clo f caps))], L⟩) (by first | rfl | simp) (k1 _ ?_)
  refine AWp.seqJ (fun s' => xs.findIdx? (fun x => boolS s caps (enc x)) = none ∧ Sub s' ⟨[], L⟩) (fun _ k3 => ?_) ?_
  · refine AWp.rS hV none [0, 1, 7, 8] fun K k2 => ?_
    simp [hid']
    refine kcong (s' := ⟨[(0, .row id), (1, .d (.clo f caps)), (7, .d (.int .i64 xs.length)), (8, .d (.int .i64 0))], L⟩) (by first | rfl | simp) (k2 _ ?_)
    refine AWp.block ?_
    refine AWp.loop (fun k : Nat => ⟨[(0, .row id), (1, .d (.clo f caps)), (7, .d (.int .i64 xs.length)), (8, .d (.int .i64 k))], L⟩) (fun k => k ≤ xs.length ∧ ∀ (i : Nat) y, i < k → xs[i]? = some y → boolS s caps (enc y) = false) (fun k => xs.length - k) 0 ⟨Nat.zero_le _, by simp⟩ (Sub.refl _) fun k ⟨hk, hall⟩ => ?_
    refine AWp.rS hV none [0, 1, 7, 8, 9] fun K k5 => ?_
    simp
    refine kcong (s' := ⟨[(0, .row id), (1, .d (.clo f caps)), (7, .d (.int .i64 xs.length)), (8, .d (.int .i64 k)), (9, .d (.bool (decide (k < xs.length))))], L⟩) (by first | rfl | simp) (k5 _ ?_)
    refine AWp.seqG fun _ k4 => ?_
    refine AWp.cond (b := decide (k < xs.length)) rfl (fun h => ?_) fun h => ?_
    · have hlt : k < xs.length := by simpa using h
      have hx : xs[k]? = some xs[k] := List.getElem?_eq_getElem hlt
      obtain ⟨ob, hob, hs1⟩ := okB_eq (hok xs[k] (List.getElem_mem hlt))
      have hel := elAt_enc hx
      generalize xs[k] = x at hx hs1 hel
      obtain ⟨b, hb⟩ : ∃ b, b = boolS s caps (enc x) := ⟨_, rfl⟩
      rw [← hb] at hs1
      have hs2 := hs1
      simp at hs2
      have hel2 := hel
      simp at hel2
      refine AWp.skip (k4 _ ?_)
      refine AWp.seqJ (fun s' => b = false ∧ Sub s' ⟨[(0, .row id), (1, .d (.clo f caps)), (7, .d (.int .i64 xs.length)), (8, .d (.int .i64 k))], L⟩) (fun _ k6 => ?_) ?_
      · refine AWp.block ?_
        refine AWp.rS hV none [0, 1, 5, 7, 8] fun K k7 => ?_
        simp
        refine kcong (s' := ⟨[(0, .row id), (1, .d (.clo f caps)), (5, .d (.int .i64 k)), (7, .d (.int .i64 xs.length)), (8, .d (.int .i64 k))], L⟩) (by first | rfl | simp) (k7 _ ?_)
        refine AWp.rS hV none [0, 1, 5, 7, 8, 16] fun K k8 => ?_
        simp [hid', hel, hel2, hlt, hs1, hs2, hob, argsD_caps, quiet_caps]
        refine kcong (s' := ⟨[(0, .row id), (1, .d (.clo f caps)), (5, .d (.int .i64 k)), (7, .d (.int .i64 xs.length)), (8, .d (.int .i64 k)), (16, .d (.bool b))], L⟩) (by first | rfl | simp) (k8 _ ?_)
        refine AWp.cond (b := b) rfl (fun h => ?_) fun h => ?_
        · refine AWp.rS hV none [4] fun K k9 => ?_
          simp
          refine kcong (s' := ⟨[(4, .d (.int .i64 k))], L⟩) (by first | rfl | simp) (k9 _ ?_)
          refine AWp.ret ?_
          refine hfin k _ rfl ?_
          have : xs.findIdx? (fun x => boolS s caps (enc x)) = some k := by
            rw [List.findIdx?_eq_some_iff_getElem]
            refine ⟨hlt, ?_, fun j hj => ?_⟩
            · have : xs[k] = x := by rw [List.getElem?_eq_getElem hlt] at hx; injection hx
              rw [this, ← hb, h]
            · rw [hall j xs[j] hj (List.getElem?_eq_getElem (by omega))]; simp
          rw [this]
        · refine AWp.skip (k6 _ ⟨h, ?_⟩)
          exact Sub.slots (by simp [forgets])
      · rintro s' ⟨hbf, hs⟩
        refine AWp.sub hs ?_
        refine AWp.regF hV none [0, 1, 7, 8] fun K k7 => ?_
        simp
        refine And.intro (by omega) ?_
        refine kcong (s' := ⟨[(0, .row id), (1, .d (.clo f caps)), (7, .d (.int .i64 xs.length)), (8, .d (.int .i64 ((k + 1 : Nat) : Int)))], L⟩) (by first | rfl | simp) (k7 _ ?_)
        refine ⟨k + 1, ⟨hlt, fun i y hi hy => ?_⟩, by omega, Sub.refl _⟩
        rcases Nat.lt_succ_iff_lt_or_eq.1 hi with h | h
        · exact hall i y h hy
        · subst h; rw [hx] at hy; injection hy with hy; subst hy; rw [← hb, hbf]
    · have hge : xs.length ≤ k := by simpa using h
      refine AWp.exit ?_
      refine k3 _ ⟨?_, Sub.slots trivial⟩
      rw [List.findIdx?_eq_none_iff]
      intro x hx
      obtain ⟨i, hi, rfl⟩ := List.mem_iff_getElem.1 hx
      exact hall i _ (by omega) (List.getElem?_eq_getElem hi)
  · rintro s' ⟨hnone, hs⟩
    refine AWp.sub hs ?_
    refine AWp.rS hV none [4] fun K k4 => ?_
    simp
    refine kcong (s' := ⟨[(4, .d (.int .i64 (-1)))], L⟩) (by first | rfl | simp) (k4 _ ?_)
    refine AWp.ret ?_
    exact hfin (-1) _ rfl (by rw [hnone])
end
theorem filter_step {α : Type} (q : α → Bool) (xs : List α) {j : Nat} {v : α} (h : xs[j]? = some v) : (xs.take (j + 1)).filter q = (xs.take j).filter q ++ (if q v = true then [v] else []) := by
  have hj := (List.getElem?_eq_some_iff.1 h).1
  rw [List.take_succ, h, List.filter_append]
  congr 1
  by_cases hq : q v = true <;> simp [hq]
theorem set_same {l : List AO} {id : Nat} {o : AO} (h : l[id]? = some o) : l.set id o = l := by
  apply List.ext_getElem?
  intro k
  by_cases e : k = id
  · subst e; rw [List.getElem?_set_self (List.getElem?_eq_some_iff.1 h).1, h]
  · rw [List.getElem?_set_ne (Ne.symm e)]
section
variable {f : FuncId} {s : Eva.Spec} {caps : List D} {xs : List Written}
theorem sem61 (hs : SpecOk Tryz.prog f s) {LL : List AO} {id : Nat} (hid : LL[id]? = some (.row 51 10 (xs.map enc))) (hlow : Low LL) (hok : ∀ x ∈ xs, okB s caps (enc x)) (hmax : xs.length ≤ 9223372036854775807) :
    SemC Tryz.prog 61 [.row id, .d (.clo f caps)] LL fun u l2 => u = .row (LL.length + 1) ∧ ∃ base vals ft, l2[LL.length]? = some (.frame base vals ft) ∧ l2.set LL.length .dead = LL.set id .dead ++ [.dead, .row 51 10 ((xs.filter fun x => !boolS s caps (enc x)).map enc)] := by
  have hV0 : VOk Tryz.prog (env [(f, s)]) := env_ok ⟨hs, trivial⟩
  have hV : VOk Tryz.prog { env [(f, s)] with sub := true } := ⟨hV0.E, hV0.C, hV0.eq, hV0.F, hV0.prog⟩
  refine SemC.of hV (Enters.of Tryz.func61 (by decide)) Tryz.func61 rfl (by rw [Tryz.ntmps61]; simp) fun R hR w0 I0 vals ft Q hQ => ?_
  rw [Tryz.ntmps61]
  have hidl : id < LL.length := (List.getElem?_eq_some_iff.1 hid).1
  have hid' := get_app hid [.frame LL.length vals ft]
  have hlow' := hlow.frame vals ft
  have hfin : ∀ (els : List D) (k : Nat) (t : Tm), Eva.get t 4 = .sub id 0 k → els.take k = (xs.filter fun x => !boolS s caps (enc x)).map enc → ∀ st, Eva.Sub st ⟨t, (LL ++ [AO.frame LL.length vals ft]).set id (.row 51 10 els)⟩ → Q .ret st := by
    intro els k t ht hel st hst
    have hg : ((LL ++ [AO.frame LL.length vals ft]).set id (.row 51 10 els))[id]? = some (.row 51 10 els) := by rw [List.getElem?_set_self (by simp; omega)]
    refine hQ _ _ (.inl rfl) ⟨_, hst.trans (Sub.takeRow 4 id k ht hg), by simp [resT], ?_, ?_⟩
    · rw [set_front hidl, set_front (by simpa using hidl)]
      simp
    · refine ⟨by simp [resT, tupT, Eva.get], LL.length, vals, ft, ?_, ?_⟩
      · rw [set_front hidl, set_front (by simpa using hidl)]
        simp
      · show ((((LL ++ [AO.frame LL.length vals ft]).set id (.row 51 10 els)).set id .dead) ++ [AO.row 51 10 (els.take k)]).set LL.length .dead = _
        rw [List.set_set, set_front hidl, hel]
        simp [List.set_append]
  obtain ⟨L, hL⟩ : ∃ L, L = LL ++ [AO.frame LL.length vals ft] := ⟨_, rfl⟩
  rw [← hL] at hid' hlow' hfin ⊢
  have hsame := set_same hid'
  simp only [startTT]
  refine AWp.rS hV none [0, 1] fun K k1 => ?_
  simp
  refine kcong (s' := ⟨[(0, .row id), (1, .d (.clo f caps))], L⟩) (by first | rfl | simp) (k1 _ ?_)
  refine AWp.rC hV [0, 1, 5] fun K k1 => ?_
  refine RunAt.seq hV none 2 [0, 1, 8, 9] (by decide) (by decide) fun K1 h1 => ?_
  simp
  refine kcong (s' := ⟨[(0, .row id), (1, .d (.clo f caps)), (8, .row id), (9, .d (.clo f caps))], L⟩) (by first | rfl | simp) (h1 _ ?_)
  refine RunAt.call hV 66 [.row id, .d (.clo f caps)] rfl rfl trivial (by decide) (by simp [cloOf]) fun K2 h2 => ?_
  refine (sem66 hs hid' hlow' hok hmax).mono ?_
  rintro _ _ ⟨rfl, vals2, ft2, rfl⟩
  refine h2 _ _ (RunAt.fin hV none ?_)
  simp
  refine kcong (s' := ⟨[(0, .row id), (1, .d (.clo f caps)), (5, .d (.int .i64 (match xs.findIdx? fun x => boolS s caps (enc x) with | some i => (i : Int) | none => -1)))], L ++ [.frame L.length vals2 ft2]⟩) (by first | rfl | simp) (k1 _ ?_)
  have hidL : id < L.length := (List.getElem?_eq_some_iff.1 hid').1
  refine AWp.sub (Sub.drop (t' := [(0, .row id), (1, .d (.clo f caps)), (5, .d (.int .i64 (match xs.findIdx? fun x => boolS s caps (enc x) with | some i => (i : Int) | none => -1)))]) hlow' (by simp [T.lows, hidL]) (by simp [forgets])) ?_
  refine AWp.seqJ (fun s' => (∃ i, xs.findIdx? (fun x => boolS s caps (enc x)) = some i ∧ Sub s' ⟨[(0, .row id), (1, .d (.clo f caps)), (5, .d (.int .i64 i))], L⟩)) (fun _ k2 => ?_) ?_
  · refine AWp.rS hV none [0, 1, 5, 12] fun K k3 => ?_
    simp
    refine kcong (s' := ⟨[(0, .row id), (1, .d (.clo f caps)), (5, .d (.int .i64 (match xs.findIdx? fun x => boolS s caps (enc x) with | some i => (i : Int) | none => -1))), (12, .d (.bool (decide ((match xs.findIdx? fun x => boolS s caps (enc x) with | some i => (i : Int) | none => -1) = -1))))], L⟩) (by first | rfl | simp) (k3 _ ?_)
    refine AWp.cond (b := (xs.findIdx? fun x => boolS s caps (enc x)).isNone) (by cases hf : xs.findIdx? fun x => boolS s caps (enc x) <;> simp [boolOf, evT, Eva.get] <;> omega) (fun h => ?_) fun h => ?_
    · rw [Option.isNone_iff_eq_none] at h
      simp only [h]
      refine AWp.rS hV none [4] fun K k4 => ?_
      simp
      refine kcong (s' := ⟨[(4, .row id)], L⟩) (by first | rfl | simp) (k4 _ ?_)
      refine AWp.ret ?_
      have h1 := Sub.asSub (s := ⟨[(4, .row id)], L⟩) 4 id rfl hid'
      have h2 : Eva.Sub ⟨[(4, .row id)], L⟩ ⟨[(4, .sub id 0 (xs.map (enc : Written → D)).length), (4, .row id)], L.set id (.row 51 10 (xs.map enc))⟩ := by rw [hsame]; exact h1
      refine hfin _ _ _ rfl ?_ _ h2
      rw [List.take_of_length_le (Nat.le_refl _)]
      congr 1
      symm
      rw [List.filter_eq_self]
      rw [List.findIdx?_eq_none_iff] at h
      intro y hy
      rw [h y hy]; rfl
    · obtain ⟨i, hi⟩ : ∃ i, xs.findIdx? (fun x => boolS s caps (enc x)) = some i := by
        cases hf : xs.findIdx? fun x => boolS s caps (enc x) with
        | none => rw [hf] at h; cases h
        | some i => exact ⟨i, rfl⟩
      refine AWp.skip (k2 _ ⟨i, hi, ?_⟩)
      simp only [hi]
      exact Sub.slots (by simp [forgets])
  rintro s' ⟨i0, hi0, hs'⟩
  refine AWp.sub hs' ?_
  rw [List.findIdx?_eq_some_iff_getElem] at hi0
  obtain ⟨hi1, hi2, hi3⟩ := hi0
  refine AWp.seqJ (fun s' => ∃ (i : Nat) (els : List Written), Sub s' ⟨[(0, .row id), (1, .d (.clo f caps)), (5, .d (.int .i64 ((i : Nat) : Int)))], L.set id (.row 51 10 (els.map enc))⟩ ∧ i ≤ els.length ∧ els.length = xs.length ∧ els.take i = xs.filter fun x => !boolS s caps (enc x)) (fun _ k2 => ?_) ?_
  · refine AWp.rS hV none [0, 1, 5, 6] fun K k3 => ?_
    simp
    refine And.intro (by omega) ?_
    refine kcong (s' := ⟨[(0, .row id), (1, .d (.clo f caps)), (5, .d (.int .i64 i0)), (6, .d (.int .i64 ((i0 + 1 : Nat) : Int)))], L.set id (.row 51 10 (xs.map enc))⟩) (by rw [hsame]; first | rfl | simp) (k3 _ ?_)
    refine AWp.block ?_
    refine AWp.loop (fun (z : Nat × Nat × List Written) => ⟨[(0, .row id), (1, .d (.clo f caps)), (5, .d (.int .i64 (z.1 : Int))), (6, .d (.int .i64 (z.2.1 : Int)))], L.set id (.row 51 10 (z.2.2.map enc))⟩)
      (fun z => z.1 < z.2.1 ∧ z.2.1 ≤ xs.length ∧ z.2.2.length = xs.length ∧ z.2.2.take z.1 = (xs.take z.2.1).filter (fun x => !boolS s caps (enc x)) ∧ z.2.2.drop z.2.1 = xs.drop z.2.1) (fun z => xs.length - z.2.1) (i0, i0 + 1, xs) ⟨Nat.lt_succ_self _, hi1, rfl, ?_, rfl⟩ (Sub.refl _) fun ⟨i, j, els⟩ ⟨hij, hj, hel, htk, hdr⟩ => ?_
    · have hx : xs[i0]? = some xs[i0] := List.getElem?_eq_getElem hi1
      show xs.take i0 = _
      rw [filter_step _ _ hx, hi2]
      simp only [Bool.not_true, Bool.false_eq_true, if_false, List.append_nil]
      symm
      rw [List.filter_eq_self]
      intro y hy
      obtain ⟨q, hq, rfl⟩ := List.mem_take_iff_getElem.1 hy
      have := hi3 q (by omega)
      simpa using this
    · dsimp only at hij hj hel htk hdr ⊢
      obtain ⟨G, hG⟩ : ∃ G, G = L.set id (.row 51 10 (els.map enc)) := ⟨_, rfl⟩
      have hgl : G.length = L.length := by rw [hG]; simp
      have hgid : G[id]? = some (.row 51 10 (els.map enc)) := by rw [hG, List.getElem?_set_self hidL]
      have hglow : Low G := by rw [hG]; exact hlow'.set id rfl
      rw [← hG]
      refine AWp.seqG fun _ k4 => ?_
      refine AWp.rS hV none [0, 1, 5, 6, 19] fun K k5 => ?_
      simp [hgid]
      refine kcong (s' := ⟨[(0, .row id), (1, .d (.clo f caps)), (5, .d (.int .i64 i)), (6, .d (.int .i64 j)), (19, .d (.bool (decide (j < els.length))))], G⟩) (by first | rfl | simp) (k5 _ ?_)
      refine AWp.cond (b := decide (j < els.length)) rfl (fun h => ?_) fun h => ?_
      · have hlt : j < els.length := by simpa using h
        have hx : els[j]? = some els[j] := List.getElem?_eq_getElem hlt
        have hxx : xs[j]? = some els[j] := by
          have h1 : (els.drop j)[0]? = some els[j] := by rw [List.getElem?_drop]; simpa using hx
          rw [hdr, List.getElem?_drop] at h1; simpa using h1
        obtain ⟨ob, hob, hs1⟩ := okB_eq (hok els[j] (List.mem_of_getElem? hxx))
        have hel1 := elAt_enc hx
        generalize els[j] = x at hx hxx hs1 hel1
        obtain ⟨b, hb⟩ : ∃ b, b = boolS s caps (enc x) := ⟨_, rfl⟩
        rw [← hb] at hs1
        have hs2 := hs1
        simp at hs2
        have hel2 := hel1
        simp at hel2
        refine AWp.skip (k4 _ ?_)
        refine AWp.seqJ (fun s' => ∃ (i' : Nat) (els' : List Written), Sub s' ⟨[(0, .row id), (1, .d (.clo f caps)), (5, .d (.int .i64 i')), (6, .d (.int .i64 j))], L.set id (.row 51 10 (els'.map enc))⟩ ∧ i' < j + 1 ∧ els'.length = xs.length ∧ els'.take i' = (xs.take (j + 1)).filter (fun x => !boolS s caps (enc x)) ∧ els'.drop (j + 1) = xs.drop (j + 1)) (fun _ k6 => ?_) ?_
        · refine AWp.block ?_
          refine AWp.rS hV none [0, 1, 5, 6, 7] fun K k7 => ?_
          simp [hgid, hel1, hel2, hlt, set_last]
          refine kcong (s' := ⟨[(0, .row id), (1, .d (.clo f caps)), (5, .d (.int .i64 i)), (6, .d (.int .i64 j)), (7, .ptr G.length 0)], G ++ [.var 51 (cellsT (.d (enc x)))]⟩) (by first | rfl | (simp; done) | (simp [set_last]; done)) (k7 _ ?_)
          refine AWp.rS hV none [0, 1, 5, 6, 7, 29] fun K k8 => ?_
          simp [hs1, hs2, hob, argsD_caps, quiet_caps]
          refine kcong (s' := ⟨[(0, .row id), (1, .d (.clo f caps)), (5, .d (.int .i64 i)), (6, .d (.int .i64 j)), (7, .ptr G.length 0), (29, .d (.bool (!b)))], G ++ [.var 51 (cellsT (.d (enc x)))]⟩) (by first | rfl | (simp; done)) (k8 _ ?_)
          refine AWp.cond (b := !b) rfl (fun h => ?_) fun h => ?_
          · have hbf : b = false := by simpa using h
            have hil : i < els.length := by omega
            refine AWp.rS hV none [0, 1, 5, 6] fun K k9 => ?_
            simp [get_app hgid, hil, set_front (show id < G.length by omega)]
            refine kcong (s' := ⟨[(0, .row id), (1, .d (.clo f caps)), (5, .d (.int .i64 i)), (6, .d (.int .i64 j))], G.set id (.row 51 10 ((els.set i x).map enc)) ++ [.var 51 (cellsT (.d (enc x)))]⟩) (by first | rfl | (simp [List.map_set]; done)) (k9 _ ?_)
            refine AWp.regF hV none [0, 1, 5, 6] fun K k10 => ?_
            simp
            refine And.intro (by omega) ?_
            refine kcong (s' := ⟨[(0, .row id), (1, .d (.clo f caps)), (5, .d (.int .i64 ((i + 1 : Nat) : Int))), (6, .d (.int .i64 j))], G.set id (.row 51 10 ((els.set i x).map enc)) ++ [.var 51 (cellsT (.d (enc x)))]⟩) (by first | rfl | (simp; done)) (k10 _ ?_)
            refine k6 _ ⟨i + 1, els.set i x, ?_, by omega, by simpa using hel, ?_, ?_⟩
            · have e : L.set id (.row 51 10 ((els.set i x).map enc)) = G.set id (.row 51 10 ((els.set i x).map enc)) := by rw [hG, List.set_set]
              rw [e]
              exact Sub.drop (hglow.set id rfl) (by simp [T.lows]; omega) (by simp [forgets])
            · rw [filter_step _ _ hxx, ← htk, ← hb, hbf]
              simp only [Bool.not_false, if_true]
              rw [List.take_succ, List.getElem?_set_self hil, List.take_set_of_le (Nat.le_refl _)]
              rfl
            · rw [List.drop_set_of_lt (by omega)]
              rw [← List.drop_drop, ← List.drop_drop, hdr]
          · have hbt : b = true := by simpa using h
            refine AWp.skip (k6 _ ⟨i, els, ?_, by omega, hel, ?_, ?_⟩)
            · rw [← hG]; exact Sub.drop hglow (by simp [T.lows]; omega) (by simp [forgets])
            · rw [filter_step _ _ hxx, ← htk, ← hb, hbt]; simp
            · rw [← List.drop_drop, ← List.drop_drop, hdr]
        · rintro s' ⟨i', els', hs, h1, h2, h3, h4⟩
          refine AWp.sub hs ?_
          refine AWp.regF hV none [0, 1, 5, 6] fun K k7 => ?_
          simp
          refine And.intro (by omega) ?_
          refine kcong (s' := ⟨[(0, .row id), (1, .d (.clo f caps)), (5, .d (.int .i64 i')), (6, .d (.int .i64 ((j + 1 : Nat) : Int)))], L.set id (.row 51 10 (els'.map enc))⟩) (by first | rfl | simp) (k7 _ ?_)
          exact ⟨(i', j + 1, els'), ⟨h1, by show j + 1 ≤ xs.length; omega, h2, h3, h4⟩, by show xs.length - (j + 1) < xs.length - j; omega, Sub.refl _⟩
      · have hge : els.length ≤ j := by simpa using h
        refine AWp.exit ?_
        refine k2 _ ⟨i, els, ?_, by omega, hel, ?_⟩
        · rw [hG]; exact Sub.slots (by simp [forgets])
        · rw [htk, List.take_of_length_le (by omega)]
  · rintro s' ⟨i, els, hs, h1, h2, h3⟩
    refine AWp.sub hs ?_
    obtain ⟨G, hG⟩ : ∃ G, G = L.set id (.row 51 10 (els.map enc)) := ⟨_, rfl⟩
    have hgid : G[id]? = some (.row 51 10 (els.map enc)) := by rw [hG, List.getElem?_set_self hidL]
    rw [← hG]
    refine AWp.rS hV none [0, 5] fun K k3 => ?_
    simp [hgid]
    refine And.intro (by omega) ?_
    refine kcong (s' := ⟨[(0, .row id), (5, .d (.int .i64 i))], L.set id (.row 51 10 ((els.map enc).take i ++ List.replicate (els.length - i) (mkD true [.int .i64 0, .int .i64 0, .int .i64 0, .int .i64 0, .int .i64 0, .int .i64 0, .int .i64 0, .int .i64 0, .int .i64 0, .int .i64 0])))⟩) (by first | rfl | (simp [hG]; done)) (k3 _ ?_)
    generalize hfi : ((els.map enc).take i ++ List.replicate (els.length - i) (mkD true [.int .i64 0, .int .i64 0, .int .i64 0, .int .i64 0, .int .i64 0, .int .i64 0, .int .i64 0, .int .i64 0, .int .i64 0, .int .i64 0])) = fin
    have hfl : fin.length = els.length := by rw [← hfi]; simp; omega
    have hft : fin.take i = (xs.filter fun x => !boolS s caps (enc x)).map enc := by
      rw [← hfi, List.take_append_of_le_length (by simp; omega), List.take_take, Nat.min_self, ← List.map_take, h3]
    have hcid : (L.set id (.row 51 10 fin))[id]? = some (.row 51 10 fin) := by rw [List.getElem?_set_self hidL]
    refine AWp.rS hV none [4] fun K k4 => ?_
    simp [hidL]
    refine And.intro (by omega) ?_
    refine kcong (s' := ⟨[(4, .sub id 0 i)], L.set id (.row 51 10 fin)⟩) (by first | rfl | (simp; done)) (k4 _ ?_)
    refine AWp.ret ?_
    exact hfin fin i _ rfl hft _ (Sub.refl _)
end
def delR (f : FuncId) (s : Eva.Spec) (ts : List T) (l : List AO) : Option FR := match ts with
  | [.row id, .d (.clo f' caps)] => if f' = f then (match l[id]? with
    | some (.row 51 10 els) => some ⟨.row (l.length + 1), l.set id .dead ++ [.dead, .row 51 10 (delRow s caps els)], (els.map (dec : D → Written)).map enc = els ∧ delOk s caps els ∧ els.length ≤ 9223372036854775807 ∧ Low l ∧ l.all (fun o => !o.isFrame) = true⟩
    | _ => none) else none
  | _ => none
theorem delR_ok {f : FuncId} {s : Eva.Spec} (hs : SpecOk Tryz.prog f s) {ts : List T} {l : List AO} {r : FR} (h : delR f s ts l = some r) (hob : r.ob) : FCon Tryz.prog 61 ts l r.t r.l := by
  unfold delR at h
  split at h
  · rename_i id f' caps
    split at h
    · rename_i hf
      subst hf
      split at h
      · rename_i els ho
        cases h
        obtain ⟨h1, h2, h3, h4, h5⟩ := hob
        have hidl : id < l.length := (List.getElem?_eq_some_iff.1 ho).1
        have key : (((els.map (dec : D → Written)).filter fun x => !boolS s caps (enc x)).map enc) = delRow s caps els := by
          have : ∀ ys : List Written, (ys.filter fun x => !boolS s caps (enc x)).map enc = (ys.map enc).filter fun d => !boolS s caps d := fun ys => by rw [List.filter_map]; rfl
          rw [this, h1]; rfl
        have hsem := sem61 (xs := els.map dec) hs (by rw [h1]; exact ho) h4 (fun x hx => h2 _ (by rw [← h1]; exact List.mem_map_of_mem hx)) (by simpa using h3)
        rw [key] at hsem
        refine FCon.ofSem (k := l.length) (hsem.mono ?_) h5 (by simp) (fun k hk hv => ?_) (fun k hk hr => ?_)
        · rintro u l2 ⟨rfl, base, vals, ft, q1, q2⟩
          exact ⟨rfl, base, vals, ft, q1, q2⟩
        · have hne : k ≠ id := fun e => by subst e; unfold Eva.isVar at hv; rw [ho] at hv; cases hv
          unfold Eva.isVar at hv ⊢
          rw [List.getElem?_append_left (by simpa using hk), List.getElem?_set_ne (Ne.symm hne)]; exact hv
        · left
          have hne : k ≠ id := fun e => by
            subst e; unfold Eva.isRow at hr
            rw [List.getElem?_append_left (by simpa using hk), List.getElem?_set_self hk] at hr; cases hr
          rw [List.getElem?_append_left (by simpa using hk), List.getElem?_set_ne (Ne.symm hne)]
      · cases h
    · cases h
  · cases h
theorem own62 (els : List D) (hlen : els.length * 80 ≤ 140737488355328) : OwnCon Tryz.prog 62 [.slice 10 els] (.row 0) [.row 51 10 els] := by
  haveI := rndX
  have hV : VOk Tryz.prog (env []) := env_ok trivial
  refine OwnCon.of Tryz.func62 rfl (by rw [Tryz.ntmps62]; simp) rfl fun R hR w0 I0 Q hQ => ?_
  rw [Tryz.ntmps62]
  refine AWp.rS hV none [0] fun K k1 => ?_
  simp
  refine k1 _ ?_
  refine AWp.seqG fun _ k2 => ?_
  refine AWp.seqG fun _ k3 => AWp.nilCheck (t := 45) (k := 4) hV rfl rfl rfl rfl rfl rfl (by decide) (by decide) te45 rfl fun b hb => k3 _ ?_
  refine AWp.cond (b := b) rfl (fun h => ?_) fun h => ?_
  · have he := hb h
    subst he
    refine AWp.rS hV none [2] fun K k4 => ?_
    simp
    refine k4 _ ?_
    refine AWp.ret ?_
    refine hQ _ _ (.inl rfl) ?_
    exact Sub.trans (Sub.adopt 2 51 10 rfl) (Sub.ren [0] (by decide) rfl rfl ⟨rfl, trivial⟩)
  · refine AWp.skip (k2 _ ?_)
    refine AWp.rS hV none [2] fun K k4 => ?_
    simp
    repeat refine And.intro (by omega) ?_
    refine k4 _ ?_
    refine AWp.ret ?_
    refine hQ _ _ (.inl rfl) ?_
    exact Sub.ren [1] (by decide) (by simp [framesOk]) (by simp [renL, AO.ren]) ⟨rfl, trivial⟩
def cloneR (ts : List T) (l : List AO) : Option FR := match argsD l ts with
  | some ([.slice 10 els], l1) => some ⟨.row l1.length, l1 ++ [.row 51 10 els], els.length * 80 ≤ 140737488355328⟩
  | _ => none
theorem cloneR_ok {ts : List T} {l : List AO} {r : FR} (h : cloneR ts l = some r) (hob : r.ob) : FCon Tryz.prog 62 ts l r.t r.l := by
  unfold cloneR at h
  split at h
  · rename_i els l1 hd
    cases h
    have := FCon.ofOwn hd (own62 els hob) (fun o ho => by simp at ho; subst ho; exact .inl rfl)
    simpa [T.shift] using this
  · cases h
def fDel (f : FuncId) (s : Eva.Spec) : FEnv := fun g ts l => if g = 62 then cloneR ts l else if g = 61 then delR f s ts l else none
theorem fDel_ok {f : FuncId} {s : Eva.Spec} (hs : SpecOk Tryz.prog f s) : FOk Tryz.prog (fDel f s) := by
  intro g ts l r hr hob
  unfold fDel at hr
  split at hr
  · rename_i hg
    subst hg
    exact ⟨Enters.of Tryz.func62 (by decide), cloneR_ok hr hob⟩
  · split at hr
    · rename_i hg
      subst hg
      exact ⟨Enters.of Tryz.func61 (by decide), delR_ok hs hr hob⟩
    · cases hr
noncomputable def envD (f : FuncId) (s : Eva.Spec) (l : List (FuncId × Eva.Spec)) : Env := { env l with F := fDel f s }
theorem envD_ok {f : FuncId} {s : Eva.Spec} (hs : SpecOk Tryz.prog f s) {l : List (FuncId × Eva.Spec)} (h : Specs Tryz.prog l) : VOk Tryz.prog (envD f s l) :=
  haveI := rndX
  have h0 := env_ok h
  ⟨h0.E, h0.C, h0.eq, fDel_ok hs, h0.prog⟩
end
structure C51 where
instance : Enc C51 := ⟨fun _ => .fn 51, fun _ => ⟨⟩, 1, fun _ => rfl, fun _ => rfl, by simp [D.cells, D.one]⟩
theorem enc_C51 (c : C51) : (enc c : D) = .fn 51 := rfl
theorem dec_C51 (d : D) : (dec d : C51) = ⟨⟩ := rfl
theorem size_C51 : size C51 = 1 := rfl
theorem eta_C51 (c : C51) : (⟨⟩ : C51) = c := rfl
structure C69 where
instance : Enc C69 := ⟨fun _ => .fn 69, fun _ => ⟨⟩, 1, fun _ => rfl, fun _ => rfl, by simp [D.cells, D.one]⟩
theorem enc_C69 (c : C69) : (enc c : D) = .fn 69 := rfl
theorem dec_C69 (d : D) : (dec d : C69) = ⟨⟩ := rfl
theorem size_C69 : size C69 = 1 := rfl
theorem eta_C69 (c : C69) : (⟨⟩ : C69) = c := rfl
structure C33 where
  v0 : (Bx Int)
instance : Enc C33 := ⟨fun c => .clo 33 [enc c.v0], fun d => match d with | .clo _ [a0] => ⟨dec a0⟩ | _ => ⟨dec D.nilp⟩, 1, fun c => by simp only [dec_enc], fun _ => rfl, by simp [D.cells, D.one]⟩
theorem enc_C33 (c : C33) : (enc c : D) = .clo 33 [enc c.v0] := rfl
theorem dec_C33 (g : FuncId) (a0 : D) : (dec (.clo g [a0]) : C33) = ⟨dec a0⟩ := rfl
theorem size_C33 : size C33 = 1 := rfl
theorem eta_C33 (c : C33) : (⟨c.v0⟩ : C33) = c := rfl
structure C60_33 where
  v0 : (Bx C33)
instance : Enc C60_33 := ⟨fun c => .clo 60 [enc c.v0], fun d => match d with | .clo _ [a0] => ⟨dec a0⟩ | _ => ⟨dec D.nilp⟩, 1, fun c => by simp only [dec_enc], fun _ => rfl, by simp [D.cells, D.one]⟩
theorem enc_C60_33 (c : C60_33) : (enc c : D) = .clo 60 [enc c.v0] := rfl
theorem dec_C60_33 (g : FuncId) (a0 : D) : (dec (.clo g [a0]) : C60_33) = ⟨dec a0⟩ := rfl
theorem size_C60_33 : size C60_33 = 1 := rfl
theorem eta_C60_33 (c : C60_33) : (⟨c.v0⟩ : C60_33) = c := rfl
noncomputable def idxN_j6 (z2u8 : Int) : Option ((Int) ⊕ ((Int) ⊕ (Unit))) :=
  grd (inI (z2u8 + 1)) (some (.inl (z2u8 + 1)))
noncomputable def idxN_s5 (l : (List Written)) : Int → Option ((Int) ⊕ ((Int) ⊕ (Unit))) := fun (z2u8 : Int) =>
  ifb (decide (z2u8 < (l.length : Int))) (bnd (at? l z2u8) fun x48 =>
  bnd (noNote x48) fun x50 =>
  ifb x50 (some (.inr (.inl z2u8)))
  (idxN_j6 z2u8))
  (some (.inr (.inr ())))
noncomputable def idxN_j1 : Option Int :=
  some (-1)
noncomputable def idxN (l : (List Written)) (f : C51) : Option Int :=
  bnd (loopO (idxN_s5 l) 0) fun o36 =>
  match o36 with
  | .inl q59u0 => some q59u0
  | .inr () => idxN_j1
noncomputable def contN (l : (List Written)) (f : C51) : Option Bool :=
  bnd (idxN l f) fun x2 =>
  some (decide (0 ≤ x2))
noncomputable def isView_j6 (z2u9 : Int) (y50u3 : Int) : Option ((Int × Int) ⊕ ((Bool) ⊕ (Int))) :=
  grd (inI (z2u9 + 1)) (some (.inl (y50u3, (z2u9 + 1))))
noncomputable def isView_s5 (v : View) : (Int × Int) → Option ((Int × Int) ⊕ ((Bool) ⊕ (Int))) := fun (z2u3, z2u9) =>
  ifb (decide (z2u9 < (v.measures.length : Int))) (bnd (at? v.measures z2u9) fun x52 =>
  grd (inI (z2u3 + (x52.notes.length : Int))) (bnd (contN x52.notes (⟨⟩ : C51)) fun x57 =>
  ifb x57 (some (.inr (.inl false)))
  (isView_j6 z2u9 (z2u3 + (x52.notes.length : Int)))))
  (some (.inr (.inr z2u3)))
noncomputable def isView_r7 (v : View) (y3u3 : Int) : Option Bool :=
  (ifb (decide ((v.measures.length : Int) ≤ 4000)) (some (decide (y3u3 ≤ 20000))) (some false))
noncomputable def isView_j1 (v : View) (y3u3 : Int) : Option Bool :=
  bnd (isView_r7 v y3u3) fun y68u2 =>
  some y68u2
noncomputable def isView (v : View) : Option Bool :=
  bnd (loopO (isView_s5 v) (0, 0)) fun o41 =>
  match o41 with
  | .inl q66u0 => some q66u0
  | .inr q67u3 => isView_j1 v q67u3
noncomputable def desk11_r1 (w : Written) (n : (Bx Int)) : Option Bool :=
  (ifb (decide (w.voice = 0)) (some true) (some (decide (w.voice = n.v))))
noncomputable def desk11 (w : Written) (n : (Bx Int)) : Option Bool :=
  bnd (desk11_r1 w n) fun y2u3 =>
  some y2u3
structure C34 where
  v0 : (Bx Int)
instance : Enc C34 := ⟨fun c => .clo 34 [enc c.v0], fun d => match d with | .clo _ [a0] => ⟨dec a0⟩ | _ => ⟨dec D.nilp⟩, 1, fun c => by simp only [dec_enc], fun _ => rfl, by simp [D.cells, D.one]⟩
theorem enc_C34 (c : C34) : (enc c : D) = .clo 34 [enc c.v0] := rfl
theorem dec_C34 (g : FuncId) (a0 : D) : (dec (.clo g [a0]) : C34) = ⟨dec a0⟩ := rfl
theorem size_C34 : size C34 = 1 := rfl
theorem eta_C34 (c : C34) : (⟨c.v0⟩ : C34) = c := rfl
noncomputable def desk1 (m : Measure) (n : (Bx Int)) : Option C34 :=
  some (⟨n⟩ : C34)
noncomputable def keepD (w : Written) (is : (Bx C34)) : Option Bool :=
  bnd (desk11 w is.v.v0) fun x2 =>
  some (!x2)
structure C63_34 where
  v0 : (Bx C34)
instance : Enc C63_34 := ⟨fun c => .clo 63 [enc c.v0], fun d => match d with | .clo _ [a0] => ⟨dec a0⟩ | _ => ⟨dec D.nilp⟩, 1, fun c => by simp only [dec_enc], fun _ => rfl, by simp [D.cells, D.one]⟩
theorem enc_C63_34 (c : C63_34) : (enc c : D) = .clo 63 [enc c.v0] := rfl
theorem dec_C63_34 (g : FuncId) (a0 : D) : (dec (.clo g [a0]) : C63_34) = ⟨dec a0⟩ := rfl
theorem size_C63_34 : size C63_34 = 1 := rfl
theorem eta_C63_34 (c : C63_34) : (⟨c.v0⟩ : C63_34) = c := rfl
noncomputable def kept1D (m : Measure) (h : (Bx C33)) : Option Measure :=
  bnd (desk1 m h.v.v0) fun x2 =>
  grd ((m.notes : List Written).length * 80 ≤ 140737488355328) (grd ((m.notes : (List Written)).length ≤ 9223372036854775807) (bnd (delO (fun x => keepD x ((⟨(⟨x2⟩ : (Bx C34))⟩ : C63_34).v0)) m.notes) fun x6 =>
  some (⟨m.bar, m.key, m.length, x6⟩ : Measure)))
noncomputable def eachD_j6 (z2u10 : Int) (y44u5 : (List Measure)) : Option (((List Measure) × Int) ⊕ (((List Measure)))) :=
  grd (inI (z2u10 + 1)) (some (.inl (y44u5, (z2u10 + 1))))
noncomputable def eachD_s5 (l : (List Measure)) (f : C60_33) : ((List Measure) × Int) → Option (((List Measure) × Int) ⊕ (((List Measure)))) := fun (z2u5, z2u10) =>
  ifb (decide (z2u10 < (l.length : Int))) (bnd (at? l z2u10) fun x46 =>
  bnd (kept1D x46 f.v0) fun x49 =>
  grd (((z2u5 ++ [x49]) : List Measure).length * 56 ≤ 140737488355328) (eachD_j6 z2u10 (z2u5 ++ [x49])))
  (some (.inr z2u5))
noncomputable def eachD_j1 (y3u5 : (List Measure)) : Option (List Measure) :=
  some y3u5
noncomputable def eachD (l : (List Measure)) (f : C60_33) : Option (List Measure) :=
  bnd (loopO (eachD_s5 l f) ([], 0)) fun q56u5 =>
  eachD_j1 q56u5
noncomputable def keptD (v : View) (h : C33) : Option View :=
  bnd (eachD v.measures (⟨(⟨h⟩ : (Bx C33))⟩ : C60_33)) fun x2 =>
  some (⟨v.part, x2⟩ : View)
noncomputable def pDesk_r1 (v : View) (n : Int) : Option Bool :=
  (bnd (isView v) fun x3 =>
  ifb (!x3) (some true) (ifb (decide (n < 0)) (some true) (some (decide (9 < n)))))
noncomputable def pDesk (v : View) (n : Int) : Option (View × Int) :=
  bnd (pDesk_r1 v n) fun y5u16 =>
  ifb y5u16 (some ((⟨0, []⟩ : View), 1))
  (bnd (keptD v (⟨(⟨n⟩ : (Bx Int))⟩ : C33)) fun x15 =>
  some (x15, 0))
section
variable [Onn]
attribute [local simp] enc_C51 dec_C51 size_C51 eta_C51 enc_C69 dec_C69 size_C69 eta_C69 enc_C33 dec_C33 size_C33 eta_C33 enc_C60_33 dec_C60_33 size_C60_33 eta_C60_33 enc_C34 dec_C34 size_C34 eta_C34 enc_C63_34 dec_C63_34 size_C63_34 eta_C63_34 envD fDel cloneR delR Low AO.lows T.lows T.low1 AO.isFrame
noncomputable def sp66_idxN : Eva.Spec := specO2 fun (l : (List Written)) (f : C51) => (idxN l f).map fun r => enc r
theorem ok66_idxN : SpecOk Tryz.prog 66 sp66_idxN := by
 have hV : VOk Tryz.prog (env [(51, sp51)]) := env_ok ⟨ok51, trivial⟩
 refine SpecOk.ofO2 (Enters.of Tryz.func66 (by decide)) fun l f rr hr => ?_
 obtain ⟨r, hg, rfl⟩ := mpj hr; clear hr
 refine PureCon.ofN hV Tryz.func66 rfl Tryz.ntmps66 fun R hR w0 I0 Q hQ => ?_
 unfold idxN at hg
 refine AWp.rS hV none [0, 1] fun K k1 => ?_
 simp; repeat refine ai ?_
 refine kc [se 0 l, se 1 f] [] (k1 _ ?_)
 refine AWp.seqJ (fun s' => idxN_j1 = some r ∧ Sub s' ⟨[], []⟩) (fun _ k3 => ?_) ?_
 ·refine AWp.rS hV none [0, 1, 7, 8] fun K k4 => ?_
  simp; repeat refine ai ?_
  refine kc [se 0 l, se 1 f, se 7 ((l.length : Int) : Int), se 8 (0 : Int)] [] (k4 _ ?_)
  refine AWp.block ?_
  obtain ⟨o36, hl37, hq38⟩ := bnd_some hg; clear hg
  refine AWp.loopO (fun (z2u8 : Int) => ⟨[se 0 l, se 1 f, se 7 ((l.length : Int) : Int), se 8 z2u8], []⟩) (idxN_s5 l) 0 hl37 ?_ fun z2u8 w41 _ hg hx40 k5 => ?_
  ·exact Sub.rm []
  unfold idxN_s5 at hg; try dsimp only at hg
  show AWp _ _ _ _ _ ⟨[se 0 l, se 1 f, se 7 ((l.length : Int) : Int), se 8 z2u8], []⟩ _
  refine AWp.rS hV none [0, 1, 7, 8, 9] fun K k42 => ?_
  simp; repeat refine ai ?_
  refine kc [se 0 l, se 1 f, se 7 ((l.length : Int) : Int), se 8 z2u8, se 9 (decide (z2u8 < (l.length : Int)))] [] (k42 _ ?_)
  refine AWp.seqG fun _ k43 => ?_
  refine AWp.cnd hg rfl ?_ ?_ <;> (clear hg; intro h44 hg)
  ·refine AWp.skip ?_
   refine k43 _ ?_
   refine AWp.seqJ (fun s' => idxN_j6 z2u8 = some w41 ∧ Sub s' ⟨[se 0 l, se 1 f, se 7 ((l.length : Int) : Int), se 8 z2u8], []⟩) (fun _ k46 => ?_) ?_
   ·refine AWp.block ?_
    refine AWp.rS hV none [0, 1, 5, 7, 8] fun K k47 => ?_
    simp; repeat refine ai ?_
    refine kc [se 0 l, se 1 f, se 5 z2u8, se 7 ((l.length : Int) : Int), se 8 z2u8] [] (k47 _ ?_)
    obtain ⟨x48, h49, hg⟩ := bnd_some hg
    obtain ⟨h49a, h49b, h49f⟩ := at_e h49; have h49g := h49f; try simp at h49g
    obtain ⟨x50, h51, hg⟩ := bnd_some hg
    refine AWp.rS hV none [0, 1, 5, 7, 8, 16] fun K k52 => ?_
    simp [sp51, h49f, h49g, h51]; repeat refine ai ?_
    refine kd [se 0 l, se 1 f, se 5 z2u8, se 7 ((l.length : Int) : Int), se 8 z2u8, se 16 x50] [] (by first | rfl | (simp [sp51, h49f, h49g, h51] <;> grind)) (k52 _ ?_)
    refine AWp.cnd hg rfl ?_ ?_ <;> (clear hg; intro h53 hg)
    ·refine AWp.rS hV none [4] fun K k54 => ?_
     simp; repeat refine ai ?_
     refine kc [se 4 z2u8] [] (k54 _ ?_)
     refine AWp.ret ?_
     cases hx40 _ (oij hg).symm; have hg := hq38; try dsimp only at hg
     cases hg; exact hQ _ _ (.inl rfl) rt
    ·refine AWp.skip ?_
     exact k46 _ ⟨hg, Sub.rm []⟩
   ·rintro s' ⟨hg, hs⟩
    unfold idxN_j6 at hg
    refine AWp.sub hs ?_
    obtain ⟨g56, hg⟩ := grd_some hg
    unfold inI at g56
    refine AWp.regF hV none [0, 1, 7, 8] fun K k57 => ?_
    simp; repeat refine ai ?_
    refine kc [se 0 l, se 1 f, se 7 ((l.length : Int) : Int), se 8 ((z2u8 + 1) : Int)] [] (k57 _ ?_)
    exact k5 _ _ (oij hg).symm (Sub.rm [])
  ·refine AWp.exit ?_
   cases hx40 _ (oij hg).symm; have hg := hq38; try dsimp only at hg
   exact k3 _ ⟨hg, Sub.rm []⟩
 ·rintro s' ⟨hg, hs⟩
  unfold idxN_j1 at hg
  refine AWp.sub hs ?_
  refine AWp.rS hV none [4] fun K k61 => ?_
  simp; repeat refine ai ?_
  refine kc [se 4 ((-1) : Int)] [] (k61 _ ?_)
  refine AWp.ret ?_
  cases hg; exact hQ _ _ (.inl rfl) rt
noncomputable def sp38_contN : Eva.Spec := specO2 fun (l : (List Written)) (f : C51) => (contN l f).map fun r => enc r
theorem ok38_contN : SpecOk Tryz.prog 38 sp38_contN := by
 have hV : VOk Tryz.prog (env [(66, sp66_idxN)]) := env_ok ⟨ok66_idxN, trivial⟩
 refine SpecOk.ofO2 (Enters.of Tryz.func38 (by decide)) fun l f rr hr => ?_
 obtain ⟨r, hg, rfl⟩ := mpj hr; clear hr
 refine PureCon.ofN hV Tryz.func38 rfl Tryz.ntmps38 fun R hR w0 I0 Q hQ => ?_
 unfold contN at hg
 refine AWp.rS hV none [0, 1] fun K k1 => ?_
 simp; repeat refine ai ?_
 refine kc [se 0 l, se 1 f] [] (k1 _ ?_)
 obtain ⟨x2, h3, hg⟩ := bnd_some hg
 refine AWp.rS hV none [4] fun K k4 => ?_
 simp [sp66_idxN, h3]; repeat refine ai ?_
 refine kd [se 4 (decide (0 ≤ x2))] [] (by first | rfl | (simp [sp66_idxN, h3] <;> grind)) (k4 _ ?_)
 refine AWp.ret ?_
 cases hg; exact hQ _ _ (.inl rfl) rt
noncomputable def sp26 : Eva.Spec := specO1 fun (v : View) => (isView v).map fun r => enc r
theorem ok26 : SpecOk Tryz.prog 26 sp26 := by
 have hV : VOk Tryz.prog (env [(38, sp38_contN)]) := env_ok ⟨ok38_contN, trivial⟩
 refine SpecOk.ofO1 (Enters.of Tryz.func26 (by decide)) fun v rr hr => ?_
 obtain ⟨r, hg, rfl⟩ := mpj hr; clear hr
 refine PureCon.ofN hV Tryz.func26 rfl Tryz.ntmps26 fun R hR w0 I0 Q hQ => ?_
 unfold isView at hg
 refine AWp.rS hV none [1] fun K k1 => ?_
 simp; repeat refine ai ?_
 refine kc [(1, .ptr 0 0)] [.w 24 v] (k1 _ ?_)
 refine AWp.rS hV none [1, 3] fun K k2 => ?_
 simp; repeat refine ai ?_
 refine kc [(1, .ptr 0 0), se 3 (0 : Int)] [.w 24 v] (k2 _ ?_)
 refine AWp.seqJ (fun s' => ∃ y3u3 : Int, isView_j1 v y3u3 = some r ∧ Sub s' ⟨[(1, .ptr 0 0), se 3 y3u3], [.w 24 v]⟩) (fun _ k4 => ?_) ?_
 ·refine AWp.rS hV none [1, 3, 7, 8, 9] fun K k5 => ?_
  simp; repeat refine ai ?_
  refine kc [(1, .ptr 0 0), se 3 (0 : Int), se 7 v.measures, se 8 ((v.measures.length : Int) : Int), se 9 (0 : Int)] [.w 24 v] (k5 _ ?_)
  refine AWp.block ?_
  obtain ⟨o41, hl42, hq43⟩ := bnd_some hg; clear hg
  refine AWp.loopO (fun ((z2u3, z2u9) : Int × Int) => ⟨[(1, .ptr 0 0), se 3 z2u3, se 7 v.measures, se 8 ((v.measures.length : Int) : Int), se 9 z2u9], [.w 24 v]⟩) (isView_s5 v) (0, 0) hl42 ?_ fun z44 w46 _ hg hx45 k6 => ?_
  ·exact Sub.rm [0]
  obtain ⟨z2u3, z2u9⟩ := z44
  unfold isView_s5 at hg; try dsimp only at hg
  show AWp _ _ _ _ _ ⟨[(1, .ptr 0 0), se 3 z2u3, se 7 v.measures, se 8 ((v.measures.length : Int) : Int), se 9 z2u9], [.w 24 v]⟩ _
  refine AWp.rS hV none [1, 3, 7, 8, 9, 10] fun K k47 => ?_
  simp; repeat refine ai ?_
  refine kc [(1, .ptr 0 0), se 3 z2u3, se 7 v.measures, se 8 ((v.measures.length : Int) : Int), se 9 z2u9, se 10 (decide (z2u9 < (v.measures.length : Int)))] [.w 24 v] (k47 _ ?_)
  refine AWp.seqG fun _ k48 => ?_
  refine AWp.cnd hg rfl ?_ ?_ <;> (clear hg; intro h49 hg)
  ·refine AWp.skip ?_
   refine k48 _ ?_
   refine AWp.seqJ (fun s' => ∃ y50u3 : Int, isView_j6 z2u9 y50u3 = some w46 ∧ Sub s' ⟨[(1, .ptr 0 0), se 3 y50u3, se 7 v.measures, se 8 ((v.measures.length : Int) : Int), se 9 z2u9], [.w 24 v]⟩) (fun _ k51 => ?_) ?_
   ·refine AWp.block ?_
    obtain ⟨x52, h53, hg⟩ := bnd_some hg
    obtain ⟨h53a, h53b, h53f⟩ := at_e h53; have h53g := h53f; try simp at h53g
    refine AWp.rS hV none [1, 3, 5, 7, 8, 9] fun K k54 => ?_
    simp [h53f, h53g]; repeat refine ai ?_
    refine kd [(1, .ptr 0 0), se 3 z2u3, (5, .ptr 1 0), se 7 v.measures, se 8 ((v.measures.length : Int) : Int), se 9 z2u9] [.w 24 v, .w 47 x52] (by first | rfl | (simp [h53f, h53g] <;> grind)) (k54 _ ?_)
    obtain ⟨g55, hg⟩ := grd_some hg
    unfold inI at g55
    refine AWp.rS hV none [1, 3, 5, 7, 8, 9] fun K k56 => ?_
    simp; repeat refine ai ?_
    refine kc [(1, .ptr 0 0), se 3 ((z2u3 + (x52.notes.length : Int)) : Int), (5, .ptr 1 0), se 7 v.measures, se 8 ((v.measures.length : Int) : Int), se 9 z2u9] [.w 24 v, .w 47 x52] (k56 _ ?_)
    obtain ⟨x57, h58, hg⟩ := bnd_some hg
    have h58g := h58; try simp at h58g
    refine AWp.rS hV none [1, 3, 7, 8, 9, 20] fun K k59 => ?_
    simp [sp38_contN, h58, h58g]; repeat refine ai ?_
    refine kd [(1, .ptr 0 0), se 3 ((z2u3 + (x52.notes.length : Int)) : Int), se 7 v.measures, se 8 ((v.measures.length : Int) : Int), se 9 z2u9, se 20 x57] [.w 24 v, .w 47 x52] (by first | rfl | (simp [sp38_contN, h58, h58g] <;> grind)) (k59 _ ?_)
    refine AWp.cnd hg rfl ?_ ?_ <;> (clear hg; intro h60 hg)
    ·refine AWp.rS hV none [2] fun K k61 => ?_
     simp; repeat refine ai ?_
     refine kc [se 2 false] [.w 24 v, .w 47 x52] (k61 _ ?_)
     refine AWp.ret ?_
     cases hx45 _ (oij hg).symm; have hg := hq43; try dsimp only at hg
     cases hg; exact hQ _ _ (.inl rfl) rt
    ·refine AWp.skip ?_
     exact k51 _ ⟨_, hg, Sub.rm [0]⟩
   ·rintro s' ⟨y50u3, hg, hs⟩
    unfold isView_j6 at hg
    refine AWp.sub hs ?_
    obtain ⟨g63, hg⟩ := grd_some hg
    unfold inI at g63
    refine AWp.regF hV none [1, 3, 7, 8, 9] fun K k64 => ?_
    simp; repeat refine ai ?_
    refine kc [(1, .ptr 0 0), se 3 y50u3, se 7 v.measures, se 8 ((v.measures.length : Int) : Int), se 9 ((z2u9 + 1) : Int)] [.w 24 v] (k64 _ ?_)
    exact k6 _ _ (oij hg).symm (Sub.rm [0])
  ·refine AWp.exit ?_
   cases hx45 _ (oij hg).symm; have hg := hq43; try dsimp only at hg
   exact k4 _ ⟨_, hg, Sub.rm [0]⟩
 ·rintro s' ⟨y3u3, hg, hs⟩
  unfold isView_j1 at hg
  refine AWp.sub hs ?_
  obtain ⟨y68u2, hx69, hg⟩ := bnd_some hg
  unfold isView_r7 at hx69
  refine AWp.seqJ (fun s' => Sub s' ⟨[se 2 y68u2], []⟩) (fun _ k70 => ?_) ?_
  ·rcases ifb_o hx69 with ⟨c71, hx69⟩ | ⟨c71, hx69⟩
   ·have c71g := c71; try simp at c71g
    refine AWp.regF hV (some []) [2] fun K k72 => ?_
    simp [c71, c71g]; repeat refine ai ?_
    cases hx69; exact k72 _ (k70 _ (Sub.rm []))
   ·have c71g := c71; try simp at c71g
    refine AWp.regF hV (some [27, 28]) [2] fun K k73 => ?_
    simp [c71, c71g]; repeat refine ai ?_
    cases hx69; exact k73 _ (k70 _ (Sub.rm []))
  ·intro s' hs
   refine AWp.sub hs ?_
   clear hs s'
   refine AWp.ret ?_
   cases hg; exact hQ _ _ (.inl rfl) rt
noncomputable def sp34_desk11 : Eva.Spec := specO2 fun (w : Written) (n : (Bx Int)) => (desk11 w n).map fun r => enc r
theorem ok34_desk11 : SpecOk Tryz.prog 34 sp34_desk11 := by
 have hV : VOk Tryz.prog (env []) := env_ok trivial
 refine SpecOk.ofO2 (Enters.of Tryz.func34 (by decide)) fun w n rr hr => ?_
 obtain ⟨r, hg, rfl⟩ := mpj hr; clear hr
 refine PureCon.ofN hV Tryz.func34 rfl Tryz.ntmps34 fun R hR w0 I0 Q hQ => ?_
 unfold desk11 at hg
 refine AWp.rS hV none [1, 2] fun K k1 => ?_
 simp; repeat refine ai ?_
 refine kc [se 1 n, (2, .ptr 0 0)] [.w 51 w] (k1 _ ?_)
 obtain ⟨y2u3, hx3, hg⟩ := bnd_some hg
 unfold desk11_r1 at hx3
 refine AWp.seqJ (fun s' => Sub s' ⟨[se 3 y2u3], []⟩) (fun _ k4 => ?_) ?_
 ·rcases ifb_o hx3 with ⟨c5, hx3⟩ | ⟨c5, hx3⟩
  ·have c5g := c5; try simp at c5g
   refine AWp.regF hV (some [8, 9, 10, 11]) [3] fun K k6 => ?_
   simp [c5, c5g]; repeat refine ai ?_
   cases hx3; exact k6 _ (k4 _ (Sub.rm []))
  ·have c5g := c5; try simp at c5g
   refine AWp.regF hV (some []) [3] fun K k7 => ?_
   simp [c5, c5g]; repeat refine ai ?_
   cases hx3; exact k7 _ (k4 _ (Sub.rm []))
 ·intro s' hs
  refine AWp.sub hs ?_
  clear hs s'
  refine AWp.ret ?_
  cases hg; exact hQ _ _ (.inl rfl) rt
noncomputable def sp33_desk1 : Eva.Spec := specO2 fun (m : Measure) (n : (Bx Int)) => (desk1 m n).map fun r => enc r
theorem ok33_desk1 : SpecOk Tryz.prog 33 sp33_desk1 := by
 have hV : VOk Tryz.prog (env []) := env_ok trivial
 refine SpecOk.ofO2 (Enters.of Tryz.func33 (by decide)) fun m n rr hr => ?_
 obtain ⟨r, hg, rfl⟩ := mpj hr; clear hr
 refine PureCon.ofN hV Tryz.func33 rfl Tryz.ntmps33 fun R hR w0 I0 Q hQ => ?_
 unfold desk1 at hg
 refine AWp.rS hV none [1] fun K k1 => ?_
 simp; repeat refine ai ?_
 refine kc [se 1 n] [.w 47 m] (k1 _ ?_)
 refine AWp.rS hV none [3] fun K k2 => ?_
 simp; repeat refine ai ?_
 refine kc [se 3 (⟨n⟩ : C34)] [.w 47 m] (k2 _ ?_)
 refine AWp.ret ?_
 cases hg; exact hQ _ _ (.inl rfl) rt
noncomputable def sp63_keepD : Eva.Spec := specO2 fun (w : Written) (is : (Bx C34)) => (keepD w is).map fun r => enc r
theorem ok63_keepD : SpecOk Tryz.prog 63 sp63_keepD := by
 have hV : VOk Tryz.prog (env [(34, sp34_desk11)]) := env_ok ⟨ok34_desk11, trivial⟩
 refine SpecOk.ofO2 (Enters.of Tryz.func63 (by decide)) fun w is rr hr => ?_
 obtain ⟨r, hg, rfl⟩ := mpj hr; clear hr
 refine PureCon.ofN hV Tryz.func63 rfl Tryz.ntmps63 fun R hR w0 I0 Q hQ => ?_
 unfold keepD at hg
 refine AWp.rS hV none [1, 2] fun K k1 => ?_
 simp; repeat refine ai ?_
 refine kc [se 1 is, (2, .ptr 0 0)] [.w 51 w] (k1 _ ?_)
 obtain ⟨x2, h3, hg⟩ := bnd_some hg
 refine AWp.rS hV none [3] fun K k4 => ?_
 simp [sp34_desk11, h3]; repeat refine ai ?_
 refine kd [se 3 (!x2)] [.w 51 w] (by first | rfl | (simp [sp34_desk11, h3] <;> grind)) (k4 _ ?_)
 refine AWp.ret ?_
 cases hg; exact hQ _ _ (.inl rfl) rt
noncomputable def sp60_kept1D : Eva.Spec := specO2 fun (m : Measure) (h : (Bx C33)) => (kept1D m h).map fun r => enc r
theorem ok60_kept1D : SpecOk Tryz.prog 60 sp60_kept1D := by
 have hV : VOk Tryz.prog (envD 63 sp63_keepD [(33, sp33_desk1)]) := envD_ok ok63_keepD ⟨ok33_desk1, trivial⟩
 refine SpecOk.ofO2 (Enters.of Tryz.func60 (by decide)) fun m h rr hr => ?_
 obtain ⟨r, hg, rfl⟩ := mpj hr; clear hr
 refine PureCon.ofN hV Tryz.func60 rfl Tryz.ntmps60 fun R hR w0 I0 Q hQ => ?_
 unfold kept1D at hg
 refine AWp.rS hV none [1, 2, 3] fun K k1 => ?_
 simp; repeat refine ai ?_
 refine kc [se 1 h, (2, .ptr 0 0), (3, .ptr 1 0)] [.w 47 m, .var 47 [.d (enc (0 : Int)), .d (enc (0 : Int)), .d (enc ((⟨0, 0⟩ : Rat).n : Int)), .d (enc ((⟨0, 0⟩ : Rat).d : Int)), .nils 10]] (k1 _ ?_)
 obtain ⟨x2, h3, hg⟩ := bnd_some hg
 refine AWp.rS hV none [2, 3, 4] fun K k4 => ?_
 simp [sp33_desk1, h3]; repeat refine ai ?_
 refine kd [(2, .ptr 0 0), (3, .ptr 1 0), (4, .ptr 2 0)] [.w 47 m, .var 47 [.d (enc (0 : Int)), .d (enc (0 : Int)), .d (enc ((⟨0, 0⟩ : Rat).n : Int)), .d (enc ((⟨0, 0⟩ : Rat).d : Int)), .nils 10], .w 64 x2] (by first | rfl | (simp [sp33_desk1, h3] <;> grind)) (k4 _ ?_)
 refine AWp.sub (s' := ⟨[se 4 ((⟨x2⟩ : (Bx C34)) : (Bx C34)), (2, .ptr 0 0), (3, .ptr 1 0)], [.w 47 m, .var 47 [.d (enc (0 : Int)), .d (enc (0 : Int)), .d (enc ((⟨0, 0⟩ : Rat).n : Int)), .d (enc ((⟨0, 0⟩ : Rat).d : Int)), .nils 10]]⟩) (Sub.fz 4 2 x2 [0, 1]) ?_
 obtain ⟨g5, hg⟩ := grd_some hg
 obtain ⟨g7, hg⟩ := grd_some hg
 obtain ⟨x6, h8, hg⟩ := bnd_some hg
 obtain ⟨h8a, h8b⟩ := delO_some (s := sp63_keepD) (caps := [enc ((⟨(⟨x2⟩ : (Bx C34))⟩ : C63_34).v0 : (Bx C34))]) h8 (fun x b hb => spec2_bool hb)
 have h8ag := h8a
 try simp at h8ag
 have h8bg := h8b
 try simp at h8bg
 refine AWp.rS hV none [2, 3] fun K k9 => ?_
 simp [h8a, h8ag, h8b, h8bg]; repeat refine ai ?_
 refine kd [(2, .ptr 0 0), (3, .ptr 1 0)] [.var 47 [.d (enc (m.bar : Int)), .d (enc (m.key : Int)), .d (enc (m.length.n : Int)), .d (enc (m.length.d : Int)), .row 4], .var 47 [.d (enc (0 : Int)), .d (enc (0 : Int)), .d (enc ((⟨0, 0⟩ : Rat).n : Int)), .d (enc ((⟨0, 0⟩ : Rat).d : Int)), .nils 10], .dead, .dead, .ro 51 10 x6] (by first | rfl | (simp [h8a, h8ag, h8b, h8bg] <;> grind)) (k9 _ ?_)
 refine AWp.rS hV none [3] fun K k10 => ?_
 simp; repeat refine ai ?_
 refine kc [(3, .ptr 1 0)] [.var 47 [.d (enc (m.bar : Int)), .d (enc (m.key : Int)), .d (enc (m.length.n : Int)), .d (enc (m.length.d : Int)), .row 4], .var 47 [.d (enc (m.bar : Int)), .d (enc (m.key : Int)), .d (enc (m.length.n : Int)), .d (enc (m.length.d : Int)), .row 4], .dead, .dead, .ro 51 10 x6] (k10 _ ?_)
 refine AWp.ret ?_
 cases hg; exact hQ _ _ (.inl rfl) rt
noncomputable def sp59_eachD : Eva.Spec := specO2 fun (l : (List Measure)) (f : C60_33) => (eachD l f).map fun r => enc r
theorem ok59_eachD : SpecOk Tryz.prog 59 sp59_eachD := by
 have hV : VOk Tryz.prog (env [(60, sp60_kept1D)]) := env_ok ⟨ok60_kept1D, trivial⟩
 refine SpecOk.ofO2 (Enters.of Tryz.func59 (by decide)) fun l f rr hr => ?_
 obtain ⟨r, hg, rfl⟩ := mpj hr; clear hr
 refine PureCon.ofN hV Tryz.func59 rfl Tryz.ntmps59 fun R hR w0 I0 Q hQ => ?_
 unfold eachD at hg
 refine AWp.rS hV none [0, 1] fun K k1 => ?_
 simp; repeat refine ai ?_
 refine kc [se 0 l, se 1 f] [] (k1 _ ?_)
 refine AWp.rS hV none [0, 1, 5] fun K k2 => ?_
 simp; repeat refine ai ?_
 refine kc [se 0 l, se 1 f, (5, .nils 5)] [] (k2 _ ?_)
 refine AWp.seqJ (fun s' => ∃ y3u5 : (List Measure), eachD_j1 y3u5 = some r ∧ Sub s' ⟨[(5, .row 0)], [.ro 47 5 y3u5]⟩) (fun _ k4 => ?_) ?_
 ·refine AWp.rS hV none [1, 5, 8, 9, 10] fun K k5 => ?_
  simp; repeat refine ai ?_
  refine kc [se 1 f, (5, .nils 5), se 8 l, se 9 ((l.length : Int) : Int), se 10 (0 : Int)] [] (k5 _ ?_)
  refine AWp.block ?_
  obtain ⟨o35, hl36, hq37⟩ := bnd_some hg; clear hg
  refine AWp.loopO (fun ((z2u5, z2u10) : (List Measure) × Int) => ⟨[se 1 f, (5, .row 0), se 8 l, se 9 ((l.length : Int) : Int), se 10 z2u10], [.ro 47 5 z2u5]⟩) (eachD_s5 l f) ([], 0) hl36 ?_ fun z38 w40 _ hg hx39 k6 => ?_
  ·exact Sub.trans (Sub.adopt 5 47 5 rfl) (Sub.rm [0])
  obtain ⟨z2u5, z2u10⟩ := z38
  unfold eachD_s5 at hg; try dsimp only at hg
  show AWp _ _ _ _ _ ⟨[se 1 f, (5, .row 0), se 8 l, se 9 ((l.length : Int) : Int), se 10 z2u10], [.ro 47 5 z2u5]⟩ _
  refine AWp.rS hV none [1, 5, 8, 9, 10, 11] fun K k41 => ?_
  simp; repeat refine ai ?_
  refine kc [se 1 f, (5, .row 0), se 8 l, se 9 ((l.length : Int) : Int), se 10 z2u10, se 11 (decide (z2u10 < (l.length : Int)))] [.ro 47 5 z2u5] (k41 _ ?_)
  refine AWp.seqG fun _ k42 => ?_
  refine AWp.cnd hg rfl ?_ ?_ <;> (clear hg; intro h43 hg)
  ·refine AWp.skip ?_
   refine k42 _ ?_
   refine AWp.seqJ (fun s' => ∃ y44u5 : (List Measure), eachD_j6 z2u10 y44u5 = some w40 ∧ Sub s' ⟨[se 1 f, (5, .row 0), se 8 l, se 9 ((l.length : Int) : Int), se 10 z2u10], [.ro 47 5 y44u5]⟩) (fun _ k45 => ?_) ?_
   ·refine AWp.block ?_
    obtain ⟨x46, h47, hg⟩ := bnd_some hg
    obtain ⟨h47a, h47b, h47f⟩ := at_e h47; have h47g := h47f; try simp at h47g
    refine AWp.rS hV none [1, 5, 7, 8, 9, 10] fun K k48 => ?_
    simp [h47f, h47g]; repeat refine ai ?_
    refine kd [se 1 f, (5, .row 0), (7, .ptr 1 0), se 8 l, se 9 ((l.length : Int) : Int), se 10 z2u10] [.ro 47 5 z2u5, .w 47 x46] (by first | rfl | (simp [h47f, h47g] <;> grind)) (k48 _ ?_)
    obtain ⟨x49, h50, hg⟩ := bnd_some hg
    obtain ⟨g51, hg⟩ := grd_some hg
    refine AWp.regF hV none [1, 5, 8, 9, 10] fun K k52 => ?_
    simp [sp60_kept1D, h50]; repeat refine ai ?_
    refine kd [se 1 f, (5, .row 2), se 8 l, se 9 ((l.length : Int) : Int), se 10 z2u10] [.dead, .w 47 x46, .ro 47 5 ((z2u5 ++ [x49]) : List Measure)] (by first | rfl | (simp [sp60_kept1D, h50] <;> grind)) (k52 _ ?_)
    exact k45 _ ⟨_, hg, Sub.rm [2]⟩
   ·rintro s' ⟨y44u5, hg, hs⟩
    unfold eachD_j6 at hg
    refine AWp.sub hs ?_
    obtain ⟨g53, hg⟩ := grd_some hg
    unfold inI at g53
    refine AWp.regF hV none [1, 5, 8, 9, 10] fun K k54 => ?_
    simp; repeat refine ai ?_
    refine kc [se 1 f, (5, .row 0), se 8 l, se 9 ((l.length : Int) : Int), se 10 ((z2u10 + 1) : Int)] [.ro 47 5 y44u5] (k54 _ ?_)
    exact k6 _ _ (oij hg).symm (Sub.rm [0])
  ·refine AWp.exit ?_
   cases hx39 _ (oij hg).symm; have hg := hq37; try dsimp only at hg
   exact k4 _ ⟨_, hg, Sub.rm [0]⟩
 ·rintro s' ⟨y3u5, hg, hs⟩
  unfold eachD_j1 at hg
  refine AWp.sub hs ?_
  refine AWp.rS hV none [4] fun K k57 => ?_
  simp; repeat refine ai ?_
  refine kc [(4, .row 0)] [.ro 47 5 y3u5] (k57 _ ?_)
  refine AWp.ret ?_
  cases hg; exact hQ _ _ (.inl rfl) rt
noncomputable def sp32_keptD : Eva.Spec := specO2 fun (v : View) (h : C33) => (keptD v h).map fun r => enc r
theorem ok32_keptD : SpecOk Tryz.prog 32 sp32_keptD := by
 have hV : VOk Tryz.prog (env [(59, sp59_eachD)]) := env_ok ⟨ok59_eachD, trivial⟩
 refine SpecOk.ofO2 (Enters.of Tryz.func32 (by decide)) fun v h rr hr => ?_
 obtain ⟨r, hg, rfl⟩ := mpj hr; clear hr
 refine PureCon.ofN hV Tryz.func32 rfl Tryz.ntmps32 fun R hR w0 I0 Q hQ => ?_
 unfold keptD at hg
 refine AWp.rS hV none [2, 3, 4] fun K k1 => ?_
 simp; repeat refine ai ?_
 refine kc [(2, .ptr 0 0), (3, .ptr 1 0), (4, .ptr 2 0)] [.w 24 v, .w 65 h, .var 24 [.d (enc (0 : Int)), .nils 5]] (k1 _ ?_)
 refine AWp.sub (s' := ⟨[se 3 ((⟨h⟩ : (Bx C33)) : (Bx C33)), (2, .ptr 0 0), (4, .ptr 1 0)], [.w 24 v, .var 24 [.d (enc (0 : Int)), .nils 5]]⟩) (Sub.fz 3 1 h [0, 2]) ?_
 obtain ⟨x2, h3, hg⟩ := bnd_some hg
 have h3g := h3; try simp at h3g
 refine AWp.rDF hV mixed none 6 [] [4] (by decide) fun K k4 => ?_
 simp [sp59_eachD, h3, h3g]; repeat refine ai ?_
 refine kd [(4, .ptr 1 0)] [.w 24 v, .w 24 (⟨v.part, x2⟩ : View)] (by first | rfl | (simp [sp59_eachD, h3, h3g] <;> grind)) (k4 _ ?_)
 refine AWp.ret ?_
 cases hg; exact hQ _ _ (.inl rfl) rt
noncomputable def sp15 : Eva.Spec := specO2 fun (v : View) (n : Int) => (pDesk v n).map fun r => .tup [enc r.1, enc r.2]
theorem ok15 : SpecOk Tryz.prog 15 sp15 := by
 have hV : VOk Tryz.prog (env [(26, sp26), (32, sp32_keptD)]) := env_ok ⟨ok26, ok32_keptD, trivial⟩
 refine SpecOk.ofO2 (Enters.of Tryz.func15 (by decide)) fun v n rr hr => ?_
 obtain ⟨r, hg, rfl⟩ := mpj hr; clear hr
 refine PureCon.ofN hV Tryz.func15 rfl Tryz.ntmps15 fun R hR w0 I0 Q hQ => ?_
 unfold pDesk at hg
 refine AWp.rS hV none [2, 3, 4] fun K k1 => ?_
 simp; repeat refine ai ?_
 refine kc [(2, .ptr 0 0), (3, .ptr 1 0), (4, .ptr 2 0)] [.w 24 v, .w 3 n, .var 24 [.d (enc (0 : Int)), .nils 5]] (k1 _ ?_)
 refine AWp.seqG fun _ k2 => ?_
 obtain ⟨y5u16, hx6, hg⟩ := bnd_some hg
 unfold pDesk_r1 at hx6
 refine AWp.seqJ (fun s' => Sub s' ⟨[(2, .ptr 0 0), (3, .ptr 1 0), (4, .ptr 2 0), se 16 y5u16], [.w 24 v, .w 3 n, .var 24 [.d (enc (0 : Int)), .nils 5]]⟩) (fun _ k7 => ?_) ?_
 ·obtain ⟨x3, h4, hx6⟩ := bnd_some hx6
  rcases ifb_o hx6 with ⟨c8, hx6⟩ | ⟨c8, hx6⟩
  ·have c8g := c8; try simp at c8g
   refine AWp.regF hV (some [10, 11, 14, 15]) [2, 3, 4, 16] fun K k9 => ?_
   simp [sp26, h4, c8, c8g]; repeat refine ai ?_
   cases hx6; exact k9 _ (k7 _ (Sub.rm [0, 1, 2]))
  ·have c8g := c8; try simp at c8g
   rcases ifb_o hx6 with ⟨c10, hx6⟩ | ⟨c10, hx6⟩
   ·have c10g := c10; try simp at c10g
    refine AWp.regF hV (some [14, 15]) [2, 3, 4, 16] fun K k11 => ?_
    simp [sp26, h4, c8, c8g, c10, c10g]; repeat refine ai ?_
    cases hx6; exact k11 _ (k7 _ (Sub.rm [0, 1, 2]))
   ·have c10g := c10; try simp at c10g
    refine AWp.regF hV (some []) [2, 3, 4, 16] fun K k12 => ?_
    simp [sp26, h4, c8, c8g, c10, c10g]; repeat refine ai ?_
    cases hx6; exact k12 _ (k7 _ (Sub.rm [0, 1, 2]))
 ·intro s' hs
  refine AWp.sub hs ?_
  clear hs s'
  refine AWp.cnd hg rfl ?_ ?_ <;> (clear hg; intro h13 hg)
  ·refine AWp.rS hV none [4, 5] fun K k14 => ?_
   simp; repeat refine ai ?_
   refine kc [(4, .ptr 2 0), se 5 (1 : Int)] [.w 24 v, .w 3 n, .var 24 [.d (enc (0 : Int)), .nils 5]] (k14 _ ?_)
   refine AWp.ret ?_
   cases hg; exact hQ _ _ (.inl rfl) rt
  ·refine AWp.skip ?_
   refine k2 _ ?_
   refine AWp.sub (s' := ⟨[se 3 ((⟨n⟩ : (Bx Int)) : (Bx Int)), (2, .ptr 0 0), (4, .ptr 1 0), se 16 y5u16], [.w 24 v, .var 24 [.d (enc (0 : Int)), .nils 5]]⟩) (Sub.fz 3 1 n [0, 2]) ?_
   obtain ⟨x15, h16, hg⟩ := bnd_some hg
   have h16g := h16; try simp at h16g
   refine AWp.rS hV none [4, 5] fun K k17 => ?_
   simp [sp32_keptD, h16, h16g]; repeat refine ai ?_
   refine kd [(4, .ptr 1 0), se 5 (0 : Int)] [.w 24 v, .w 24 x15] (by first | rfl | (simp [sp32_keptD, h16, h16g] <;> grind)) (k17 _ ?_)
   refine AWp.ret ?_
   cases hg; exact hQ _ _ (.inl rfl) rt
end
structure C39 where
  v0 : (Bx Int)
instance : Enc C39 := ⟨fun c => .clo 39 [enc c.v0], fun d => match d with | .clo _ [a0] => ⟨dec a0⟩ | _ => ⟨dec D.nilp⟩, 1, fun c => by simp only [dec_enc], fun _ => rfl, by simp [D.cells, D.one]⟩
theorem enc_C39 (c : C39) : (enc c : D) = .clo 39 [enc c.v0] := rfl
theorem dec_C39 (g : FuncId) (a0 : D) : (dec (.clo g [a0]) : C39) = ⟨dec a0⟩ := rfl
theorem size_C39 : size C39 = 1 := rfl
theorem eta_C39 (c : C39) : (⟨c.v0⟩ : C39) = c := rfl
structure C40 where
  v0 : (Bx Int)
instance : Enc C40 := ⟨fun c => .clo 40 [enc c.v0], fun d => match d with | .clo _ [a0] => ⟨dec a0⟩ | _ => ⟨dec D.nilp⟩, 1, fun c => by simp only [dec_enc], fun _ => rfl, by simp [D.cells, D.one]⟩
theorem enc_C40 (c : C40) : (enc c : D) = .clo 40 [enc c.v0] := rfl
theorem dec_C40 (g : FuncId) (a0 : D) : (dec (.clo g [a0]) : C40) = ⟨dec a0⟩ := rfl
theorem size_C40 : size C40 = 1 := rfl
theorem eta_C40 (c : C40) : (⟨c.v0⟩ : C40) = c := rfl
structure C65 where
  v0 : (Bx (List Int))
instance : Enc C65 := ⟨fun c => .clo 65 [enc c.v0], fun d => match d with | .clo _ [a0] => ⟨dec a0⟩ | _ => ⟨dec D.nilp⟩, 1, fun c => by simp only [dec_enc], fun _ => rfl, by simp [D.cells, D.one]⟩
theorem enc_C65 (c : C65) : (enc c : D) = .clo 65 [enc c.v0] := rfl
theorem dec_C65 (g : FuncId) (a0 : D) : (dec (.clo g [a0]) : C65) = ⟨dec a0⟩ := rfl
theorem size_C65 : size C65 = 1 := rfl
theorem eta_C65 (c : C65) : (⟨c.v0⟩ : C65) = c := rfl
structure C36 where
  v0 : (Bx (List Int))
instance : Enc C36 := ⟨fun c => .clo 36 [enc c.v0], fun d => match d with | .clo _ [a0] => ⟨dec a0⟩ | _ => ⟨dec D.nilp⟩, 1, fun c => by simp only [dec_enc], fun _ => rfl, by simp [D.cells, D.one]⟩
theorem enc_C36 (c : C36) : (enc c : D) = .clo 36 [enc c.v0] := rfl
theorem dec_C36 (g : FuncId) (a0 : D) : (dec (.clo g [a0]) : C36) = ⟨dec a0⟩ := rfl
theorem size_C36 : size C36 = 1 := rfl
theorem eta_C36 (c : C36) : (⟨c.v0⟩ : C36) = c := rfl
structure C60_36 where
  v0 : (Bx C36)
instance : Enc C60_36 := ⟨fun c => .clo 60 [enc c.v0], fun d => match d with | .clo _ [a0] => ⟨dec a0⟩ | _ => ⟨dec D.nilp⟩, 1, fun c => by simp only [dec_enc], fun _ => rfl, by simp [D.cells, D.one]⟩
theorem enc_C60_36 (c : C60_36) : (enc c : D) = .clo 60 [enc c.v0] := rfl
theorem dec_C60_36 (g : FuncId) (a0 : D) : (dec (.clo g [a0]) : C60_36) = ⟨dec a0⟩ := rfl
theorem size_C60_36 : size C60_36 = 1 := rfl
theorem eta_C60_36 (c : C60_36) : (⟨c.v0⟩ : C60_36) = c := rfl
noncomputable def backward (l : (List Int)) : Option C65 :=
  some (⟨(⟨l⟩ : (Bx (List Int)))⟩ : C65)
noncomputable def ossia11 (w : Written) (n : (Bx Int)) : Option Bool :=
  some (decide (w.ossia = n.v))
noncomputable def idxO_j6 (z2u8 : Int) : Option ((Int) ⊕ ((Int) ⊕ (Unit))) :=
  grd (inI (z2u8 + 1)) (some (.inl (z2u8 + 1)))
noncomputable def idxO_s5 (l : (List Written)) (f : C39) : Int → Option ((Int) ⊕ ((Int) ⊕ (Unit))) := fun (z2u8 : Int) =>
  ifb (decide (z2u8 < (l.length : Int))) (bnd (at? l z2u8) fun x48 =>
  bnd (ossia11 x48 f.v0) fun x50 =>
  ifb x50 (some (.inr (.inl z2u8)))
  (idxO_j6 z2u8))
  (some (.inr (.inr ())))
noncomputable def idxO_j1 : Option Int :=
  some (-1)
noncomputable def idxO (l : (List Written)) (f : C39) : Option Int :=
  bnd (loopO (idxO_s5 l f) 0) fun o36 =>
  match o36 with
  | .inl q59u0 => some q59u0
  | .inr () => idxO_j1
noncomputable def contO (l : (List Written)) (f : C39) : Option Bool :=
  bnd (idxO l f) fun x2 =>
  some (decide (0 ≤ x2))
noncomputable def ossia12 (w : Written) (n : (Bx Int)) : Option Bool :=
  some (decide (w.ossia = n.v))
section
variable [Onn]
attribute [local simp] enc_C51 dec_C51 size_C51 eta_C51 enc_C69 dec_C69 size_C69 eta_C69 enc_C33 dec_C33 size_C33 eta_C33 enc_C60_33 dec_C60_33 size_C60_33 eta_C60_33 enc_C34 dec_C34 size_C34 eta_C34 enc_C63_34 dec_C63_34 size_C63_34 eta_C63_34 enc_C39 dec_C39 size_C39 eta_C39 enc_C40 dec_C40 size_C40 eta_C40 enc_C65 dec_C65 size_C65 eta_C65 enc_C36 dec_C36 size_C36 eta_C36 enc_C60_36 dec_C60_36 size_C60_36 eta_C60_36 envD fDel cloneR delR Low AO.lows T.lows T.low1 AO.isFrame
noncomputable def sp37 : Eva.Spec := specO1 fun (l : (List Int)) => (backward l).map fun r => enc r
theorem ok37 : SpecOk Tryz.prog 37 sp37 := by
 have hV : VOk Tryz.prog (env []) := env_ok trivial
 refine SpecOk.ofO1 (Enters.of Tryz.func37 (by decide)) fun l rr hr => ?_
 obtain ⟨r, hg, rfl⟩ := mpj hr; clear hr
 refine PureCon.ofN hV Tryz.func37 rfl Tryz.ntmps37 fun R hR w0 I0 Q hQ => ?_
 unfold backward at hg
 refine AWp.rS hV none [1] fun K k1 => ?_
 simp; repeat refine ai ?_
 refine kc [(1, .ptr 0 0)] [.w 26 l] (k1 _ ?_)
 refine AWp.sub (s' := ⟨[se 1 ((⟨l⟩ : (Bx (List Int))) : (Bx (List Int)))], []⟩) (Sub.fz 1 0 l []) ?_
 refine AWp.rS hV none [2] fun K k2 => ?_
 simp; repeat refine ai ?_
 refine kc [se 2 ((⟨(⟨l⟩ : (Bx (List Int)))⟩ : C65) : C65)] [] (k2 _ ?_)
 refine AWp.ret ?_
 cases hg; exact hQ _ _ (.inl rfl) rt
noncomputable def sp39_ossia11 : Eva.Spec := specO2 fun (w : Written) (n : (Bx Int)) => (ossia11 w n).map fun r => enc r
theorem ok39_ossia11 : SpecOk Tryz.prog 39 sp39_ossia11 := by
 have hV : VOk Tryz.prog (env []) := env_ok trivial
 refine SpecOk.ofO2 (Enters.of Tryz.func39 (by decide)) fun w n rr hr => ?_
 obtain ⟨r, hg, rfl⟩ := mpj hr; clear hr
 refine PureCon.ofN hV Tryz.func39 rfl Tryz.ntmps39 fun R hR w0 I0 Q hQ => ?_
 unfold ossia11 at hg
 refine AWp.rS hV none [1, 2] fun K k1 => ?_
 simp; repeat refine ai ?_
 refine kc [se 1 n, (2, .ptr 0 0)] [.w 51 w] (k1 _ ?_)
 refine AWp.rS hV none [3] fun K k2 => ?_
 simp; repeat refine ai ?_
 refine kc [se 3 (decide (w.ossia = n.v))] [.w 51 w] (k2 _ ?_)
 refine AWp.ret ?_
 cases hg; exact hQ _ _ (.inl rfl) rt
noncomputable def sp66_idxO : Eva.Spec := specO2 fun (l : (List Written)) (f : C39) => (idxO l f).map fun r => enc r
theorem ok66_idxO : SpecOk Tryz.prog 66 sp66_idxO := by
 have hV : VOk Tryz.prog (env [(39, sp39_ossia11)]) := env_ok ⟨ok39_ossia11, trivial⟩
 refine SpecOk.ofO2 (Enters.of Tryz.func66 (by decide)) fun l f rr hr => ?_
 obtain ⟨r, hg, rfl⟩ := mpj hr; clear hr
 refine PureCon.ofN hV Tryz.func66 rfl Tryz.ntmps66 fun R hR w0 I0 Q hQ => ?_
 unfold idxO at hg
 refine AWp.rS hV none [0, 1] fun K k1 => ?_
 simp; repeat refine ai ?_
 refine kc [se 0 l, se 1 f] [] (k1 _ ?_)
 refine AWp.seqJ (fun s' => idxO_j1 = some r ∧ Sub s' ⟨[], []⟩) (fun _ k3 => ?_) ?_
 ·refine AWp.rS hV none [0, 1, 7, 8] fun K k4 => ?_
  simp; repeat refine ai ?_
  refine kc [se 0 l, se 1 f, se 7 ((l.length : Int) : Int), se 8 (0 : Int)] [] (k4 _ ?_)
  refine AWp.block ?_
  obtain ⟨o36, hl37, hq38⟩ := bnd_some hg; clear hg
  refine AWp.loopO (fun (z2u8 : Int) => ⟨[se 0 l, se 1 f, se 7 ((l.length : Int) : Int), se 8 z2u8], []⟩) (idxO_s5 l f) 0 hl37 ?_ fun z2u8 w41 _ hg hx40 k5 => ?_
  ·exact Sub.rm []
  unfold idxO_s5 at hg; try dsimp only at hg
  show AWp _ _ _ _ _ ⟨[se 0 l, se 1 f, se 7 ((l.length : Int) : Int), se 8 z2u8], []⟩ _
  refine AWp.rS hV none [0, 1, 7, 8, 9] fun K k42 => ?_
  simp; repeat refine ai ?_
  refine kc [se 0 l, se 1 f, se 7 ((l.length : Int) : Int), se 8 z2u8, se 9 (decide (z2u8 < (l.length : Int)))] [] (k42 _ ?_)
  refine AWp.seqG fun _ k43 => ?_
  refine AWp.cnd hg rfl ?_ ?_ <;> (clear hg; intro h44 hg)
  ·refine AWp.skip ?_
   refine k43 _ ?_
   refine AWp.seqJ (fun s' => idxO_j6 z2u8 = some w41 ∧ Sub s' ⟨[se 0 l, se 1 f, se 7 ((l.length : Int) : Int), se 8 z2u8], []⟩) (fun _ k46 => ?_) ?_
   ·refine AWp.block ?_
    refine AWp.rS hV none [0, 1, 5, 7, 8] fun K k47 => ?_
    simp; repeat refine ai ?_
    refine kc [se 0 l, se 1 f, se 5 z2u8, se 7 ((l.length : Int) : Int), se 8 z2u8] [] (k47 _ ?_)
    obtain ⟨x48, h49, hg⟩ := bnd_some hg
    obtain ⟨h49a, h49b, h49f⟩ := at_e h49; have h49g := h49f; try simp at h49g
    obtain ⟨x50, h51, hg⟩ := bnd_some hg
    refine AWp.rS hV none [0, 1, 5, 7, 8, 16] fun K k52 => ?_
    simp [sp39_ossia11, h49f, h49g, h51]; repeat refine ai ?_
    refine kd [se 0 l, se 1 f, se 5 z2u8, se 7 ((l.length : Int) : Int), se 8 z2u8, se 16 x50] [] (by first | rfl | (simp [sp39_ossia11, h49f, h49g, h51] <;> grind)) (k52 _ ?_)
    refine AWp.cnd hg rfl ?_ ?_ <;> (clear hg; intro h53 hg)
    ·refine AWp.rS hV none [4] fun K k54 => ?_
     simp; repeat refine ai ?_
     refine kc [se 4 z2u8] [] (k54 _ ?_)
     refine AWp.ret ?_
     cases hx40 _ (oij hg).symm; have hg := hq38; try dsimp only at hg
     cases hg; exact hQ _ _ (.inl rfl) rt
    ·refine AWp.skip ?_
     exact k46 _ ⟨hg, Sub.rm []⟩
   ·rintro s' ⟨hg, hs⟩
    unfold idxO_j6 at hg
    refine AWp.sub hs ?_
    obtain ⟨g56, hg⟩ := grd_some hg
    unfold inI at g56
    refine AWp.regF hV none [0, 1, 7, 8] fun K k57 => ?_
    simp; repeat refine ai ?_
    refine kc [se 0 l, se 1 f, se 7 ((l.length : Int) : Int), se 8 ((z2u8 + 1) : Int)] [] (k57 _ ?_)
    exact k5 _ _ (oij hg).symm (Sub.rm [])
  ·refine AWp.exit ?_
   cases hx40 _ (oij hg).symm; have hg := hq38; try dsimp only at hg
   exact k3 _ ⟨hg, Sub.rm []⟩
 ·rintro s' ⟨hg, hs⟩
  unfold idxO_j1 at hg
  refine AWp.sub hs ?_
  refine AWp.rS hV none [4] fun K k61 => ?_
  simp; repeat refine ai ?_
  refine kc [se 4 ((-1) : Int)] [] (k61 _ ?_)
  refine AWp.ret ?_
  cases hg; exact hQ _ _ (.inl rfl) rt
noncomputable def sp38_contO : Eva.Spec := specO2 fun (l : (List Written)) (f : C39) => (contO l f).map fun r => enc r
theorem ok38_contO : SpecOk Tryz.prog 38 sp38_contO := by
 have hV : VOk Tryz.prog (env [(66, sp66_idxO)]) := env_ok ⟨ok66_idxO, trivial⟩
 refine SpecOk.ofO2 (Enters.of Tryz.func38 (by decide)) fun l f rr hr => ?_
 obtain ⟨r, hg, rfl⟩ := mpj hr; clear hr
 refine PureCon.ofN hV Tryz.func38 rfl Tryz.ntmps38 fun R hR w0 I0 Q hQ => ?_
 unfold contO at hg
 refine AWp.rS hV none [0, 1] fun K k1 => ?_
 simp; repeat refine ai ?_
 refine kc [se 0 l, se 1 f] [] (k1 _ ?_)
 obtain ⟨x2, h3, hg⟩ := bnd_some hg
 refine AWp.rS hV none [4] fun K k4 => ?_
 simp [sp66_idxO, h3]; repeat refine ai ?_
 refine kd [se 4 (decide (0 ≤ x2))] [] (by first | rfl | (simp [sp66_idxO, h3] <;> grind)) (k4 _ ?_)
 refine AWp.ret ?_
 cases hg; exact hQ _ _ (.inl rfl) rt
noncomputable def sp40_ossia12 : Eva.Spec := specO2 fun (w : Written) (n : (Bx Int)) => (ossia12 w n).map fun r => enc r
theorem ok40_ossia12 : SpecOk Tryz.prog 40 sp40_ossia12 := by
 have hV : VOk Tryz.prog (env []) := env_ok trivial
 refine SpecOk.ofO2 (Enters.of Tryz.func40 (by decide)) fun w n rr hr => ?_
 obtain ⟨r, hg, rfl⟩ := mpj hr; clear hr
 refine PureCon.ofN hV Tryz.func40 rfl Tryz.ntmps40 fun R hR w0 I0 Q hQ => ?_
 unfold ossia12 at hg
 refine AWp.rS hV none [1, 2] fun K k1 => ?_
 simp; repeat refine ai ?_
 refine kc [se 1 n, (2, .ptr 0 0)] [.w 51 w] (k1 _ ?_)
 refine AWp.rS hV none [3] fun K k2 => ?_
 simp; repeat refine ai ?_
 refine kc [se 3 (decide (w.ossia = n.v))] [.w 51 w] (k2 _ ?_)
 refine AWp.ret ?_
 cases hg; exact hQ _ _ (.inl rfl) rt
end
section
variable [Onn]
attribute [local simp] enc_C51 dec_C51 size_C51 eta_C51 enc_C69 dec_C69 size_C69 eta_C69 enc_C33 dec_C33 size_C33 eta_C33 enc_C60_33 dec_C60_33 size_C60_33 eta_C60_33 enc_C34 dec_C34 size_C34 eta_C34 enc_C63_34 dec_C63_34 size_C63_34 eta_C63_34 enc_C39 dec_C39 size_C39 eta_C39 enc_C40 dec_C40 size_C40 eta_C40 enc_C65 dec_C65 size_C65 eta_C65 enc_C36 dec_C36 size_C36 eta_C36 enc_C60_36 dec_C60_36 size_C60_36 eta_C60_36
def foldO {α σ : Type} (f : α → σ → Option σ) : List α → σ → Option σ
  | [], z => some z
  | x :: xs, z => bnd (f x z) (foldO f xs)
section
variable {xs : List Int} {step : Int → Int → Option Int} {O : Int → List AO} {base k : Nat} {asg bod : Code} {tm : Tm}
theorem sem65 (hlen : ∀ p, (O p).length = 3) (hlp : ∀ p, (O p)[2]? = some (.loop base k #[9, 10] asg bod tm .ready none)) (hlow : ∀ p, Low (O p)) (hk : 10 < k)
    (hround : ∀ (i : Nat) (x p p' : Int), xs[i]? = some x → step x p = some p' → ∀ (F3 : AO), (∃ v f, F3 = .frame 3 v f) → ∀ (KR : Option Code → List AO → Prop), (∀ F4, (∃ v f, F4 = AO.frame 4 v f) → KR none (O p' ++ [F3] ++ [F4])) →
      ∀ (R : Rnd) (w0 : World) (I0 : Imm) (vals : Nat → Value) (ft : Tm) (Q : Exit → St → Prop), (∀ e jump s2, jumpOf e = some jump → RetR s2 4 vals ft 2 base k #[9, 10] asg bod tm jump (KR jump) → Q e s2) →
        @AWp _ R Tryz.prog w0 I0 k asg ⟨roundT [9, 10] [.d (.int .i64 i), .d (.int .i64 x)] tm, O p ++ [F3] ++ [.frame 4 vals ft]⟩ (onlyN fun s1 => ∃ s2, Eva.Sub s1 s2 ∧ s2.l[4]? = some (.frame 4 vals ft) ∧ s2.l[2]? = some (.loop base k #[9, 10] asg bod tm .ready none) ∧ @AWp _ R Tryz.prog w0 I0 k bod ⟨s2.t, s2.l.set 2 (.loop base k #[9, 10] asg bod tm .busy none)⟩ Q))
    {p0 pN : Int} (hN : foldO step xs.reverse p0 = some pN) (hmax : (xs.length : Int) ≤ 9223372036854775807) :
    SemC Tryz.prog 65 [.yld 2, .d (.box (enc xs))] (O p0) fun u l' => ∃ F3, (∃ v f, F3 = AO.frame 3 v f) ∧ l' = O pN ++ [F3] := by
  have hV : VOk Tryz.prog (env []) := env_ok trivial
  refine SemC.of hV (Enters.of Tryz.func65 (by decide)) Tryz.func65 rfl (by rw [Tryz.ntmps65]; simp) fun R hR w0 I0 vals ft Q hQ => ?_
  rw [Tryz.ntmps65]
  rw [hlen p0] at hQ ⊢
  have hfin : ∀ (e : Exit) (t : Tm), (e = .ret ∨ e = .normal) → Q e ⟨t, O pN ++ [AO.frame 3 vals ft]⟩ := fun e t he =>
    hQ _ _ he ⟨_, Sub.refl _, by simp, by simp [List.getElem?_append_right, hlen], _, ⟨vals, ft, rfl⟩, rfl⟩
  have hF : ∃ v f, AO.frame 3 vals ft = AO.frame 3 v f := ⟨vals, ft, rfl⟩
  generalize AO.frame 3 vals ft = F3 at *
  simp only [startTT]
  refine AWp.rS hV none [0, 1, 3] fun K k1 => ?_
  simp
  refine And.intro (by omega) ?_
  refine kcong (s' := ⟨[(0, .yld 2), (1, .d (.box (enc xs))), (3, .d (.int .i64 ((xs.length : Int) - 1)))], O p0 ++ [F3]⟩) (by first | rfl | simp) (k1 _ ?_)
  refine AWp.block ?_
  refine AWp.loop (fun (z : Nat × Int) => ⟨[(0, .yld 2), (1, .d (.box (enc xs))), (3, .d (.int .i64 ((z.1 : Int) - 1)))], O z.2 ++ [F3]⟩) (fun z => z.1 ≤ xs.length ∧ foldO step (xs.take z.1).reverse z.2 = some pN) (fun z => z.1) (xs.length, p0) ⟨Nat.le_refl _, by rw [List.take_length]; exact hN⟩ (Sub.refl _) fun ⟨j, p⟩ ⟨hj, hfo⟩ => ?_
  dsimp only at hj hfo ⊢
  refine AWp.seqG fun _ k4 => ?_
  refine AWp.rS hV none [0, 1, 3, 8] fun K k5 => ?_
  simp
  refine kcong (s' := ⟨[(0, .yld 2), (1, .d (.box (enc xs))), (3, .d (.int .i64 ((j : Int) - 1))), (8, .d (.bool (decide (0 < j))))], O p ++ [F3]⟩) (by first | rfl | (simp; done) | (simp; omega)) (k5 _ ?_)
  refine AWp.cond (b := decide (0 < j)) rfl (fun h => ?_) fun h => ?_
  · obtain ⟨i, rfl⟩ : ∃ i, j = i + 1 := ⟨j - 1, by simp at h; omega⟩
    have hi : i < xs.length := by omega
    have hx : xs[i]? = some xs[i] := List.getElem?_eq_getElem hi
    rw [List.take_succ, hx] at hfo
    simp only [Option.toList_some, List.reverse_append, List.reverse_cons, List.reverse_nil, List.nil_append, List.singleton_append, foldO] at hfo
    have hel := elAt_enc hx
    generalize xs[i] = x at hx hfo hel
    obtain ⟨p', hs, hfo⟩ := bnd_some hfo
    have hel2 := hel
    simp at hel2
    have hi1 : ((i + 1 : Nat) : Int) - 1 = (i : Int) := by omega
    refine AWp.skip (k4 _ ?_)
    refine AWp.seqJ (fun s' => Sub s' ⟨[(0, .yld 2), (1, .d (.box (enc xs))), (3, .d (.int .i64 (i : Int)))], O p' ++ [F3]⟩) (fun _ k6 => ?_) ?_
    · rw [hi1]
      refine AWp.block ?_
      refine AWp.rC hV [0, 1, 3, 18] fun K k7 => ?_
      refine RunAt.seq hV none 6 [0, 1, 3, 11, 12, 16] (by decide) (by decide) fun K1 h1 => ?_
      simp [hel, hel2, hi]
      refine kcong (s' := ⟨[(0, .yld 2), (1, .d (.box (enc xs))), (3, .d (.int .i64 i)), (11, .yld 2), (12, .d (.int .i64 i)), (16, .d (.int .i64 x))], O p ++ [F3]⟩) (by first | rfl | simp) (h1 _ ?_)
      have e4 : (O p ++ [F3]).length = 4 := by simp [hlen]
      refine RunAt.yld hV 2 [.d (.int .i64 i), .d (.int .i64 x)] rfl rfl trivial (by decide) (by simp [yldOf]) (by dsimp only; exact get_app (hlp p) _) rfl (by simp [show 9 < k by omega, hk]) fun KR hKR => ?_
      dsimp only
      simp only [e4]
      refine hround i x p p' hx hs F3 hF KR fun F4 hF4 => hKR none _ (RunAt.fin hV none ?_)
      simp
      refine kcong (s' := ⟨[(0, .yld 2), (1, .d (.box (enc xs))), (3, .d (.int .i64 i)), (18, .d (.bool false))], O p' ++ [F3] ++ [F4]⟩) (by first | rfl | simp) (k7 _ ?_)
      refine AWp.cond (b := false) rfl (fun h => by cases h) fun h => AWp.skip (k6 _ ?_)
      obtain ⟨v3, f3, rfl⟩ := hF
      have hl : Low (O p' ++ [AO.frame 3 v3 f3]) := by have := (hlow p').frame v3 f3; rwa [hlen] at this
      exact Sub.drop hl (by simp [T.lows, hlen]) (by simp [forgets])
    · rintro s' hs'
      refine AWp.sub hs' ?_
      refine AWp.regF hV none [0, 1, 3] fun K k7 => ?_
      simp
      refine And.intro (by omega) ?_
      refine kcong (s' := ⟨[(0, .yld 2), (1, .d (.box (enc xs))), (3, .d (.int .i64 ((i : Int) - 1)))], O p' ++ [F3]⟩) (by first | rfl | simp) (k7 _ ?_)
      exact ⟨(i, p'), ⟨by omega, hfo⟩, Nat.lt_succ_self _, Sub.refl _⟩
  · have hj0 : j = 0 := by simp at h; omega
    subst hj0
    simp [foldO] at hfo
    subst hfo
    refine AWp.exit ?_
    exact hfin _ _ (.inr rfl)
end
noncomputable def ossiaStep (m : Measure) (x p : Int) : Option Int := bnd (contO m.notes (⟨⟨x⟩⟩ : C39)) fun b => some (if b = true then x else p)
noncomputable def ossia1 (m : Measure) (c : Bx (List Int)) : Option C40 := grd ((c.v.length : Int) ≤ 9223372036854775807) (bnd (foldO (ossiaStep m) c.v.reverse 0) fun p => some (⟨⟨p⟩⟩ : C40))
noncomputable def sp36_ossia1 : Eva.Spec := specO2 fun (m : Measure) (c : Bx (List Int)) => (ossia1 m c).map fun r => enc r
theorem ok36_ossia1 : SpecOk Tryz.prog 36 sp36_ossia1 := by
  have hV : VOk Tryz.prog (env [(37, sp37), (38, sp38_contO)]) := env_ok ⟨ok37, ok38_contO, trivial⟩
  refine SpecOk.ofO2 (Enters.of Tryz.func36 (by decide)) ?_
  intro m c rr hr
  obtain ⟨r, hg, rfl⟩ := Option.map_eq_some_iff.1 hr
  clear hr
  refine PureCon.ofQ hV Tryz.func36 rfl (by rw [Tryz.ntmps36]; simp) fun R hR w0 I0 Q hQ => ?_
  rw [Tryz.ntmps36]
  unfold ossia1 at hg
  obtain ⟨hmax, hg⟩ := grd_some hg
  obtain ⟨pN, hfo, hg⟩ := bnd_some hg
  have hg := Option.some.inj hg
  subst hg
  obtain ⟨xs⟩ := c
  dsimp only at hfo hmax
  refine AWp.rS hV none [1, 2] fun K k1 => ?_
  simp
  refine kcong (s' := ⟨[(1, .d (enc (⟨xs⟩ : Bx (List Int)))), (2, .ptr 0 0)], [.var 47 (cellsT (.d (enc m)))]⟩) (by first | rfl | simp) (k1 _ ?_)
  refine AWp.rS hV none [1, 2, 4] fun K k1 => ?_
  simp
  refine kcong (s' := ⟨[(1, .d (enc (⟨xs⟩ : Bx (List Int)))), (2, .ptr 0 0), (4, .ptr 1 0)], [.var 47 (cellsT (.d (enc m))), .var 3 [.d (.int .i64 0)]]⟩) (by first | rfl | simp) (k1 _ ?_)
  refine AWp.seqJ (fun s' => Sub s' ⟨[(4, .ptr 0 0)], [.var 3 (cellsT (.d (enc (pN : Int))))]⟩) (fun _ k2 => ?_) ?_
  · refine AWp.rS hV none [2, 4, 8] fun K k1 => ?_
    simp [sp37, backward]
    refine kcong (s' := ⟨[(2, .ptr 0 0), (4, .ptr 1 0), (8, .d (.clo 65 [.box (enc xs)]))], [.var 47 (cellsT (.d (enc m))), .var 3 [.d (.int .i64 0)]]⟩) (by first | rfl | simp) (k1 _ ?_)
    refine AWp.block ?_
    refine AWp.rangeF hR (gf := 65) (caps := [.d (.box (enc xs))]) rfl fun asg bod ha hb K hK => ?_
    dsimp only [List.length_cons, List.length_nil] at hK ⊢
    refine (sem65 (xs := xs) (step := ossiaStep m) (O := fun p => [.var 47 (cellsT (.d (enc m))), .var 3 (cellsT (.d (enc (p : Int)))), .loop 2 17 #[9, 10] asg bod [(2, .ptr 0 0), (4, .ptr 1 0), (8, .d (.clo 65 [.box (enc xs)]))] .ready none]) (fun _ => rfl) (fun _ => rfl) (fun _ => by simp [Low, AO.lows, T.lows]) (by decide) ?_ hfo hmax).mono ?_
    · rintro i x p p' hx hs F3 ⟨v3, f3, rfl⟩ KR hKR R w0 I0 vals ft Q hQ
      unfold ossiaStep at hs
      obtain ⟨b, hb1, hs⟩ := bnd_some hs
      have hs := Option.some.inj hs
      subst hs
      have hb2 := hb1
      try simp at hb2
      obtain ⟨LP, hLP⟩ : ∃ LP, LP = AO.loop 2 17 #[9, 10] asg bod [(2, .ptr 0 0), (4, .ptr 1 0), (8, .d (.clo 65 [.box (enc xs)]))] .ready none := ⟨_, rfl⟩
      obtain ⟨LB, hLB⟩ : ∃ LB, LB = AO.loop 2 17 #[9, 10] asg bod [(2, .ptr 0 0), (4, .ptr 1 0), (8, .d (.clo 65 [.box (enc xs)]))] .busy none := ⟨_, rfl⟩
      have hret : ∀ s2, (∃ s3, Eva.Sub s2 s3 ∧ s3.l[4]? = some (.frame 4 vals ft) ∧ s3.l[2]? = some LB ∧ s3.l.set 2 LP = [.var 47 (cellsT (.d (enc m))), .var 3 (cellsT (.d (enc (if b = true then x else p)))), LP, .frame 3 v3 f3, .frame 4 vals ft]) → Q .normal s2 := by
        rintro s2 ⟨s3, q1, q2, q3, q4⟩
        refine hQ .normal none s2 rfl ⟨s3, q1, q2, by rw [q3, hLB], ?_⟩
        have h5 := hKR (.frame 4 vals ft) ⟨_, _, rfl⟩
        simp only [Option.isNone_none, if_true]
        rw [← hLP, q4, hLP]
        exact h5
      simp only [← hLP, ← hLB]
      clear hQ hKR hK k2
      subst ha
      subst hb
      refine AWp.regF hV none [2, 4, 6] fun K k3 => ?_
      simp [roundT]
      refine kcong (s' := ⟨[(2, .ptr 0 0), (4, .ptr 1 0), (6, .ptr 5 0)], [.var 47 (cellsT (.d (enc m))), .var 3 (cellsT (.d (enc (p : Int)))), LP, .frame 3 v3 f3, .frame 4 vals ft, .var 3 (cellsT (.d (enc (x : Int))))]⟩) (by first | rfl | simp) (k3 _ ?_)
      refine ⟨⟨(6, .d (.box (enc (x : Int)))) :: [(2, .ptr 0 0), (4, .ptr 1 0)], [.var 47 (cellsT (.d (enc m))), .var 3 (cellsT (.d (enc (p : Int)))), LP, .frame 3 v3 f3, .frame 4 vals ft]⟩, Sub.frz 6 5 (enc (x : Int)) [0, 1, 2, 3, 4] rfl rfl (Enc.ones _) (by decide) (by decide) (by simp [framesOk, hLP]) (by simp [renL, AO.ren, T.ren, T.ren2, hLP]) (by simp [forgetsR, T.ren, T.ren2, idx]), rfl, rfl, ?_⟩
      show AWp _ _ _ _ _ ⟨[(6, .d (.box (enc (x : Int)))), (2, .ptr 0 0), (4, .ptr 1 0)], [.var 47 (cellsT (.d (enc m))), .var 3 (cellsT (.d (enc (p : Int)))), LB, .frame 3 v3 f3, .frame 4 vals ft]⟩ _
      refine AWp.block ?_
      refine AWp.rS hV none [4, 6, 14] fun K k4 => ?_
      simp [sp38_contO, hb1, hb2]
      refine kcong (s' := ⟨[(4, .ptr 1 0), (6, .d (.box (enc (x : Int)))), (14, .d (.bool b))], [.var 47 (cellsT (.d (enc m))), .var 3 (cellsT (.d (enc (p : Int)))), LB, .frame 3 v3 f3, .frame 4 vals ft]⟩) (by first | rfl | simp) (k4 _ ?_)
      refine AWp.cond (b := b) rfl (fun h => ?_) fun h => ?_
      · refine AWp.regF hV none [] fun K k5 => ?_
        simp
        refine kcong (s' := ⟨[], [.var 47 (cellsT (.d (enc m))), .var 3 (cellsT (.d (enc (x : Int)))), LB, .frame 3 v3 f3, .frame 4 vals ft]⟩) (by first | rfl | simp) (k5 _ ?_)
        exact hret _ ⟨_, Sub.refl _, rfl, rfl, by rw [h]; rfl⟩
      · exact AWp.skip (hret _ ⟨_, Sub.refl _, rfl, rfl, by rw [h]; rfl⟩)
    · rintro u l' ⟨F3, ⟨v3, f3, rfl⟩, rfl⟩
      refine hK _ _ ⟨2, 17, #[9, 10], asg, bod, _, .ready, none, rfl, by simp, ?_⟩
      refine k2 _ ?_
      show Eva.Sub ⟨[(2, .ptr 0 0), (4, .ptr 1 0), (8, .d (.clo 65 [.box (enc xs)]))], [.var 47 (cellsT (.d (enc m))), .var 3 (cellsT (.d (enc (pN : Int)))), .loop 2 17 #[9, 10] asg bod [(2, .ptr 0 0), (4, .ptr 1 0), (8, .d (.clo 65 [.box (enc xs)]))] .exhausted none, .frame 3 v3 f3]⟩ _
      exact Sub.ren [1] (by decide) (by simp [framesOk]) (by simp [renL, AO.ren, T.ren, T.ren2]) (by simp [forgetsR, T.ren, T.ren2, idx])
  · rintro s' hs
    refine AWp.sub hs ?_
    refine AWp.sub (s' := ⟨[(4, .d (enc (⟨pN⟩ : Bx Int)))], []⟩) (Sub.frz 4 0 (enc (pN : Int)) [] rfl rfl (Enc.ones _) (by decide) (by decide) rfl rfl trivial) ?_
    refine AWp.rS hV none [3] fun K k3 => ?_
    simp
    refine kcong (s' := ⟨[(3, .d (enc (⟨⟨pN⟩⟩ : C40)))], []⟩) (by first | rfl | simp) (k3 _ ?_)
    refine AWp.ret ?_
    refine hQ _ _ (.inl rfl) ?_
    simp [retOk, resT]
end
noncomputable def keepO (w : Written) (is : (Bx C40)) : Option Bool :=
  bnd (ossia12 w is.v.v0) fun x2 =>
  some (!x2)
structure C63_40 where
  v0 : (Bx C40)
instance : Enc C63_40 := ⟨fun c => .clo 63 [enc c.v0], fun d => match d with | .clo _ [a0] => ⟨dec a0⟩ | _ => ⟨dec D.nilp⟩, 1, fun c => by simp only [dec_enc], fun _ => rfl, by simp [D.cells, D.one]⟩
theorem enc_C63_40 (c : C63_40) : (enc c : D) = .clo 63 [enc c.v0] := rfl
theorem dec_C63_40 (g : FuncId) (a0 : D) : (dec (.clo g [a0]) : C63_40) = ⟨dec a0⟩ := rfl
theorem size_C63_40 : size C63_40 = 1 := rfl
theorem eta_C63_40 (c : C63_40) : (⟨c.v0⟩ : C63_40) = c := rfl
noncomputable def kept1O (m : Measure) (h : (Bx C36)) : Option Measure :=
  bnd (ossia1 m h.v.v0) fun x2 =>
  grd ((m.notes : List Written).length * 80 ≤ 140737488355328) (grd ((m.notes : (List Written)).length ≤ 9223372036854775807) (bnd (delO (fun x => keepO x ((⟨(⟨x2⟩ : (Bx C40))⟩ : C63_40).v0)) m.notes) fun x6 =>
  some (⟨m.bar, m.key, m.length, x6⟩ : Measure)))
noncomputable def eachO_j6 (z2u10 : Int) (y44u5 : (List Measure)) : Option (((List Measure) × Int) ⊕ (((List Measure)))) :=
  grd (inI (z2u10 + 1)) (some (.inl (y44u5, (z2u10 + 1))))
end Go.Proofs.YtjfkfkjkbgiciaaGreatDoor
