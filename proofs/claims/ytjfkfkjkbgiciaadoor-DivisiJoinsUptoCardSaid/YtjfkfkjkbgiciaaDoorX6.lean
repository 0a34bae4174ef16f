/-
  The evaluator, the printed walks and the plain laws, part 6 of 8.
-/
import Derived.Test.YtjfkfkjkbgiciaaDoorX5
import Derived.Shelf.SlGeneric
import Derived.Shelf.SlSortCmp.WholeK
import Derived.Shelf.SlSortCmp.NoneTotal
import Derived.Shelf.SlIterI.Nil
import Derived.Shelf.SortM.Plain
import Derived.Shelf.SortM.SortNone
import Derived.Ground.SlsfProg
import Derived.Ground.GgzProg
import Derived.Ground.SlgmProg
import Derived.Test.YtjfkfkjkbgiciaaDoorProg
import Derived.Test.YtjfkfkjkbgiciaaDoorCards
import Derived.Test.YtjfkfkjkbgiciaaDoorTie
import Derived.OpenShut
import Derived.Deep.DeepHandedRow
import Derived.Lib.LaidTab
set_option linter.all false
set_option linter.unnecessarySimpa false
set_option linter.deprecated false
set_option linter.unusedVariables false
set_option linter.unusedSimpArgs false
set_option linter.unusedSectionVars false
namespace Go.Proofs
open Go.Shelf
def Tryd.sortW_ren : Go.Shelf.Ren := ⟨fun | 6 => 41 | 15 => 62 | 14 => 61 | 28 => 77 | 29 => 78 | 20 => 69 | 21 => 70 | 22 => 71 | 23 => 72 | 24 => 73 | 25 => 74 | 26 => 75 | 27 => 76 | 46 => 89 | 47 => 90 | 48 => 91 | 49 => 92 | 50 => 93 | 57 => 99 | n => n, fun | 22 => 40 | 24 => 38 | 25 => 59 | 3 => 3 | 39 => 96 | 0 => 0 | 53 => 110 | 55 => 112 | 4 => 4 | 46 => 103 | 45 => 102 | 50 => 107 | 5 => 5 | 9 => 9 | 66 => 122 | 70 => 126 | 76 => 131 | 77 => 132 | n => n, fun | n => n⟩
theorem Tryd.sortW : Go.Proofs.SlLaysF0.n6 Tryd.prog Tryd.sortW_ren := {
  mixed := by kernel_rfl
  f6 := ⟨Tryd.f41.name, by decide, Tryd.func41.trans (congrArg some (by kernel_rfl))⟩
  f14 := ⟨Tryd.f61.name, by decide, Tryd.func61.trans (congrArg some (by kernel_rfl))⟩
  f15 := Tryd.func62.trans (congrArg some (by kernel_rfl))
  f20 := ⟨Tryd.f69.name, by decide, Tryd.func69.trans (congrArg some (by kernel_rfl))⟩
  f21 := ⟨Tryd.f70.name, by decide, Tryd.func70.trans (congrArg some (by kernel_rfl))⟩
  f22 := ⟨Tryd.f71.name, by decide, Tryd.func71.trans (congrArg some (by kernel_rfl))⟩
  f23 := ⟨Tryd.f72.name, by decide, Tryd.func72.trans (congrArg some (by kernel_rfl))⟩
  f24 := ⟨Tryd.f73.name, by decide, Tryd.func73.trans (congrArg some (by kernel_rfl))⟩
  f25 := ⟨Tryd.f74.name, by decide, Tryd.func74.trans (congrArg some (by kernel_rfl))⟩
  f26 := ⟨Tryd.f75.name, by decide, Tryd.func75.trans (congrArg some (by kernel_rfl))⟩
  f27 := ⟨Tryd.f76.name, by decide, Tryd.func76.trans (congrArg some (by kernel_rfl))⟩
  f28 := Tryd.func77.trans (congrArg some (by kernel_rfl))
  f29 := Tryd.func78.trans (congrArg some (by kernel_rfl))
  f46 := ⟨Tryd.f89.name, by decide, Tryd.func89.trans (congrArg some (by kernel_rfl))⟩
  f47 := Tryd.func90.trans (congrArg some (by kernel_rfl))
  f48 := Tryd.func91.trans (congrArg some (by kernel_rfl))
  f49 := ⟨Tryd.f92.name, by decide, Tryd.func92.trans (congrArg some (by kernel_rfl))⟩
  f50 := ⟨Tryd.f93.name, by decide, Tryd.func93.trans (congrArg some (by kernel_rfl))⟩
  f57 := ⟨Tryd.f99.name, by decide, Tryd.func99.trans (congrArg some (by kernel_rfl))⟩
  t0 := Tryd.underlying0
  a0 := Tryd.isAgg0
  z0 := Tryd.sizeOf0
  v0 := Tryd.zeroValue0
  t3 := Tryd.underlying3
  a3 := Tryd.isAgg3
  z3 := Tryd.sizeOf3
  v3 := Tryd.zeroValue3
  t4 := Tryd.underlying4
  a4 := Tryd.isAgg4
  z4 := Tryd.sizeOf4
  v4 := Tryd.zeroValue4
  t5 := Tryd.underlying5
  a5 := Tryd.isAgg5
  z5 := Tryd.sizeOf5
  v5 := Tryd.zeroValue5
  t9 := Tryd.underlying9
  a9 := Tryd.isAgg9
  z9 := Tryd.sizeOf9
  v9 := Tryd.zeroValue9
  t22 := Tryd.underlying40
  a22 := Tryd.isAgg40
  z22 := Tryd.sizeOf40
  v22 := Tryd.zeroValue40
  t25 := Tryd.underlying59
  a25 := Tryd.isAgg59
  z25 := Tryd.sizeOf59
  v25 := Tryd.zeroValue59
  t39 := Tryd.underlying96
  a39 := Tryd.isAgg96
  z39 := Tryd.sizeOf96
  v39 := Tryd.zeroValue96
  t45 := Tryd.underlying102
  a45 := Tryd.isAgg102
  z45 := Tryd.sizeOf102
  v45 := Tryd.zeroValue102
  t46 := Tryd.underlying103
  a46 := Tryd.isAgg103
  z46 := Tryd.sizeOf103
  v46 := Tryd.zeroValue103
  t50 := Tryd.underlying107
  a50 := Tryd.isAgg107
  z50 := Tryd.sizeOf107
  v50 := Tryd.zeroValue107
  t53 := Tryd.underlying110
  a53 := Tryd.isAgg110
  z53 := Tryd.sizeOf110
  v53 := Tryd.zeroValue110
  t55 := Tryd.underlying112
  a55 := Tryd.isAgg112
  z55 := Tryd.sizeOf112
  v55 := Tryd.zeroValue112
  t66 := Tryd.underlying122
  a66 := Tryd.isAgg122
  z66 := Tryd.sizeOf122
  v66 := Tryd.zeroValue122
  t70 := Tryd.underlying126
  a70 := Tryd.isAgg126
  z70 := Tryd.sizeOf126
  v70 := Tryd.zeroValue126
  t76 := Tryd.underlying131
  a76 := Tryd.isAgg131
  z76 := Tryd.sizeOf131
  v76 := Tryd.zeroValue131
  t77 := Tryd.underlying132
  a77 := Tryd.isAgg132
  z77 := Tryd.sizeOf132
  v77 := Tryd.zeroValue132 }
def Tryd.keysMk_ren : Go.Shelf.Ren := ⟨fun | 7 => 26 | 10 => 50 | n => n, fun | 23 => 61 | 26 => 3 | 3 => 4 | 28 => 64 | 0 => 0 | 27 => 63 | 33 => 84 | 4 => 4 | n => n, fun | n => n⟩
theorem Tryd.keysMk : Go.Proofs.SlLaysZI.n7 Tryd.prog Tryd.keysMk_ren := {
  mixed := by kernel_rfl
  f7 := ⟨Tryd.f26.name, by decide, Tryd.func26.trans (congrArg some (by kernel_rfl))⟩
  f10 := ⟨Tryd.f50.name, by decide, Tryd.func50.trans (congrArg some (by kernel_rfl))⟩
  t0 := Tryd.underlying0
  a0 := Tryd.isAgg0
  z0 := Tryd.sizeOf0
  v0 := Tryd.zeroValue0
  t4 := Tryd.underlying4
  a4 := Tryd.isAgg4
  z4 := Tryd.sizeOf4
  v4 := Tryd.zeroValue4
  t23 := Tryd.underlying61
  a23 := Tryd.isAgg61
  z23 := Tryd.sizeOf61
  v23 := Tryd.zeroValue61
  t26 := Tryd.underlying3
  a26 := Tryd.isAgg3
  z26 := Tryd.sizeOf3
  v26 := Tryd.zeroValue3
  t27 := Tryd.underlying63
  a27 := Tryd.isAgg63
  z27 := Tryd.sizeOf63
  v27 := Tryd.zeroValue63
  t28 := Tryd.underlying64
  a28 := Tryd.isAgg64
  z28 := Tryd.sizeOf64
  v28 := Tryd.zeroValue64
  t33 := Tryd.underlying84
  a33 := Tryd.isAgg84
  z33 := Tryd.sizeOf84
  v33 := Tryd.zeroValue84 }
def Tryd.sortedInt_ren : Go.Shelf.Ren := ⟨fun | 6 => 25 | 8 => 48 | 9 => 49 | 11 => 66 | 13 => 62 | 12 => 67 | 23 => 77 | 24 => 78 | 14 => 80 | 15 => 81 | 16 => 82 | 17 => 83 | 18 => 84 | 19 => 85 | 20 => 86 | 21 => 87 | 22 => 88 | 25 => 96 | 26 => 90 | 27 => 91 | 28 => 97 | 29 => 98 | 30 => 65 | 31 => 100 | n => n, fun | 26 => 3 | 28 => 64 | 24 => 43 | 0 => 0 | 3 => 3 | 37 => 96 | 48 => 110 | 50 => 112 | 4 => 4 | 40 => 103 | 39 => 102 | 45 => 107 | 5 => 5 | 9 => 9 | 51 => 122 | 55 => 126 | 57 => 131 | 58 => 132 | 33 => 84 | n => n, fun | n => n⟩
theorem Tryd.sortedInt : Go.Proofs.SlLaysZI.n6 Tryd.prog Tryd.sortedInt_ren := {
  mixed := by kernel_rfl
  f6 := ⟨Tryd.f25.name, by decide, Tryd.func25.trans (congrArg some (by kernel_rfl))⟩
  f8 := ⟨Tryd.f48.name, by decide, Tryd.func48.trans (congrArg some (by kernel_rfl))⟩
  f11 := ⟨Tryd.f66.name, by decide, Tryd.func66.trans (congrArg some (by kernel_rfl))⟩
  t0 := Tryd.underlying0
  a0 := Tryd.isAgg0
  z0 := Tryd.sizeOf0
  v0 := Tryd.zeroValue0
  t24 := Tryd.underlying43
  a24 := Tryd.isAgg43
  z24 := Tryd.sizeOf43
  v24 := Tryd.zeroValue43
  t26 := Tryd.underlying3
  a26 := Tryd.isAgg3
  z26 := Tryd.sizeOf3
  v26 := Tryd.zeroValue3
  t28 := Tryd.underlying64
  a28 := Tryd.isAgg64
  z28 := Tryd.sizeOf64
  v28 := Tryd.zeroValue64
  i26 := by kernel_rfl }
def Tryd.sortInt_ren : Go.Shelf.Ren := ⟨fun | 5 => 49 | 8 => 62 | 7 => 67 | 19 => 77 | 20 => 78 | 10 => 80 | 11 => 81 | 12 => 82 | 13 => 83 | 14 => 84 | 15 => 85 | 16 => 86 | 17 => 87 | 18 => 88 | 30 => 96 | 31 => 90 | 32 => 91 | 33 => 97 | 34 => 98 | 35 => 65 | 40 => 100 | n => n, fun | 23 => 43 | 25 => 3 | 3 => 3 | 32 => 96 | 22 => 43 | 0 => 0 | 44 => 110 | 46 => 112 | 4 => 4 | 36 => 103 | 35 => 102 | 41 => 107 | 5 => 5 | 9 => 9 | 53 => 122 | 57 => 126 | 63 => 131 | 64 => 132 | n => n, fun | n => n⟩
theorem Tryd.sortInt : Go.Proofs.SlLaysM.n5 Tryd.prog Tryd.sortInt_ren := {
  mixed := by kernel_rfl
  f5 := ⟨Tryd.f49.name, by decide, Tryd.func49.trans (congrArg some (by kernel_rfl))⟩
  f7 := ⟨Tryd.f67.name, by decide, Tryd.func67.trans (congrArg some (by kernel_rfl))⟩
  f8 := Tryd.func62.trans (congrArg some (by kernel_rfl))
  f10 := ⟨Tryd.f80.name, by decide, Tryd.func80.trans (congrArg some (by kernel_rfl))⟩
  f11 := ⟨Tryd.f81.name, by decide, Tryd.func81.trans (congrArg some (by kernel_rfl))⟩
  f12 := ⟨Tryd.f82.name, by decide, Tryd.func82.trans (congrArg some (by kernel_rfl))⟩
  f13 := ⟨Tryd.f83.name, by decide, Tryd.func83.trans (congrArg some (by kernel_rfl))⟩
  f14 := ⟨Tryd.f84.name, by decide, Tryd.func84.trans (congrArg some (by kernel_rfl))⟩
  f15 := ⟨Tryd.f85.name, by decide, Tryd.func85.trans (congrArg some (by kernel_rfl))⟩
  f16 := ⟨Tryd.f86.name, by decide, Tryd.func86.trans (congrArg some (by kernel_rfl))⟩
  f17 := ⟨Tryd.f87.name, by decide, Tryd.func87.trans (congrArg some (by kernel_rfl))⟩
  f18 := ⟨Tryd.f88.name, by decide, Tryd.func88.trans (congrArg some (by kernel_rfl))⟩
  f19 := Tryd.func77.trans (congrArg some (by kernel_rfl))
  f20 := Tryd.func78.trans (congrArg some (by kernel_rfl))
  f30 := ⟨Tryd.f96.name, by decide, Tryd.func96.trans (congrArg some (by kernel_rfl))⟩
  f31 := Tryd.func90.trans (congrArg some (by kernel_rfl))
  f32 := Tryd.func91.trans (congrArg some (by kernel_rfl))
  f33 := ⟨Tryd.f97.name, by decide, Tryd.func97.trans (congrArg some (by kernel_rfl))⟩
  f34 := ⟨Tryd.f98.name, by decide, Tryd.func98.trans (congrArg some (by kernel_rfl))⟩
  f35 := ⟨Tryd.f65.name, by decide, Tryd.func65.trans (congrArg some (by kernel_rfl))⟩
  f40 := ⟨Tryd.f100.name, by decide, Tryd.func100.trans (congrArg some (by kernel_rfl))⟩
  t0 := Tryd.underlying0
  a0 := Tryd.isAgg0
  z0 := Tryd.sizeOf0
  v0 := Tryd.zeroValue0
  t3 := Tryd.underlying3
  a3 := Tryd.isAgg3
  z3 := Tryd.sizeOf3
  v3 := Tryd.zeroValue3
  t4 := Tryd.underlying4
  a4 := Tryd.isAgg4
  z4 := Tryd.sizeOf4
  v4 := Tryd.zeroValue4
  t5 := Tryd.underlying5
  a5 := Tryd.isAgg5
  z5 := Tryd.sizeOf5
  v5 := Tryd.zeroValue5
  t9 := Tryd.underlying9
  a9 := Tryd.isAgg9
  z9 := Tryd.sizeOf9
  v9 := Tryd.zeroValue9
  t22 := Tryd.underlying43
  a22 := Tryd.isAgg43
  z22 := Tryd.sizeOf43
  v22 := Tryd.zeroValue43
  t23 := Tryd.underlying43
  a23 := Tryd.isAgg43
  z23 := Tryd.sizeOf43
  v23 := Tryd.zeroValue43
  t25 := Tryd.underlying3
  a25 := Tryd.isAgg3
  z25 := Tryd.sizeOf3
  v25 := Tryd.zeroValue3
  t32 := Tryd.underlying96
  a32 := Tryd.isAgg96
  z32 := Tryd.sizeOf96
  v32 := Tryd.zeroValue96
  t35 := Tryd.underlying102
  a35 := Tryd.isAgg102
  z35 := Tryd.sizeOf102
  v35 := Tryd.zeroValue102
  t36 := Tryd.underlying103
  a36 := Tryd.isAgg103
  z36 := Tryd.sizeOf103
  v36 := Tryd.zeroValue103
  t41 := Tryd.underlying107
  a41 := Tryd.isAgg107
  z41 := Tryd.sizeOf107
  v41 := Tryd.zeroValue107
  t44 := Tryd.underlying110
  a44 := Tryd.isAgg110
  z44 := Tryd.sizeOf110
  v44 := Tryd.zeroValue110
  t46 := Tryd.underlying112
  a46 := Tryd.isAgg112
  z46 := Tryd.sizeOf112
  v46 := Tryd.zeroValue112
  t53 := Tryd.underlying122
  a53 := Tryd.isAgg122
  z53 := Tryd.sizeOf122
  v53 := Tryd.zeroValue122
  t57 := Tryd.underlying126
  a57 := Tryd.isAgg126
  z57 := Tryd.sizeOf126
  v57 := Tryd.zeroValue126
  t63 := Tryd.underlying131
  a63 := Tryd.isAgg131
  z63 := Tryd.sizeOf131
  v63 := Tryd.zeroValue131
  t64 := Tryd.underlying132
  a64 := Tryd.isAgg132
  z64 := Tryd.sizeOf132
  v64 := Tryd.zeroValue132 }
end Go.Proofs
namespace Go.Proofs.YtjfkfkjkbgiciaaDoor
open Go Go.Eva Enc
set_option maxRecDepth 4000
attribute [local instance] rndX
attribute [local congr] AWp.congrS
attribute [local simp] evalSeq opRes guardPc evalOp evT Eva.get startT strip putT Eva.after constT typed obAll holds dstOk R.ok R.bad ofD binD unD pickT subL subP Op.operands Call.operands toD toD1 argsD argsD1 callD callT typedAll cfind quietT quietT1 spec0 spec1 spec2 spec3 enc_int enc_bool enc_str enc_fn enc_list dec_int dec_bool dec_str dec_fn dec_list size_int size_str map_dec_enc map_dec_comp cellsT D.cells T.oneT D.one mkT dataT zeroT unD1 setAt loadAs loadEl storeAs fieldP fieldV sizeE intOfT indexP appendT lenT sliceT elemSize arith lfsOk lfOk isAggD mkD fillT placeS TD.agg env restr List.map keyIdx mapTy lookT mapPutT mapDelT mapOf indexS convT evalPure range1 range2 range3 range4 range5 range6 range7 range8 enc_intk size_intk dec_intk eta_intk keysInt_nil keyIdx_E keysInt_E isE_iff put_E del_E get_E getok_E mkeys_E mkeys_E' mkeys_enc specO0 specO1 specO2 specO3 specO4 opD skips gone unbox cloT subO clearT makeT enc_bx dec_bx size_bx selS cloIs List.contains_cons List.contains_nil elAt_zero enc_Rat dec_Rat size_Rat eta_Rat beqL_Rat beqR_Rat enc_Pitch dec_Pitch size_Pitch eta_Pitch beqL_Pitch beqR_Pitch enc_Written dec_Written size_Written eta_Written beqL_Written beqR_Written enc_Measure dec_Measure size_Measure eta_Measure enc_View dec_View size_View eta_View enc_Fraction dec_Fraction size_Fraction eta_Fraction beqL_Fraction beqR_Fraction dat0 len_natTab eqT4 eqT34 eqT36 eqT38 eqT114 te1 te2 te3 te4 te5 te6 te7 te8 te9 te10 te11 te12 te13 te14 te15 te16 te17 te18 te19 te21 te22 te23 te24 te25 te26 te27 te28 te30 te31 te32 te33 te34 te35 te36 te37 te38 te39 te40 te41 te42 te43 te45 te46 te47 te48 te49 te50 te51 te52 te53 te55 te56 te57 te58 te59 te60 te61 te62 te63 te64 te65 te66 te67 te68 te69 te70 te71 te72 te73 te74 te75 te76 te77 te79 te80 te81 te82 te83 te84 te85 te86 te87 te88 te89 te90 te91 te92 te93 te94 te95 te96 te97 te98 te99 te100 te101 te102 te104 te105 te106 te108 te109 te110 te111 te112 te113 te114 te115 te116 te117 te118 te119 te120 te121 te122 te123 te124 te125 te126 te127 te128 te129 te130 te131 te133 te134 te135 te136 te137 te138 te139 te140 te141 te142 te143 te144 te145 te146 te147 te148 te149 te150
section
open Go.Maps Go.Sort Go.Shelf Go.RowKit
instance onnOff : Onn := ⟨False⟩
theorem con28 (ks vs : List D) : PureCon Tryd.prog 26 [.map ks vs] (.clo 50 [.box (.map ks vs)]) := by
  intro w I args hsat hlen hrd
  obtain ⟨v, rfl⟩ : ∃ v, args = #[v] := by
    match args, hlen with
    | ⟨[a]⟩, _ => exact ⟨a, rfl⟩
  have hv := hrd 0 v _ rfl rfl
  obtain ⟨mb, rfl⟩ : ∃ mb, v = .map mb := by cases hv <;> exact ⟨_, rfl⟩
  have cK : CallsIn Fence.wide 5 Tryd.prog 26 #[.map mb] w fun e w' => e = .returned (.func (.func 50) #[] #[.pointer (some ⟨w.heap.size, 0, none⟩)]) ∧ w' = w.alloc (.cells #[.map mb] 61) := AnyZI.keys_in Tryd.keysMk Fence.wide 5 trivial rfl mb w
  refine ((callsIn_wide (n := 5)).1 cK).mono ?_
  rintro e w' ⟨rfl, rfl⟩
  let J : Imm := ⟨fun b o => if b = w.heap.size then (if o = 0 then some (.map mb) else none) else I.cell b o, I.mp, I.df⟩
  have hno := hsat.noB (Nat.le_refl w.heap.size)
  have hle : I.le J := ⟨fun b o u hc => by
    have : b ≠ w.heap.size := fun e => by subst e; rw [hno.1] at hc; cases hc
    simp only [J, if_neg this]; exact hc, fun _ _ h => h, fun _ h => h⟩
  refine ⟨_, J, rfl, (Bel.refl _ _).alloc (Nat.le_refl _) _, .of hle (fun b hb => by funext o; simp only [J, if_neg (Nat.ne_of_lt hb)]) (fun _ _ => rfl), ⟨fun b o u hc => ?_, fun b es hc => ?_, fun b hd => (Below.heap_alloc w _ b (hsat.ltd hd)).trans (hsat.df b hd), fun g d hg => (hsat.glob g d hg).mono hle⟩, ?_⟩
  · by_cases hb : b = w.heap.size
    · subst hb
      simp only [J, if_true] at hc
      by_cases ho : o = 0
      · subst ho; simp at hc; subst hc
        show (w.alloc _).cell? ⟨w.heap.size, 0, none⟩ = _
        rw [World.cell?_alloc_new]; rfl
      · simp [ho] at hc
    · simp only [J, if_neg hb] at hc
      exact (World.cell?_of_block (w := w) (a := ⟨b, o, none⟩) (Below.heap_alloc w _ b (hsat.lt hc))).trans (hsat.cell b o u hc)
  · exact MapAt.to (Below.heap_alloc w _ b (hsat.ltm hc)) (hsat.mp b es hc)
  · refine .clo _ _ _ rfl fun i u d hu hd => ?_
    rcases i with _ | i
    · simp at hu hd; subst hu; subst hd
      refine .box _ _ (fun _ => .map mb) (by simp [D.cells, D.one]) (fun k hk => ?_) (fun k x hx => ?_)
      · simp [D.cells] at hk; subst hk; simp [J]
      · rcases k with _ | k
        · simp [D.cells] at hx; subst hx; exact hv.mono hle
        · simp [D.cells] at hx
    · simp at hu
def R0 : Value → Option (DataW Unit × List MemPlace) := fun _ => some (.lit (.bool true), [])
theorem keys_own {w : World} {b clk : Nat} {es : Array MapEntry} {xs : List Int} (hh : MapAt w.heap[b]? (es, clk)) (hsz : es.size = xs.length) (hk : ∀ (i : Nat) (e : MapEntry) x, es[i]? = some e → xs[i]? = some x → e.key = .int .i64 x) (hwf : ∀ x ∈ xs, -9223372036854775808 ≤ x ∧ x ≤ 9223372036854775807) (hmax : xs.length ≤ 1000000000) :
    ∃ D0 : DataW Unit, w.ownsMap Tryd.prog 3 R0 b xs.length D0 ∧ (intKeys D0).Perm xs ∧ Maps.size D0 = xs.length := by
  have hwf' : ∀ x ∈ xs, (Lit.int .i64 x).wf = true := fun x hx => WalkArith.wf_i64 (by have := hwf x hx; omega)
  have hkx : ∀ e ∈ es.toList, ∃ x ∈ xs, e.key = .int .i64 x := by
    intro e he
    obtain ⟨i, hi, rfl⟩ := List.mem_iff_getElem.1 he
    have hi' : i < es.size := by simpa using hi
    have hx : xs[i]? = some xs[i] := List.getElem?_eq_getElem (by omega)
    exact ⟨_, List.mem_of_getElem? hx, hk i _ _ (by simp [hi']) hx⟩
  have hrd : ∀ e ∈ es.toList, ∀ x ∈ xs, e.key = .int .i64 x → WideElems.rd Tryd.prog 3 R0 e = some (.int .i64 x, .lit (.bool true)) := by
    intro e he x hx hkey
    simp [WideElems.rd, hkey, keyOf_int_mk Tryd.underlying3 (hwf' x hx), R0]
  refine ⟨_, ⟨es, clk, hh.1, ⟨by rw [hsz]; unfold maxLen; omega, hh.2, fun e he => ?_⟩, by omega, rfl⟩, ?_, ?_⟩
  · obtain ⟨x, hx, hkey⟩ := hkx e he
    exact ⟨_, hrd e he x hx hkey⟩
  · show (((es.toList.map (WideElems.rg Tryd.prog 3 R0)).foldr DataW.insert []).map fun p => Go.intOf p.1).Perm xs
    refine ((WideShapes.sorted_perm _).map _).trans ?_
    have : (es.toList.map (WideElems.rg Tryd.prog 3 R0)).map (fun p => Go.intOf p.1) = xs := by
      apply List.ext_getElem?
      intro i
      rw [List.getElem?_map, List.getElem?_map]
      by_cases hi : i < es.size
      · have he : es.toList[i]? = some es[i] := by simp [hi]
        have hx : xs[i]? = some xs[i] := List.getElem?_eq_getElem (by omega)
        have hkey := hk i es[i] xs[i] (by simp [hi]) hx
        have := hrd es[i] (List.mem_of_getElem? he) _ (List.mem_of_getElem? hx) hkey
        rw [he, hx]
        simp [WideElems.rg, this, Go.intOf]
      · rw [List.getElem?_eq_none (by simp; omega), List.getElem?_eq_none (by omega)]; rfl
    rw [this]
  · show ((es.toList.map (WideElems.rg Tryd.prog 3 R0)).foldr DataW.insert []).length = xs.length
    rw [(WideShapes.sorted_perm _).length_eq]; simp [hsz]
def sortI (xs : List Int) : List Int := xs.mergeSort leI
theorem sortI_perm {xs ys : List Int} (h : xs.Perm ys) : sortI xs = sortI ys := mergeSort_of_perm_i h
theorem sealRow {w : World} {I : Imm} {B g : Nat} {cur : Array Value} {e : TypeId} {fl : Nat × Nat} (hsat : SatI w I) (hno : I.noB g) (hB : B ≤ g) (hh : w.heap[g]? = some (.cells cur e fl)) :
    SatI w (I.withCells g cur.toList) ∧ ExtI B I (I.withCells g cur.toList) := by
  have hout : ∀ b, b ≠ g → (I.withCells g cur.toList).cell b = I.cell b := fun b hb => by funext o; simp [Imm.withCells, hb]
  have hle : I.le (I.withCells g cur.toList) := ⟨fun b o v hc => by
    have hb : b ≠ g := by rintro rfl; rw [hno.1 o] at hc; cases hc
    rw [hout b hb]; exact hc, fun _ _ h => h, fun _ h => h⟩
  refine ⟨⟨fun b o v hc => ?_, fun b es hc => hsat.mp b es hc, hsat.df, fun g d hd => (hsat.glob g d hd).mono hle⟩, .of hle (fun b hb => hout b (by omega)) (fun _ _ => rfl)⟩
  by_cases hb : b = g
  · subst hb
    simp only [Imm.withCells, if_true] at hc
    cases hx : cur[o]? with
    | none => simp [hx, hno.1 o] at hc
    | some x => simp [hx] at hc; subst hc; simp [World.cell?, hh, hx]
  · rw [hout b hb] at hc; exact hsat.cell b o v hc
theorem sorts53 (m : Nat) : AnyZI.SortsIn Tryd.prog Tryd.sortedInt_ren Fence.wide m :=
  ⟨fun blk off cap ss W hH hblk hsz => callsIn_wide.2 (AnyM.slices_Sort_int Tryd.sortInt blk off cap ss W hH hblk hsz),
   fun p cap W => callsIn_wide.2 (AnyM.slices_Sort_int_none Tryd.sortInt p cap W)⟩
theorem con27 (xs : List Int) (vs : List D) (hwf : ∀ x ∈ xs, -9223372036854775808 ≤ x ∧ x ≤ 9223372036854775807) (hmax : xs.length ≤ 1000000000) :
    PureCon Tryd.prog 25 [.clo 50 [.box (.map (xs.map enc) vs)]] (.slice 1 ((sortI xs).map enc)) := by
  intro w I args hsat hlen hrd
  obtain ⟨v, rfl⟩ : ∃ v, args = #[v] := by
    match args, hlen with
    | ⟨[a]⟩, _ => exact ⟨a, rfl⟩
  have hv := hrd 0 v _ rfl rfl
  obtain ⟨p, rfl, hp⟩ : ∃ p, v = .func (.func 50) #[] #[p] ∧ Rd I p (.box (.map (xs.map enc) vs)) := by
    generalize xs.map (enc : Int → D) = ks at hv ⊢
    cases hv with
    | clo f ps ds h1 h2 =>
      match ps, h1 with
      | ⟨[p]⟩, _ => exact ⟨p, rfl, h2 0 p _ rfl rfl⟩
  obtain ⟨b, mb, rfl, hcell, hm⟩ : ∃ b mb, p = .pointer (some ⟨b, 0, none⟩) ∧ w.cell? ⟨b, 0, none⟩ = some (.map mb) ∧ Rd I (.map mb) (.map (xs.map enc) vs) := by
    generalize xs.map (enc : Int → D) = ks at hp ⊢
    cases hp with
    | box b d val h1 h2 h3 =>
      have h4 := h2 0 (by simp [D.cells])
      have h5 := h3 0 _ rfl
      obtain ⟨mb, hmb⟩ : ∃ mb, val 0 = .map mb := by
        generalize val 0 = z at h5
        cases h5 <;> exact ⟨_, rfl⟩
      rw [hmb] at h4 h5
      exact ⟨b, mb, rfl, hsat.cell _ _ _ h4, h5⟩
  have hb : b < w.heap.size := World.block_lt_of_cell? w ⟨b, 0, none⟩ hcell
  have main : ∀ (S : List Int → Prop) (N : Nat), N ≤ 1000000000 → SeqGives Fence.wide 2 Tryd.prog 50 #[.pointer (some ⟨b, 0, none⟩)] encZ S N w → (∀ ss, S ss → sortI ss = sortI xs) →
      Calls Tryd.prog 25 #[.func (.func 50) #[] #[.pointer (some ⟨b, 0, none⟩)]] w fun e w' => ∃ v J, e = .returned v ∧ Bel w.heap.size w w' ∧ ExtI w.heap.size I J ∧ SatI w' J ∧ Rd J v (.slice 1 ((sortI xs).map enc)) := by
    intro S N hN hseq hS
    have cS := AnyZI.sorted_in Tryd.sortedInt Fence.wide 5 trivial trivial trivial trivial rfl (by omega) (sorts53 _) (enters_of Tryd.func49 (by kernel_rfl) rfl) 50 #[.pointer (some ⟨b, 0, none⟩)] trivial (enters_of Tryd.func50 (by kernel_rfl) rfl) S N (by unfold maxLen; omega) (by omega) w hseq
    change CallsIn _ _ Tryd.prog 25 _ _ _ at cS
    refine ((callsIn_wide (n := 5)).1 cS).mono ?_
    rintro e w' ⟨v, ss, rfl, hSs, hrow, _, hbel⟩
    have hss := hS ss hSs
    unfold sortI at hss
    have hlen : (sortI xs).length = xs.length := by unfold sortI; rw [(List.mergeSort_perm _ _).length_eq]
    change ss.mergeSort leI = sortI xs at hss
    rw [hss] at hrow
    generalize sortI xs = ys at hrow hlen
    obtain ⟨n, hrow⟩ : ∃ n, w'.ownsRow w.heap.size 3 1 v n (ys.map encZ) := ⟨_, hrow⟩
    have hBel : Bel w.heap.size w w' := Bel.of hbel fun h => h.elim
    have hsat' : SatI w' I := ⟨fun b o u hc => (World.cell?_of_block (w := w) (a := ⟨b, o, none⟩) (hBel.block b (hsat.lt hc))).trans (hsat.cell b o u hc), fun b es hc => by
      exact MapAt.to (hBel.block b (hsat.ltm hc)) (hsat.mp b es hc), fun b hd => (hBel.block b (hsat.ltd hd)).trans (hsat.df b hd), hsat.glob⟩
    obtain ⟨hn, ⟨rfl, h0⟩ | ⟨g, cap, cur, rfl, hg, hh, hnc, hcap, hsz, htk⟩⟩ := hrow
    · have : ys = [] := by simpa [h0] using hn
      subst this
      exact ⟨_, I, rfl, hBel, ExtI.refl _ _, hsat', .slice0 _ _ _ (Nat.zero_le _)⟩
    · have hno := hsat.noB hg
      obtain ⟨k1, k2⟩ := sealRow (B := w.heap.size) hsat' hno hg hh
      refine ⟨_, _, rfl, hBel, k2, k1, .slice _ _ _ _ _ _ (fun k => (cur[k]?).getD undef) (by simpa using hn) hnc hcap (fun d hd => ?_) (fun k hk => ?_) (fun k x hx => ?_)⟩
      · obtain ⟨y, _, rfl⟩ := List.mem_map.1 hd
        simp [enc_int, D.cells, D.one]
      · have : cur[k]? = some (cur[k]'(by omega)) := Array.getElem?_eq_getElem (by omega)
        simp [Imm.withCells, this]
      · have hfl : flat (ys.map (enc : Int → D)) = ys.map enc := by
          unfold flat
          rw [List.flatMap_map]
          simp [enc_int, D.cells]
          rw [← List.map_eq_flatMap]
          exact List.map_congr_left fun z _ => (enc_int z).symm
        rw [hfl] at hx
        have hk : k < ys.length := by have := (List.getElem?_eq_some_iff.1 hx).1; simpa using this
        have hy : ys[k]? = some ys[k] := List.getElem?_eq_getElem hk
        have hx' : x = enc ys[k] := by simpa [hy] using hx.symm
        have hc : cur[k]? = some (encZ ys[k]) := by
          have h1 : (cur.toList.take (n * 1))[k]? = (ys.map encZ)[k]? := by rw [htk]
          rw [List.getElem?_take_of_lt (by simp at hn; omega)] at h1
          simpa [hy] using h1
        rw [hc, hx', enc_int]
        exact .int _ _
  cases mb with
  | none =>
    have hx : xs = [] := by
      generalize hks : xs.map (enc : Int → D) = ks at hm
      cases hm
      simpa using hks
    subst hx
    exact main (fun ss => ss = []) 0 (by omega) (AnyZI.keys_gives_nil (ρ := Tryd.keysMk_ren) { Tryd.keysMk with } Fence.wide _ trivial rfl b w hb hcell) (fun ss h => by rw [h])
  | some bb =>
    obtain ⟨⟨es, clk⟩, h1, h2, h3⟩ : ∃ es : ME, I.mp bb = some es ∧ es.1.size = (xs.map (enc : Int → D)).length ∧ ∀ (i : Nat) (e : MapEntry) (d : D), es.1[i]? = some e → (xs.map (enc : Int → D))[i]? = some d → Rd I e.key d := by
      generalize hks : xs.map (enc : Int → D) = ks at hm
      cases hm with
      | map _ es _ _ q1 q2 q3 q4 q5 => exact ⟨es, q1, q2, q4⟩
    have hh := hsat.mp bb (es, clk) h1
    obtain ⟨D0, g1, g2, g3⟩ := keys_own (xs := xs) hh (by simpa using h2) (fun i e x he hx => by
      have := h3 i e (enc x) he (by simp [hx])
      rw [enc_int] at this
      generalize e.key = z at this
      cases this; rfl) hwf hmax
    exact main (fun ss => ss.Perm (intKeys D0)) (Maps.size D0) (by omega) (AnyZI.keys_gives (ρ := Tryd.keysMk_ren) { Tryd.keysMk with } Fence.wide _ trivial rfl (by omega) b bb xs.length D0 w hb hcell g1) (fun ss h => sortI_perm (h.trans g2))
def sp26 : Eva.Spec := fun ds => match ds with
  | [.map ks vs] => some (.clo 50 [.box (.map ks vs)], True)
  | _ => none
theorem ok26 : SpecOk Tryd.prog 26 sp26 := ⟨Enters.of Tryd.func26 (by decide), fun ds r ob hs hob => by
  unfold sp26 at hs; split at hs
  · cases hs; exact con28 _ _
  · cases hs⟩
def okKeys (ks : List D) : Prop := (ks.map (dec : D → Int)).map enc = ks ∧ (∀ x ∈ ks.map (dec : D → Int), -9223372036854775808 ≤ x ∧ x ≤ 9223372036854775807) ∧ ks.length ≤ 1000000000
theorem okKeys_E {α : Type} (x : List (Int × α)) : okKeys (x.map kE) ↔ (∀ k ∈ mkeys x, inI k) ∧ x.length ≤ 1000000000 := by
  unfold okKeys
  rw [mkeys_E, mkeys_enc, List.length_map]
  exact ⟨fun h => h.2, fun h => ⟨rfl, h⟩⟩
def sp25 : Eva.Spec := fun ds => match ds with
  | [.clo 50 [.box (.map ks vs)]] => some (.slice 1 ((sortI (ks.map dec)).map enc), okKeys ks)
  | _ => none
theorem ok25 : SpecOk Tryd.prog 25 sp25 := ⟨Enters.of Tryd.func25 (by decide), fun ds r ob hs hob => by
  unfold sp25 at hs; split at hs
  · cases hs
    rename_i ks vs
    obtain ⟨h1, h2, h3⟩ := hob
    have := con27 (ks.map dec) vs h2 (by simpa using h3)
    rw [h1] at this
    exact this
  · cases hs⟩
end
end Go.Proofs.YtjfkfkjkbgiciaaDoor
namespace Go.Proofs.YtjfkfkjkbgiciaaDoor
open Go Go.Eva Go.RowKit Go.ChangeShapes Go.WideShapes
theorem own : ownKnob Tryd.prog.godebug = none := by kernel_rfl
theorem laidOut : laidOutB Tryd.prog = true := by kernel_rfl
theorem field_at {H : Type} {en : TypeId × Value → H} {P : Program} {w : World} {base : Nat} {spare : Nat → Bool} {held : Bool} {n : Nat} {cs : List Value} {xs : List (DataW H × List MemPlace)} {fs : Array Field} (hl : xs.length = fs.size)
    (hf : ∀ (i : Nat) (f : Field), fs[i]? = some f → DataW.trod en P w base spare held n f.type ((cs.drop f.offset).take (P.cellsOf f.type)) = xs[i]?) (i : Nat) (f : Field) (hi : fs[i]? = some f) {s : Nat} (hs : P.cellsOf f.type = s) :
    ∃ x, xs[i]? = some x ∧ DataW.trod en P w base spare held n f.type ((cs.drop f.offset).take s) = some x := by
  have h := hf i f hi
  rw [hs] at h
  have : i < xs.length := by rw [hl]; exact (Array.getElem?_eq_some_iff.1 hi).1
  have hx := List.getElem?_eq_getElem this
  exact ⟨xs[i], hx, h.trans hx⟩
def goodM (H : Type) (d : DataW H) (m : Measure) : Prop := ∃ ds d', d = .agg ds ∧ d' ∈ ds ∧ goodL (fun _ _ (_ : Written) => True) H d' m.notes
def goodV (H : Type) (d : DataW H) (v : View) : Prop := ∃ ds d', d = .agg ds ∧ d' ∈ ds ∧ goodL goodM H d' v.measures
theorem opens_3 : Opens Tryd.prog 3 Int fun _ _ n => -9223372036854775808 ≤ n ∧ n ≤ 9223372036854775807 := opens_int Tryd.underlying3
theorem opens_5 : Opens Tryd.prog 5 (IntK .u8) fun _ _ n => (Lit.int .u8 n.n).wf = true := opens_intk Tryd.underlying5
theorem opens_34 : Opens Tryd.prog 34 Rat fun _ _ _ => True := by
  intro H en w base spare held fuel cs x h
  obtain ⟨xs, n, _, hx, hl, hxl, hf⟩ := DataW.trod_struct Tryd.underlying34 h
  obtain ⟨x0, e0, h0⟩ := field_at hxl hf 0 _ rfl (s := 1) (by kernel_rfl)
  obtain ⟨x1, e1, h1⟩ := field_at hxl hf 1 _ rfl (s := 1) (by kernel_rfl)
  obtain ⟨a0, g0, k0⟩ := opens_3 _ _ _ _ _ _ _ _ _ h0
  obtain ⟨a1, g1, k1⟩ := opens_3 _ _ _ _ _ _ _ _ _ h1
  have hn : cs.length = 2 := hl.trans (by kernel_rfl)
  exact ⟨⟨a0, a1⟩, trivial, (cells_cons k0 (cells_cons k1 (cells_nil _ hn)))⟩
theorem opens_36 : Opens Tryd.prog 36 Pitch fun _ _ _ => True := by
  intro H en w base spare held fuel cs x h
  obtain ⟨xs, n, _, hx, hl, hxl, hf⟩ := DataW.trod_struct Tryd.underlying36 h
  obtain ⟨x0, e0, h0⟩ := field_at hxl hf 0 _ rfl (s := 1) (by kernel_rfl)
  obtain ⟨x1, e1, h1⟩ := field_at hxl hf 1 _ rfl (s := 1) (by kernel_rfl)
  obtain ⟨x2, e2, h2⟩ := field_at hxl hf 2 _ rfl (s := 1) (by kernel_rfl)
  obtain ⟨a0, g0, k0⟩ := opens_3 _ _ _ _ _ _ _ _ _ h0
  obtain ⟨a1, g1, k1⟩ := opens_3 _ _ _ _ _ _ _ _ _ h1
  obtain ⟨a2, g2, k2⟩ := opens_3 _ _ _ _ _ _ _ _ _ h2
  have hn : cs.length = 3 := hl.trans (by kernel_rfl)
  exact ⟨⟨a0, a1, a2⟩, trivial, (cells_cons k0 (cells_cons k1 (cells_cons k2 (cells_nil _ hn))))⟩
theorem opens_38 : Opens Tryd.prog 38 Written fun _ _ _ => True := by
  intro H en w base spare held fuel cs x h
  obtain ⟨xs, n, _, hx, hl, hxl, hf⟩ := DataW.trod_struct Tryd.underlying38 h
  obtain ⟨x0, e0, h0⟩ := field_at hxl hf 0 _ rfl (s := 1) (by kernel_rfl)
  obtain ⟨x1, e1, h1⟩ := field_at hxl hf 1 _ rfl (s := 1) (by kernel_rfl)
  obtain ⟨x2, e2, h2⟩ := field_at hxl hf 2 _ rfl (s := 1) (by kernel_rfl)
  obtain ⟨x3, e3, h3⟩ := field_at hxl hf 3 _ rfl (s := 2) (by kernel_rfl)
  obtain ⟨x4, e4, h4⟩ := field_at hxl hf 4 _ rfl (s := 2) (by kernel_rfl)
  obtain ⟨x5, e5, h5⟩ := field_at hxl hf 5 _ rfl (s := 3) (by kernel_rfl)
  obtain ⟨a0, g0, k0⟩ := opens_3 _ _ _ _ _ _ _ _ _ h0
  obtain ⟨a1, g1, k1⟩ := opens_3 _ _ _ _ _ _ _ _ _ h1
  obtain ⟨a2, g2, k2⟩ := opens_3 _ _ _ _ _ _ _ _ _ h2
  obtain ⟨a3, g3, k3⟩ := opens_34 _ _ _ _ _ _ _ _ _ h3
  obtain ⟨a4, g4, k4⟩ := opens_34 _ _ _ _ _ _ _ _ _ h4
  obtain ⟨a5, g5, k5⟩ := opens_36 _ _ _ _ _ _ _ _ _ h5
  have hn : cs.length = 10 := hl.trans (by kernel_rfl)
  exact ⟨⟨a0, a1, a2, a3, a4, a5⟩, trivial, (cells_cons k0 (cells_cons k1 (cells_cons k2 (cells_cons k3 (cells_cons k4 (cells_cons k5 (cells_nil _ hn)))))))⟩
theorem opens_40 : Opens Tryd.prog 40 (List Written) (goodL (fun _ _ _ => True)) := opens_slice Tryd.underlying40 (by kernel_rfl) (by rw [show Tryd.prog.cellsOf 38 = 10 by kernel_rfl]; omega) opens_38
theorem opens_42 : Opens Tryd.prog 42 Measure goodM := by
  intro H en w base spare held fuel cs x h
  obtain ⟨xs, n, _, hx, hl, hxl, hf⟩ := DataW.trod_struct Tryd.underlying42 h
  obtain ⟨x0, e0, h0⟩ := field_at hxl hf 0 _ rfl (s := 1) (by kernel_rfl)
  obtain ⟨x1, e1, h1⟩ := field_at hxl hf 1 _ rfl (s := 1) (by kernel_rfl)
  obtain ⟨x2, e2, h2⟩ := field_at hxl hf 2 _ rfl (s := 2) (by kernel_rfl)
  obtain ⟨x3, e3, h3⟩ := field_at hxl hf 3 _ rfl (s := 1) (by kernel_rfl)
  obtain ⟨a0, g0, k0⟩ := opens_3 _ _ _ _ _ _ _ _ _ h0
  obtain ⟨a1, g1, k1⟩ := opens_3 _ _ _ _ _ _ _ _ _ h1
  obtain ⟨a2, g2, k2⟩ := opens_34 _ _ _ _ _ _ _ _ _ h2
  obtain ⟨a3, g3, k3⟩ := opens_40 _ _ _ _ _ _ _ _ _ h3
  have hn : cs.length = 5 := hl.trans (by kernel_rfl)
  exact ⟨⟨a0, a1, a2, a3⟩, ⟨_, x3.1, by rw [hx], List.mem_map.2 ⟨x3, List.mem_of_getElem? e3, rfl⟩, g3⟩, (cells_cons k0 (cells_cons k1 (cells_cons k2 (cells_cons k3 (cells_nil _ hn)))))⟩
theorem opens_25 : Opens Tryd.prog 25 (List Measure) (goodL goodM) := opens_slice Tryd.underlying25 (by kernel_rfl) (by rw [show Tryd.prog.cellsOf 42 = 5 by kernel_rfl]; omega) opens_42
theorem opens_27 : Opens Tryd.prog 27 View goodV := by
  intro H en w base spare held fuel cs x h
  obtain ⟨xs, n, _, hx, hl, hxl, hf⟩ := DataW.trod_struct Tryd.underlying27 h
  obtain ⟨x0, e0, h0⟩ := field_at hxl hf 0 _ rfl (s := 1) (by kernel_rfl)
  obtain ⟨x1, e1, h1⟩ := field_at hxl hf 1 _ rfl (s := 1) (by kernel_rfl)
  obtain ⟨a0, g0, k0⟩ := opens_3 _ _ _ _ _ _ _ _ _ h0
  obtain ⟨a1, g1, k1⟩ := opens_25 _ _ _ _ _ _ _ _ _ h1
  have hn : cs.length = 2 := hl.trans (by kernel_rfl)
  exact ⟨⟨a0, a1⟩, ⟨_, x1.1, by rw [hx], List.mem_map.2 ⟨x1, List.mem_of_getElem? e1, rfl⟩, g1⟩, (cells_cons k0 (cells_cons k1 (cells_nil _ hn)))⟩
theorem opens_22 : Opens Tryd.prog 22 (List View) (goodL goodV) := opens_slice Tryd.underlying22 (by kernel_rfl) (by rw [show Tryd.prog.cellsOf 27 = 2 by kernel_rfl]; omega) opens_27
theorem opens_43 : Opens Tryd.prog 43 (List Int) (goodL (fun _ _ n => -9223372036854775808 ≤ n ∧ n ≤ 9223372036854775807)) := opens_slice Tryd.underlying43 (by kernel_rfl) (by rw [show Tryd.prog.cellsOf 3 = 1 by kernel_rfl]; omega) opens_3
theorem shutBool {H : Type} {en : TypeId × Value → H} {W : World} {base : Nat} {sp : Nat → Bool} {held : Bool} (b : Bool) : DataW.Trod en Tryd.prog W base sp held 4 (.bool b) (.lit (.bool b)) [] := ⟨1, by simp [DataW.trod, Value.cells, Tryd.underlying4]⟩
theorem bulk_one {H : Type} (d : DataW H) : 1 ≤ Rows.uptoBulk d := by
  cases d with
  | lit l => cases l <;> simp [Rows.uptoBulk]
  | nil => simp [Rows.uptoBulk]
  | ptr d => simp [Rows.uptoBulk]
  | slice elems spare => simp [Rows.uptoBulk]
  | agg parts => simp [Rows.uptoBulk]
  | iface t d => simp [Rows.uptoBulk]
  | map entries => simp [Rows.uptoBulk]
  | held h => simp [Rows.uptoBulk]
theorem bulk_part {H : Type} {d : DataW H} {l : List (DataW H)} (h : d ∈ l) : Rows.uptoBulk d ≤ Rows.uptoBulkAll l := by
  induction l with
  | nil => cases h
  | cons x r ih =>
    simp only [Rows.uptoBulkAll]
    rcases List.mem_cons.1 h with e | e
    · subst e; omega
    · have := ih e; omega
theorem bulk_len {H : Type} (l : List (DataW H)) : l.length ≤ Rows.uptoBulkAll l := by
  induction l with
  | nil => simp [Rows.uptoBulkAll]
  | cons x r ih => have := bulk_one x; simp only [Rows.uptoBulkAll, List.length_cons]; omega
theorem goodL_len {α : Type} {good : (H : Type) → DataW H → α → Prop} {H : Type} {d : DataW H} {l : List α} (h : goodL good H d l) {B : Nat} (hB : Rows.uptoBulk d ≤ B) : l.length ≤ B := by
  rcases h.2 with rfl | ⟨elems, spare, rfl, h1, h2⟩
  · exact Nat.zero_le _
  · have := bulk_len elems
    simp only [Rows.uptoBulk] at hB
    omega
theorem goodL_mem {α : Type} {good : (H : Type) → DataW H → α → Prop} {H : Type} {d : DataW H} {l : List α} (h : goodL good H d l) {B : Nat} (hB : Rows.uptoBulk d ≤ B) {a : α} (ha : a ∈ l) : ∃ d', good H d' a ∧ Rows.uptoBulk d' ≤ B := by
  rcases h.2 with rfl | ⟨elems, spare, rfl, h1, h2⟩
  · cases ha
  · obtain ⟨i, hi⟩ := List.getElem?_of_mem ha
    obtain ⟨d', h3, h4⟩ := h2 i a hi
    have := bulk_part (List.mem_of_getElem? h3)
    simp only [Rows.uptoBulk] at hB
    exact ⟨d', h4, by omega⟩
theorem goodM_len {H : Type} {d : DataW H} {m : Measure} (h : goodM H d m) {B : Nat} (hB : Rows.uptoBulk d ≤ B) : m.notes.length ≤ B := by
  obtain ⟨ds, d', rfl, h1, h2⟩ := h
  have := bulk_part h1
  simp only [Rows.uptoBulk] at hB
  exact goodL_len h2 (by omega)
theorem goodV_sm {H : Type} {d : DataW H} {v : View} (h : goodV H d v) (hB : Rows.uptoBulk d ≤ 1048576) : Sm v := by
  obtain ⟨ds, d', rfl, h1, h2⟩ := h
  have := bulk_part h1
  simp only [Rows.uptoBulk] at hB
  refine ⟨goodL_len h2 (by omega), fun m hm => ?_⟩
  obtain ⟨d'', h3, h4⟩ := goodL_mem (B := 1048576) h2 (by omega) hm
  exact goodM_len h3 h4
theorem goodVs_sm {H : Type} {d : DataW H} {l : List View} (h : goodL goodV H d l) (hB : Rows.uptoBulk d ≤ 1048576) : ∀ v ∈ l, Sm v := fun v hv => by
  obtain ⟨d', h1, h2⟩ := goodL_mem h hB hv
  exact goodV_sm h1 h2
theorem small_at {H : Type} {ds : List (DataW H)} (h : Rows.uptoSmall H ds = true) {d : DataW H} (hd : d ∈ ds) : Rows.uptoBulk d ≤ 1048576 := by
  have h1 : Rows.uptoBulkAll ds ≤ 1048576 := of_decide_eq_true h
  have := bulk_part hd
  omega
theorem gTab : Tryd.prog.globalNamed "partbook/pitch.naturals" = some 0 := by kernel_rfl
theorem gTabType : (Tryd.prog.globals[0]?).map (·.type) = some 116 := by kernel_rfl
theorem cellsTab : Tryd.prog.cellsOf 116 = 7 := by kernel_rfl
theorem cellsInt : Tryd.prog.cellsOf 3 = 1 := by kernel_rfl
theorem table {W : World} (h : laidMetH Tryd.prog [("partbook/pitch.naturals", Rows.laid_partbook_pitch_naturals)] W) : Lib.TabIs Tryd.prog W "partbook/pitch.naturals" .i64 natTab :=
  Lib.tabIs_of_head (rest := []) gTab gTabType Tryd.underlying116 Tryd.underlying3 cellsInt cellsTab h
theorem glob {W : World} (h : laidMetH Tryd.prog [("partbook/pitch.naturals", Rows.laid_partbook_pitch_naturals)] W) : ∀ g d, Drw.dat g = some d → Rd (allI W) (.pointer (some ⟨g, 0, none⟩)) (.box d) := by
  intro g d hd
  have hd' : tabs g = some d := hd
  unfold tabs at hd'
  split at hd'
  · rename_i hg
    subst hg
    injection hd' with hd'
    subst hd'
    have ht := fun i hi => (table h).cell gTab i hi
    refine .box 0 _ (fun k => (W.cell? ⟨0, k, none⟩).getD undef) (fun x hx => ?_) (fun k hk => ?_) (fun k x hx => ?_)
    · obtain ⟨n, _, rfl⟩ := List.mem_map.1 (show x ∈ natTab.map Enc.enc from hx); rfl
    · have hk' : k < natTab.length := by simpa [D.cells] using hk
      show W.cell? ⟨0, k, none⟩ = _
      rw [ht k hk']; rfl
    · have hx' : (natTab.map (Enc.enc : Int → D))[k]? = some x := hx
      rw [List.getElem?_map] at hx'
      obtain ⟨n, hn, rfl⟩ := Option.map_eq_some_iff.1 hx'
      have hk' : k < natTab.length := (List.getElem?_eq_some_iff.1 hn).1
      rw [ht k hk', List.getD_eq_getElem?_getD, hn]
      exact .int _ _
  · cases hd'
end Go.Proofs.YtjfkfkjkbgiciaaDoor
namespace Go.Proofs.YtjfkfkjkbgiciaaDoor
open Go Go.Eva Enc
set_option maxRecDepth 4000
attribute [local instance] rndX
attribute [local congr] AWp.congrS
attribute [local simp] evalSeq opRes guardPc evalOp evT Eva.get startT strip putT Eva.after constT typed obAll holds dstOk R.ok R.bad ofD binD unD pickT subL subP Op.operands Call.operands toD toD1 argsD argsD1 callD callT typedAll cfind quietT quietT1 spec0 spec1 spec2 spec3 enc_int enc_bool enc_str enc_fn enc_list dec_int dec_bool dec_str dec_fn dec_list size_int size_str map_dec_enc map_dec_comp cellsT D.cells T.oneT D.one mkT dataT zeroT unD1 setAt loadAs loadEl storeAs fieldP fieldV sizeE intOfT indexP appendT lenT sliceT elemSize arith lfsOk lfOk isAggD mkD fillT placeS TD.agg env restr List.map keyIdx mapTy lookT mapPutT mapDelT mapOf indexS convT evalPure range1 range2 range3 range4 range5 range6 range7 range8 enc_intk size_intk dec_intk eta_intk keysInt_nil keyIdx_E keysInt_E isE_iff put_E del_E get_E getok_E mkeys_E mkeys_E' mkeys_enc specO0 specO1 specO2 specO3 specO4 opD skips gone unbox cloT subO clearT makeT enc_bx dec_bx size_bx selS cloIs List.contains_cons List.contains_nil elAt_zero enc_Rat dec_Rat size_Rat eta_Rat beqL_Rat beqR_Rat enc_Pitch dec_Pitch size_Pitch eta_Pitch beqL_Pitch beqR_Pitch enc_Written dec_Written size_Written eta_Written beqL_Written beqR_Written enc_Measure dec_Measure size_Measure eta_Measure enc_View dec_View size_View eta_View enc_Fraction dec_Fraction size_Fraction eta_Fraction beqL_Fraction beqR_Fraction dat0 len_natTab eqT4 eqT34 eqT36 eqT38 eqT114 te1 te2 te3 te4 te5 te6 te7 te8 te9 te10 te11 te12 te13 te14 te15 te16 te17 te18 te19 te21 te22 te23 te24 te25 te26 te27 te28 te30 te31 te32 te33 te34 te35 te36 te37 te38 te39 te40 te41 te42 te43 te45 te46 te47 te48 te49 te50 te51 te52 te53 te55 te56 te57 te58 te59 te60 te61 te62 te63 te64 te65 te66 te67 te68 te69 te70 te71 te72 te73 te74 te75 te76 te77 te79 te80 te81 te82 te83 te84 te85 te86 te87 te88 te89 te90 te91 te92 te93 te94 te95 te96 te97 te98 te99 te100 te101 te102 te104 te105 te106 te108 te109 te110 te111 te112 te113 te114 te115 te116 te117 te118 te119 te120 te121 te122 te123 te124 te125 te126 te127 te128 te129 te130 te131 te133 te134 te135 te136 te137 te138 te139 te140 te141 te142 te143 te144 te145 te146 te147 te148 te149 te150
section
variable [Onn]
noncomputable def sp63 : Eva.Spec := specO1 fun (q : Rat) => (ratValid q).map fun r => enc r
theorem ok63 : SpecOk Tryd.prog 63 sp63 := by
 have hV : VOk Tryd.prog (env [(79, sp79)]) := env_ok ⟨ok79, trivial⟩
 refine SpecOk.ofO1 (Enters.of Tryd.func63 (by decide)) fun q rr hr => ?_
 obtain ⟨r, hg, rfl⟩ := mpj hr; clear hr
 refine PureCon.ofN hV Tryd.func63 rfl Tryd.ntmps63 fun R hR w0 I0 Q hQ => ?_
 unfold ratValid at hg
 refine AWp.rS hV none [1] fun K k1 => ?_
 simp; repeat refine ai ?_
 refine kc [(1, .ptr 0 0)] [.w 34 q] (k1 _ ?_)
 refine AWp.seqG fun _ k2 => ?_
 obtain ⟨y3u20, hx4, hg⟩ := bnd_some hg
 unfold ratValid_r1 at hx4
 refine AWp.seqJ (fun s' => Sub s' ⟨[(1, .ptr 0 0), se 20 y3u20], [.w 34 q]⟩) (fun _ k5 => ?_) ?_
 ·rcases ifb_o hx4 with ⟨c6, hx4⟩ | ⟨c6, hx4⟩
  ·have c6g := c6; try simp at c6g
   refine AWp.regF hV (some [7, 8, 9, 12, 13, 14, 17, 18, 19]) [1, 20] fun K k7 => ?_
   simp [c6, c6g]; repeat refine ai ?_
   cases hx4; exact k7 _ (k5 _ (Sub.rm [0]))
  ·have c6g := c6; try simp at c6g
   rcases ifb_o hx4 with ⟨c8, hx4⟩ | ⟨c8, hx4⟩
   ·have c8g := c8; try simp at c8g
    refine AWp.regF hV (some [12, 13, 14, 17, 18, 19]) [1, 20] fun K k9 => ?_
    simp [c6, c6g, c8, c8g]; repeat refine ai ?_
    cases hx4; exact k9 _ (k5 _ (Sub.rm [0]))
   ·have c8g := c8; try simp at c8g
    rcases ifb_o hx4 with ⟨c10, hx4⟩ | ⟨c10, hx4⟩
    ·have c10g := c10; try simp at c10g
     refine AWp.regF hV (some [17, 18, 19]) [1, 20] fun K k11 => ?_
     simp [c6, c6g, c8, c8g, c10, c10g]; repeat refine ai ?_
     cases hx4; exact k11 _ (k5 _ (Sub.rm [0]))
    ·have c10g := c10; try simp at c10g
     refine AWp.regF hV (some []) [1, 20] fun K k12 => ?_
     simp [c6, c6g, c8, c8g, c10, c10g]; repeat refine ai ?_
     cases hx4; exact k12 _ (k5 _ (Sub.rm [0]))
 ·intro s' hs
  refine AWp.sub hs ?_
  clear hs s'
  refine AWp.cnd hg rfl ?_ ?_ <;> (clear hg; intro h13 hg)
  ·refine AWp.rS hV none [2] fun K k14 => ?_
   simp; repeat refine ai ?_
   refine kc [se 2 false] [.w 34 q] (k14 _ ?_)
   refine AWp.ret ?_
   cases hg; exact hQ _ _ (.inl rfl) rt
  ·refine AWp.skip ?_
   refine k2 _ ?_
   obtain ⟨x15, h16, hg⟩ := bnd_some hg
   have h16g := h16; try simp at h16g
   refine AWp.rDF hV mixed none 11 [] [2] (by decide) fun K k17 => ?_
   simp [sp79, h16, h16g]; repeat refine ai ?_
   refine kd [se 2 (decide (x15 = (⟨q.n, q.d⟩ : Fraction)))] [.w 34 q] (by first | rfl | (simp [sp79, h16, h16g] <;> grind)) (k17 _ ?_)
   refine AWp.ret ?_
   cases hg; exact hQ _ _ (.inl rfl) rt
noncomputable def sp58 : Eva.Spec := specO1 fun (q : Rat) => (isStart q).map fun r => enc r
theorem ok58 : SpecOk Tryd.prog 58 sp58 := by
 have hV : VOk Tryd.prog (env [(63, sp63)]) := env_ok ⟨ok63, trivial⟩
 refine SpecOk.ofO1 (Enters.of Tryd.func58 (by decide)) fun q rr hr => ?_
 obtain ⟨r, hg, rfl⟩ := mpj hr; clear hr
 refine PureCon.ofN hV Tryd.func58 rfl Tryd.ntmps58 fun R hR w0 I0 Q hQ => ?_
 unfold isStart at hg
 refine AWp.rS hV none [1] fun K k1 => ?_
 simp; repeat refine ai ?_
 refine kc [(1, .ptr 0 0)] [.w 34 q] (k1 _ ?_)
 obtain ⟨y5u2, hx6, hg⟩ := bnd_some hg
 unfold isStart_r1 at hx6
 refine AWp.seqJ (fun s' => Sub s' ⟨[se 2 y5u2], []⟩) (fun _ k7 => ?_) ?_
 ·obtain ⟨x2, h3, hx6⟩ := bnd_some hx6
  rcases ifb_o hx6 with ⟨c8, hx6⟩ | ⟨c8, hx6⟩
  ·rcases ifb_o hx6 with ⟨c9, hx6⟩ | ⟨c9, hx6⟩
   ·have c9g := c9; try simp at c9g
    obtain ⟨g4, hx6⟩ := grd_some hx6
    refine AWp.regF hV (some []) [2] fun K k10 => ?_
    simp [sp63, h3, c8, c9, c9g]; repeat refine ai ?_
    cases hx6; exact k10 _ (k7 _ (Sub.rm []))
   ·have c9g := c9; try simp at c9g
    refine AWp.regF hV (some [11, 12, 13, 14]) [2] fun K k11 => ?_
    simp [sp63, h3, c8, c9, c9g]; repeat refine ai ?_
    cases hx6; exact k11 _ (k7 _ (Sub.rm []))
  ·refine AWp.regF hV (some [6, 7, 8, 11, 12, 13, 14]) [2] fun K k12 => ?_
   simp [sp63, h3, c8]; repeat refine ai ?_
   cases hx6; exact k12 _ (k7 _ (Sub.rm []))
 ·intro s' hs
  refine AWp.sub hs ?_
  clear hs s'
  refine AWp.ret ?_
  cases hg; exact hQ _ _ (.inl rfl) rt
noncomputable def sp37 : Eva.Spec := specO1 fun (w : Written) => (isNote w).map fun r => enc r
theorem ok37 : SpecOk Tryd.prog 37 sp37 := by
 have hV : VOk Tryd.prog (env [(58, sp58), (59, sp59)]) := env_ok ⟨ok58, ok59, trivial⟩
 refine SpecOk.ofO1 (Enters.of Tryd.func37 (by decide)) fun w rr hr => ?_
 obtain ⟨r, hg, rfl⟩ := mpj hr; clear hr
 refine PureCon.ofN hV Tryd.func37 rfl Tryd.ntmps37 fun R hR w0 I0 Q hQ => ?_
 unfold isNote at hg
 refine AWp.rS hV none [1] fun K k1 => ?_
 simp; repeat refine ai ?_
 refine kc [(1, .ptr 0 0)] [.w 38 w] (k1 _ ?_)
 obtain ⟨y6u2, hx7, hg⟩ := bnd_some hg
 unfold isNote_r1 at hx7
 refine AWp.seqJ (fun s' => Sub s' ⟨[se 2 y6u2], []⟩) (fun _ k8 => ?_) ?_
 ·rcases ifb_o hx7 with ⟨c9, hx7⟩ | ⟨c9, hx7⟩
  ·have c9g := c9; try simp at c9g
   rcases ifb_o hx7 with ⟨c10, hx7⟩ | ⟨c10, hx7⟩
   ·have c10g := c10; try simp at c10g
    rcases ifb_o hx7 with ⟨c11, hx7⟩ | ⟨c11, hx7⟩
    ·have c11g := c11; try simp at c11g
     rcases ifb_o hx7 with ⟨c12, hx7⟩ | ⟨c12, hx7⟩
     ·have c12g := c12; try simp at c12g
      obtain ⟨x2, h3, hx7⟩ := bnd_some hx7
      rcases ifb_o hx7 with ⟨c13, hx7⟩ | ⟨c13, hx7⟩
      ·obtain ⟨x4, h5, hx7⟩ := bnd_some hx7
       refine AWp.regF hV (some []) [2] fun K k14 => ?_
       simp [sp58, sp59, c9, c9g, c10, c10g, c11, c11g, c12, c12g, h3, c13, h5]; repeat refine ai ?_
       cases hx7; exact k14 _ (k8 _ (Sub.rm []))
      ·refine AWp.regF hV (some [27, 28, 29]) [2] fun K k15 => ?_
       simp [sp58, sp59, c9, c9g, c10, c10g, c11, c11g, c12, c12g, h3, c13]; repeat refine ai ?_
       cases hx7; exact k15 _ (k8 _ (Sub.rm []))
     ·have c12g := c12; try simp at c12g
      refine AWp.regF hV (some [22, 23, 24, 27, 28, 29]) [2] fun K k16 => ?_
      simp [sp58, sp59, c9, c9g, c10, c10g, c11, c11g, c12, c12g]; repeat refine ai ?_
      cases hx7; exact k16 _ (k8 _ (Sub.rm []))
    ·have c11g := c11; try simp at c11g
     refine AWp.regF hV (some [17, 18, 19, 22, 23, 24, 27, 28, 29]) [2] fun K k17 => ?_
     simp [sp58, sp59, c9, c9g, c10, c10g, c11, c11g]; repeat refine ai ?_
     cases hx7; exact k17 _ (k8 _ (Sub.rm []))
   ·have c10g := c10; try simp at c10g
    refine AWp.regF hV (some [12, 13, 14, 17, 18, 19, 22, 23, 24, 27, 28, 29]) [2] fun K k18 => ?_
    simp [sp58, sp59, c9, c9g, c10, c10g]; repeat refine ai ?_
    cases hx7; exact k18 _ (k8 _ (Sub.rm []))
  ·have c9g := c9; try simp at c9g
   refine AWp.regF hV (some [7, 8, 9, 12, 13, 14, 17, 18, 19, 22, 23, 24, 27, 28, 29]) [2] fun K k19 => ?_
   simp [sp58, sp59, c9, c9g]; repeat refine ai ?_
   cases hx7; exact k19 _ (k8 _ (Sub.rm []))
 ·intro s' hs
  refine AWp.sub hs ?_
  clear hs s'
  refine AWp.ret ?_
  cases hg; exact hQ _ _ (.inl rfl) rt
noncomputable def sp36 : Eva.Spec := specO1 fun (w : Written) => (noNote w).map fun r => enc r
theorem ok36 : SpecOk Tryd.prog 36 sp36 := by
 have hV : VOk Tryd.prog (env [(37, sp37)]) := env_ok ⟨ok37, trivial⟩
 refine SpecOk.ofO1 (Enters.of Tryd.func36 (by decide)) fun w rr hr => ?_
 obtain ⟨r, hg, rfl⟩ := mpj hr; clear hr
 refine PureCon.ofN hV Tryd.func36 rfl Tryd.ntmps36 fun R hR w0 I0 Q hQ => ?_
 unfold noNote at hg
 refine AWp.rS hV none [1] fun K k1 => ?_
 simp; repeat refine ai ?_
 refine kc [(1, .ptr 0 0)] [.w 38 w] (k1 _ ?_)
 obtain ⟨x2, h3, hg⟩ := bnd_some hg
 refine AWp.rS hV none [2] fun K k4 => ?_
 simp [sp37, h3]; repeat refine ai ?_
 refine kd [se 2 (!x2)] [.w 38 w] (by first | rfl | (simp [sp37, h3] <;> grind)) (k4 _ ?_)
 refine AWp.ret ?_
 cases hg; exact hQ _ _ (.inl rfl) rt
noncomputable def sp43 : Eva.Spec := specO2 fun (a : Rat) (b : Rat) => (ratCompare a b).map fun r => .tup [enc r.1, enc r.2]
theorem ok43 : SpecOk Tryd.prog 43 sp43 := by
 have hV : VOk Tryd.prog (env [(63, sp63)]) := env_ok ⟨ok63, trivial⟩
 refine SpecOk.ofO2 (Enters.of Tryd.func43 (by decide)) fun a b rr hr => ?_
 obtain ⟨r, hg, rfl⟩ := mpj hr; clear hr
 refine PureCon.ofN hV Tryd.func43 rfl Tryd.ntmps43 fun R hR w0 I0 Q hQ => ?_
 unfold ratCompare at hg
 refine AWp.rS hV none [2, 3] fun K k1 => ?_
 simp; repeat refine ai ?_
 refine kc [(2, .ptr 0 0), (3, .ptr 1 0)] [.w 34 a, .w 34 b] (k1 _ ?_)
 refine AWp.seqG fun _ k2 => ?_
 obtain ⟨y7u15, hx8, hg⟩ := bnd_some hg
 unfold ratCompare_r1 at hx8
 refine AWp.seqJ (fun s' => Sub s' ⟨[(2, .ptr 0 0), (3, .ptr 1 0), se 15 y7u15], [.w 34 a, .w 34 b]⟩) (fun _ k9 => ?_) ?_
 ·obtain ⟨x3, h4, hx8⟩ := bnd_some hx8
  rcases ifb_o hx8 with ⟨c10, hx8⟩ | ⟨c10, hx8⟩
  ·have c10g := c10; try simp at c10g
   refine AWp.regF hV (some [12, 13, 14]) [2, 3, 15] fun K k11 => ?_
   simp [sp63, h4, c10, c10g]; repeat refine ai ?_
   cases hx8; exact k11 _ (k9 _ (Sub.rm [0, 1]))
  ·have c10g := c10; try simp at c10g
   obtain ⟨x5, h6, hx8⟩ := bnd_some hx8
   refine AWp.regF hV (some []) [2, 3, 15] fun K k12 => ?_
   simp [sp63, h4, c10, c10g, h6]; repeat refine ai ?_
   cases hx8; exact k12 _ (k9 _ (Sub.rm [0, 1]))
 ·intro s' hs
  refine AWp.sub hs ?_
  clear hs s'
  refine AWp.cnd hg rfl ?_ ?_ <;> (clear hg; intro h13 hg)
  ·refine AWp.rS hV none [4, 5] fun K k14 => ?_
   simp; repeat refine ai ?_
   refine kc [se 4 (0 : Int), se 5 (1 : Int)] [.w 34 a, .w 34 b] (k14 _ ?_)
   refine AWp.ret ?_
   cases hg; exact hQ _ _ (.inl rfl) rt
  ·refine AWp.skip ?_
   refine k2 _ ?_
   refine AWp.seqJ (fun s' => ratCompare_j2 = some r ∧ Sub s' ⟨[], []⟩) (fun _ k16 => ?_) ?_
   ·obtain ⟨g17, hg⟩ := grd_some hg
    unfold inI at g17
    obtain ⟨g18, hg⟩ := grd_some hg
    unfold inI at g18
    refine AWp.rD hV mixed none 11 [6, 7] (by decide) fun K k19 => ?_
    simp; repeat refine ai ?_
    refine kc [se 6 (a.n * b.d), se 7 (b.n * a.d)] [.w 34 a, .w 34 b] (k19 _ ?_)
    refine AWp.block ?_
    refine AWp.rS hV none [6, 7, 26] fun K k20 => ?_
    simp; repeat refine ai ?_
    refine kc [se 6 (a.n * b.d), se 7 (b.n * a.d), se 26 (decide ((a.n * b.d) < (b.n * a.d)))] [.w 34 a, .w 34 b] (k20 _ ?_)
    refine AWp.cnd hg rfl ?_ ?_ <;> (clear hg; intro h21 hg)
    ·refine AWp.rS hV none [4, 5] fun K k22 => ?_
     simp; repeat refine ai ?_
     refine kc [se 4 ((-1) : Int), se 5 (0 : Int)] [.w 34 a, .w 34 b] (k22 _ ?_)
     refine AWp.ret ?_
     cases hg; exact hQ _ _ (.inl rfl) rt
    ·refine AWp.rS hV none [30] fun K k23 => ?_
     simp; repeat refine ai ?_
     refine kc [se 30 (decide ((b.n * a.d) < (a.n * b.d)))] [.w 34 a, .w 34 b] (k23 _ ?_)
     refine AWp.cnd hg rfl ?_ ?_ <;> (clear hg; intro h24 hg)
     ·refine AWp.rS hV none [4, 5] fun K k25 => ?_
      simp; repeat refine ai ?_
      refine kc [se 4 (1 : Int), se 5 (0 : Int)] [.w 34 a, .w 34 b] (k25 _ ?_)
      refine AWp.ret ?_
      cases hg; exact hQ _ _ (.inl rfl) rt
     ·refine AWp.skip ?_
      exact k16 _ ⟨hg, Sub.rm []⟩
   ·rintro s' ⟨hg, hs⟩
    unfold ratCompare_j2 at hg
    refine AWp.sub hs ?_
    refine AWp.rS hV none [4, 5] fun K k26 => ?_
    simp; repeat refine ai ?_
    refine kc [se 4 (0 : Int), se 5 (0 : Int)] [] (k26 _ ?_)
    refine AWp.ret ?_
    cases hg; exact hQ _ _ (.inl rfl) rt
noncomputable def sp23 : Eva.Spec := specO2 fun (a : Written) (b : Written) => (wCompare a b).map fun r => enc r
theorem ok23 : SpecOk Tryd.prog 23 sp23 := by
 have hV : VOk Tryd.prog (env [(43, sp43), (44, sp44), (46, sp46), (45, sp45)]) := env_ok ⟨ok43, ok44, ok46, ok45, trivial⟩
 refine SpecOk.ofO2 (Enters.of Tryd.func23 (by decide)) fun a b rr hr => ?_
 obtain ⟨r, hg, rfl⟩ := mpj hr; clear hr
 refine PureCon.ofN hV Tryd.func23 rfl Tryd.ntmps23 fun R hR w0 I0 Q hQ => ?_
 unfold wCompare at hg
 refine AWp.rS hV none [2, 3] fun K k1 => ?_
 simp; repeat refine ai ?_
 refine kc [(2, .ptr 0 0), (3, .ptr 1 0)] [.w 38 a, .w 38 b] (k1 _ ?_)
 obtain ⟨⟨x2, x3⟩, h4, hg⟩ := bnd_some hg; try dsimp only at hg
 refine AWp.rS hV none [2, 3, 5] fun K k5 => ?_
 simp [sp43, h4]; repeat refine ai ?_
 refine kd [(2, .ptr 0 0), (3, .ptr 1 0), se 5 x2] [.w 38 a, .w 38 b] (by first | rfl | (simp [sp43, h4] <;> grind)) (k5 _ ?_)
 obtain ⟨⟨x6, x7⟩, h8, hg⟩ := bnd_some hg; try dsimp only at hg
 refine AWp.rS hV none [2, 3, 5, 7] fun K k9 => ?_
 simp [sp44, h8]; repeat refine ai ?_
 refine kd [(2, .ptr 0 0), (3, .ptr 1 0), se 5 x2, se 7 x6] [.w 38 a, .w 38 b] (by first | rfl | (simp [sp44, h8] <;> grind)) (k9 _ ?_)
 obtain ⟨⟨x10, x11⟩, h12, hg⟩ := bnd_some hg; try dsimp only at hg
 refine AWp.rS hV none [2, 3, 5, 7, 9] fun K k13 => ?_
 simp [sp44, h12]; repeat refine ai ?_
 refine kd [(2, .ptr 0 0), (3, .ptr 1 0), se 5 x2, se 7 x6, se 9 x10] [.w 38 a, .w 38 b] (by first | rfl | (simp [sp44, h12] <;> grind)) (k13 _ ?_)
 obtain ⟨g14, hg⟩ := grd_some hg
 unfold inI at g14
 obtain ⟨g15, hg⟩ := grd_some hg
 unfold inI at g15
 obtain ⟨x16, h17, hg⟩ := bnd_some hg
 obtain ⟨x18, h19, hg⟩ := bnd_some hg
 have h19g := h19; try simp at h19g
 refine AWp.rDF hV mixed none 14 [] [4] (by decide) fun K k20 => ?_
 simp [sp46, sp45, h17, h19, h19g]; repeat refine ai ?_
 refine kd [se 4 x18] [.w 38 a, .w 38 b] (by first | rfl | (simp [sp46, sp45, h17, h19, h19g] <;> grind)) (k20 _ ?_)
 refine AWp.ret ?_
 cases hg; exact hQ _ _ (.inl rfl) rt
noncomputable def sp39 : Eva.Spec := specO2 fun (x : Measure) (y : Measure) => (fit1 x y).map fun r => enc r
theorem ok39 : SpecOk Tryd.prog 39 sp39 := by
 have hV : VOk Tryd.prog (env []) := env_ok trivial
 refine SpecOk.ofO2 (Enters.of Tryd.func39 (by decide)) fun x y rr hr => ?_
 obtain ⟨r, hg, rfl⟩ := mpj hr; clear hr
 refine PureCon.ofN hV Tryd.func39 rfl Tryd.ntmps39 fun R hR w0 I0 Q hQ => ?_
 unfold fit1 at hg
 refine AWp.rS hV none [2, 3] fun K k1 => ?_
 simp; repeat refine ai ?_
 refine kc [(2, .ptr 0 0), (3, .ptr 1 0)] [.w 42 x, .w 42 y] (k1 _ ?_)
 obtain ⟨y2u4, hx3, hg⟩ := bnd_some hg
 unfold fit1_r1 at hx3
 refine AWp.seqJ (fun s' => Sub s' ⟨[se 4 y2u4], []⟩) (fun _ k4 => ?_) ?_
 ·rcases ifb_o hx3 with ⟨c5, hx3⟩ | ⟨c5, hx3⟩
  ·have c5g := eq_true (of_decide_eq_true c5)
   rcases ifb_o hx3 with ⟨c6, hx3⟩ | ⟨c6, hx3⟩
   ·have c6g := eq_true (of_decide_eq_true c6)
    refine AWp.regF hV (some []) [4] fun K k7 => ?_
    simp [c5, c5g, c6, c6g]; repeat refine ai ?_
    cases hx3; exact k7 _ (k4 _ (Sub.rm []))
   ·have c6g := c6; try simp at c6g
    refine AWp.regF hV (some [18, 19, 20, 21, 22]) [4] fun K k8 => ?_
    simp [c5, c5g, c6, c6g]; repeat refine ai ?_
    cases hx3; exact k8 _ (k4 _ (Sub.rm []))
  ·have c5g := c5; try simp at c5g
   refine AWp.regF hV (some [11, 12, 13, 14, 15, 18, 19, 20, 21, 22]) [4] fun K k9 => ?_
   simp [c5, c5g]; repeat refine ai ?_
   cases hx3; exact k9 _ (k4 _ (Sub.rm []))
 ·intro s' hs
  refine AWp.sub hs ?_
  clear hs s'
  refine AWp.ret ?_
  cases hg; exact hQ _ _ (.inl rfl) rt
end
section
variable [Onn]
section
variable {f : FuncId} {s : Eva.Spec} {caps : List D} {xs : List Written}
theorem sem66 (hs : SpecOk Tryd.prog f s) {LL : List AO} {id : Nat} (hid : LL[id]? = some (.row 38 10 (xs.map enc))) (hlow : Low LL) (hok : ∀ x ∈ xs, okB s caps (enc x)) (hmax : xs.length ≤ 9223372036854775807) :
    SemC Tryd.prog 57 [.row id, .d (.clo f caps)] LL fun u l' => u = .d (.int .i64 (match xs.findIdx? fun x => boolS s caps (enc x) with | some i => (i : Int) | none => -1)) ∧ ∃ vals ft, l' = LL ++ [.frame LL.length vals ft] := by
  have hV : VOk Tryd.prog (env [(f, s)]) := env_ok ⟨hs, trivial⟩
  refine SemC.of hV (Enters.of Tryd.func57 (by decide)) Tryd.func57 rfl (by rw [Tryd.ntmps57]; simp) fun R hR w0 I0 vals ft Q hQ => ?_
  rw [Tryd.ntmps57]
  have hid' := get_app hid [.frame LL.length vals ft]
  have hlow' := hlow.frame vals ft
  have hlast : (LL ++ [AO.frame LL.length vals ft])[LL.length]? = some (.frame LL.length vals ft) := by simp
  have hfin : ∀ (n : Int) (t : Tm), Eva.get t 4 = .d (.int .i64 n) → n = (match xs.findIdx? fun x => boolS s caps (enc x) with | some i => (i : Int) | none => -1) → Q .ret ⟨t, LL ++ [AO.frame LL.length vals ft]⟩ := by
    intro n t ht hn
    refine hQ _ _ (.inl rfl) ⟨_, Sub.refl _, by simp [resT], hlast, ?_, vals, ft, rfl⟩
    simp [resT, tupT, ht, hn]
  generalize LL ++ [AO.frame LL.length vals ft] = L at *
  simp only [startTT]
  refine AWp.rS hV none [0, 1] fun K k1 => ?_
  simp
  refine kcong (s' := ⟨[(0, .row id), (1, .d (.clo f caps))], L⟩) (by first | rfl | simp) (k1 _ ?_)
  refine AWp.seqJ (fun s' => xs.findIdx? (fun x => boolS s caps (enc x)) = none ∧ Sub s' ⟨[], L⟩) (fun _ k3 => ?_) ?_
  · refine AWp.rS hV none [0, 1, 7, 8] fun K k2 => ?_
    simp [hid']
    refine kcong (s' := ⟨[(0, .row id), (1, .d (.clo f caps)), (7, .d (.int .i64 xs.length)), (8, .d (.int .i64 0))], L⟩) (by first | rfl | simp) (k2 _ ?_)
    refine AWp.block ?_
    refine AWp.loop (fun k : Nat => ⟨[(0, .row id), (1, .d (.clo f caps)), (7, .d (.int .i64 xs.length)), (8, .d (.int .i64 k))], L⟩) (fun k => k ≤ xs.length ∧ ∀ (i : Nat) y, i < k → xs[i]? = some y → boolS s caps (enc y) = false) (fun k => xs.length - k) 0 ⟨Nat.zero_le _, by simp⟩ (Sub.refl _) fun k ⟨hk, hall⟩ => ?_
    refine AWp.rS hV none [0, 1, 7, 8, 9] fun K k5 => ?_
    simp
    refine kcong (s' := ⟨[(0, .row id), (1, .d (.clo f caps)), (7, .d (.int .i64 xs.length)), (8, .d (.int .i64 k)), (9, .d (.bool (decide (k < xs.length))))], L⟩) (by first | rfl | simp) (k5 _ ?_)
    refine AWp.seqG fun _ k4 => ?_
    refine AWp.cond (b := decide (k < xs.length)) rfl (fun h => ?_) fun h => ?_
    · have hlt : k < xs.length := by simpa using h
      have hx : xs[k]? = some xs[k] := List.getElem?_eq_getElem hlt
      obtain ⟨ob, hob, hs1⟩ := okB_eq (hok xs[k] (List.getElem_mem hlt))
      have hel := elAt_enc hx
      generalize xs[k] = x at hx hs1 hel
      obtain ⟨b, hb⟩ : ∃ b, b = boolS s caps (enc x) := ⟨_, rfl⟩
      rw [← hb] at hs1
      have hs2 := hs1
      simp at hs2
      have hel2 := hel
      simp at hel2
      refine AWp.skip (k4 _ ?_)
      refine AWp.seqJ (fun s' => b = false ∧ Sub s' ⟨[(0, .row id), (1, .d (.clo f caps)), (7, .d (.int .i64 xs.length)), (8, .d (.int .i64 k))], L⟩) (fun _ k6 => ?_) ?_
      · refine AWp.block ?_
        refine AWp.rS hV none [0, 1, 5, 7, 8] fun K k7 => ?_
        simp
        refine kcong (s' := ⟨[(0, .row id), (1, .d (.clo f caps)), (5, .d (.int .i64 k)), (7, .d (.int .i64 xs.length)), (8, .d (.int .i64 k))], L⟩) (by first | rfl | simp) (k7 _ ?_)
        refine AWp.rS hV none [0, 1, 5, 7, 8, 16] fun K k8 => ?_
        simp [hid', hel, hel2, hlt, hs1, hs2, hob, argsD_caps, quiet_caps]
        refine kcong (s' := ⟨[(0, .row id), (1, .d (.clo f caps)), (5, .d (.int .i64 k)), (7, .d (.int .i64 xs.length)), (8, .d (.int .i64 k)), (16, .d (.bool b))], L⟩) (by first | rfl | simp) (k8 _ ?_)
        refine AWp.cond (b := b) rfl (fun h => ?_) fun h => ?_
        · refine AWp.rS hV none [4] fun K k9 => ?_
          simp
          refine kcong (s' := ⟨[(4, .d (.int .i64 k))], L⟩) (by first | rfl | simp) (k9 _ ?_)
          refine AWp.ret ?_
          refine hfin k _ rfl ?_
          have : xs.findIdx? (fun x => boolS s caps (enc x)) = some k := by
            rw [List.findIdx?_eq_some_iff_getElem]
            refine ⟨hlt, ?_, fun j hj => ?_⟩
            · have : xs[k] = x := by rw [List.getElem?_eq_getElem hlt] at hx; injection hx
              rw [this, ← hb, h]
            · rw [hall j xs[j] hj (List.getElem?_eq_getElem (by omega))]; simp
          rw [this]
        · refine AWp.skip (k6 _ ⟨h, ?_⟩)
          exact Sub.slots (by simp [forgets])
      · rintro s' ⟨hbf, hs⟩
        refine AWp.sub hs ?_
        refine AWp.regF hV none [0, 1, 7, 8] fun K k7 => ?_
        simp
        refine And.intro (by omega) ?_
        refine kcong (s' := ⟨[(0, .row id), (1, .d (.clo f caps)), (7, .d (.int .i64 xs.length)), (8, .d (.int .i64 ((k + 1 : Nat) : Int)))], L⟩) (by first | rfl | simp) (k7 _ ?_)
        refine ⟨k + 1, ⟨hlt, fun i y hi hy => ?_⟩, by omega, Sub.refl _⟩
        rcases Nat.lt_succ_iff_lt_or_eq.1 hi with h | h
        · exact hall i y h hy
        · subst h; rw [hx] at hy; injection hy with hy; subst hy; rw [← hb, hbf]
    · have hge : xs.length ≤ k := by simpa using h
      refine AWp.exit ?_
      refine k3 _ ⟨?_, Sub.slots trivial⟩
      rw [List.findIdx?_eq_none_iff]
      intro x hx
      obtain ⟨i, hi, rfl⟩ := List.mem_iff_getElem.1 hx
      exact hall i _ (by omega) (List.getElem?_eq_getElem hi)
  · rintro s' ⟨hnone, hs⟩
    refine AWp.sub hs ?_
    refine AWp.rS hV none [4] fun K k4 => ?_
    simp
    refine kcong (s' := ⟨[(4, .d (.int .i64 (-1)))], L⟩) (by first | rfl | simp) (k4 _ ?_)
    refine AWp.ret ?_
    exact hfin (-1) _ rfl (by rw [hnone])
end
theorem filter_step {α : Type} (q : α → Bool) (xs : List α) {j : Nat} {v : α} (h : xs[j]? = some v) : (xs.take (j + 1)).filter q = (xs.take j).filter q ++ (if q v = true then [v] else []) := by
  have hj := (List.getElem?_eq_some_iff.1 h).1
  rw [List.take_succ, h, List.filter_append]
  congr 1
  by_cases hq : q v = true <;> simp [hq]
theorem set_same {l : List AO} {id : Nat} {o : AO} (h : l[id]? = some o) : l.set id o = l := by
  apply List.ext_getElem?
  intro k
  by_cases e : k = id
  · subst e; rw [List.getElem?_set_self (List.getElem?_eq_some_iff.1 h).1, h]
  · rw [List.getElem?_set_ne (Ne.symm e)]
section
variable {f : FuncId} {s : Eva.Spec} {caps : List D} {xs : List Written}
theorem sem61 (hs : SpecOk Tryd.prog f s) {LL : List AO} {id : Nat} (hid : LL[id]? = some (.row 38 10 (xs.map enc))) (hlow : Low LL) (hok : ∀ x ∈ xs, okB s caps (enc x)) (hmax : xs.length ≤ 9223372036854775807) :
    SemC Tryd.prog 53 [.row id, .d (.clo f caps)] LL fun u l2 => u = .row (LL.length + 1) ∧ ∃ base vals ft, l2[LL.length]? = some (.frame base vals ft) ∧ l2.set LL.length .dead = LL.set id .dead ++ [.dead, .row 38 10 ((xs.filter fun x => !boolS s caps (enc x)).map enc)] := by
  have hV0 : VOk Tryd.prog (env [(f, s)]) := env_ok ⟨hs, trivial⟩
  have hV : VOk Tryd.prog { env [(f, s)] with sub := true } := ⟨hV0.E, hV0.C, hV0.eq, hV0.F, hV0.prog⟩
  refine SemC.of hV (Enters.of Tryd.func53 (by decide)) Tryd.func53 rfl (by rw [Tryd.ntmps53]; simp) fun R hR w0 I0 vals ft Q hQ => ?_
  rw [Tryd.ntmps53]
  have hidl : id < LL.length := (List.getElem?_eq_some_iff.1 hid).1
  have hid' := get_app hid [.frame LL.length vals ft]
  have hlow' := hlow.frame vals ft
  have hfin : ∀ (els : List D) (k : Nat) (t : Tm), Eva.get t 4 = .sub id 0 k → els.take k = (xs.filter fun x => !boolS s caps (enc x)).map enc → ∀ st, Eva.Sub st ⟨t, (LL ++ [AO.frame LL.length vals ft]).set id (.row 38 10 els)⟩ → Q .ret st := by
    intro els k t ht hel st hst
    have hg : ((LL ++ [AO.frame LL.length vals ft]).set id (.row 38 10 els))[id]? = some (.row 38 10 els) := by rw [List.getElem?_set_self (by simp; omega)]
    refine hQ _ _ (.inl rfl) ⟨_, hst.trans (Sub.takeRow 4 id k ht hg), by simp [resT], ?_, ?_⟩
    · rw [set_front hidl, set_front (by simpa using hidl)]
      simp
    · refine ⟨by simp [resT, tupT, Eva.get], LL.length, vals, ft, ?_, ?_⟩
      · rw [set_front hidl, set_front (by simpa using hidl)]
        simp
      · show ((((LL ++ [AO.frame LL.length vals ft]).set id (.row 38 10 els)).set id .dead) ++ [AO.row 38 10 (els.take k)]).set LL.length .dead = _
        rw [List.set_set, set_front hidl, hel]
        simp [List.set_append]
  obtain ⟨L, hL⟩ : ∃ L, L = LL ++ [AO.frame LL.length vals ft] := ⟨_, rfl⟩
  rw [← hL] at hid' hlow' hfin ⊢
  have hsame := set_same hid'
  simp only [startTT]
  refine AWp.rS hV none [0, 1] fun K k1 => ?_
  simp
  refine kcong (s' := ⟨[(0, .row id), (1, .d (.clo f caps))], L⟩) (by first | rfl | simp) (k1 _ ?_)
  refine AWp.rC hV [0, 1, 5] fun K k1 => ?_
  refine RunAt.seq hV none 2 [0, 1, 8, 9] (by decide) (by decide) fun K1 h1 => ?_
  simp
  refine kcong (s' := ⟨[(0, .row id), (1, .d (.clo f caps)), (8, .row id), (9, .d (.clo f caps))], L⟩) (by first | rfl | simp) (h1 _ ?_)
  refine RunAt.call hV 57 [.row id, .d (.clo f caps)] rfl rfl trivial (by decide) (by simp [cloOf]) fun K2 h2 => ?_
  refine (sem66 hs hid' hlow' hok hmax).mono ?_
  rintro _ _ ⟨rfl, vals2, ft2, rfl⟩
  refine h2 _ _ (RunAt.fin hV none ?_)
  simp
  refine kcong (s' := ⟨[(0, .row id), (1, .d (.clo f caps)), (5, .d (.int .i64 (match xs.findIdx? fun x => boolS s caps (enc x) with | some i => (i : Int) | none => -1)))], L ++ [.frame L.length vals2 ft2]⟩) (by first | rfl | simp) (k1 _ ?_)
  have hidL : id < L.length := (List.getElem?_eq_some_iff.1 hid').1
  refine AWp.sub (Sub.drop (t' := [(0, .row id), (1, .d (.clo f caps)), (5, .d (.int .i64 (match xs.findIdx? fun x => boolS s caps (enc x) with | some i => (i : Int) | none => -1)))]) hlow' (by simp [T.lows, hidL]) (by simp [forgets])) ?_
  refine AWp.seqJ (fun s' => (∃ i, xs.findIdx? (fun x => boolS s caps (enc x)) = some i ∧ Sub s' ⟨[(0, .row id), (1, .d (.clo f caps)), (5, .d (.int .i64 i))], L⟩)) (fun _ k2 => ?_) ?_
  · refine AWp.rS hV none [0, 1, 5, 12] fun K k3 => ?_
    simp
    refine kcong (s' := ⟨[(0, .row id), (1, .d (.clo f caps)), (5, .d (.int .i64 (match xs.findIdx? fun x => boolS s caps (enc x) with | some i => (i : Int) | none => -1))), (12, .d (.bool (decide ((match xs.findIdx? fun x => boolS s caps (enc x) with | some i => (i : Int) | none => -1) = -1))))], L⟩) (by first | rfl | simp) (k3 _ ?_)
    refine AWp.cond (b := (xs.findIdx? fun x => boolS s caps (enc x)).isNone) (by cases hf : xs.findIdx? fun x => boolS s caps (enc x) <;> simp [boolOf, evT, Eva.get] <;> omega) (fun h => ?_) fun h => ?_
    · rw [Option.isNone_iff_eq_none] at h
      simp only [h]
      refine AWp.rS hV none [4] fun K k4 => ?_
      simp
      refine kcong (s' := ⟨[(4, .row id)], L⟩) (by first | rfl | simp) (k4 _ ?_)
      refine AWp.ret ?_
      have h1 := Sub.asSub (s := ⟨[(4, .row id)], L⟩) 4 id rfl hid'
      have h2 : Eva.Sub ⟨[(4, .row id)], L⟩ ⟨[(4, .sub id 0 (xs.map (enc : Written → D)).length), (4, .row id)], L.set id (.row 38 10 (xs.map enc))⟩ := by rw [hsame]; exact h1
      refine hfin _ _ _ rfl ?_ _ h2
      rw [List.take_of_length_le (Nat.le_refl _)]
      congr 1
      symm
      rw [List.filter_eq_self]
      rw [List.findIdx?_eq_none_iff] at h
      intro y hy
      rw [h y hy]; rfl
    · obtain ⟨i, hi⟩ : ∃ i, xs.findIdx? (fun x => boolS s caps (enc x)) = some i := by
        cases hf : xs.findIdx? fun x => boolS s caps (enc x) with
        | none => rw [hf] at h; cases h
        | some i => exact ⟨i, rfl⟩
      refine AWp.skip (k2 _ ⟨i, hi, ?_⟩)
      simp only [hi]
      exact Sub.slots (by simp [forgets])
  rintro s' ⟨i0, hi0, hs'⟩
  refine AWp.sub hs' ?_
  rw [List.findIdx?_eq_some_iff_getElem] at hi0
  obtain ⟨hi1, hi2, hi3⟩ := hi0
  refine AWp.seqJ (fun s' => ∃ (i : Nat) (els : List Written), Sub s' ⟨[(0, .row id), (1, .d (.clo f caps)), (5, .d (.int .i64 ((i : Nat) : Int)))], L.set id (.row 38 10 (els.map enc))⟩ ∧ i ≤ els.length ∧ els.length = xs.length ∧ els.take i = xs.filter fun x => !boolS s caps (enc x)) (fun _ k2 => ?_) ?_
  · refine AWp.rS hV none [0, 1, 5, 6] fun K k3 => ?_
    simp
    refine And.intro (by omega) ?_
    refine kcong (s' := ⟨[(0, .row id), (1, .d (.clo f caps)), (5, .d (.int .i64 i0)), (6, .d (.int .i64 ((i0 + 1 : Nat) : Int)))], L.set id (.row 38 10 (xs.map enc))⟩) (by rw [hsame]; first | rfl | simp) (k3 _ ?_)
    refine AWp.block ?_
    refine AWp.loop (fun (z : Nat × Nat × List Written) => ⟨[(0, .row id), (1, .d (.clo f caps)), (5, .d (.int .i64 (z.1 : Int))), (6, .d (.int .i64 (z.2.1 : Int)))], L.set id (.row 38 10 (z.2.2.map enc))⟩)
      (fun z => z.1 < z.2.1 ∧ z.2.1 ≤ xs.length ∧ z.2.2.length = xs.length ∧ z.2.2.take z.1 = (xs.take z.2.1).filter (fun x => !boolS s caps (enc x)) ∧ z.2.2.drop z.2.1 = xs.drop z.2.1) (fun z => xs.length - z.2.1) (i0, i0 + 1, xs) ⟨Nat.lt_succ_self _, hi1, rfl, ?_, rfl⟩ (Sub.refl _) fun ⟨i, j, els⟩ ⟨hij, hj, hel, htk, hdr⟩ => ?_
    · have hx : xs[i0]? = some xs[i0] := List.getElem?_eq_getElem hi1
      show xs.take i0 = _
      rw [filter_step _ _ hx, hi2]
      simp only [Bool.not_true, Bool.false_eq_true, if_false, List.append_nil]
      symm
      rw [List.filter_eq_self]
      intro y hy
      obtain ⟨q, hq, rfl⟩ := List.mem_take_iff_getElem.1 hy
      have := hi3 q (by omega)
      simpa using this
    · dsimp only at hij hj hel htk hdr ⊢
      obtain ⟨G, hG⟩ : ∃ G, G = L.set id (.row 38 10 (els.map enc)) := ⟨_, rfl⟩
      have hgl : G.length = L.length := by rw [hG]; simp
      have hgid : G[id]? = some (.row 38 10 (els.map enc)) := by rw [hG, List.getElem?_set_self hidL]
      have hglow : Low G := by rw [hG]; exact hlow'.set id rfl
      rw [← hG]
      refine AWp.seqG fun _ k4 => ?_
      refine AWp.rS hV none [0, 1, 5, 6, 19] fun K k5 => ?_
      simp [hgid]
      refine kcong (s' := ⟨[(0, .row id), (1, .d (.clo f caps)), (5, .d (.int .i64 i)), (6, .d (.int .i64 j)), (19, .d (.bool (decide (j < els.length))))], G⟩) (by first | rfl | simp) (k5 _ ?_)
      refine AWp.cond (b := decide (j < els.length)) rfl (fun h => ?_) fun h => ?_
      · have hlt : j < els.length := by simpa using h
        have hx : els[j]? = some els[j] := List.getElem?_eq_getElem hlt
        have hxx : xs[j]? = some els[j] := by
          have h1 : (els.drop j)[0]? = some els[j] := by rw [List.getElem?_drop]; simpa using hx
          rw [hdr, List.getElem?_drop] at h1; simpa using h1
        obtain ⟨ob, hob, hs1⟩ := okB_eq (hok els[j] (List.mem_of_getElem? hxx))
        have hel1 := elAt_enc hx
        generalize els[j] = x at hx hxx hs1 hel1
        obtain ⟨b, hb⟩ : ∃ b, b = boolS s caps (enc x) := ⟨_, rfl⟩
        rw [← hb] at hs1
        have hs2 := hs1
        simp at hs2
        have hel2 := hel1
        simp at hel2
        refine AWp.skip (k4 _ ?_)
        refine AWp.seqJ (fun s' => ∃ (i' : Nat) (els' : List Written), Sub s' ⟨[(0, .row id), (1, .d (.clo f caps)), (5, .d (.int .i64 i')), (6, .d (.int .i64 j))], L.set id (.row 38 10 (els'.map enc))⟩ ∧ i' < j + 1 ∧ els'.length = xs.length ∧ els'.take i' = (xs.take (j + 1)).filter (fun x => !boolS s caps (enc x)) ∧ els'.drop (j + 1) = xs.drop (j + 1)) (fun _ k6 => ?_) ?_
        · refine AWp.block ?_
          refine AWp.rS hV none [0, 1, 5, 6, 7] fun K k7 => ?_
          simp [hgid, hel1, hel2, hlt, set_last]
          refine kcong (s' := ⟨[(0, .row id), (1, .d (.clo f caps)), (5, .d (.int .i64 i)), (6, .d (.int .i64 j)), (7, .ptr G.length 0)], G ++ [.var 38 (cellsT (.d (enc x)))]⟩) (by first | rfl | (simp; done) | (simp [set_last]; done)) (k7 _ ?_)
          refine AWp.rS hV none [0, 1, 5, 6, 7, 29] fun K k8 => ?_
          simp [hs1, hs2, hob, argsD_caps, quiet_caps]
          refine kcong (s' := ⟨[(0, .row id), (1, .d (.clo f caps)), (5, .d (.int .i64 i)), (6, .d (.int .i64 j)), (7, .ptr G.length 0), (29, .d (.bool (!b)))], G ++ [.var 38 (cellsT (.d (enc x)))]⟩) (by first | rfl | (simp; done)) (k8 _ ?_)
          refine AWp.cond (b := !b) rfl (fun h => ?_) fun h => ?_
          · have hbf : b = false := by simpa using h
            have hil : i < els.length := by omega
            refine AWp.rS hV none [0, 1, 5, 6] fun K k9 => ?_
            simp [get_app hgid, hil, set_front (show id < G.length by omega)]
            refine kcong (s' := ⟨[(0, .row id), (1, .d (.clo f caps)), (5, .d (.int .i64 i)), (6, .d (.int .i64 j))], G.set id (.row 38 10 ((els.set i x).map enc)) ++ [.var 38 (cellsT (.d (enc x)))]⟩) (by first | rfl | (simp [List.map_set]; done)) (k9 _ ?_)
            refine AWp.regF hV none [0, 1, 5, 6] fun K k10 => ?_
            simp
            refine And.intro (by omega) ?_
            refine kcong (s' := ⟨[(0, .row id), (1, .d (.clo f caps)), (5, .d (.int .i64 ((i + 1 : Nat) : Int))), (6, .d (.int .i64 j))], G.set id (.row 38 10 ((els.set i x).map enc)) ++ [.var 38 (cellsT (.d (enc x)))]⟩) (by first | rfl | (simp; done)) (k10 _ ?_)
            refine k6 _ ⟨i + 1, els.set i x, ?_, by omega, by simpa using hel, ?_, ?_⟩
            · have e : L.set id (.row 38 10 ((els.set i x).map enc)) = G.set id (.row 38 10 ((els.set i x).map enc)) := by rw [hG, List.set_set]
              rw [e]
              exact Sub.drop (hglow.set id rfl) (by simp [T.lows]; omega) (by simp [forgets])
            · rw [filter_step _ _ hxx, ← htk, ← hb, hbf]
              simp only [Bool.not_false, if_true]
              rw [List.take_succ, List.getElem?_set_self hil, List.take_set_of_le (Nat.le_refl _)]
              rfl
            · rw [List.drop_set_of_lt (by omega)]
              rw [← List.drop_drop, ← List.drop_drop, hdr]
          · have hbt : b = true := by simpa using h
            refine AWp.skip (k6 _ ⟨i, els, ?_, by omega, hel, ?_, ?_⟩)
            · rw [← hG]; exact Sub.drop hglow (by simp [T.lows]; omega) (by simp [forgets])
            · rw [filter_step _ _ hxx, ← htk, ← hb, hbt]; simp
            · rw [← List.drop_drop, ← List.drop_drop, hdr]
        · rintro s' ⟨i', els', hs, h1, h2, h3, h4⟩
          refine AWp.sub hs ?_
          refine AWp.regF hV none [0, 1, 5, 6] fun K k7 => ?_
          simp
          refine And.intro (by omega) ?_
          refine kcong (s' := ⟨[(0, .row id), (1, .d (.clo f caps)), (5, .d (.int .i64 i')), (6, .d (.int .i64 ((j + 1 : Nat) : Int)))], L.set id (.row 38 10 (els'.map enc))⟩) (by first | rfl | simp) (k7 _ ?_)
          exact ⟨(i', j + 1, els'), ⟨h1, by show j + 1 ≤ xs.length; omega, h2, h3, h4⟩, by show xs.length - (j + 1) < xs.length - j; omega, Sub.refl _⟩
      · have hge : els.length ≤ j := by simpa using h
        refine AWp.exit ?_
        refine k2 _ ⟨i, els, ?_, by omega, hel, ?_⟩
        · rw [hG]; exact Sub.slots (by simp [forgets])
        · rw [htk, List.take_of_length_le (by omega)]
  · rintro s' ⟨i, els, hs, h1, h2, h3⟩
    refine AWp.sub hs ?_
    obtain ⟨G, hG⟩ : ∃ G, G = L.set id (.row 38 10 (els.map enc)) := ⟨_, rfl⟩
    have hgid : G[id]? = some (.row 38 10 (els.map enc)) := by rw [hG, List.getElem?_set_self hidL]
    rw [← hG]
    refine AWp.rS hV none [0, 5] fun K k3 => ?_
    simp [hgid]
    refine And.intro (by omega) ?_
    refine kcong (s' := ⟨[(0, .row id), (5, .d (.int .i64 i))], L.set id (.row 38 10 ((els.map enc).take i ++ List.replicate (els.length - i) (mkD true [.int .i64 0, .int .i64 0, .int .i64 0, .int .i64 0, .int .i64 0, .int .i64 0, .int .i64 0, .int .i64 0, .int .i64 0, .int .i64 0])))⟩) (by first | rfl | (simp [hG]; done)) (k3 _ ?_)
    generalize hfi : ((els.map enc).take i ++ List.replicate (els.length - i) (mkD true [.int .i64 0, .int .i64 0, .int .i64 0, .int .i64 0, .int .i64 0, .int .i64 0, .int .i64 0, .int .i64 0, .int .i64 0, .int .i64 0])) = fin
    have hfl : fin.length = els.length := by rw [← hfi]; simp; omega
    have hft : fin.take i = (xs.filter fun x => !boolS s caps (enc x)).map enc := by
      rw [← hfi, List.take_append_of_le_length (by simp; omega), List.take_take, Nat.min_self, ← List.map_take, h3]
    have hcid : (L.set id (.row 38 10 fin))[id]? = some (.row 38 10 fin) := by rw [List.getElem?_set_self hidL]
    refine AWp.rS hV none [4] fun K k4 => ?_
    simp [hidL]
    refine And.intro (by omega) ?_
    refine kcong (s' := ⟨[(4, .sub id 0 i)], L.set id (.row 38 10 fin)⟩) (by first | rfl | (simp; done)) (k4 _ ?_)
    refine AWp.ret ?_
    exact hfin fin i _ rfl hft _ (Sub.refl _)
end
def delR (f : FuncId) (s : Eva.Spec) (ts : List T) (l : List AO) : Option FR := match ts with
  | [.row id, .d (.clo f' caps)] => if f' = f then (match l[id]? with
    | some (.row 38 10 els) => some ⟨.row (l.length + 1), l.set id .dead ++ [.dead, .row 38 10 (delRow s caps els)], (els.map (dec : D → Written)).map enc = els ∧ delOk s caps els ∧ els.length ≤ 9223372036854775807 ∧ Low l ∧ l.all (fun o => !o.isFrame) = true⟩
    | _ => none) else none
  | _ => none
theorem delR_ok {f : FuncId} {s : Eva.Spec} (hs : SpecOk Tryd.prog f s) {ts : List T} {l : List AO} {r : FR} (h : delR f s ts l = some r) (hob : r.ob) : FCon Tryd.prog 53 ts l r.t r.l := by
  unfold delR at h
  split at h
  · rename_i id f' caps
    split at h
    · rename_i hf
      subst hf
      split at h
      · rename_i els ho
        cases h
        obtain ⟨h1, h2, h3, h4, h5⟩ := hob
        have hidl : id < l.length := (List.getElem?_eq_some_iff.1 ho).1
        have key : (((els.map (dec : D → Written)).filter fun x => !boolS s caps (enc x)).map enc) = delRow s caps els := by
          have : ∀ ys : List Written, (ys.filter fun x => !boolS s caps (enc x)).map enc = (ys.map enc).filter fun d => !boolS s caps d := fun ys => by rw [List.filter_map]; rfl
          rw [this, h1]; rfl
        have hsem := sem61 (xs := els.map dec) hs (by rw [h1]; exact ho) h4 (fun x hx => h2 _ (by rw [← h1]; exact List.mem_map_of_mem hx)) (by simpa using h3)
        rw [key] at hsem
        refine FCon.ofSem (k := l.length) (hsem.mono ?_) h5 (by simp) (fun k hk hv => ?_) (fun k hk hr => ?_)
        · rintro u l2 ⟨rfl, base, vals, ft, q1, q2⟩
          exact ⟨rfl, base, vals, ft, q1, q2⟩
        · have hne : k ≠ id := fun e => by subst e; unfold Eva.isVar at hv; rw [ho] at hv; cases hv
          unfold Eva.isVar at hv ⊢
          rw [List.getElem?_append_left (by simpa using hk), List.getElem?_set_ne (Ne.symm hne)]; exact hv
        · left
          have hne : k ≠ id := fun e => by
            subst e; unfold Eva.isRow at hr
            rw [List.getElem?_append_left (by simpa using hk), List.getElem?_set_self hk] at hr; cases hr
          rw [List.getElem?_append_left (by simpa using hk), List.getElem?_set_ne (Ne.symm hne)]
      · cases h
    · cases h
  · cases h
theorem own62 (els : List D) (hlen : els.length * 80 ≤ 140737488355328) : OwnCon Tryd.prog 54 [.slice 10 els] (.row 0) [.row 38 10 els] := by
  haveI := rndX
  have hV : VOk Tryd.prog (env []) := env_ok trivial
  refine OwnCon.of Tryd.func54 rfl (by rw [Tryd.ntmps54]; simp) rfl fun R hR w0 I0 Q hQ => ?_
  rw [Tryd.ntmps54]
  refine AWp.rS hV none [0] fun K k1 => ?_
  simp
  refine k1 _ ?_
  refine AWp.seqG fun _ k2 => ?_
  refine AWp.seqG fun _ k3 => AWp.nilCheck (t := 40) (k := 4) hV rfl rfl rfl rfl rfl rfl (by decide) (by decide) te40 rfl fun b hb => k3 _ ?_
  refine AWp.cond (b := b) rfl (fun h => ?_) fun h => ?_
  · have he := hb h
    subst he
    refine AWp.rS hV none [2] fun K k4 => ?_
    simp
    refine k4 _ ?_
    refine AWp.ret ?_
    refine hQ _ _ (.inl rfl) ?_
    exact Sub.trans (Sub.adopt 2 38 10 rfl) (Sub.ren [0] (by decide) rfl rfl ⟨rfl, trivial⟩)
  · refine AWp.skip (k2 _ ?_)
    refine AWp.rS hV none [2] fun K k4 => ?_
    simp
    repeat refine And.intro (by omega) ?_
    refine k4 _ ?_
    refine AWp.ret ?_
    refine hQ _ _ (.inl rfl) ?_
    exact Sub.ren [1] (by decide) (by simp [framesOk]) (by simp [renL, AO.ren]) ⟨rfl, trivial⟩
def cloneR (ts : List T) (l : List AO) : Option FR := match argsD l ts with
  | some ([.slice 10 els], l1) => some ⟨.row l1.length, l1 ++ [.row 38 10 els], els.length * 80 ≤ 140737488355328⟩
  | _ => none
theorem cloneR_ok {ts : List T} {l : List AO} {r : FR} (h : cloneR ts l = some r) (hob : r.ob) : FCon Tryd.prog 54 ts l r.t r.l := by
  unfold cloneR at h
  split at h
  · rename_i els l1 hd
    cases h
    have := FCon.ofOwn hd (own62 els hob) (fun o ho => by simp at ho; subst ho; exact .inl rfl)
    simpa [T.shift] using this
  · cases h
def fDel (f : FuncId) (s : Eva.Spec) : FEnv := fun g ts l => if g = 54 then cloneR ts l else if g = 53 then delR f s ts l else none
theorem fDel_ok {f : FuncId} {s : Eva.Spec} (hs : SpecOk Tryd.prog f s) : FOk Tryd.prog (fDel f s) := by
  intro g ts l r hr hob
  unfold fDel at hr
  split at hr
  · rename_i hg
    subst hg
    exact ⟨Enters.of Tryd.func54 (by decide), cloneR_ok hr hob⟩
  · split at hr
    · rename_i hg
      subst hg
      exact ⟨Enters.of Tryd.func53 (by decide), delR_ok hs hr hob⟩
    · cases hr
noncomputable def envD (f : FuncId) (s : Eva.Spec) (l : List (FuncId × Eva.Spec)) : Env := { env l with F := fDel f s }
theorem envD_ok {f : FuncId} {s : Eva.Spec} (hs : SpecOk Tryd.prog f s) {l : List (FuncId × Eva.Spec)} (h : Specs Tryd.prog l) : VOk Tryd.prog (envD f s l) :=
  haveI := rndX
  have h0 := env_ok h
  ⟨h0.E, h0.C, h0.eq, fDel_ok hs, h0.prog⟩
end
end Go.Proofs.YtjfkfkjkbgiciaaDoor
namespace Go.Proofs.YtjfkfkjkbgiciaaDoor
open Go Go.Eva Enc
structure C36 where
instance : Enc C36 := ⟨fun _ => .fn 36, fun _ => ⟨⟩, 1, fun _ => rfl, fun _ => rfl, by simp [D.cells, D.one]⟩
theorem enc_C36 (c : C36) : (enc c : D) = .fn 36 := rfl
theorem dec_C36 (d : D) : (dec d : C36) = ⟨⟩ := rfl
theorem size_C36 : size C36 = 1 := rfl
theorem eta_C36 (c : C36) : (⟨⟩ : C36) = c := rfl
structure C39 where
instance : Enc C39 := ⟨fun _ => .fn 39, fun _ => ⟨⟩, 1, fun _ => rfl, fun _ => rfl, by simp [D.cells, D.one]⟩
theorem enc_C39 (c : C39) : (enc c : D) = .fn 39 := rfl
theorem dec_C39 (d : D) : (dec d : C39) = ⟨⟩ := rfl
theorem size_C39 : size C39 = 1 := rfl
theorem eta_C39 (c : C39) : (⟨⟩ : C39) = c := rfl
structure C28 where
  v0 : (Bx Int)
instance : Enc C28 := ⟨fun c => .clo 28 [enc c.v0], fun d => match d with | .clo _ [a0] => ⟨dec a0⟩ | _ => ⟨dec D.nilp⟩, 1, fun c => by simp only [dec_enc], fun _ => rfl, by simp [D.cells, D.one]⟩
theorem enc_C28 (c : C28) : (enc c : D) = .clo 28 [enc c.v0] := rfl
theorem dec_C28 (g : FuncId) (a0 : D) : (dec (.clo g [a0]) : C28) = ⟨dec a0⟩ := rfl
theorem size_C28 : size C28 = 1 := rfl
theorem eta_C28 (c : C28) : (⟨c.v0⟩ : C28) = c := rfl
structure C52_28 where
  v0 : (Bx C28)
instance : Enc C52_28 := ⟨fun c => .clo 52 [enc c.v0], fun d => match d with | .clo _ [a0] => ⟨dec a0⟩ | _ => ⟨dec D.nilp⟩, 1, fun c => by simp only [dec_enc], fun _ => rfl, by simp [D.cells, D.one]⟩
theorem enc_C52_28 (c : C52_28) : (enc c : D) = .clo 52 [enc c.v0] := rfl
theorem dec_C52_28 (g : FuncId) (a0 : D) : (dec (.clo g [a0]) : C52_28) = ⟨dec a0⟩ := rfl
theorem size_C52_28 : size C52_28 = 1 := rfl
theorem eta_C52_28 (c : C52_28) : (⟨c.v0⟩ : C52_28) = c := rfl
noncomputable def idxN_j6 (z2u8 : Int) : Option ((Int) ⊕ ((Int) ⊕ (Unit))) :=
  grd (inI (z2u8 + 1)) (some (.inl (z2u8 + 1)))
noncomputable def idxN_s5 (l : (List Written)) : Int → Option ((Int) ⊕ ((Int) ⊕ (Unit))) := fun (z2u8 : Int) =>
  ifb (decide (z2u8 < (l.length : Int))) (bnd (at? l z2u8) fun x48 =>
  bnd (noNote x48) fun x50 =>
  ifb x50 (some (.inr (.inl z2u8)))
  (idxN_j6 z2u8))
  (some (.inr (.inr ())))
noncomputable def idxN_j1 : Option Int :=
  some (-1)
noncomputable def idxN (l : (List Written)) (f : C36) : Option Int :=
  bnd (loopO (idxN_s5 l) 0) fun o36 =>
  match o36 with
  | .inl q59u0 => some q59u0
  | .inr () => idxN_j1
noncomputable def contN (l : (List Written)) (f : C36) : Option Bool :=
  bnd (idxN l f) fun x2 =>
  some (decide (0 ≤ x2))
noncomputable def isView_j6 (z2u9 : Int) (y50u3 : Int) : Option ((Int × Int) ⊕ ((Bool) ⊕ (Int))) :=
  grd (inI (z2u9 + 1)) (some (.inl (y50u3, (z2u9 + 1))))
noncomputable def isView_s5 (v : View) : (Int × Int) → Option ((Int × Int) ⊕ ((Bool) ⊕ (Int))) := fun (z2u3, z2u9) =>
  ifb (decide (z2u9 < (v.measures.length : Int))) (bnd (at? v.measures z2u9) fun x52 =>
  grd (inI (z2u3 + (x52.notes.length : Int))) (bnd (contN x52.notes (⟨⟩ : C36)) fun x57 =>
  ifb x57 (some (.inr (.inl false)))
  (isView_j6 z2u9 (z2u3 + (x52.notes.length : Int)))))
  (some (.inr (.inr z2u3)))
noncomputable def isView_r7 (v : View) (y3u3 : Int) : Option Bool :=
  (ifb (decide ((v.measures.length : Int) ≤ 4000)) (some (decide (y3u3 ≤ 20000))) (some false))
noncomputable def isView_j1 (v : View) (y3u3 : Int) : Option Bool :=
  bnd (isView_r7 v y3u3) fun y68u2 =>
  some y68u2
noncomputable def isView (v : View) : Option Bool :=
  bnd (loopO (isView_s5 v) (0, 0)) fun o41 =>
  match o41 with
  | .inl q66u0 => some q66u0
  | .inr q67u3 => isView_j1 v q67u3
noncomputable def desk11_r1 (w : Written) (n : (Bx Int)) : Option Bool :=
  (ifb (decide (w.voice = 0)) (some true) (some (decide (w.voice = n.v))))
noncomputable def desk11 (w : Written) (n : (Bx Int)) : Option Bool :=
  bnd (desk11_r1 w n) fun y2u3 =>
  some y2u3
structure C29 where
  v0 : (Bx Int)
instance : Enc C29 := ⟨fun c => .clo 29 [enc c.v0], fun d => match d with | .clo _ [a0] => ⟨dec a0⟩ | _ => ⟨dec D.nilp⟩, 1, fun c => by simp only [dec_enc], fun _ => rfl, by simp [D.cells, D.one]⟩
theorem enc_C29 (c : C29) : (enc c : D) = .clo 29 [enc c.v0] := rfl
theorem dec_C29 (g : FuncId) (a0 : D) : (dec (.clo g [a0]) : C29) = ⟨dec a0⟩ := rfl
theorem size_C29 : size C29 = 1 := rfl
theorem eta_C29 (c : C29) : (⟨c.v0⟩ : C29) = c := rfl
noncomputable def desk1 (m : Measure) (n : (Bx Int)) : Option C29 :=
  some (⟨n⟩ : C29)
noncomputable def keepD (w : Written) (is : (Bx C29)) : Option Bool :=
  bnd (desk11 w is.v.v0) fun x2 =>
  some (!x2)
structure C55_29 where
  v0 : (Bx C29)
instance : Enc C55_29 := ⟨fun c => .clo 55 [enc c.v0], fun d => match d with | .clo _ [a0] => ⟨dec a0⟩ | _ => ⟨dec D.nilp⟩, 1, fun c => by simp only [dec_enc], fun _ => rfl, by simp [D.cells, D.one]⟩
theorem enc_C55_29 (c : C55_29) : (enc c : D) = .clo 55 [enc c.v0] := rfl
theorem dec_C55_29 (g : FuncId) (a0 : D) : (dec (.clo g [a0]) : C55_29) = ⟨dec a0⟩ := rfl
theorem size_C55_29 : size C55_29 = 1 := rfl
theorem eta_C55_29 (c : C55_29) : (⟨c.v0⟩ : C55_29) = c := rfl
noncomputable def kept1D (m : Measure) (h : (Bx C28)) : Option Measure :=
  bnd (desk1 m h.v.v0) fun x2 =>
  grd ((m.notes : List Written).length * 80 ≤ 140737488355328) (grd ((m.notes : (List Written)).length ≤ 9223372036854775807) (bnd (delO (fun x => keepD x ((⟨(⟨x2⟩ : (Bx C29))⟩ : C55_29).v0)) m.notes) fun x6 =>
  some (⟨m.bar, m.key, m.length, x6⟩ : Measure)))
noncomputable def eachD_j6 (z2u10 : Int) (y44u5 : (List Measure)) : Option (((List Measure) × Int) ⊕ (((List Measure)))) :=
  grd (inI (z2u10 + 1)) (some (.inl (y44u5, (z2u10 + 1))))
noncomputable def eachD_s5 (l : (List Measure)) (f : C52_28) : ((List Measure) × Int) → Option (((List Measure) × Int) ⊕ (((List Measure)))) := fun (z2u5, z2u10) =>
  ifb (decide (z2u10 < (l.length : Int))) (bnd (at? l z2u10) fun x46 =>
  bnd (kept1D x46 f.v0) fun x49 =>
  grd (((z2u5 ++ [x49]) : List Measure).length * 56 ≤ 140737488355328) (eachD_j6 z2u10 (z2u5 ++ [x49])))
  (some (.inr z2u5))
noncomputable def eachD_j1 (y3u5 : (List Measure)) : Option (List Measure) :=
  some y3u5
noncomputable def eachD (l : (List Measure)) (f : C52_28) : Option (List Measure) :=
  bnd (loopO (eachD_s5 l f) ([], 0)) fun q56u5 =>
  eachD_j1 q56u5
noncomputable def keptD (v : View) (h : C28) : Option View :=
  bnd (eachD v.measures (⟨(⟨h⟩ : (Bx C28))⟩ : C52_28)) fun x2 =>
  some (⟨v.part, x2⟩ : View)
noncomputable def pDesk_r1 (v : View) (n : Int) : Option Bool :=
  (bnd (isView v) fun x3 =>
  ifb (!x3) (some true) (ifb (decide (n < 0)) (some true) (some (decide (9 < n)))))
noncomputable def pDesk (v : View) (n : Int) : Option (View × Int) :=
  bnd (pDesk_r1 v n) fun y5u16 =>
  ifb y5u16 (some ((⟨0, []⟩ : View), 1))
  (bnd (keptD v (⟨(⟨n⟩ : (Bx Int))⟩ : C28)) fun x15 =>
  some (x15, 0))
end Go.Proofs.YtjfkfkjkbgiciaaDoor
namespace Go.Proofs.YtjfkfkjkbgiciaaDoor
open Go Go.Eva Enc
set_option maxRecDepth 4000
attribute [local instance] rndX
attribute [local congr] AWp.congrS
attribute [local simp] evalSeq opRes guardPc evalOp evT Eva.get startT strip putT Eva.after constT typed obAll holds dstOk R.ok R.bad ofD binD unD pickT subL subP Op.operands Call.operands toD toD1 argsD argsD1 callD callT typedAll cfind quietT quietT1 spec0 spec1 spec2 spec3 enc_int enc_bool enc_str enc_fn enc_list dec_int dec_bool dec_str dec_fn dec_list size_int size_str map_dec_enc map_dec_comp cellsT D.cells T.oneT D.one mkT dataT zeroT unD1 setAt loadAs loadEl storeAs fieldP fieldV sizeE intOfT indexP appendT lenT sliceT elemSize arith lfsOk lfOk isAggD mkD fillT placeS TD.agg env restr List.map keyIdx mapTy lookT mapPutT mapDelT mapOf indexS convT evalPure range1 range2 range3 range4 range5 range6 range7 range8 enc_intk size_intk dec_intk eta_intk keysInt_nil keyIdx_E keysInt_E isE_iff put_E del_E get_E getok_E mkeys_E mkeys_E' mkeys_enc specO0 specO1 specO2 specO3 specO4 opD skips gone unbox cloT subO clearT makeT enc_bx dec_bx size_bx selS cloIs List.contains_cons List.contains_nil elAt_zero enc_Rat dec_Rat size_Rat eta_Rat beqL_Rat beqR_Rat enc_Pitch dec_Pitch size_Pitch eta_Pitch beqL_Pitch beqR_Pitch enc_Written dec_Written size_Written eta_Written beqL_Written beqR_Written enc_Measure dec_Measure size_Measure eta_Measure enc_View dec_View size_View eta_View enc_Fraction dec_Fraction size_Fraction eta_Fraction beqL_Fraction beqR_Fraction dat0 len_natTab eqT4 eqT34 eqT36 eqT38 eqT114 te1 te2 te3 te4 te5 te6 te7 te8 te9 te10 te11 te12 te13 te14 te15 te16 te17 te18 te19 te21 te22 te23 te24 te25 te26 te27 te28 te30 te31 te32 te33 te34 te35 te36 te37 te38 te39 te40 te41 te42 te43 te45 te46 te47 te48 te49 te50 te51 te52 te53 te55 te56 te57 te58 te59 te60 te61 te62 te63 te64 te65 te66 te67 te68 te69 te70 te71 te72 te73 te74 te75 te76 te77 te79 te80 te81 te82 te83 te84 te85 te86 te87 te88 te89 te90 te91 te92 te93 te94 te95 te96 te97 te98 te99 te100 te101 te102 te104 te105 te106 te108 te109 te110 te111 te112 te113 te114 te115 te116 te117 te118 te119 te120 te121 te122 te123 te124 te125 te126 te127 te128 te129 te130 te131 te133 te134 te135 te136 te137 te138 te139 te140 te141 te142 te143 te144 te145 te146 te147 te148 te149 te150
section
variable [Onn]
attribute [local simp] enc_C36 dec_C36 size_C36 eta_C36 enc_C39 dec_C39 size_C39 eta_C39 enc_C28 dec_C28 size_C28 eta_C28 enc_C52_28 dec_C52_28 size_C52_28 eta_C52_28 enc_C29 dec_C29 size_C29 eta_C29 enc_C55_29 dec_C55_29 size_C55_29 eta_C55_29 envD fDel cloneR delR Low AO.lows T.lows T.low1 AO.isFrame
noncomputable def sp57_idxN : Eva.Spec := specO2 fun (l : (List Written)) (f : C36) => (idxN l f).map fun r => enc r
theorem ok57_idxN : SpecOk Tryd.prog 57 sp57_idxN := by
 have hV : VOk Tryd.prog (env [(36, sp36)]) := env_ok ⟨ok36, trivial⟩
 refine SpecOk.ofO2 (Enters.of Tryd.func57 (by decide)) fun l f rr hr => ?_
 obtain ⟨r, hg, rfl⟩ := mpj hr; clear hr
 refine PureCon.ofN hV Tryd.func57 rfl Tryd.ntmps57 fun R hR w0 I0 Q hQ => ?_
 unfold idxN at hg
 refine AWp.rS hV none [0, 1] fun K k1 => ?_
 simp; repeat refine ai ?_
 refine kc [se 0 l, se 1 f] [] (k1 _ ?_)
 refine AWp.seqJ (fun s' => idxN_j1 = some r ∧ Sub s' ⟨[], []⟩) (fun _ k3 => ?_) ?_
 ·refine AWp.rS hV none [0, 1, 7, 8] fun K k4 => ?_
  simp; repeat refine ai ?_
  refine kc [se 0 l, se 1 f, se 7 ((l.length : Int) : Int), se 8 (0 : Int)] [] (k4 _ ?_)
  refine AWp.block ?_
  obtain ⟨o36, hl37, hq38⟩ := bnd_some hg; clear hg
  refine AWp.loopO (fun (z2u8 : Int) => ⟨[se 0 l, se 1 f, se 7 ((l.length : Int) : Int), se 8 z2u8], []⟩) (idxN_s5 l) 0 hl37 ?_ fun z2u8 w41 _ hg hx40 k5 => ?_
  ·exact Sub.rm []
  unfold idxN_s5 at hg; try dsimp only at hg
  show AWp _ _ _ _ _ ⟨[se 0 l, se 1 f, se 7 ((l.length : Int) : Int), se 8 z2u8], []⟩ _
  refine AWp.rS hV none [0, 1, 7, 8, 9] fun K k42 => ?_
  simp; repeat refine ai ?_
  refine kc [se 0 l, se 1 f, se 7 ((l.length : Int) : Int), se 8 z2u8, se 9 (decide (z2u8 < (l.length : Int)))] [] (k42 _ ?_)
  refine AWp.seqG fun _ k43 => ?_
  refine AWp.cnd hg rfl ?_ ?_ <;> (clear hg; intro h44 hg)
  ·refine AWp.skip ?_
   refine k43 _ ?_
   refine AWp.seqJ (fun s' => idxN_j6 z2u8 = some w41 ∧ Sub s' ⟨[se 0 l, se 1 f, se 7 ((l.length : Int) : Int), se 8 z2u8], []⟩) (fun _ k46 => ?_) ?_
   ·refine AWp.block ?_
    refine AWp.rS hV none [0, 1, 5, 7, 8] fun K k47 => ?_
    simp; repeat refine ai ?_
    refine kc [se 0 l, se 1 f, se 5 z2u8, se 7 ((l.length : Int) : Int), se 8 z2u8] [] (k47 _ ?_)
    obtain ⟨x48, h49, hg⟩ := bnd_some hg
    obtain ⟨h49a, h49b, h49f⟩ := at_e h49; have h49g := h49f; try simp at h49g
    obtain ⟨x50, h51, hg⟩ := bnd_some hg
    refine AWp.rS hV none [0, 1, 5, 7, 8, 16] fun K k52 => ?_
    simp [sp36, h49f, h49g, h51]; repeat refine ai ?_
    refine kd [se 0 l, se 1 f, se 5 z2u8, se 7 ((l.length : Int) : Int), se 8 z2u8, se 16 x50] [] (by first | rfl | (simp [sp36, h49f, h49g, h51] <;> grind)) (k52 _ ?_)
    refine AWp.cnd hg rfl ?_ ?_ <;> (clear hg; intro h53 hg)
    ·refine AWp.rS hV none [4] fun K k54 => ?_
     simp; repeat refine ai ?_
     refine kc [se 4 z2u8] [] (k54 _ ?_)
     refine AWp.ret ?_
     cases hx40 _ (oij hg).symm; have hg := hq38; try dsimp only at hg
     cases hg; exact hQ _ _ (.inl rfl) rt
    ·refine AWp.skip ?_
     exact k46 _ ⟨hg, Sub.rm []⟩
   ·rintro s' ⟨hg, hs⟩
    unfold idxN_j6 at hg
    refine AWp.sub hs ?_
    obtain ⟨g56, hg⟩ := grd_some hg
    unfold inI at g56
    refine AWp.regF hV none [0, 1, 7, 8] fun K k57 => ?_
    simp; repeat refine ai ?_
    refine kc [se 0 l, se 1 f, se 7 ((l.length : Int) : Int), se 8 ((z2u8 + 1) : Int)] [] (k57 _ ?_)
    exact k5 _ _ (oij hg).symm (Sub.rm [])
  ·refine AWp.exit ?_
   cases hx40 _ (oij hg).symm; have hg := hq38; try dsimp only at hg
   exact k3 _ ⟨hg, Sub.rm []⟩
 ·rintro s' ⟨hg, hs⟩
  unfold idxN_j1 at hg
  refine AWp.sub hs ?_
  refine AWp.rS hV none [4] fun K k61 => ?_
  simp; repeat refine ai ?_
  refine kc [se 4 ((-1) : Int)] [] (k61 _ ?_)
  refine AWp.ret ?_
  cases hg; exact hQ _ _ (.inl rfl) rt
noncomputable def sp32_contN : Eva.Spec := specO2 fun (l : (List Written)) (f : C36) => (contN l f).map fun r => enc r
theorem ok32_contN : SpecOk Tryd.prog 32 sp32_contN := by
 have hV : VOk Tryd.prog (env [(57, sp57_idxN)]) := env_ok ⟨ok57_idxN, trivial⟩
 refine SpecOk.ofO2 (Enters.of Tryd.func32 (by decide)) fun l f rr hr => ?_
 obtain ⟨r, hg, rfl⟩ := mpj hr; clear hr
 refine PureCon.ofN hV Tryd.func32 rfl Tryd.ntmps32 fun R hR w0 I0 Q hQ => ?_
 unfold contN at hg
 refine AWp.rS hV none [0, 1] fun K k1 => ?_
 simp; repeat refine ai ?_
 refine kc [se 0 l, se 1 f] [] (k1 _ ?_)
 obtain ⟨x2, h3, hg⟩ := bnd_some hg
 refine AWp.rS hV none [4] fun K k4 => ?_
 simp [sp57_idxN, h3]; repeat refine ai ?_
 refine kd [se 4 (decide (0 ≤ x2))] [] (by first | rfl | (simp [sp57_idxN, h3] <;> grind)) (k4 _ ?_)
 refine AWp.ret ?_
 cases hg; exact hQ _ _ (.inl rfl) rt
noncomputable def sp18 : Eva.Spec := specO1 fun (v : View) => (isView v).map fun r => enc r
theorem ok18 : SpecOk Tryd.prog 18 sp18 := by
 have hV : VOk Tryd.prog (env [(32, sp32_contN)]) := env_ok ⟨ok32_contN, trivial⟩
 refine SpecOk.ofO1 (Enters.of Tryd.func18 (by decide)) fun v rr hr => ?_
 obtain ⟨r, hg, rfl⟩ := mpj hr; clear hr
 refine PureCon.ofN hV Tryd.func18 rfl Tryd.ntmps18 fun R hR w0 I0 Q hQ => ?_
 unfold isView at hg
 refine AWp.rS hV none [1] fun K k1 => ?_
 simp; repeat refine ai ?_
 refine kc [(1, .ptr 0 0)] [.w 27 v] (k1 _ ?_)
 refine AWp.rS hV none [1, 3] fun K k2 => ?_
 simp; repeat refine ai ?_
 refine kc [(1, .ptr 0 0), se 3 (0 : Int)] [.w 27 v] (k2 _ ?_)
 refine AWp.seqJ (fun s' => ∃ y3u3 : Int, isView_j1 v y3u3 = some r ∧ Sub s' ⟨[(1, .ptr 0 0), se 3 y3u3], [.w 27 v]⟩) (fun _ k4 => ?_) ?_
 ·refine AWp.rS hV none [1, 3, 7, 8, 9] fun K k5 => ?_
  simp; repeat refine ai ?_
  refine kc [(1, .ptr 0 0), se 3 (0 : Int), se 7 v.measures, se 8 ((v.measures.length : Int) : Int), se 9 (0 : Int)] [.w 27 v] (k5 _ ?_)
  refine AWp.block ?_
  obtain ⟨o41, hl42, hq43⟩ := bnd_some hg; clear hg
  refine AWp.loopO (fun ((z2u3, z2u9) : Int × Int) => ⟨[(1, .ptr 0 0), se 3 z2u3, se 7 v.measures, se 8 ((v.measures.length : Int) : Int), se 9 z2u9], [.w 27 v]⟩) (isView_s5 v) (0, 0) hl42 ?_ fun z44 w46 _ hg hx45 k6 => ?_
  ·exact Sub.rm [0]
  obtain ⟨z2u3, z2u9⟩ := z44
  unfold isView_s5 at hg; try dsimp only at hg
  show AWp _ _ _ _ _ ⟨[(1, .ptr 0 0), se 3 z2u3, se 7 v.measures, se 8 ((v.measures.length : Int) : Int), se 9 z2u9], [.w 27 v]⟩ _
  refine AWp.rS hV none [1, 3, 7, 8, 9, 10] fun K k47 => ?_
  simp; repeat refine ai ?_
  refine kc [(1, .ptr 0 0), se 3 z2u3, se 7 v.measures, se 8 ((v.measures.length : Int) : Int), se 9 z2u9, se 10 (decide (z2u9 < (v.measures.length : Int)))] [.w 27 v] (k47 _ ?_)
  refine AWp.seqG fun _ k48 => ?_
  refine AWp.cnd hg rfl ?_ ?_ <;> (clear hg; intro h49 hg)
  ·refine AWp.skip ?_
   refine k48 _ ?_
   refine AWp.seqJ (fun s' => ∃ y50u3 : Int, isView_j6 z2u9 y50u3 = some w46 ∧ Sub s' ⟨[(1, .ptr 0 0), se 3 y50u3, se 7 v.measures, se 8 ((v.measures.length : Int) : Int), se 9 z2u9], [.w 27 v]⟩) (fun _ k51 => ?_) ?_
   ·refine AWp.block ?_
    obtain ⟨x52, h53, hg⟩ := bnd_some hg
    obtain ⟨h53a, h53b, h53f⟩ := at_e h53; have h53g := h53f; try simp at h53g
    refine AWp.rS hV none [1, 3, 5, 7, 8, 9] fun K k54 => ?_
    simp [h53f, h53g]; repeat refine ai ?_
    refine kd [(1, .ptr 0 0), se 3 z2u3, (5, .ptr 1 0), se 7 v.measures, se 8 ((v.measures.length : Int) : Int), se 9 z2u9] [.w 27 v, .w 42 x52] (by first | rfl | (simp [h53f, h53g] <;> grind)) (k54 _ ?_)
    obtain ⟨g55, hg⟩ := grd_some hg
    unfold inI at g55
    refine AWp.rS hV none [1, 3, 5, 7, 8, 9] fun K k56 => ?_
    simp; repeat refine ai ?_
    refine kc [(1, .ptr 0 0), se 3 ((z2u3 + (x52.notes.length : Int)) : Int), (5, .ptr 1 0), se 7 v.measures, se 8 ((v.measures.length : Int) : Int), se 9 z2u9] [.w 27 v, .w 42 x52] (k56 _ ?_)
    obtain ⟨x57, h58, hg⟩ := bnd_some hg
    have h58g := h58; try simp at h58g
    refine AWp.rS hV none [1, 3, 7, 8, 9, 20] fun K k59 => ?_
    simp [sp32_contN, h58, h58g]; repeat refine ai ?_
    refine kd [(1, .ptr 0 0), se 3 ((z2u3 + (x52.notes.length : Int)) : Int), se 7 v.measures, se 8 ((v.measures.length : Int) : Int), se 9 z2u9, se 20 x57] [.w 27 v, .w 42 x52] (by first | rfl | (simp [sp32_contN, h58, h58g] <;> grind)) (k59 _ ?_)
    refine AWp.cnd hg rfl ?_ ?_ <;> (clear hg; intro h60 hg)
    ·refine AWp.rS hV none [2] fun K k61 => ?_
     simp; repeat refine ai ?_
     refine kc [se 2 false] [.w 27 v, .w 42 x52] (k61 _ ?_)
     refine AWp.ret ?_
     cases hx45 _ (oij hg).symm; have hg := hq43; try dsimp only at hg
     cases hg; exact hQ _ _ (.inl rfl) rt
    ·refine AWp.skip ?_
     exact k51 _ ⟨_, hg, Sub.rm [0]⟩
   ·rintro s' ⟨y50u3, hg, hs⟩
    unfold isView_j6 at hg
    refine AWp.sub hs ?_
    obtain ⟨g63, hg⟩ := grd_some hg
    unfold inI at g63
    refine AWp.regF hV none [1, 3, 7, 8, 9] fun K k64 => ?_
    simp; repeat refine ai ?_
    refine kc [(1, .ptr 0 0), se 3 y50u3, se 7 v.measures, se 8 ((v.measures.length : Int) : Int), se 9 ((z2u9 + 1) : Int)] [.w 27 v] (k64 _ ?_)
    exact k6 _ _ (oij hg).symm (Sub.rm [0])
  ·refine AWp.exit ?_
   cases hx45 _ (oij hg).symm; have hg := hq43; try dsimp only at hg
   exact k4 _ ⟨_, hg, Sub.rm [0]⟩
 ·rintro s' ⟨y3u3, hg, hs⟩
  unfold isView_j1 at hg
  refine AWp.sub hs ?_
  obtain ⟨y68u2, hx69, hg⟩ := bnd_some hg
  unfold isView_r7 at hx69
  refine AWp.seqJ (fun s' => Sub s' ⟨[se 2 y68u2], []⟩) (fun _ k70 => ?_) ?_
  ·rcases ifb_o hx69 with ⟨c71, hx69⟩ | ⟨c71, hx69⟩
   ·have c71g := c71; try simp at c71g
    refine AWp.regF hV (some []) [2] fun K k72 => ?_
    simp [c71, c71g]; repeat refine ai ?_
    cases hx69; exact k72 _ (k70 _ (Sub.rm []))
   ·have c71g := c71; try simp at c71g
    refine AWp.regF hV (some [27, 28]) [2] fun K k73 => ?_
    simp [c71, c71g]; repeat refine ai ?_
    cases hx69; exact k73 _ (k70 _ (Sub.rm []))
  ·intro s' hs
   refine AWp.sub hs ?_
   clear hs s'
   refine AWp.ret ?_
   cases hg; exact hQ _ _ (.inl rfl) rt
noncomputable def sp29_desk11 : Eva.Spec := specO2 fun (w : Written) (n : (Bx Int)) => (desk11 w n).map fun r => enc r
theorem ok29_desk11 : SpecOk Tryd.prog 29 sp29_desk11 := by
 have hV : VOk Tryd.prog (env []) := env_ok trivial
 refine SpecOk.ofO2 (Enters.of Tryd.func29 (by decide)) fun w n rr hr => ?_
 obtain ⟨r, hg, rfl⟩ := mpj hr; clear hr
 refine PureCon.ofN hV Tryd.func29 rfl Tryd.ntmps29 fun R hR w0 I0 Q hQ => ?_
 unfold desk11 at hg
 refine AWp.rS hV none [1, 2] fun K k1 => ?_
 simp; repeat refine ai ?_
 refine kc [se 1 n, (2, .ptr 0 0)] [.w 38 w] (k1 _ ?_)
 obtain ⟨y2u3, hx3, hg⟩ := bnd_some hg
 unfold desk11_r1 at hx3
 refine AWp.seqJ (fun s' => Sub s' ⟨[se 3 y2u3], []⟩) (fun _ k4 => ?_) ?_
 ·rcases ifb_o hx3 with ⟨c5, hx3⟩ | ⟨c5, hx3⟩
  ·have c5g := c5; try simp at c5g
   refine AWp.regF hV (some [8, 9, 10, 11]) [3] fun K k6 => ?_
   simp [c5, c5g]; repeat refine ai ?_
   cases hx3; exact k6 _ (k4 _ (Sub.rm []))
  ·have c5g := c5; try simp at c5g
   refine AWp.regF hV (some []) [3] fun K k7 => ?_
   simp [c5, c5g]; repeat refine ai ?_
   cases hx3; exact k7 _ (k4 _ (Sub.rm []))
 ·intro s' hs
  refine AWp.sub hs ?_
  clear hs s'
  refine AWp.ret ?_
  cases hg; exact hQ _ _ (.inl rfl) rt
noncomputable def sp28_desk1 : Eva.Spec := specO2 fun (m : Measure) (n : (Bx Int)) => (desk1 m n).map fun r => enc r
theorem ok28_desk1 : SpecOk Tryd.prog 28 sp28_desk1 := by
 have hV : VOk Tryd.prog (env []) := env_ok trivial
 refine SpecOk.ofO2 (Enters.of Tryd.func28 (by decide)) fun m n rr hr => ?_
 obtain ⟨r, hg, rfl⟩ := mpj hr; clear hr
 refine PureCon.ofN hV Tryd.func28 rfl Tryd.ntmps28 fun R hR w0 I0 Q hQ => ?_
 unfold desk1 at hg
 refine AWp.rS hV none [1] fun K k1 => ?_
 simp; repeat refine ai ?_
 refine kc [se 1 n] [.w 42 m] (k1 _ ?_)
 refine AWp.rS hV none [3] fun K k2 => ?_
 simp; repeat refine ai ?_
 refine kc [se 3 (⟨n⟩ : C29)] [.w 42 m] (k2 _ ?_)
 refine AWp.ret ?_
 cases hg; exact hQ _ _ (.inl rfl) rt
noncomputable def sp55_keepD : Eva.Spec := specO2 fun (w : Written) (is : (Bx C29)) => (keepD w is).map fun r => enc r
theorem ok55_keepD : SpecOk Tryd.prog 55 sp55_keepD := by
 have hV : VOk Tryd.prog (env [(29, sp29_desk11)]) := env_ok ⟨ok29_desk11, trivial⟩
 refine SpecOk.ofO2 (Enters.of Tryd.func55 (by decide)) fun w is rr hr => ?_
 obtain ⟨r, hg, rfl⟩ := mpj hr; clear hr
 refine PureCon.ofN hV Tryd.func55 rfl Tryd.ntmps55 fun R hR w0 I0 Q hQ => ?_
 unfold keepD at hg
 refine AWp.rS hV none [1, 2] fun K k1 => ?_
 simp; repeat refine ai ?_
 refine kc [se 1 is, (2, .ptr 0 0)] [.w 38 w] (k1 _ ?_)
 obtain ⟨x2, h3, hg⟩ := bnd_some hg
 refine AWp.rS hV none [3] fun K k4 => ?_
 simp [sp29_desk11, h3]; repeat refine ai ?_
 refine kd [se 3 (!x2)] [.w 38 w] (by first | rfl | (simp [sp29_desk11, h3] <;> grind)) (k4 _ ?_)
 refine AWp.ret ?_
 cases hg; exact hQ _ _ (.inl rfl) rt
noncomputable def sp52_kept1D : Eva.Spec := specO2 fun (m : Measure) (h : (Bx C28)) => (kept1D m h).map fun r => enc r
theorem ok52_kept1D : SpecOk Tryd.prog 52 sp52_kept1D := by
 have hV : VOk Tryd.prog (envD 55 sp55_keepD [(28, sp28_desk1)]) := envD_ok ok55_keepD ⟨ok28_desk1, trivial⟩
 refine SpecOk.ofO2 (Enters.of Tryd.func52 (by decide)) fun m h rr hr => ?_
 obtain ⟨r, hg, rfl⟩ := mpj hr; clear hr
 refine PureCon.ofN hV Tryd.func52 rfl Tryd.ntmps52 fun R hR w0 I0 Q hQ => ?_
 unfold kept1D at hg
 refine AWp.rS hV none [1, 2, 3] fun K k1 => ?_
 simp; repeat refine ai ?_
 refine kc [se 1 h, (2, .ptr 0 0), (3, .ptr 1 0)] [.w 42 m, .var 42 [.d (enc (0 : Int)), .d (enc (0 : Int)), .d (enc ((⟨0, 0⟩ : Rat).n : Int)), .d (enc ((⟨0, 0⟩ : Rat).d : Int)), .nils 10]] (k1 _ ?_)
 obtain ⟨x2, h3, hg⟩ := bnd_some hg
 refine AWp.rS hV none [2, 3, 4] fun K k4 => ?_
 simp [sp28_desk1, h3]; repeat refine ai ?_
 refine kd [(2, .ptr 0 0), (3, .ptr 1 0), (4, .ptr 2 0)] [.w 42 m, .var 42 [.d (enc (0 : Int)), .d (enc (0 : Int)), .d (enc ((⟨0, 0⟩ : Rat).n : Int)), .d (enc ((⟨0, 0⟩ : Rat).d : Int)), .nils 10], .w 67 x2] (by first | rfl | (simp [sp28_desk1, h3] <;> grind)) (k4 _ ?_)
 refine AWp.sub (s' := ⟨[se 4 ((⟨x2⟩ : (Bx C29)) : (Bx C29)), (2, .ptr 0 0), (3, .ptr 1 0)], [.w 42 m, .var 42 [.d (enc (0 : Int)), .d (enc (0 : Int)), .d (enc ((⟨0, 0⟩ : Rat).n : Int)), .d (enc ((⟨0, 0⟩ : Rat).d : Int)), .nils 10]]⟩) (Sub.fz 4 2 x2 [0, 1]) ?_
 obtain ⟨g5, hg⟩ := grd_some hg
 obtain ⟨g7, hg⟩ := grd_some hg
 obtain ⟨x6, h8, hg⟩ := bnd_some hg
 obtain ⟨h8a, h8b⟩ := delO_some (s := sp55_keepD) (caps := [enc ((⟨(⟨x2⟩ : (Bx C29))⟩ : C55_29).v0 : (Bx C29))]) h8 (fun x b hb => spec2_bool hb)
 have h8ag := h8a
 try simp at h8ag
 have h8bg := h8b
 try simp at h8bg
 refine AWp.rS hV none [2, 3] fun K k9 => ?_
 simp [h8a, h8ag, h8b, h8bg]; repeat refine ai ?_
 refine kd [(2, .ptr 0 0), (3, .ptr 1 0)] [.var 42 [.d (enc (m.bar : Int)), .d (enc (m.key : Int)), .d (enc (m.length.n : Int)), .d (enc (m.length.d : Int)), .row 4], .var 42 [.d (enc (0 : Int)), .d (enc (0 : Int)), .d (enc ((⟨0, 0⟩ : Rat).n : Int)), .d (enc ((⟨0, 0⟩ : Rat).d : Int)), .nils 10], .dead, .dead, .ro 38 10 x6] (by first | rfl | (simp [h8a, h8ag, h8b, h8bg] <;> grind)) (k9 _ ?_)
 refine AWp.rS hV none [3] fun K k10 => ?_
 simp; repeat refine ai ?_
 refine kc [(3, .ptr 1 0)] [.var 42 [.d (enc (m.bar : Int)), .d (enc (m.key : Int)), .d (enc (m.length.n : Int)), .d (enc (m.length.d : Int)), .row 4], .var 42 [.d (enc (m.bar : Int)), .d (enc (m.key : Int)), .d (enc (m.length.n : Int)), .d (enc (m.length.d : Int)), .row 4], .dead, .dead, .ro 38 10 x6] (k10 _ ?_)
 refine AWp.ret ?_
 cases hg; exact hQ _ _ (.inl rfl) rt
noncomputable def sp51_eachD : Eva.Spec := specO2 fun (l : (List Measure)) (f : C52_28) => (eachD l f).map fun r => enc r
theorem ok51_eachD : SpecOk Tryd.prog 51 sp51_eachD := by
 have hV : VOk Tryd.prog (env [(52, sp52_kept1D)]) := env_ok ⟨ok52_kept1D, trivial⟩
 refine SpecOk.ofO2 (Enters.of Tryd.func51 (by decide)) fun l f rr hr => ?_
 obtain ⟨r, hg, rfl⟩ := mpj hr; clear hr
 refine PureCon.ofN hV Tryd.func51 rfl Tryd.ntmps51 fun R hR w0 I0 Q hQ => ?_
 unfold eachD at hg
 refine AWp.rS hV none [0, 1] fun K k1 => ?_
 simp; repeat refine ai ?_
 refine kc [se 0 l, se 1 f] [] (k1 _ ?_)
 refine AWp.rS hV none [0, 1, 5] fun K k2 => ?_
 simp; repeat refine ai ?_
 refine kc [se 0 l, se 1 f, (5, .nils 5)] [] (k2 _ ?_)
 refine AWp.seqJ (fun s' => ∃ y3u5 : (List Measure), eachD_j1 y3u5 = some r ∧ Sub s' ⟨[(5, .row 0)], [.ro 42 5 y3u5]⟩) (fun _ k4 => ?_) ?_
 ·refine AWp.rS hV none [1, 5, 8, 9, 10] fun K k5 => ?_
  simp; repeat refine ai ?_
  refine kc [se 1 f, (5, .nils 5), se 8 l, se 9 ((l.length : Int) : Int), se 10 (0 : Int)] [] (k5 _ ?_)
  refine AWp.block ?_
  obtain ⟨o35, hl36, hq37⟩ := bnd_some hg; clear hg
  refine AWp.loopO (fun ((z2u5, z2u10) : (List Measure) × Int) => ⟨[se 1 f, (5, .row 0), se 8 l, se 9 ((l.length : Int) : Int), se 10 z2u10], [.ro 42 5 z2u5]⟩) (eachD_s5 l f) ([], 0) hl36 ?_ fun z38 w40 _ hg hx39 k6 => ?_
  ·exact Sub.trans (Sub.adopt 5 42 5 rfl) (Sub.rm [0])
  obtain ⟨z2u5, z2u10⟩ := z38
  unfold eachD_s5 at hg; try dsimp only at hg
  show AWp _ _ _ _ _ ⟨[se 1 f, (5, .row 0), se 8 l, se 9 ((l.length : Int) : Int), se 10 z2u10], [.ro 42 5 z2u5]⟩ _
  refine AWp.rS hV none [1, 5, 8, 9, 10, 11] fun K k41 => ?_
  simp; repeat refine ai ?_
  refine kc [se 1 f, (5, .row 0), se 8 l, se 9 ((l.length : Int) : Int), se 10 z2u10, se 11 (decide (z2u10 < (l.length : Int)))] [.ro 42 5 z2u5] (k41 _ ?_)
  refine AWp.seqG fun _ k42 => ?_
  refine AWp.cnd hg rfl ?_ ?_ <;> (clear hg; intro h43 hg)
  ·refine AWp.skip ?_
   refine k42 _ ?_
   refine AWp.seqJ (fun s' => ∃ y44u5 : (List Measure), eachD_j6 z2u10 y44u5 = some w40 ∧ Sub s' ⟨[se 1 f, (5, .row 0), se 8 l, se 9 ((l.length : Int) : Int), se 10 z2u10], [.ro 42 5 y44u5]⟩) (fun _ k45 => ?_) ?_
   ·refine AWp.block ?_
    obtain ⟨x46, h47, hg⟩ := bnd_some hg
    obtain ⟨h47a, h47b, h47f⟩ := at_e h47; have h47g := h47f; try simp at h47g
    refine AWp.rS hV none [1, 5, 7, 8, 9, 10] fun K k48 => ?_
    simp [h47f, h47g]; repeat refine ai ?_
    refine kd [se 1 f, (5, .row 0), (7, .ptr 1 0), se 8 l, se 9 ((l.length : Int) : Int), se 10 z2u10] [.ro 42 5 z2u5, .w 42 x46] (by first | rfl | (simp [h47f, h47g] <;> grind)) (k48 _ ?_)
    obtain ⟨x49, h50, hg⟩ := bnd_some hg
    obtain ⟨g51, hg⟩ := grd_some hg
    refine AWp.regF hV none [1, 5, 8, 9, 10] fun K k52 => ?_
    simp [sp52_kept1D, h50]; repeat refine ai ?_
    refine kd [se 1 f, (5, .row 2), se 8 l, se 9 ((l.length : Int) : Int), se 10 z2u10] [.dead, .w 42 x46, .ro 42 5 ((z2u5 ++ [x49]) : List Measure)] (by first | rfl | (simp [sp52_kept1D, h50] <;> grind)) (k52 _ ?_)
    exact k45 _ ⟨_, hg, Sub.rm [2]⟩
   ·rintro s' ⟨y44u5, hg, hs⟩
    unfold eachD_j6 at hg
    refine AWp.sub hs ?_
    obtain ⟨g53, hg⟩ := grd_some hg
    unfold inI at g53
    refine AWp.regF hV none [1, 5, 8, 9, 10] fun K k54 => ?_
    simp; repeat refine ai ?_
    refine kc [se 1 f, (5, .row 0), se 8 l, se 9 ((l.length : Int) : Int), se 10 ((z2u10 + 1) : Int)] [.ro 42 5 y44u5] (k54 _ ?_)
    exact k6 _ _ (oij hg).symm (Sub.rm [0])
  ·refine AWp.exit ?_
   cases hx39 _ (oij hg).symm; have hg := hq37; try dsimp only at hg
   exact k4 _ ⟨_, hg, Sub.rm [0]⟩
 ·rintro s' ⟨y3u5, hg, hs⟩
  unfold eachD_j1 at hg
  refine AWp.sub hs ?_
  refine AWp.rS hV none [4] fun K k57 => ?_
  simp; repeat refine ai ?_
  refine kc [(4, .row 0)] [.ro 42 5 y3u5] (k57 _ ?_)
  refine AWp.ret ?_
  cases hg; exact hQ _ _ (.inl rfl) rt
noncomputable def sp27_keptD : Eva.Spec := specO2 fun (v : View) (h : C28) => (keptD v h).map fun r => enc r
theorem ok27_keptD : SpecOk Tryd.prog 27 sp27_keptD := by
 have hV : VOk Tryd.prog (env [(51, sp51_eachD)]) := env_ok ⟨ok51_eachD, trivial⟩
 refine SpecOk.ofO2 (Enters.of Tryd.func27 (by decide)) fun v h rr hr => ?_
 obtain ⟨r, hg, rfl⟩ := mpj hr; clear hr
 refine PureCon.ofN hV Tryd.func27 rfl Tryd.ntmps27 fun R hR w0 I0 Q hQ => ?_
 unfold keptD at hg
 refine AWp.rS hV none [2, 3, 4] fun K k1 => ?_
 simp; repeat refine ai ?_
 refine kc [(2, .ptr 0 0), (3, .ptr 1 0), (4, .ptr 2 0)] [.w 27 v, .w 68 h, .var 27 [.d (enc (0 : Int)), .nils 5]] (k1 _ ?_)
 refine AWp.sub (s' := ⟨[se 3 ((⟨h⟩ : (Bx C28)) : (Bx C28)), (2, .ptr 0 0), (4, .ptr 1 0)], [.w 27 v, .var 27 [.d (enc (0 : Int)), .nils 5]]⟩) (Sub.fz 3 1 h [0, 2]) ?_
 obtain ⟨x2, h3, hg⟩ := bnd_some hg
 have h3g := h3; try simp at h3g
 refine AWp.rDF hV mixed none 6 [] [4] (by decide) fun K k4 => ?_
 simp [sp51_eachD, h3, h3g]; repeat refine ai ?_
 refine kd [(4, .ptr 1 0)] [.w 27 v, .w 27 (⟨v.part, x2⟩ : View)] (by first | rfl | (simp [sp51_eachD, h3, h3g] <;> grind)) (k4 _ ?_)
 refine AWp.ret ?_
 cases hg; exact hQ _ _ (.inl rfl) rt
noncomputable def sp11 : Eva.Spec := specO2 fun (v : View) (n : Int) => (pDesk v n).map fun r => .tup [enc r.1, enc r.2]
theorem ok11 : SpecOk Tryd.prog 11 sp11 := by
 have hV : VOk Tryd.prog (env [(18, sp18), (27, sp27_keptD)]) := env_ok ⟨ok18, ok27_keptD, trivial⟩
 refine SpecOk.ofO2 (Enters.of Tryd.func11 (by decide)) fun v n rr hr => ?_
 obtain ⟨r, hg, rfl⟩ := mpj hr; clear hr
 refine PureCon.ofN hV Tryd.func11 rfl Tryd.ntmps11 fun R hR w0 I0 Q hQ => ?_
 unfold pDesk at hg
 refine AWp.rS hV none [2, 3, 4] fun K k1 => ?_
 simp; repeat refine ai ?_
 refine kc [(2, .ptr 0 0), (3, .ptr 1 0), (4, .ptr 2 0)] [.w 27 v, .w 3 n, .var 27 [.d (enc (0 : Int)), .nils 5]] (k1 _ ?_)
 refine AWp.seqG fun _ k2 => ?_
 obtain ⟨y5u16, hx6, hg⟩ := bnd_some hg
 unfold pDesk_r1 at hx6
 refine AWp.seqJ (fun s' => Sub s' ⟨[(2, .ptr 0 0), (3, .ptr 1 0), (4, .ptr 2 0), se 16 y5u16], [.w 27 v, .w 3 n, .var 27 [.d (enc (0 : Int)), .nils 5]]⟩) (fun _ k7 => ?_) ?_
 ·obtain ⟨x3, h4, hx6⟩ := bnd_some hx6
  rcases ifb_o hx6 with ⟨c8, hx6⟩ | ⟨c8, hx6⟩
  ·have c8g := c8; try simp at c8g
   refine AWp.regF hV (some [10, 11, 14, 15]) [2, 3, 4, 16] fun K k9 => ?_
   simp [sp18, h4, c8, c8g]; repeat refine ai ?_
   cases hx6; exact k9 _ (k7 _ (Sub.rm [0, 1, 2]))
  ·have c8g := c8; try simp at c8g
   rcases ifb_o hx6 with ⟨c10, hx6⟩ | ⟨c10, hx6⟩
   ·have c10g := c10; try simp at c10g
    refine AWp.regF hV (some [14, 15]) [2, 3, 4, 16] fun K k11 => ?_
    simp [sp18, h4, c8, c8g, c10, c10g]; repeat refine ai ?_
    cases hx6; exact k11 _ (k7 _ (Sub.rm [0, 1, 2]))
   ·have c10g := c10; try simp at c10g
    refine AWp.regF hV (some []) [2, 3, 4, 16] fun K k12 => ?_
    simp [sp18, h4, c8, c8g, c10, c10g]; repeat refine ai ?_
    cases hx6; exact k12 _ (k7 _ (Sub.rm [0, 1, 2]))
 ·intro s' hs
  refine AWp.sub hs ?_
  clear hs s'
  refine AWp.cnd hg rfl ?_ ?_ <;> (clear hg; intro h13 hg)
  ·refine AWp.rS hV none [4, 5] fun K k14 => ?_
   simp; repeat refine ai ?_
   refine kc [(4, .ptr 2 0), se 5 (1 : Int)] [.w 27 v, .w 3 n, .var 27 [.d (enc (0 : Int)), .nils 5]] (k14 _ ?_)
   refine AWp.ret ?_
   cases hg; exact hQ _ _ (.inl rfl) rt
  ·refine AWp.skip ?_
   refine k2 _ ?_
   refine AWp.sub (s' := ⟨[se 3 ((⟨n⟩ : (Bx Int)) : (Bx Int)), (2, .ptr 0 0), (4, .ptr 1 0), se 16 y5u16], [.w 27 v, .var 27 [.d (enc (0 : Int)), .nils 5]]⟩) (Sub.fz 3 1 n [0, 2]) ?_
   obtain ⟨x15, h16, hg⟩ := bnd_some hg
   have h16g := h16; try simp at h16g
   refine AWp.rS hV none [4, 5] fun K k17 => ?_
   simp [sp27_keptD, h16, h16g]; repeat refine ai ?_
   refine kd [(4, .ptr 1 0), se 5 (0 : Int)] [.w 27 v, .w 27 x15] (by first | rfl | (simp [sp27_keptD, h16, h16g] <;> grind)) (k17 _ ?_)
   refine AWp.ret ?_
   cases hg; exact hQ _ _ (.inl rfl) rt
end
end Go.Proofs.YtjfkfkjkbgiciaaDoor
namespace Go.Proofs.YtjfkfkjkbgiciaaDoor
open Go Go.Eva Enc
structure C33 where
  v0 : (Bx Int)
instance : Enc C33 := ⟨fun c => .clo 33 [enc c.v0], fun d => match d with | .clo _ [a0] => ⟨dec a0⟩ | _ => ⟨dec D.nilp⟩, 1, fun c => by simp only [dec_enc], fun _ => rfl, by simp [D.cells, D.one]⟩
theorem enc_C33 (c : C33) : (enc c : D) = .clo 33 [enc c.v0] := rfl
theorem dec_C33 (g : FuncId) (a0 : D) : (dec (.clo g [a0]) : C33) = ⟨dec a0⟩ := rfl
theorem size_C33 : size C33 = 1 := rfl
theorem eta_C33 (c : C33) : (⟨c.v0⟩ : C33) = c := rfl
structure C34 where
  v0 : (Bx Int)
instance : Enc C34 := ⟨fun c => .clo 34 [enc c.v0], fun d => match d with | .clo _ [a0] => ⟨dec a0⟩ | _ => ⟨dec D.nilp⟩, 1, fun c => by simp only [dec_enc], fun _ => rfl, by simp [D.cells, D.one]⟩
theorem enc_C34 (c : C34) : (enc c : D) = .clo 34 [enc c.v0] := rfl
theorem dec_C34 (g : FuncId) (a0 : D) : (dec (.clo g [a0]) : C34) = ⟨dec a0⟩ := rfl
theorem size_C34 : size C34 = 1 := rfl
theorem eta_C34 (c : C34) : (⟨c.v0⟩ : C34) = c := rfl
structure C56 where
  v0 : (Bx (List Int))
instance : Enc C56 := ⟨fun c => .clo 56 [enc c.v0], fun d => match d with | .clo _ [a0] => ⟨dec a0⟩ | _ => ⟨dec D.nilp⟩, 1, fun c => by simp only [dec_enc], fun _ => rfl, by simp [D.cells, D.one]⟩
theorem enc_C56 (c : C56) : (enc c : D) = .clo 56 [enc c.v0] := rfl
theorem dec_C56 (g : FuncId) (a0 : D) : (dec (.clo g [a0]) : C56) = ⟨dec a0⟩ := rfl
theorem size_C56 : size C56 = 1 := rfl
theorem eta_C56 (c : C56) : (⟨c.v0⟩ : C56) = c := rfl
structure C30 where
  v0 : (Bx (List Int))
instance : Enc C30 := ⟨fun c => .clo 30 [enc c.v0], fun d => match d with | .clo _ [a0] => ⟨dec a0⟩ | _ => ⟨dec D.nilp⟩, 1, fun c => by simp only [dec_enc], fun _ => rfl, by simp [D.cells, D.one]⟩
theorem enc_C30 (c : C30) : (enc c : D) = .clo 30 [enc c.v0] := rfl
theorem dec_C30 (g : FuncId) (a0 : D) : (dec (.clo g [a0]) : C30) = ⟨dec a0⟩ := rfl
theorem size_C30 : size C30 = 1 := rfl
theorem eta_C30 (c : C30) : (⟨c.v0⟩ : C30) = c := rfl
structure C52_30 where
  v0 : (Bx C30)
instance : Enc C52_30 := ⟨fun c => .clo 52 [enc c.v0], fun d => match d with | .clo _ [a0] => ⟨dec a0⟩ | _ => ⟨dec D.nilp⟩, 1, fun c => by simp only [dec_enc], fun _ => rfl, by simp [D.cells, D.one]⟩
theorem enc_C52_30 (c : C52_30) : (enc c : D) = .clo 52 [enc c.v0] := rfl
theorem dec_C52_30 (g : FuncId) (a0 : D) : (dec (.clo g [a0]) : C52_30) = ⟨dec a0⟩ := rfl
theorem size_C52_30 : size C52_30 = 1 := rfl
theorem eta_C52_30 (c : C52_30) : (⟨c.v0⟩ : C52_30) = c := rfl
noncomputable def backward (l : (List Int)) : Option C56 :=
  some (⟨(⟨l⟩ : (Bx (List Int)))⟩ : C56)
noncomputable def ossia11 (w : Written) (n : (Bx Int)) : Option Bool :=
  some (decide (w.ossia = n.v))
noncomputable def idxO_j6 (z2u8 : Int) : Option ((Int) ⊕ ((Int) ⊕ (Unit))) :=
  grd (inI (z2u8 + 1)) (some (.inl (z2u8 + 1)))
noncomputable def idxO_s5 (l : (List Written)) (f : C33) : Int → Option ((Int) ⊕ ((Int) ⊕ (Unit))) := fun (z2u8 : Int) =>
  ifb (decide (z2u8 < (l.length : Int))) (bnd (at? l z2u8) fun x48 =>
  bnd (ossia11 x48 f.v0) fun x50 =>
  ifb x50 (some (.inr (.inl z2u8)))
  (idxO_j6 z2u8))
  (some (.inr (.inr ())))
noncomputable def idxO_j1 : Option Int :=
  some (-1)
noncomputable def idxO (l : (List Written)) (f : C33) : Option Int :=
  bnd (loopO (idxO_s5 l f) 0) fun o36 =>
  match o36 with
  | .inl q59u0 => some q59u0
  | .inr () => idxO_j1
noncomputable def contO (l : (List Written)) (f : C33) : Option Bool :=
  bnd (idxO l f) fun x2 =>
  some (decide (0 ≤ x2))
noncomputable def ossia12 (w : Written) (n : (Bx Int)) : Option Bool :=
  some (decide (w.ossia = n.v))
end Go.Proofs.YtjfkfkjkbgiciaaDoor
namespace Go.Proofs.YtjfkfkjkbgiciaaDoor
open Go Go.Eva Enc
set_option maxRecDepth 4000
attribute [local instance] rndX
attribute [local congr] AWp.congrS
attribute [local simp] evalSeq opRes guardPc evalOp evT Eva.get startT strip putT Eva.after constT typed obAll holds dstOk R.ok R.bad ofD binD unD pickT subL subP Op.operands Call.operands toD toD1 argsD argsD1 callD callT typedAll cfind quietT quietT1 spec0 spec1 spec2 spec3 enc_int enc_bool enc_str enc_fn enc_list dec_int dec_bool dec_str dec_fn dec_list size_int size_str map_dec_enc map_dec_comp cellsT D.cells T.oneT D.one mkT dataT zeroT unD1 setAt loadAs loadEl storeAs fieldP fieldV sizeE intOfT indexP appendT lenT sliceT elemSize arith lfsOk lfOk isAggD mkD fillT placeS TD.agg env restr List.map keyIdx mapTy lookT mapPutT mapDelT mapOf indexS convT evalPure range1 range2 range3 range4 range5 range6 range7 range8 enc_intk size_intk dec_intk eta_intk keysInt_nil keyIdx_E keysInt_E isE_iff put_E del_E get_E getok_E mkeys_E mkeys_E' mkeys_enc specO0 specO1 specO2 specO3 specO4 opD skips gone unbox cloT subO clearT makeT enc_bx dec_bx size_bx selS cloIs List.contains_cons List.contains_nil elAt_zero enc_Rat dec_Rat size_Rat eta_Rat beqL_Rat beqR_Rat enc_Pitch dec_Pitch size_Pitch eta_Pitch beqL_Pitch beqR_Pitch enc_Written dec_Written size_Written eta_Written beqL_Written beqR_Written enc_Measure dec_Measure size_Measure eta_Measure enc_View dec_View size_View eta_View enc_Fraction dec_Fraction size_Fraction eta_Fraction beqL_Fraction beqR_Fraction dat0 len_natTab eqT4 eqT34 eqT36 eqT38 eqT114 te1 te2 te3 te4 te5 te6 te7 te8 te9 te10 te11 te12 te13 te14 te15 te16 te17 te18 te19 te21 te22 te23 te24 te25 te26 te27 te28 te30 te31 te32 te33 te34 te35 te36 te37 te38 te39 te40 te41 te42 te43 te45 te46 te47 te48 te49 te50 te51 te52 te53 te55 te56 te57 te58 te59 te60 te61 te62 te63 te64 te65 te66 te67 te68 te69 te70 te71 te72 te73 te74 te75 te76 te77 te79 te80 te81 te82 te83 te84 te85 te86 te87 te88 te89 te90 te91 te92 te93 te94 te95 te96 te97 te98 te99 te100 te101 te102 te104 te105 te106 te108 te109 te110 te111 te112 te113 te114 te115 te116 te117 te118 te119 te120 te121 te122 te123 te124 te125 te126 te127 te128 te129 te130 te131 te133 te134 te135 te136 te137 te138 te139 te140 te141 te142 te143 te144 te145 te146 te147 te148 te149 te150
section
variable [Onn]
attribute [local simp] enc_C36 dec_C36 size_C36 eta_C36 enc_C39 dec_C39 size_C39 eta_C39 enc_C28 dec_C28 size_C28 eta_C28 enc_C52_28 dec_C52_28 size_C52_28 eta_C52_28 enc_C29 dec_C29 size_C29 eta_C29 enc_C55_29 dec_C55_29 size_C55_29 eta_C55_29 enc_C33 dec_C33 size_C33 eta_C33 enc_C34 dec_C34 size_C34 eta_C34 enc_C56 dec_C56 size_C56 eta_C56 enc_C30 dec_C30 size_C30 eta_C30 enc_C52_30 dec_C52_30 size_C52_30 eta_C52_30 envD fDel cloneR delR Low AO.lows T.lows T.low1 AO.isFrame
noncomputable def sp31 : Eva.Spec := specO1 fun (l : (List Int)) => (backward l).map fun r => enc r
theorem ok31 : SpecOk Tryd.prog 31 sp31 := by
 have hV : VOk Tryd.prog (env []) := env_ok trivial
 refine SpecOk.ofO1 (Enters.of Tryd.func31 (by decide)) fun l rr hr => ?_
 obtain ⟨r, hg, rfl⟩ := mpj hr; clear hr
 refine PureCon.ofN hV Tryd.func31 rfl Tryd.ntmps31 fun R hR w0 I0 Q hQ => ?_
 unfold backward at hg
 refine AWp.rS hV none [1] fun K k1 => ?_
 simp; repeat refine ai ?_
 refine kc [(1, .ptr 0 0)] [.w 43 l] (k1 _ ?_)
 refine AWp.sub (s' := ⟨[se 1 ((⟨l⟩ : (Bx (List Int))) : (Bx (List Int)))], []⟩) (Sub.fz 1 0 l []) ?_
 refine AWp.rS hV none [2] fun K k2 => ?_
 simp; repeat refine ai ?_
 refine kc [se 2 ((⟨(⟨l⟩ : (Bx (List Int)))⟩ : C56) : C56)] [] (k2 _ ?_)
 refine AWp.ret ?_
 cases hg; exact hQ _ _ (.inl rfl) rt
noncomputable def sp33_ossia11 : Eva.Spec := specO2 fun (w : Written) (n : (Bx Int)) => (ossia11 w n).map fun r => enc r
theorem ok33_ossia11 : SpecOk Tryd.prog 33 sp33_ossia11 := by
 have hV : VOk Tryd.prog (env []) := env_ok trivial
 refine SpecOk.ofO2 (Enters.of Tryd.func33 (by decide)) fun w n rr hr => ?_
 obtain ⟨r, hg, rfl⟩ := mpj hr; clear hr
 refine PureCon.ofN hV Tryd.func33 rfl Tryd.ntmps33 fun R hR w0 I0 Q hQ => ?_
 unfold ossia11 at hg
 refine AWp.rS hV none [1, 2] fun K k1 => ?_
 simp; repeat refine ai ?_
 refine kc [se 1 n, (2, .ptr 0 0)] [.w 38 w] (k1 _ ?_)
 refine AWp.rS hV none [3] fun K k2 => ?_
 simp; repeat refine ai ?_
 refine kc [se 3 (decide (w.ossia = n.v))] [.w 38 w] (k2 _ ?_)
 refine AWp.ret ?_
 cases hg; exact hQ _ _ (.inl rfl) rt
noncomputable def sp57_idxO : Eva.Spec := specO2 fun (l : (List Written)) (f : C33) => (idxO l f).map fun r => enc r
theorem ok57_idxO : SpecOk Tryd.prog 57 sp57_idxO := by
 have hV : VOk Tryd.prog (env [(33, sp33_ossia11)]) := env_ok ⟨ok33_ossia11, trivial⟩
 refine SpecOk.ofO2 (Enters.of Tryd.func57 (by decide)) fun l f rr hr => ?_
 obtain ⟨r, hg, rfl⟩ := mpj hr; clear hr
 refine PureCon.ofN hV Tryd.func57 rfl Tryd.ntmps57 fun R hR w0 I0 Q hQ => ?_
 unfold idxO at hg
 refine AWp.rS hV none [0, 1] fun K k1 => ?_
 simp; repeat refine ai ?_
 refine kc [se 0 l, se 1 f] [] (k1 _ ?_)
 refine AWp.seqJ (fun s' => idxO_j1 = some r ∧ Sub s' ⟨[], []⟩) (fun _ k3 => ?_) ?_
 ·refine AWp.rS hV none [0, 1, 7, 8] fun K k4 => ?_
  simp; repeat refine ai ?_
  refine kc [se 0 l, se 1 f, se 7 ((l.length : Int) : Int), se 8 (0 : Int)] [] (k4 _ ?_)
  refine AWp.block ?_
  obtain ⟨o36, hl37, hq38⟩ := bnd_some hg; clear hg
  refine AWp.loopO (fun (z2u8 : Int) => ⟨[se 0 l, se 1 f, se 7 ((l.length : Int) : Int), se 8 z2u8], []⟩) (idxO_s5 l f) 0 hl37 ?_ fun z2u8 w41 _ hg hx40 k5 => ?_
  ·exact Sub.rm []
  unfold idxO_s5 at hg; try dsimp only at hg
  show AWp _ _ _ _ _ ⟨[se 0 l, se 1 f, se 7 ((l.length : Int) : Int), se 8 z2u8], []⟩ _
  refine AWp.rS hV none [0, 1, 7, 8, 9] fun K k42 => ?_
  simp; repeat refine ai ?_
  refine kc [se 0 l, se 1 f, se 7 ((l.length : Int) : Int), se 8 z2u8, se 9 (decide (z2u8 < (l.length : Int)))] [] (k42 _ ?_)
  refine AWp.seqG fun _ k43 => ?_
  refine AWp.cnd hg rfl ?_ ?_ <;> (clear hg; intro h44 hg)
  ·refine AWp.skip ?_
   refine k43 _ ?_
   refine AWp.seqJ (fun s' => idxO_j6 z2u8 = some w41 ∧ Sub s' ⟨[se 0 l, se 1 f, se 7 ((l.length : Int) : Int), se 8 z2u8], []⟩) (fun _ k46 => ?_) ?_
   ·refine AWp.block ?_
    refine AWp.rS hV none [0, 1, 5, 7, 8] fun K k47 => ?_
    simp; repeat refine ai ?_
    refine kc [se 0 l, se 1 f, se 5 z2u8, se 7 ((l.length : Int) : Int), se 8 z2u8] [] (k47 _ ?_)
    obtain ⟨x48, h49, hg⟩ := bnd_some hg
    obtain ⟨h49a, h49b, h49f⟩ := at_e h49; have h49g := h49f; try simp at h49g
    obtain ⟨x50, h51, hg⟩ := bnd_some hg
    refine AWp.rS hV none [0, 1, 5, 7, 8, 16] fun K k52 => ?_
    simp [sp33_ossia11, h49f, h49g, h51]; repeat refine ai ?_
    refine kd [se 0 l, se 1 f, se 5 z2u8, se 7 ((l.length : Int) : Int), se 8 z2u8, se 16 x50] [] (by first | rfl | (simp [sp33_ossia11, h49f, h49g, h51] <;> grind)) (k52 _ ?_)
    refine AWp.cnd hg rfl ?_ ?_ <;> (clear hg; intro h53 hg)
    ·refine AWp.rS hV none [4] fun K k54 => ?_
     simp; repeat refine ai ?_
     refine kc [se 4 z2u8] [] (k54 _ ?_)
     refine AWp.ret ?_
     cases hx40 _ (oij hg).symm; have hg := hq38; try dsimp only at hg
     cases hg; exact hQ _ _ (.inl rfl) rt
    ·refine AWp.skip ?_
     exact k46 _ ⟨hg, Sub.rm []⟩
   ·rintro s' ⟨hg, hs⟩
    unfold idxO_j6 at hg
    refine AWp.sub hs ?_
    obtain ⟨g56, hg⟩ := grd_some hg
    unfold inI at g56
    refine AWp.regF hV none [0, 1, 7, 8] fun K k57 => ?_
    simp; repeat refine ai ?_
    refine kc [se 0 l, se 1 f, se 7 ((l.length : Int) : Int), se 8 ((z2u8 + 1) : Int)] [] (k57 _ ?_)
    exact k5 _ _ (oij hg).symm (Sub.rm [])
  ·refine AWp.exit ?_
   cases hx40 _ (oij hg).symm; have hg := hq38; try dsimp only at hg
   exact k3 _ ⟨hg, Sub.rm []⟩
 ·rintro s' ⟨hg, hs⟩
  unfold idxO_j1 at hg
  refine AWp.sub hs ?_
  refine AWp.rS hV none [4] fun K k61 => ?_
  simp; repeat refine ai ?_
  refine kc [se 4 ((-1) : Int)] [] (k61 _ ?_)
  refine AWp.ret ?_
  cases hg; exact hQ _ _ (.inl rfl) rt
noncomputable def sp32_contO : Eva.Spec := specO2 fun (l : (List Written)) (f : C33) => (contO l f).map fun r => enc r
theorem ok32_contO : SpecOk Tryd.prog 32 sp32_contO := by
 have hV : VOk Tryd.prog (env [(57, sp57_idxO)]) := env_ok ⟨ok57_idxO, trivial⟩
 refine SpecOk.ofO2 (Enters.of Tryd.func32 (by decide)) fun l f rr hr => ?_
 obtain ⟨r, hg, rfl⟩ := mpj hr; clear hr
 refine PureCon.ofN hV Tryd.func32 rfl Tryd.ntmps32 fun R hR w0 I0 Q hQ => ?_
 unfold contO at hg
 refine AWp.rS hV none [0, 1] fun K k1 => ?_
 simp; repeat refine ai ?_
 refine kc [se 0 l, se 1 f] [] (k1 _ ?_)
 obtain ⟨x2, h3, hg⟩ := bnd_some hg
 refine AWp.rS hV none [4] fun K k4 => ?_
 simp [sp57_idxO, h3]; repeat refine ai ?_
 refine kd [se 4 (decide (0 ≤ x2))] [] (by first | rfl | (simp [sp57_idxO, h3] <;> grind)) (k4 _ ?_)
 refine AWp.ret ?_
 cases hg; exact hQ _ _ (.inl rfl) rt
noncomputable def sp34_ossia12 : Eva.Spec := specO2 fun (w : Written) (n : (Bx Int)) => (ossia12 w n).map fun r => enc r
theorem ok34_ossia12 : SpecOk Tryd.prog 34 sp34_ossia12 := by
 have hV : VOk Tryd.prog (env []) := env_ok trivial
 refine SpecOk.ofO2 (Enters.of Tryd.func34 (by decide)) fun w n rr hr => ?_
 obtain ⟨r, hg, rfl⟩ := mpj hr; clear hr
 refine PureCon.ofN hV Tryd.func34 rfl Tryd.ntmps34 fun R hR w0 I0 Q hQ => ?_
 unfold ossia12 at hg
 refine AWp.rS hV none [1, 2] fun K k1 => ?_
 simp; repeat refine ai ?_
 refine kc [se 1 n, (2, .ptr 0 0)] [.w 38 w] (k1 _ ?_)
 refine AWp.rS hV none [3] fun K k2 => ?_
 simp; repeat refine ai ?_
 refine kc [se 3 (decide (w.ossia = n.v))] [.w 38 w] (k2 _ ?_)
 refine AWp.ret ?_
 cases hg; exact hQ _ _ (.inl rfl) rt
end
section
variable [Onn]
attribute [local simp] enc_C36 dec_C36 size_C36 eta_C36 enc_C39 dec_C39 size_C39 eta_C39 enc_C28 dec_C28 size_C28 eta_C28 enc_C52_28 dec_C52_28 size_C52_28 eta_C52_28 enc_C29 dec_C29 size_C29 eta_C29 enc_C55_29 dec_C55_29 size_C55_29 eta_C55_29 enc_C33 dec_C33 size_C33 eta_C33 enc_C34 dec_C34 size_C34 eta_C34 enc_C56 dec_C56 size_C56 eta_C56 enc_C30 dec_C30 size_C30 eta_C30 enc_C52_30 dec_C52_30 size_C52_30 eta_C52_30
def foldO {α σ : Type} (f : α → σ → Option σ) : List α → σ → Option σ
  | [], z => some z
  | x :: xs, z => bnd (f x z) (foldO f xs)
section
variable {xs : List Int} {step : Int → Int → Option Int} {O : Int → List AO} {base k : Nat} {asg bod : Code} {tm : Tm}
theorem sem65 (hlen : ∀ p, (O p).length = 3) (hlp : ∀ p, (O p)[2]? = some (.loop base k #[9, 10] asg bod tm .ready none)) (hlow : ∀ p, Low (O p)) (hk : 10 < k)
    (hround : ∀ (i : Nat) (x p p' : Int), xs[i]? = some x → step x p = some p' → ∀ (F3 : AO), (∃ v f, F3 = .frame 3 v f) → ∀ (KR : Option Code → List AO → Prop), (∀ F4, (∃ v f, F4 = AO.frame 4 v f) → KR none (O p' ++ [F3] ++ [F4])) →
      ∀ (R : Rnd) (w0 : World) (I0 : Imm) (vals : Nat → Value) (ft : Tm) (Q : Exit → St → Prop), (∀ e jump s2, jumpOf e = some jump → RetR s2 4 vals ft 2 base k #[9, 10] asg bod tm jump (KR jump) → Q e s2) →
        @AWp _ R Tryd.prog w0 I0 k asg ⟨roundT [9, 10] [.d (.int .i64 i), .d (.int .i64 x)] tm, O p ++ [F3] ++ [.frame 4 vals ft]⟩ (onlyN fun s1 => ∃ s2, Eva.Sub s1 s2 ∧ s2.l[4]? = some (.frame 4 vals ft) ∧ s2.l[2]? = some (.loop base k #[9, 10] asg bod tm .ready none) ∧ @AWp _ R Tryd.prog w0 I0 k bod ⟨s2.t, s2.l.set 2 (.loop base k #[9, 10] asg bod tm .busy none)⟩ Q))
    {p0 pN : Int} (hN : foldO step xs.reverse p0 = some pN) (hmax : (xs.length : Int) ≤ 9223372036854775807) :
    SemC Tryd.prog 56 [.yld 2, .d (.box (enc xs))] (O p0) fun u l' => ∃ F3, (∃ v f, F3 = AO.frame 3 v f) ∧ l' = O pN ++ [F3] := by
  have hV : VOk Tryd.prog (env []) := env_ok trivial
  refine SemC.of hV (Enters.of Tryd.func56 (by decide)) Tryd.func56 rfl (by rw [Tryd.ntmps56]; simp) fun R hR w0 I0 vals ft Q hQ => ?_
  rw [Tryd.ntmps56]
  rw [hlen p0] at hQ ⊢
  have hfin : ∀ (e : Exit) (t : Tm), (e = .ret ∨ e = .normal) → Q e ⟨t, O pN ++ [AO.frame 3 vals ft]⟩ := fun e t he =>
    hQ _ _ he ⟨_, Sub.refl _, by simp, by simp [List.getElem?_append_right, hlen], _, ⟨vals, ft, rfl⟩, rfl⟩
  have hF : ∃ v f, AO.frame 3 vals ft = AO.frame 3 v f := ⟨vals, ft, rfl⟩
  generalize AO.frame 3 vals ft = F3 at *
  simp only [startTT]
  refine AWp.rS hV none [0, 1, 3] fun K k1 => ?_
  simp
  refine And.intro (by omega) ?_
  refine kcong (s' := ⟨[(0, .yld 2), (1, .d (.box (enc xs))), (3, .d (.int .i64 ((xs.length : Int) - 1)))], O p0 ++ [F3]⟩) (by first | rfl | simp) (k1 _ ?_)
  refine AWp.block ?_
  refine AWp.loop (fun (z : Nat × Int) => ⟨[(0, .yld 2), (1, .d (.box (enc xs))), (3, .d (.int .i64 ((z.1 : Int) - 1)))], O z.2 ++ [F3]⟩) (fun z => z.1 ≤ xs.length ∧ foldO step (xs.take z.1).reverse z.2 = some pN) (fun z => z.1) (xs.length, p0) ⟨Nat.le_refl _, by rw [List.take_length]; exact hN⟩ (Sub.refl _) fun ⟨j, p⟩ ⟨hj, hfo⟩ => ?_
  dsimp only at hj hfo ⊢
  refine AWp.seqG fun _ k4 => ?_
  refine AWp.rS hV none [0, 1, 3, 8] fun K k5 => ?_
  simp
  refine kcong (s' := ⟨[(0, .yld 2), (1, .d (.box (enc xs))), (3, .d (.int .i64 ((j : Int) - 1))), (8, .d (.bool (decide (0 < j))))], O p ++ [F3]⟩) (by first | rfl | (simp; done) | (simp; omega)) (k5 _ ?_)
  refine AWp.cond (b := decide (0 < j)) rfl (fun h => ?_) fun h => ?_
  · obtain ⟨i, rfl⟩ : ∃ i, j = i + 1 := ⟨j - 1, by simp at h; omega⟩
    have hi : i < xs.length := by omega
    have hx : xs[i]? = some xs[i] := List.getElem?_eq_getElem hi
    rw [List.take_succ, hx] at hfo
    simp only [Option.toList_some, List.reverse_append, List.reverse_cons, List.reverse_nil, List.nil_append, List.singleton_append, foldO] at hfo
    have hel := elAt_enc hx
    generalize xs[i] = x at hx hfo hel
    obtain ⟨p', hs, hfo⟩ := bnd_some hfo
    have hel2 := hel
    simp at hel2
    have hi1 : ((i + 1 : Nat) : Int) - 1 = (i : Int) := by omega
    refine AWp.skip (k4 _ ?_)
    refine AWp.seqJ (fun s' => Sub s' ⟨[(0, .yld 2), (1, .d (.box (enc xs))), (3, .d (.int .i64 (i : Int)))], O p' ++ [F3]⟩) (fun _ k6 => ?_) ?_
    · rw [hi1]
      refine AWp.block ?_
      refine AWp.rC hV [0, 1, 3, 18] fun K k7 => ?_
      refine RunAt.seq hV none 6 [0, 1, 3, 11, 12, 16] (by decide) (by decide) fun K1 h1 => ?_
      simp [hel, hel2, hi]
      refine kcong (s' := ⟨[(0, .yld 2), (1, .d (.box (enc xs))), (3, .d (.int .i64 i)), (11, .yld 2), (12, .d (.int .i64 i)), (16, .d (.int .i64 x))], O p ++ [F3]⟩) (by first | rfl | simp) (h1 _ ?_)
      have e4 : (O p ++ [F3]).length = 4 := by simp [hlen]
      refine RunAt.yld hV 2 [.d (.int .i64 i), .d (.int .i64 x)] rfl rfl trivial (by decide) (by simp [yldOf]) (by dsimp only; exact get_app (hlp p) _) rfl (by simp [show 9 < k by omega, hk]) fun KR hKR => ?_
      dsimp only
      simp only [e4]
      refine hround i x p p' hx hs F3 hF KR fun F4 hF4 => hKR none _ (RunAt.fin hV none ?_)
      simp
      refine kcong (s' := ⟨[(0, .yld 2), (1, .d (.box (enc xs))), (3, .d (.int .i64 i)), (18, .d (.bool false))], O p' ++ [F3] ++ [F4]⟩) (by first | rfl | simp) (k7 _ ?_)
      refine AWp.cond (b := false) rfl (fun h => by cases h) fun h => AWp.skip (k6 _ ?_)
      obtain ⟨v3, f3, rfl⟩ := hF
      have hl : Low (O p' ++ [AO.frame 3 v3 f3]) := by have := (hlow p').frame v3 f3; rwa [hlen] at this
      exact Sub.drop hl (by simp [T.lows, hlen]) (by simp [forgets])
    · rintro s' hs'
      refine AWp.sub hs' ?_
      refine AWp.regF hV none [0, 1, 3] fun K k7 => ?_
      simp
      refine And.intro (by omega) ?_
      refine kcong (s' := ⟨[(0, .yld 2), (1, .d (.box (enc xs))), (3, .d (.int .i64 ((i : Int) - 1)))], O p' ++ [F3]⟩) (by first | rfl | simp) (k7 _ ?_)
      exact ⟨(i, p'), ⟨by omega, hfo⟩, Nat.lt_succ_self _, Sub.refl _⟩
  · have hj0 : j = 0 := by simp at h; omega
    subst hj0
    simp [foldO] at hfo
    subst hfo
    refine AWp.exit ?_
    exact hfin _ _ (.inr rfl)
end
noncomputable def ossiaStep (m : Measure) (x p : Int) : Option Int := bnd (contO m.notes (⟨⟨x⟩⟩ : C33)) fun b => some (if b = true then x else p)
noncomputable def ossia1 (m : Measure) (c : Bx (List Int)) : Option C34 := grd ((c.v.length : Int) ≤ 9223372036854775807) (bnd (foldO (ossiaStep m) c.v.reverse 0) fun p => some (⟨⟨p⟩⟩ : C34))
noncomputable def sp30_ossia1 : Eva.Spec := specO2 fun (m : Measure) (c : Bx (List Int)) => (ossia1 m c).map fun r => enc r
theorem ok30_ossia1 : SpecOk Tryd.prog 30 sp30_ossia1 := by
  have hV : VOk Tryd.prog (env [(31, sp31), (32, sp32_contO)]) := env_ok ⟨ok31, ok32_contO, trivial⟩
  refine SpecOk.ofO2 (Enters.of Tryd.func30 (by decide)) ?_
  intro m c rr hr
  obtain ⟨r, hg, rfl⟩ := Option.map_eq_some_iff.1 hr
  clear hr
  refine PureCon.ofQ hV Tryd.func30 rfl (by rw [Tryd.ntmps30]; simp) fun R hR w0 I0 Q hQ => ?_
  rw [Tryd.ntmps30]
  unfold ossia1 at hg
  obtain ⟨hmax, hg⟩ := grd_some hg
  obtain ⟨pN, hfo, hg⟩ := bnd_some hg
  have hg := Option.some.inj hg
  subst hg
  obtain ⟨xs⟩ := c
  dsimp only at hfo hmax
  refine AWp.rS hV none [1, 2] fun K k1 => ?_
  simp
  refine kcong (s' := ⟨[(1, .d (enc (⟨xs⟩ : Bx (List Int)))), (2, .ptr 0 0)], [.var 42 (cellsT (.d (enc m)))]⟩) (by first | rfl | simp) (k1 _ ?_)
  refine AWp.rS hV none [1, 2, 4] fun K k1 => ?_
  simp
  refine kcong (s' := ⟨[(1, .d (enc (⟨xs⟩ : Bx (List Int)))), (2, .ptr 0 0), (4, .ptr 1 0)], [.var 42 (cellsT (.d (enc m))), .var 3 [.d (.int .i64 0)]]⟩) (by first | rfl | simp) (k1 _ ?_)
  refine AWp.seqJ (fun s' => Sub s' ⟨[(4, .ptr 0 0)], [.var 3 (cellsT (.d (enc (pN : Int))))]⟩) (fun _ k2 => ?_) ?_
  · refine AWp.rS hV none [2, 4, 8] fun K k1 => ?_
    simp [sp31, backward]
    refine kcong (s' := ⟨[(2, .ptr 0 0), (4, .ptr 1 0), (8, .d (.clo 56 [.box (enc xs)]))], [.var 42 (cellsT (.d (enc m))), .var 3 [.d (.int .i64 0)]]⟩) (by first | rfl | simp) (k1 _ ?_)
    refine AWp.block ?_
    refine AWp.rangeF hR (gf := 56) (caps := [.d (.box (enc xs))]) rfl fun asg bod ha hb K hK => ?_
    dsimp only [List.length_cons, List.length_nil] at hK ⊢
    refine (sem65 (xs := xs) (step := ossiaStep m) (O := fun p => [.var 42 (cellsT (.d (enc m))), .var 3 (cellsT (.d (enc (p : Int)))), .loop 2 17 #[9, 10] asg bod [(2, .ptr 0 0), (4, .ptr 1 0), (8, .d (.clo 56 [.box (enc xs)]))] .ready none]) (fun _ => rfl) (fun _ => rfl) (fun _ => by simp [Low, AO.lows, T.lows]) (by decide) ?_ hfo hmax).mono ?_
    · rintro i x p p' hx hs F3 ⟨v3, f3, rfl⟩ KR hKR R w0 I0 vals ft Q hQ
      unfold ossiaStep at hs
      obtain ⟨b, hb1, hs⟩ := bnd_some hs
      have hs := Option.some.inj hs
      subst hs
      have hb2 := hb1
      try simp at hb2
      obtain ⟨LP, hLP⟩ : ∃ LP, LP = AO.loop 2 17 #[9, 10] asg bod [(2, .ptr 0 0), (4, .ptr 1 0), (8, .d (.clo 56 [.box (enc xs)]))] .ready none := ⟨_, rfl⟩
      obtain ⟨LB, hLB⟩ : ∃ LB, LB = AO.loop 2 17 #[9, 10] asg bod [(2, .ptr 0 0), (4, .ptr 1 0), (8, .d (.clo 56 [.box (enc xs)]))] .busy none := ⟨_, rfl⟩
      have hret : ∀ s2, (∃ s3, Eva.Sub s2 s3 ∧ s3.l[4]? = some (.frame 4 vals ft) ∧ s3.l[2]? = some LB ∧ s3.l.set 2 LP = [.var 42 (cellsT (.d (enc m))), .var 3 (cellsT (.d (enc (if b = true then x else p)))), LP, .frame 3 v3 f3, .frame 4 vals ft]) → Q .normal s2 := by
        rintro s2 ⟨s3, q1, q2, q3, q4⟩
        refine hQ .normal none s2 rfl ⟨s3, q1, q2, by rw [q3, hLB], ?_⟩
        have h5 := hKR (.frame 4 vals ft) ⟨_, _, rfl⟩
        simp only [Option.isNone_none, if_true]
        rw [← hLP, q4, hLP]
        exact h5
      simp only [← hLP, ← hLB]
      clear hQ hKR hK k2
      subst ha
      subst hb
      refine AWp.regF hV none [2, 4, 6] fun K k3 => ?_
      simp [roundT]
      refine kcong (s' := ⟨[(2, .ptr 0 0), (4, .ptr 1 0), (6, .ptr 5 0)], [.var 42 (cellsT (.d (enc m))), .var 3 (cellsT (.d (enc (p : Int)))), LP, .frame 3 v3 f3, .frame 4 vals ft, .var 3 (cellsT (.d (enc (x : Int))))]⟩) (by first | rfl | simp) (k3 _ ?_)
      refine ⟨⟨(6, .d (.box (enc (x : Int)))) :: [(2, .ptr 0 0), (4, .ptr 1 0)], [.var 42 (cellsT (.d (enc m))), .var 3 (cellsT (.d (enc (p : Int)))), LP, .frame 3 v3 f3, .frame 4 vals ft]⟩, Sub.frz 6 5 (enc (x : Int)) [0, 1, 2, 3, 4] rfl rfl (Enc.ones _) (by decide) (by decide) (by simp [framesOk, hLP]) (by simp [renL, AO.ren, T.ren, T.ren2, hLP]) (by simp [forgetsR, T.ren, T.ren2, idx]), rfl, rfl, ?_⟩
      show AWp _ _ _ _ _ ⟨[(6, .d (.box (enc (x : Int)))), (2, .ptr 0 0), (4, .ptr 1 0)], [.var 42 (cellsT (.d (enc m))), .var 3 (cellsT (.d (enc (p : Int)))), LB, .frame 3 v3 f3, .frame 4 vals ft]⟩ _
      refine AWp.block ?_
      refine AWp.rS hV none [4, 6, 14] fun K k4 => ?_
      simp [sp32_contO, hb1, hb2]
      refine kcong (s' := ⟨[(4, .ptr 1 0), (6, .d (.box (enc (x : Int)))), (14, .d (.bool b))], [.var 42 (cellsT (.d (enc m))), .var 3 (cellsT (.d (enc (p : Int)))), LB, .frame 3 v3 f3, .frame 4 vals ft]⟩) (by first | rfl | simp) (k4 _ ?_)
      refine AWp.cond (b := b) rfl (fun h => ?_) fun h => ?_
      · refine AWp.regF hV none [] fun K k5 => ?_
        simp
        refine kcong (s' := ⟨[], [.var 42 (cellsT (.d (enc m))), .var 3 (cellsT (.d (enc (x : Int)))), LB, .frame 3 v3 f3, .frame 4 vals ft]⟩) (by first | rfl | simp) (k5 _ ?_)
        exact hret _ ⟨_, Sub.refl _, rfl, rfl, by rw [h]; rfl⟩
      · exact AWp.skip (hret _ ⟨_, Sub.refl _, rfl, rfl, by rw [h]; rfl⟩)
    · rintro u l' ⟨F3, ⟨v3, f3, rfl⟩, rfl⟩
      refine hK _ _ ⟨2, 17, #[9, 10], asg, bod, _, .ready, none, rfl, by simp, ?_⟩
      refine k2 _ ?_
      show Eva.Sub ⟨[(2, .ptr 0 0), (4, .ptr 1 0), (8, .d (.clo 56 [.box (enc xs)]))], [.var 42 (cellsT (.d (enc m))), .var 3 (cellsT (.d (enc (pN : Int)))), .loop 2 17 #[9, 10] asg bod [(2, .ptr 0 0), (4, .ptr 1 0), (8, .d (.clo 56 [.box (enc xs)]))] .exhausted none, .frame 3 v3 f3]⟩ _
      exact Sub.ren [1] (by decide) (by simp [framesOk]) (by simp [renL, AO.ren, T.ren, T.ren2]) (by simp [forgetsR, T.ren, T.ren2, idx])
  · rintro s' hs
    refine AWp.sub hs ?_
    refine AWp.sub (s' := ⟨[(4, .d (enc (⟨pN⟩ : Bx Int)))], []⟩) (Sub.frz 4 0 (enc (pN : Int)) [] rfl rfl (Enc.ones _) (by decide) (by decide) rfl rfl trivial) ?_
    refine AWp.rS hV none [3] fun K k3 => ?_
    simp
    refine kcong (s' := ⟨[(3, .d (enc (⟨⟨pN⟩⟩ : C34)))], []⟩) (by first | rfl | simp) (k3 _ ?_)
    refine AWp.ret ?_
    refine hQ _ _ (.inl rfl) ?_
    simp [retOk, resT]
end
end Go.Proofs.YtjfkfkjkbgiciaaDoor
namespace Go.Proofs.YtjfkfkjkbgiciaaDoor
open Go Go.Eva Enc
noncomputable def keepO (w : Written) (is : (Bx C34)) : Option Bool :=
  bnd (ossia12 w is.v.v0) fun x2 =>
  some (!x2)
structure C55_34 where
  v0 : (Bx C34)
instance : Enc C55_34 := ⟨fun c => .clo 55 [enc c.v0], fun d => match d with | .clo _ [a0] => ⟨dec a0⟩ | _ => ⟨dec D.nilp⟩, 1, fun c => by simp only [dec_enc], fun _ => rfl, by simp [D.cells, D.one]⟩
theorem enc_C55_34 (c : C55_34) : (enc c : D) = .clo 55 [enc c.v0] := rfl
theorem dec_C55_34 (g : FuncId) (a0 : D) : (dec (.clo g [a0]) : C55_34) = ⟨dec a0⟩ := rfl
theorem size_C55_34 : size C55_34 = 1 := rfl
theorem eta_C55_34 (c : C55_34) : (⟨c.v0⟩ : C55_34) = c := rfl
noncomputable def kept1O (m : Measure) (h : (Bx C30)) : Option Measure :=
  bnd (ossia1 m h.v.v0) fun x2 =>
  grd ((m.notes : List Written).length * 80 ≤ 140737488355328) (grd ((m.notes : (List Written)).length ≤ 9223372036854775807) (bnd (delO (fun x => keepO x ((⟨(⟨x2⟩ : (Bx C34))⟩ : C55_34).v0)) m.notes) fun x6 =>
  some (⟨m.bar, m.key, m.length, x6⟩ : Measure)))
noncomputable def eachO_j6 (z2u10 : Int) (y44u5 : (List Measure)) : Option (((List Measure) × Int) ⊕ (((List Measure)))) :=
  grd (inI (z2u10 + 1)) (some (.inl (y44u5, (z2u10 + 1))))
end Go.Proofs.YtjfkfkjkbgiciaaDoor
