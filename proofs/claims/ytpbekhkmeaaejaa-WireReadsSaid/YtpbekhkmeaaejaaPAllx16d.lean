import Derived.Test.YtpbekhkmeaaejaaPAllx0
import Derived.Test.YtpbekhkmeaaejaaPAllx13
import Derived.Test.YtpbekhkmeaaejaaPAllx14
import Derived.Test.YtpbekhkmeaaejaaUp
-- Written by a changed copy of the kit's print program, run in this session (NOTES.md tells the change). Not trusted: Lean checks it.
namespace Go.Proofs.Ytpbekhkmeaaejaa.PAll
open Go.RowKit Go.Proofs.YtpbekhkmeaaejaaW.PrintWords Go.Proofs.YtpbekhkmeaaejaaW.PrintLast Go.Proofs.YtpbekhkmeaaejaaW.PrintMore
attribute [local go_sem] max2_int min2_int max_two min_two max_three min_three max_four min_four   -- for this text's walks alone
set_option linter.unusedVariables false
set_option linter.unusedSimpArgs false

/-! ### sawmillref05_ReadInts: function 31 -/
mutual
def sawmillref05_ReadInts.j0 : Nat → Int → Int → Int → Int → Bool → ByteArray → Int → Int → Option (ByteArray × Int × Int × List Int)
  | 0, _, _, _, _, _, _, _, _ => none
  | k + 1, x2, x3, x10, x11, x42, x312000, x312001, x312002 => if x42 = true then ((sawmillref05_fail.f x312000 x312001 x312002 4).bind fun bt319 => (some (bt319.1, bt319.2.1, bt319.2.2, ([] : List Int)))) else (sawmillref05_ReadInts.l0 k x2 x3 x10 x11 (([] : List Int)) x312000 x312001 x312002)
def sawmillref05_ReadInts.l0 : Nat → Int → Int → Int → Int → List Int → ByteArray → Int → Int → Option (ByteArray × Int × Int × List Int)
  | 0, _, _, _, _, _, _, _, _ => none
  | k + 1, x2, x3, x10, x11, x13, x312000, x312001, x312002 => if (IntKind.u64.wrap ((x13.length : Int))) < x10 then ((sawmillref05_signed.f k x312000 x11 x2 x3).bind fun bt325 => (if bt325.2.2 = 0 then (if x13.length < 17592186044416 then (sawmillref05_ReadInts.l0 k x2 x3 x10 bt325.2.1 (x13 ++ [bt325.1]) x312000 x312001 x312002) else (none)) else ((sawmillref05_fail.f x312000 x312001 x312002 bt325.2.2).bind fun bt331 => (some (bt331.1, bt331.2.1, bt331.2.2, ([] : List Int)))))) else (some (x312000, x11, x312002, x13))
end
def sawmillref05_ReadInts.f (k : Nat) (a0_0 : ByteArray) (a0_1 : Int) (a0_2 : Int) (a1 : Int) (a2 : Int) (a3 : Int) : Option (ByteArray × Int × Int × List Int) := if a0_2 = 0 then ((sawmillref05_number.f k a0_0 a0_1).bind fun bt313 => (if bt313.2.2 = 0 then (if a1 < 0 then (sawmillref05_ReadInts.j0 k a2 a3 bt313.1 bt313.2.1 true a0_0 a0_1 a0_2) else (sawmillref05_ReadInts.j0 k a2 a3 bt313.1 bt313.2.1 (decide (bt313.1 > (IntKind.u64.wrap (a1)))) a0_0 a0_1 a0_2)) else ((sawmillref05_fail.f a0_0 a0_1 a0_2 bt313.2.2).bind fun bt316 => (some (bt316.1, bt316.2.1, bt316.2.2, ([] : List Int)))))) else (some (a0_0, a0_1, a0_2, ([] : List Int)))
theorem sawmillref05_ReadInts.mono_l : ∀ k, (∀ y0 y1 y2 y3 y4 y5 y6 y7, LeO (sawmillref05_ReadInts.j0 k y0 y1 y2 y3 y4 y5 y6 y7) (sawmillref05_ReadInts.j0 (k + 1) y0 y1 y2 y3 y4 y5 y6 y7)) ∧ (∀ y0 y1 y2 y3 y4 y5 y6 y7, LeO (sawmillref05_ReadInts.l0 k y0 y1 y2 y3 y4 y5 y6 y7) (sawmillref05_ReadInts.l0 (k + 1) y0 y1 y2 y3 y4 y5 y6 y7))
  | 0 => ⟨fun _ _ _ _ _ _ _ _ r h => by simp [sawmillref05_ReadInts.j0] at h, fun _ _ _ _ _ _ _ _ r h => by simp [sawmillref05_ReadInts.l0] at h⟩
  | k + 1 => by
    obtain ⟨ih0, ih1⟩ := sawmillref05_ReadInts.mono_l k
    refine ⟨?_, ?_⟩
    · intro y0 y1 y2 y3 y4 y5 y6 y7
      unfold sawmillref05_ReadInts.j0
      repeat' first
      | (with_reducible exact ih0 _ _ _ _ _ _ _ _)
      | (with_reducible exact ih1 _ _ _ _ _ _ _ _)
      | (with_reducible exact sawmillref05_number.mono _ _ _)
      | (with_reducible exact sawmillref05_signed.mono _ _ _ _ _)
      | (with_reducible exact LeO.refl _)
      | (with_reducible exact LeO.none _)
      | (with_reducible refine LeO.ite ?_ ?_)
      | (with_reducible refine LeO.bind ?_ (fun _ => ?_))
      | exact ih0 _ _ _ _ _ _ _ _
      | exact ih1 _ _ _ _ _ _ _ _
      | exact sawmillref05_number.mono _ _ _
      | exact sawmillref05_signed.mono _ _ _ _ _
      | exact LeO.none _
      | refine LeO.ite ?_ ?_
      | refine LeO.bind ?_ (fun _ => ?_)
    · intro y0 y1 y2 y3 y4 y5 y6 y7
      unfold sawmillref05_ReadInts.l0
      repeat' first
      | (with_reducible exact ih0 _ _ _ _ _ _ _ _)
      | (with_reducible exact ih1 _ _ _ _ _ _ _ _)
      | (with_reducible exact sawmillref05_number.mono _ _ _)
      | (with_reducible exact sawmillref05_signed.mono _ _ _ _ _)
      | (with_reducible exact LeO.refl _)
      | (with_reducible exact LeO.none _)
      | (with_reducible refine LeO.ite ?_ ?_)
      | (with_reducible refine LeO.bind ?_ (fun _ => ?_))
      | exact ih0 _ _ _ _ _ _ _ _
      | exact ih1 _ _ _ _ _ _ _ _
      | exact sawmillref05_number.mono _ _ _
      | exact sawmillref05_signed.mono _ _ _ _ _
      | exact LeO.none _
      | refine LeO.ite ?_ ?_
      | refine LeO.bind ?_ (fun _ => ?_)
theorem sawmillref05_ReadInts.mono : ∀ a0 a1 a2 a3 a4 a5 k, LeO (sawmillref05_ReadInts.f k a0 a1 a2 a3 a4 a5) (sawmillref05_ReadInts.f (k + 1) a0 a1 a2 a3 a4 a5) := by
  intro a0 a1 a2 a3 a4 a5 k
  obtain ⟨ih0, ih1⟩ := sawmillref05_ReadInts.mono_l k
  unfold sawmillref05_ReadInts.f
  repeat' first
      | (with_reducible exact ih0 _ _ _ _ _ _ _ _)
      | (with_reducible exact ih1 _ _ _ _ _ _ _ _)
      | (with_reducible exact sawmillref05_number.mono _ _ _)
      | (with_reducible exact sawmillref05_signed.mono _ _ _ _ _)
      | (with_reducible exact LeO.refl _)
      | (with_reducible exact LeO.none _)
      | (with_reducible refine LeO.ite ?_ ?_)
      | (with_reducible refine LeO.bind ?_ (fun _ => ?_))
      | exact ih0 _ _ _ _ _ _ _ _
      | exact ih1 _ _ _ _ _ _ _ _
      | exact sawmillref05_number.mono _ _ _
      | exact sawmillref05_signed.mono _ _ _ _ _
      | exact LeO.none _
      | refine LeO.ite ?_ ?_
      | refine LeO.bind ?_ (fun _ => ?_)
end Go.Proofs.Ytpbekhkmeaaejaa.PAll
