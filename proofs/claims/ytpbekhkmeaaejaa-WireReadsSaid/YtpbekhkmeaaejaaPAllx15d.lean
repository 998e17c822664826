import Derived.Test.YtpbekhkmeaaejaaPAllx0
import Derived.Test.YtpbekhkmeaaejaaPAllx13
import Derived.Test.YtpbekhkmeaaejaaUp
-- Written by a changed copy of the kit's print program, run in this session (NOTES.md tells the change). Not trusted: Lean checks it.
namespace Go.Proofs.Ytpbekhkmeaaejaa.PAll
open Go.RowKit Go.Proofs.YtpbekhkmeaaejaaW.PrintWords Go.Proofs.YtpbekhkmeaaejaaW.PrintLast Go.Proofs.YtpbekhkmeaaejaaW.PrintMore
attribute [local go_sem] max2_int min2_int max_two min_two max_three min_three max_four min_four   -- for this text's walks alone
set_option linter.unusedVariables false
set_option linter.unusedSimpArgs false

/-! ### sawmillref05_ReadText: function 30 -/
def sawmillref05_ReadText.j0 : Nat → Int → Int → Bool → ByteArray → Int → Int → Option (ByteArray × Int × Int × ByteArray)
  | 0, _, _, _, _, _, _ => none
  | k + 1, x6, x7, x34, x298000, x298001, x298002 => if x34 = true then ((sawmillref05_fail.f x298000 x298001 x298002 4).bind fun bt305 => (some (bt305.1, bt305.2.1, bt305.2.2, (⟨#[]⟩ : ByteArray)))) else (if x6 > (IntKind.u64.wrap (wrap64 ((x298000.size : Int) - x7))) then ((sawmillref05_fail.f x298000 x298001 x298002 3).bind fun bt308 => (some (bt308.1, bt308.2.1, bt308.2.2, (⟨#[]⟩ : ByteArray)))) else (if 0 ≤ x7 then (if x7 ≤ (wrap64 (x7 + (wrap64 (x6)))) then (if (wrap64 (x7 + (wrap64 (x6)))) ≤ (x298000.size : Int) then (some (x298000, wrap64 (x7 + (wrap64 (x6))), x298002, x298000.extract (x7 : Int).toNat ((wrap64 (x7 + (wrap64 (x6)))) : Int).toNat)) else (none)) else (none)) else (none)))
def sawmillref05_ReadText.f (k : Nat) (a0_0 : ByteArray) (a0_1 : Int) (a0_2 : Int) (a1 : Int) : Option (ByteArray × Int × Int × ByteArray) := if a0_2 = 0 then ((sawmillref05_number.f k a0_0 a0_1).bind fun bt299 => (if bt299.2.2 = 0 then (if a1 < 0 then (sawmillref05_ReadText.j0 k bt299.1 bt299.2.1 true a0_0 a0_1 a0_2) else (sawmillref05_ReadText.j0 k bt299.1 bt299.2.1 (decide (bt299.1 > (IntKind.u64.wrap (a1)))) a0_0 a0_1 a0_2)) else ((sawmillref05_fail.f a0_0 a0_1 a0_2 bt299.2.2).bind fun bt302 => (some (bt302.1, bt302.2.1, bt302.2.2, (⟨#[]⟩ : ByteArray)))))) else (some (a0_0, a0_1, a0_2, (⟨#[]⟩ : ByteArray)))
theorem sawmillref05_ReadText.mono_l : ∀ k, (∀ y0 y1 y2 y3 y4 y5, LeO (sawmillref05_ReadText.j0 k y0 y1 y2 y3 y4 y5) (sawmillref05_ReadText.j0 (k + 1) y0 y1 y2 y3 y4 y5))
  | 0 => fun _ _ _ _ _ _ r h => by simp [sawmillref05_ReadText.j0] at h
  | k + 1 => by
    have ih0 := sawmillref05_ReadText.mono_l k
    · intro y0 y1 y2 y3 y4 y5
      unfold sawmillref05_ReadText.j0
      repeat' first
      | (with_reducible exact ih0 _ _ _ _ _ _)
      | (with_reducible exact sawmillref05_number.mono _ _ _)
      | (with_reducible exact LeO.refl _)
      | (with_reducible exact LeO.none _)
      | (with_reducible refine LeO.ite ?_ ?_)
      | (with_reducible refine LeO.bind ?_ (fun _ => ?_))
      | exact ih0 _ _ _ _ _ _
      | exact sawmillref05_number.mono _ _ _
      | exact LeO.none _
      | refine LeO.ite ?_ ?_
      | refine LeO.bind ?_ (fun _ => ?_)
theorem sawmillref05_ReadText.mono : ∀ a0 a1 a2 a3 k, LeO (sawmillref05_ReadText.f k a0 a1 a2 a3) (sawmillref05_ReadText.f (k + 1) a0 a1 a2 a3) := by
  intro a0 a1 a2 a3 k
  have ih0 := sawmillref05_ReadText.mono_l k
  unfold sawmillref05_ReadText.f
  repeat' first
      | (with_reducible exact ih0 _ _ _ _ _ _)
      | (with_reducible exact sawmillref05_number.mono _ _ _)
      | (with_reducible exact LeO.refl _)
      | (with_reducible exact LeO.none _)
      | (with_reducible refine LeO.ite ?_ ?_)
      | (with_reducible refine LeO.bind ?_ (fun _ => ?_))
      | exact ih0 _ _ _ _ _ _
      | exact sawmillref05_number.mono _ _ _
      | exact LeO.none _
      | refine LeO.ite ?_ ?_
      | refine LeO.bind ?_ (fun _ => ?_)
def sawmillref05_ReadText.T11 : Bool × List (List Nat × List Nat) := (true, [([], []), ([], []), ([1], [1]), ([], []), ([], []), ([4], [4]), ([2, 3, 5], [2, 3, 5]), ([0, 0], [0]), ([6, 7, 0, 1, 2, 3, 4, 5, 6, 7], [6])])
def sawmillref05_ReadText.B11 : List Nat := [0, 0, 2, 0, 0, 16, 62, 1, 255]
theorem sawmillref05_ReadText.tab11 : rtab .any (opsOf Try.f30 11) = sawmillref05_ReadText.T11 := by kernel_rfl
theorem sawmillref05_ReadText.bits11 : waitsOk sawmillref05_ReadText.T11.2 sawmillref05_ReadText.B11 = true := by kernel_rfl
abbrev Bo15_0 : Array Bool := #[false, false, false, false, false, false, false, false, false]
abbrev Bo15_1 : Array Bool := #[false, true, false, false, false, false, false, false, false]
abbrev Bo15_2 : Array Bool := #[false, true, false, true, false, false, false, false, false]
abbrev Bo15_3 : Array Bool := #[false, true, false, true, true, false, false, false, false]
abbrev Bo15_4 : Array Bool := #[true, true, false, true, true, false, false, false, false]
abbrev Bo15_5 : Array Bool := #[true, true, true, true, true, false, false, false, false]
abbrev Bo15_6 : Array Bool := #[true, true, true, true, true, true, false, false, false]
abbrev Bo15_7 : Array Bool := #[true, true, true, true, true, true, true, false, false]
abbrev Bo15_8 : Array Bool := #[true, true, true, true, true, true, true, true, false]
abbrev Bo15_9 : Array Bool := #[true, true, true, true, true, true, true, true, true]
end Go.Proofs.Ytpbekhkmeaaejaa.PAll
