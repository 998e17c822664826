import Derived.Test.YtfgeppldckagaaaPAllx0
import Derived.Test.YtfgeppldckagaaaPAllx4
import Derived.Test.YtfgeppldckagaaaPAllx6
import Derived.Test.YtfgeppldckagaaaPAllx8
import Derived.Test.YtfgeppldckagaaaPAllx9
import Derived.Test.YtfgeppldckagaaaPAllx13
import Derived.Test.YtfgeppldckagaaaPAllx15
import Derived.Test.YtfgeppldckagaaaUp
-- Written by a changed copy of the kit's print program, run in this session (NOTES.md tells the change). Not trusted: Lean checks it.
namespace Go.Proofs.Ytfgeppldckagaaa.PAll
open Go.RowKit Go.Proofs.YtfgeppldckagaaaW.PrintWords Go.Proofs.YtfgeppldckagaaaW.PrintLast Go.Proofs.YtfgeppldckagaaaW.PrintMore
attribute [local go_sem] max2_int min2_int max_two min_two max_three min_three max_four min_four   -- for this text's walks alone
set_option linter.unusedVariables false
set_option linter.unusedSimpArgs false

/-! ### sawmilllaw08_CurveRow: function 4 -/
mutual
def sawmilllaw08_CurveRow.j0 : Nat → List (S36) → Int → Int → Bool → Option (Bool)
  | 0, _, _, _, _ => none
  | k + 1, x0, x1, x2, x26 => if x26 = true then ((sawmilllaw08_awake.f k).bind fun t151 => (some t151)) else (sawmilllaw08_CurveRow.l0 k x0 x1 x2 0 (([x1] : List Int)) ([] : List Int) (([[]] : List (List Int))) ([] : List Int) (([x1] : List Int)) ([] : List (List Int)))
def sawmilllaw08_CurveRow.l0 : Nat → List (S36) → Int → Int → Int → List Int → List Int → List (List Int) → List Int → List Int → List (List Int) → Option (Bool)
  | 0, _, _, _, _, _, _, _, _, _, _ => none
  | k + 1, x0, x1, x2, x9, x159000, x159001, x159002, x163000, x163001, x163002 => if x9 < (x0.length : Int) then (if 0 ≤ x9 then (if x159001.length < 17592186044416 then (if 0 < (x159002.length : Int) then (if (rd_L1 x159002 0).length < 17592186044416 then (if x163000.length < 17592186044416 then (if x163002.length < 5864062014805 then (sawmilllaw08_CurveRow.l0 k x0 x1 x2 (wrap64 (x9 + 1)) x159000 (x159001 ++ [(rd_T36 x0 x9).f0]) (x159002.set (0 : Int).toNat ((rd_L1 x159002 0) ++ [(rd_T36 x0 x9).f1])) (x163000 ++ [(rd_T36 x0 x9).f0]) x163001 (x163002 ++ [(([(rd_T36 x0 x9).f1] : List Int))])) else (none)) else (none)) else (none)) else (none)) else (none)) else (none)) else ((curve_At.f k x0 x2).bind fun t184 => ((curve_CheckGrid.f k x159000 x159001 x159002).bind fun t185 => (if t185 = 0 then ((curve_CheckGrid.f k x163000 x163001 x163002).bind fun t186 => (if t186 = 0 then ((curve_Value.f k x159000 x159001 x159002 x1 x2).bind fun t187 => (if t187 = t184 then ((curve_Value.f k x163000 x163001 x163002 x2 x1).bind fun t188 => (if t188 = t184 then ((sawmilllaw08_awake.f k).bind fun t189 => (some t189)) else (some false))) else (some false))) else (some false))) else (some false))))
end
def sawmilllaw08_CurveRow.f (k : Nat) (l0 : List (S36)) (a1 : Int) (a2 : Int) : Option (Bool) := (sawmilllaw08_small.f l0).bind fun t149 => (if t149 = true then ((curve_Check.f k l0).bind fun t150 => (if t150 = 0 then (if a1 < (-1000000) then (sawmilllaw08_CurveRow.j0 k l0 a1 a2 true) else (sawmilllaw08_CurveRow.j0 k l0 a1 a2 (decide (a1 > 1000000)))) else (sawmilllaw08_CurveRow.j0 k l0 a1 a2 true))) else (sawmilllaw08_CurveRow.j0 k l0 a1 a2 true))
theorem sawmilllaw08_CurveRow.mono_l : ∀ k, (∀ y0 y1 y2 y3, LeO (sawmilllaw08_CurveRow.j0 k y0 y1 y2 y3) (sawmilllaw08_CurveRow.j0 (k + 1) y0 y1 y2 y3)) ∧ (∀ y0 y1 y2 y3 y4 y5 y6 y7 y8 y9, LeO (sawmilllaw08_CurveRow.l0 k y0 y1 y2 y3 y4 y5 y6 y7 y8 y9) (sawmilllaw08_CurveRow.l0 (k + 1) y0 y1 y2 y3 y4 y5 y6 y7 y8 y9))
  | 0 => ⟨fun _ _ _ _ r h => by simp [sawmilllaw08_CurveRow.j0] at h, fun _ _ _ _ _ _ _ _ _ _ r h => by simp [sawmilllaw08_CurveRow.l0] at h⟩
  | k + 1 => by
    obtain ⟨ih0, ih1⟩ := sawmilllaw08_CurveRow.mono_l k
    refine ⟨?_, ?_⟩
    · intro y0 y1 y2 y3
      unfold sawmilllaw08_CurveRow.j0
      repeat' first
      | (with_reducible exact ih0 _ _ _ _)
      | (with_reducible exact ih1 _ _ _ _ _ _ _ _ _ _)
      | (with_reducible exact curve_At.mono _ _ _)
      | (with_reducible exact curve_Check.mono _ _)
      | (with_reducible exact curve_CheckGrid.mono _ _ _ _)
      | (with_reducible exact curve_Value.mono _ _ _ _ _ _)
      | (with_reducible exact sawmilllaw08_awake.mono _)
      | (with_reducible exact LeO.refl _)
      | (with_reducible exact LeO.none _)
      | (with_reducible refine LeO.ite ?_ ?_)
      | (with_reducible refine LeO.bind ?_ (fun _ => ?_))
      | exact ih0 _ _ _ _
      | exact ih1 _ _ _ _ _ _ _ _ _ _
      | exact curve_At.mono _ _ _
      | exact curve_Check.mono _ _
      | exact curve_CheckGrid.mono _ _ _ _
      | exact curve_Value.mono _ _ _ _ _ _
      | exact sawmilllaw08_awake.mono _
      | exact LeO.none _
      | refine LeO.ite ?_ ?_
      | refine LeO.bind ?_ (fun _ => ?_)
    · intro y0 y1 y2 y3 y4 y5 y6 y7 y8 y9
      unfold sawmilllaw08_CurveRow.l0
      repeat' first
      | (with_reducible exact ih0 _ _ _ _)
      | (with_reducible exact ih1 _ _ _ _ _ _ _ _ _ _)
      | (with_reducible exact curve_At.mono _ _ _)
      | (with_reducible exact curve_Check.mono _ _)
      | (with_reducible exact curve_CheckGrid.mono _ _ _ _)
      | (with_reducible exact curve_Value.mono _ _ _ _ _ _)
      | (with_reducible exact sawmilllaw08_awake.mono _)
      | (with_reducible exact LeO.refl _)
      | (with_reducible exact LeO.none _)
      | (with_reducible refine LeO.ite ?_ ?_)
      | (with_reducible refine LeO.bind ?_ (fun _ => ?_))
      | exact ih0 _ _ _ _
      | exact ih1 _ _ _ _ _ _ _ _ _ _
      | exact curve_At.mono _ _ _
      | exact curve_Check.mono _ _
      | exact curve_CheckGrid.mono _ _ _ _
      | exact curve_Value.mono _ _ _ _ _ _
      | exact sawmilllaw08_awake.mono _
      | exact LeO.none _
      | refine LeO.ite ?_ ?_
      | refine LeO.bind ?_ (fun _ => ?_)
theorem sawmilllaw08_CurveRow.mono : ∀ a0 a1 a2 k, LeO (sawmilllaw08_CurveRow.f k a0 a1 a2) (sawmilllaw08_CurveRow.f (k + 1) a0 a1 a2) := by
  intro a0 a1 a2 k
  obtain ⟨ih0, ih1⟩ := sawmilllaw08_CurveRow.mono_l k
  unfold sawmilllaw08_CurveRow.f
  repeat' first
      | (with_reducible exact ih0 _ _ _ _)
      | (with_reducible exact ih1 _ _ _ _ _ _ _ _ _ _)
      | (with_reducible exact curve_At.mono _ _ _)
      | (with_reducible exact curve_Check.mono _ _)
      | (with_reducible exact curve_CheckGrid.mono _ _ _ _)
      | (with_reducible exact curve_Value.mono _ _ _ _ _ _)
      | (with_reducible exact sawmilllaw08_awake.mono _)
      | (with_reducible exact LeO.refl _)
      | (with_reducible exact LeO.none _)
      | (with_reducible refine LeO.ite ?_ ?_)
      | (with_reducible refine LeO.bind ?_ (fun _ => ?_))
      | exact ih0 _ _ _ _
      | exact ih1 _ _ _ _ _ _ _ _ _ _
      | exact curve_At.mono _ _ _
      | exact curve_Check.mono _ _
      | exact curve_CheckGrid.mono _ _ _ _
      | exact curve_Value.mono _ _ _ _ _ _
      | exact sawmilllaw08_awake.mono _
      | exact LeO.none _
      | refine LeO.ite ?_ ?_
      | refine LeO.bind ?_ (fun _ => ?_)
def sawmilllaw08_CurveRow.T8 : Bool × List (List Nat × List Nat) := (true, [([], []), ([0], [0]), ([], []), ([], []), ([2, 3], [2, 3]), ([4], [4]), ([5], [5]), ([6], [6]), ([1, 7], [1, 7]), ([0, 1, 2, 3, 4, 5, 6, 7, 8], []), ([9, 8, 8, 0, 1, 2, 3, 4, 5, 6, 7, 8], [8, 9])])
def sawmilllaw08_CurveRow.B8 : List Nat := [0, 1, 0, 0, 12, 28, 60, 124, 255, 511, 1023]
theorem sawmilllaw08_CurveRow.tab8 : rtab .any (opsOf Try.f4 8) = sawmilllaw08_CurveRow.T8 := by kernel_rfl
theorem sawmilllaw08_CurveRow.bits8 : waitsOk sawmilllaw08_CurveRow.T8.2 sawmilllaw08_CurveRow.B8 = true := by kernel_rfl
def sawmilllaw08_CurveRow.T9 : Bool × List (List Nat × List Nat) := (true, [([], []), ([0], [0]), ([], []), ([2], [2]), ([3], [3]), ([4], [4]), ([], []), ([], []), ([6, 7], [6, 7]), ([8], [8]), ([9], [9]), ([10], [10]), ([5, 11], [5, 11]), ([1, 0, 1, 2, 3, 4, 5, 6, 7, 8, 9, 10, 11, 12], [1]), ([13, 12, 12, 0, 1, 2, 3, 4, 5, 6, 7, 8, 9, 10, 11, 12], [12, 13])])
def sawmilllaw08_CurveRow.B9 : List Nat := [0, 1, 0, 4, 12, 28, 0, 0, 192, 448, 960, 1984, 4092, 8191, 16383]
theorem sawmilllaw08_CurveRow.tab9 : rtab .any (opsOf Try.f4 9) = sawmilllaw08_CurveRow.T9 := by kernel_rfl
theorem sawmilllaw08_CurveRow.bits9 : waitsOk sawmilllaw08_CurveRow.T9.2 sawmilllaw08_CurveRow.B9 = true := by kernel_rfl
def sawmilllaw08_CurveRow.T10 : Bool × List (List Nat × List Nat) := (true, [([], []), ([0], [0]), ([], []), ([], []), ([2, 3], [2, 3]), ([4], [4]), ([5], [5]), ([6], [6]), ([1, 7], [1, 7]), ([0, 1, 2, 3, 4, 5, 6, 7, 8], []), ([9, 8, 8, 0, 1, 2, 3, 4, 5, 6, 7, 8], [8, 9])])
def sawmilllaw08_CurveRow.B10 : List Nat := [0, 1, 0, 0, 12, 28, 60, 124, 255, 511, 1023]
theorem sawmilllaw08_CurveRow.tab10 : rtab .any (opsOf Try.f4 10) = sawmilllaw08_CurveRow.T10 := by kernel_rfl
theorem sawmilllaw08_CurveRow.bits10 : waitsOk sawmilllaw08_CurveRow.T10.2 sawmilllaw08_CurveRow.B10 = true := by kernel_rfl
def sawmilllaw08_CurveRow.T11 : Bool × List (List Nat × List Nat) := (true, [([], []), ([0], [0]), ([], []), ([], []), ([2, 3], [2, 3]), ([4], [4]), ([5], [5]), ([6], [6]), ([7], [7]), ([1, 8], [1, 8]), ([0, 1, 2, 3, 4, 5, 6, 7, 8, 9], []), ([10, 9, 9, 0, 1, 2, 3, 4, 5, 6, 7, 8, 9], [9, 10])])
def sawmilllaw08_CurveRow.B11 : List Nat := [0, 1, 0, 0, 12, 28, 60, 124, 252, 511, 1023, 2047]
theorem sawmilllaw08_CurveRow.tab11 : rtab .any (opsOf Try.f4 11) = sawmilllaw08_CurveRow.T11 := by kernel_rfl
theorem sawmilllaw08_CurveRow.bits11 : waitsOk sawmilllaw08_CurveRow.T11.2 sawmilllaw08_CurveRow.B11 = true := by kernel_rfl
abbrev Bo27_0 : Array Bool := #[false, false, false, false, false, false, false, false, false, false, false]
abbrev Bo27_1 : Array Bool := #[true, false, false, false, false, false, false, false, false, false, false]
abbrev Bo27_2 : Array Bool := #[true, false, true, false, false, false, false, false, false, false, false]
abbrev Bo27_3 : Array Bool := #[true, false, true, true, false, false, false, false, false, false, false]
abbrev Bo27_4 : Array Bool := #[true, false, true, true, true, false, false, false, false, false, false]
abbrev Bo27_5 : Array Bool := #[true, false, true, true, true, true, false, false, false, false, false]
abbrev Bo27_6 : Array Bool := #[true, true, true, true, true, true, false, false, false, false, false]
abbrev Bo27_7 : Array Bool := #[true, true, true, true, true, true, true, false, false, false, false]
abbrev Bo27_8 : Array Bool := #[true, true, true, true, true, true, true, true, false, false, false]
abbrev Bo27_9 : Array Bool := #[true, true, true, true, true, true, true, true, true, false, false]
abbrev Bo27_10 : Array Bool := #[true, true, true, true, true, true, true, true, true, true, false]
abbrev Bo27_11 : Array Bool := #[true, true, true, true, true, true, true, true, true, true, true]
abbrev Bo27_12 : Array Bool := #[false, false, false, false, false, false, false, false, false, false, false, false, false, false, false]
abbrev Bo27_13 : Array Bool := #[true, false, false, false, false, false, false, false, false, false, false, false, false, false, false]
abbrev Bo27_14 : Array Bool := #[true, false, true, false, false, false, false, false, false, false, false, false, false, false, false]
abbrev Bo27_15 : Array Bool := #[true, false, true, false, false, false, true, false, false, false, false, false, false, false, false]
abbrev Bo27_16 : Array Bool := #[true, false, true, false, false, false, true, true, false, false, false, false, false, false, false]
abbrev Bo27_17 : Array Bool := #[true, false, true, false, false, false, true, true, true, false, false, false, false, false, false]
abbrev Bo27_18 : Array Bool := #[true, false, true, false, false, false, true, true, true, true, false, false, false, false, false]
abbrev Bo27_19 : Array Bool := #[true, true, true, false, false, false, true, true, true, true, false, false, false, false, false]
abbrev Bo27_20 : Array Bool := #[true, true, true, true, false, false, true, true, true, true, false, false, false, false, false]
abbrev Bo27_21 : Array Bool := #[true, true, true, true, true, false, true, true, true, true, false, false, false, false, false]
abbrev Bo27_22 : Array Bool := #[true, true, true, true, true, true, true, true, true, true, false, false, false, false, false]
abbrev Bo27_23 : Array Bool := #[true, true, true, true, true, true, true, true, true, true, true, false, false, false, false]
abbrev Bo27_24 : Array Bool := #[true, true, true, true, true, true, true, true, true, true, true, true, false, false, false]
abbrev Bo27_25 : Array Bool := #[true, true, true, true, true, true, true, true, true, true, true, true, true, false, false]
abbrev Bo27_26 : Array Bool := #[true, true, true, true, true, true, true, true, true, true, true, true, true, true, false]
abbrev Bo27_27 : Array Bool := #[true, true, true, true, true, true, true, true, true, true, true, true, true, true, true]
abbrev Bo27_28 : Array Bool := #[false, false, false, false, false, false, false, false, false, false, false, false]
abbrev Bo27_29 : Array Bool := #[true, false, false, false, false, false, false, false, false, false, false, false]
abbrev Bo27_30 : Array Bool := #[true, false, true, false, false, false, false, false, false, false, false, false]
abbrev Bo27_31 : Array Bool := #[true, false, true, true, false, false, false, false, false, false, false, false]
abbrev Bo27_32 : Array Bool := #[true, false, true, true, true, false, false, false, false, false, false, false]
abbrev Bo27_33 : Array Bool := #[true, false, true, true, true, true, false, false, false, false, false, false]
abbrev Bo27_34 : Array Bool := #[true, true, true, true, true, true, false, false, false, false, false, false]
abbrev Bo27_35 : Array Bool := #[true, true, true, true, true, true, true, false, false, false, false, false]
abbrev Bo27_36 : Array Bool := #[true, true, true, true, true, true, true, true, false, false, false, false]
abbrev Bo27_37 : Array Bool := #[true, true, true, true, true, true, true, true, true, false, false, false]
abbrev Bo27_38 : Array Bool := #[true, true, true, true, true, true, true, true, true, true, false, false]
abbrev Bo27_39 : Array Bool := #[true, true, true, true, true, true, true, true, true, true, true, false]
abbrev Bo27_40 : Array Bool := #[true, true, true, true, true, true, true, true, true, true, true, true]
end Go.Proofs.Ytfgeppldckagaaa.PAll
