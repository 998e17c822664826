import Derived.Test.YtpbekhkmeaaejaaPAllx0
import Derived.Test.YtpbekhkmeaaejaaPAllx3
import Derived.Test.YtpbekhkmeaaejaaPAllx5
import Derived.Test.YtpbekhkmeaaejaaPAllx7
import Derived.Test.YtpbekhkmeaaejaaPAllx12
import Derived.Test.YtpbekhkmeaaejaaPAllx13
import Derived.Test.YtpbekhkmeaaejaaPAllx14
import Derived.Test.YtpbekhkmeaaejaaPAllx15
import Derived.Test.YtpbekhkmeaaejaaPAllx16
import Derived.Test.YtpbekhkmeaaejaaPAllx17
import Derived.Test.YtpbekhkmeaaejaaPAllx12d
import Derived.Test.YtpbekhkmeaaejaaUp
-- Written by a changed copy of the kit's print program, run in this session (NOTES.md tells the change). Not trusted: Lean checks it.
namespace Go.Proofs.Ytpbekhkmeaaejaa.PAll
open Go.RowKit Go.Proofs.YtpbekhkmeaaejaaW.PrintWords Go.Proofs.YtpbekhkmeaaejaaW.PrintLast Go.Proofs.YtpbekhkmeaaejaaW.PrintMore
attribute [local go_sem] max2_int min2_int max_two min_two max_three min_three max_four min_four   -- for this text's walks alone
set_option linter.unusedVariables false
set_option linter.unusedSimpArgs false

/-! ### sawmilllaw05_WireReads: function 6 -/
mutual
def sawmilllaw05_WireReads.j0 : Nat → ByteArray → List (S32) → Bool → Option (Bool)
  | 0, _, _, _ => none
  | k + 1, x0, x1, x18 => if x18 = true then ((sawmilllaw05_awake.f).bind fun t342 => (some t342)) else ((wire_NewReader.f x0).bind fun bt343 => ((sawmillref05_NewReader.f x0).bind fun bt347 => (sawmilllaw05_WireReads.l0 k x1 0 bt343.1 bt343.2.1 bt343.2.2 bt347.1 bt347.2.1 bt347.2.2)))
def sawmilllaw05_WireReads.l0 : Nat → List (S32) → Int → ByteArray → Int → Int → ByteArray → Int → Int → Option (Bool)
  | 0, _, _, _, _, _, _, _, _ => none
  | k + 1, x1, x7, x347000, x347001, x347002, x351000, x351001, x351002 => if x7 < (x1.length : Int) then (if 0 ≤ x7 then ((sawmilllaw05_read.f k x347000 x347001 x347002 ((rd_T32 x1 x7).f0) ((rd_T32 x1 x7).f1) ((rd_T32 x1 x7).f2) ((rd_T32 x1 x7).f3)).bind fun bt353 => (if ((rd_T32 x1 x7).f0) = 0 then ((sawmillref05_ReadUint.f k x351000 x351001 x351002).bind fun bt365 => (sawmilllaw05_WireReads.j2 k x1 x7 bt353.2.2.2.2.2.1 bt353.2.2.2.2.2.2.1 bt353.2.2.2.2.2.2.2 bt365.1 bt365.2.1 bt365.2.2.1 bt353.1 bt353.2.1 bt353.2.2.1 bt353.2.2.2.1 bt353.2.2.2.2.1 ((rd_T32 x1 x7).f0) bt365.2.2.2 0 (⟨#[]⟩ : ByteArray) ([] : List Int))) else (if ((rd_T32 x1 x7).f0) = 1 then ((sawmillref05_ReadInt.f k x351000 x351001 x351002 ((rd_T32 x1 x7).f1) ((rd_T32 x1 x7).f2)).bind fun bt369 => (sawmilllaw05_WireReads.j2 k x1 x7 bt353.2.2.2.2.2.1 bt353.2.2.2.2.2.2.1 bt353.2.2.2.2.2.2.2 bt369.1 bt369.2.1 bt369.2.2.1 bt353.1 bt353.2.1 bt353.2.2.1 bt353.2.2.2.1 bt353.2.2.2.2.1 ((rd_T32 x1 x7).f0) 0 bt369.2.2.2 (⟨#[]⟩ : ByteArray) ([] : List Int))) else (if ((rd_T32 x1 x7).f0) = 2 then ((sawmillref05_ReadText.f k x351000 x351001 x351002 ((rd_T32 x1 x7).f3)).bind fun bt373 => (sawmilllaw05_WireReads.j2 k x1 x7 bt353.2.2.2.2.2.1 bt353.2.2.2.2.2.2.1 bt353.2.2.2.2.2.2.2 bt373.1 bt373.2.1 bt373.2.2.1 bt353.1 bt353.2.1 bt353.2.2.1 bt353.2.2.2.1 bt353.2.2.2.2.1 ((rd_T32 x1 x7).f0) 0 0 bt373.2.2.2 ([] : List Int))) else ((sawmillref05_ReadInts.f k x351000 x351001 x351002 ((rd_T32 x1 x7).f3) ((rd_T32 x1 x7).f1) ((rd_T32 x1 x7).f2)).bind fun bt377 => (sawmilllaw05_WireReads.j2 k x1 x7 bt353.2.2.2.2.2.1 bt353.2.2.2.2.2.2.1 bt353.2.2.2.2.2.2.2 bt377.1 bt377.2.1 bt377.2.2.1 bt353.1 bt353.2.1 bt353.2.2.1 bt353.2.2.2.1 bt353.2.2.2.2.1 ((rd_T32 x1 x7).f0) 0 0 (⟨#[]⟩ : ByteArray) bt377.2.2.2)))))) else (none)) else ((wire_Reader_Left.f x347000 x347001 x347002).bind fun bt398 => ((sawmillref05_Left.f x351000 x351001 x351002).bind fun t402 => (if bt398.1 = t402 then ((wire_Reader_End.f bt398.2.1 bt398.2.2.1 bt398.2.2.2).bind fun bt403 => ((sawmillref05_End.f x351000 x351001 x351002).bind fun t407 => (if bt403.1 = t407 then ((sawmilllaw05_awake.f).bind fun t408 => (some t408)) else (some false)))) else (some false))))
def sawmilllaw05_WireReads.j2 : Nat → List (S32) → Int → ByteArray → Int → Int → ByteArray → Int → Int → Int → Int → Int → ByteArray → List Int → Int → Int → Int → ByteArray → List Int → Option (Bool)
  | 0, _, _, _, _, _, _, _, _, _, _, _, _, _, _, _, _, _, _ => none
  | k + 1, x1, x7, x347000, x347001, x347002, x351000, x351001, x351002, x364000, x364001, x364002, x364003, x364004, x365000, x365001, x365002, x365003, x365004 => (sawmilllaw05_same.f k x364000 x364001 x364002 x364003 x364004 x365000 x365001 x365002 x365003 x365004).bind fun t383 => (if t383 = true then ((wire_Reader_Left.f x347000 x347001 x347002).bind fun bt384 => ((sawmillref05_Left.f x351000 x351001 x351002).bind fun t388 => (if bt384.1 = t388 then ((wire_Reader_Err.f bt384.2.1 bt384.2.2.1 bt384.2.2.2).bind fun bt389 => (if bt389.1 = x351002 then ((wire_Reader_End.f bt389.2.1 bt389.2.2.1 bt389.2.2.2).bind fun bt393 => ((sawmillref05_End.f x351000 x351001 x351002).bind fun t397 => (if bt393.1 = t397 then (sawmilllaw05_WireReads.l0 k x1 (wrap64 (x7 + 1)) bt393.2.1 bt393.2.2.1 bt393.2.2.2 x351000 x351001 x351002) else (some false)))) else (some false))) else (some false)))) else (some false))
end
def sawmilllaw05_WireReads.f (k : Nat) (a0 : ByteArray) (l1 : List (S32)) : Option (Bool) := if (a0.size : Int) > 3000 then (sawmilllaw05_WireReads.j0 k a0 l1 true) else (sawmilllaw05_WireReads.j0 k a0 l1 (decide ((l1.length : Int) > 60)))
theorem sawmilllaw05_WireReads.mono_l : ∀ k, (∀ y0 y1 y2, LeO (sawmilllaw05_WireReads.j0 k y0 y1 y2) (sawmilllaw05_WireReads.j0 (k + 1) y0 y1 y2)) ∧ (∀ y0 y1 y2 y3 y4 y5 y6 y7, LeO (sawmilllaw05_WireReads.l0 k y0 y1 y2 y3 y4 y5 y6 y7) (sawmilllaw05_WireReads.l0 (k + 1) y0 y1 y2 y3 y4 y5 y6 y7)) ∧ (∀ y0 y1 y2 y3 y4 y5 y6 y7 y8 y9 y10 y11 y12 y13 y14 y15 y16 y17, LeO (sawmilllaw05_WireReads.j2 k y0 y1 y2 y3 y4 y5 y6 y7 y8 y9 y10 y11 y12 y13 y14 y15 y16 y17) (sawmilllaw05_WireReads.j2 (k + 1) y0 y1 y2 y3 y4 y5 y6 y7 y8 y9 y10 y11 y12 y13 y14 y15 y16 y17))
  | 0 => ⟨fun _ _ _ r h => by simp [sawmilllaw05_WireReads.j0] at h, fun _ _ _ _ _ _ _ _ r h => by simp [sawmilllaw05_WireReads.l0] at h, fun _ _ _ _ _ _ _ _ _ _ _ _ _ _ _ _ _ _ r h => by simp [sawmilllaw05_WireReads.j2] at h⟩
  | k + 1 => by
    obtain ⟨ih0, ih1, ih2⟩ := sawmilllaw05_WireReads.mono_l k
    refine ⟨?_, ?_, ?_⟩
    · intro y0 y1 y2
      unfold sawmilllaw05_WireReads.j0
      repeat' first
      | (with_reducible exact ih0 _ _ _)
      | (with_reducible exact ih1 _ _ _ _ _ _ _ _)
      | (with_reducible exact ih2 _ _ _ _ _ _ _ _ _ _ _ _ _ _ _ _ _ _)
      | (with_reducible exact sawmilllaw05_read.mono _ _ _ _ _ _ _ _)
      | (with_reducible exact sawmilllaw05_same.mono _ _ _ _ _ _ _ _ _ _ _)
      | (with_reducible exact sawmillref05_ReadInt.mono _ _ _ _ _ _)
      | (with_reducible exact sawmillref05_ReadInts.mono _ _ _ _ _ _ _)
      | (with_reducible exact sawmillref05_ReadText.mono _ _ _ _ _)
      | (with_reducible exact sawmillref05_ReadUint.mono _ _ _ _)
      | (with_reducible exact LeO.refl _)
      | (with_reducible exact LeO.none _)
      | (with_reducible refine LeO.ite ?_ ?_)
      | (with_reducible refine LeO.bind ?_ (fun _ => ?_))
      | exact ih0 _ _ _
      | exact ih1 _ _ _ _ _ _ _ _
      | exact ih2 _ _ _ _ _ _ _ _ _ _ _ _ _ _ _ _ _ _
      | exact sawmilllaw05_read.mono _ _ _ _ _ _ _ _
      | exact sawmilllaw05_same.mono _ _ _ _ _ _ _ _ _ _ _
      | exact sawmillref05_ReadInt.mono _ _ _ _ _ _
      | exact sawmillref05_ReadInts.mono _ _ _ _ _ _ _
      | exact sawmillref05_ReadText.mono _ _ _ _ _
      | exact sawmillref05_ReadUint.mono _ _ _ _
      | exact LeO.none _
      | refine LeO.ite ?_ ?_
      | refine LeO.bind ?_ (fun _ => ?_)
    · intro y0 y1 y2 y3 y4 y5 y6 y7
      unfold sawmilllaw05_WireReads.l0
      repeat' first
      | (with_reducible exact ih0 _ _ _)
      | (with_reducible exact ih1 _ _ _ _ _ _ _ _)
      | (with_reducible exact ih2 _ _ _ _ _ _ _ _ _ _ _ _ _ _ _ _ _ _)
      | (with_reducible exact sawmilllaw05_read.mono _ _ _ _ _ _ _ _)
      | (with_reducible exact sawmilllaw05_same.mono _ _ _ _ _ _ _ _ _ _ _)
      | (with_reducible exact sawmillref05_ReadInt.mono _ _ _ _ _ _)
      | (with_reducible exact sawmillref05_ReadInts.mono _ _ _ _ _ _ _)
      | (with_reducible exact sawmillref05_ReadText.mono _ _ _ _ _)
      | (with_reducible exact sawmillref05_ReadUint.mono _ _ _ _)
      | (with_reducible exact LeO.refl _)
      | (with_reducible exact LeO.none _)
      | (with_reducible refine LeO.ite ?_ ?_)
      | (with_reducible refine LeO.bind ?_ (fun _ => ?_))
      | exact ih0 _ _ _
      | exact ih1 _ _ _ _ _ _ _ _
      | exact ih2 _ _ _ _ _ _ _ _ _ _ _ _ _ _ _ _ _ _
      | exact sawmilllaw05_read.mono _ _ _ _ _ _ _ _
      | exact sawmilllaw05_same.mono _ _ _ _ _ _ _ _ _ _ _
      | exact sawmillref05_ReadInt.mono _ _ _ _ _ _
      | exact sawmillref05_ReadInts.mono _ _ _ _ _ _ _
      | exact sawmillref05_ReadText.mono _ _ _ _ _
      | exact sawmillref05_ReadUint.mono _ _ _ _
      | exact LeO.none _
      | refine LeO.ite ?_ ?_
      | refine LeO.bind ?_ (fun _ => ?_)
    · intro y0 y1 y2 y3 y4 y5 y6 y7 y8 y9 y10 y11 y12 y13 y14 y15 y16 y17
      unfold sawmilllaw05_WireReads.j2
      repeat' first
      | (with_reducible exact ih0 _ _ _)
      | (with_reducible exact ih1 _ _ _ _ _ _ _ _)
      | (with_reducible exact ih2 _ _ _ _ _ _ _ _ _ _ _ _ _ _ _ _ _ _)
      | (with_reducible exact sawmilllaw05_read.mono _ _ _ _ _ _ _ _)
      | (with_reducible exact sawmilllaw05_same.mono _ _ _ _ _ _ _ _ _ _ _)
      | (with_reducible exact sawmillref05_ReadInt.mono _ _ _ _ _ _)
      | (with_reducible exact sawmillref05_ReadInts.mono _ _ _ _ _ _ _)
      | (with_reducible exact sawmillref05_ReadText.mono _ _ _ _ _)
      | (with_reducible exact sawmillref05_ReadUint.mono _ _ _ _)
      | (with_reducible exact LeO.refl _)
      | (with_reducible exact LeO.none _)
      | (with_reducible refine LeO.ite ?_ ?_)
      | (with_reducible refine LeO.bind ?_ (fun _ => ?_))
      | exact ih0 _ _ _
      | exact ih1 _ _ _ _ _ _ _ _
      | exact ih2 _ _ _ _ _ _ _ _ _ _ _ _ _ _ _ _ _ _
      | exact sawmilllaw05_read.mono _ _ _ _ _ _ _ _
      | exact sawmilllaw05_same.mono _ _ _ _ _ _ _ _ _ _ _
      | exact sawmillref05_ReadInt.mono _ _ _ _ _ _
      | exact sawmillref05_ReadInts.mono _ _ _ _ _ _ _
      | exact sawmillref05_ReadText.mono _ _ _ _ _
      | exact sawmillref05_ReadUint.mono _ _ _ _
      | exact LeO.none _
      | refine LeO.ite ?_ ?_
      | refine LeO.bind ?_ (fun _ => ?_)
theorem sawmilllaw05_WireReads.mono : ∀ a0 a1 k, LeO (sawmilllaw05_WireReads.f k a0 a1) (sawmilllaw05_WireReads.f (k + 1) a0 a1) := by
  intro a0 a1 k
  obtain ⟨ih0, ih1, ih2⟩ := sawmilllaw05_WireReads.mono_l k
  unfold sawmilllaw05_WireReads.f
  repeat' first
      | (with_reducible exact ih0 _ _ _)
      | (with_reducible exact ih1 _ _ _ _ _ _ _ _)
      | (with_reducible exact ih2 _ _ _ _ _ _ _ _ _ _ _ _ _ _ _ _ _ _)
      | (with_reducible exact sawmilllaw05_read.mono _ _ _ _ _ _ _ _)
      | (with_reducible exact sawmilllaw05_same.mono _ _ _ _ _ _ _ _ _ _ _)
      | (with_reducible exact sawmillref05_ReadInt.mono _ _ _ _ _ _)
      | (with_reducible exact sawmillref05_ReadInts.mono _ _ _ _ _ _ _)
      | (with_reducible exact sawmillref05_ReadText.mono _ _ _ _ _)
      | (with_reducible exact sawmillref05_ReadUint.mono _ _ _ _)
      | (with_reducible exact LeO.refl _)
      | (with_reducible exact LeO.none _)
      | (with_reducible refine LeO.ite ?_ ?_)
      | (with_reducible refine LeO.bind ?_ (fun _ => ?_))
      | exact ih0 _ _ _
      | exact ih1 _ _ _ _ _ _ _ _
      | exact ih2 _ _ _ _ _ _ _ _ _ _ _ _ _ _ _ _ _ _
      | exact sawmilllaw05_read.mono _ _ _ _ _ _ _ _
      | exact sawmilllaw05_same.mono _ _ _ _ _ _ _ _ _ _ _
      | exact sawmillref05_ReadInt.mono _ _ _ _ _ _
      | exact sawmillref05_ReadInts.mono _ _ _ _ _ _ _
      | exact sawmillref05_ReadText.mono _ _ _ _ _
      | exact sawmillref05_ReadUint.mono _ _ _ _
      | exact LeO.none _
      | refine LeO.ite ?_ ?_
      | refine LeO.bind ?_ (fun _ => ?_)
def sawmilllaw05_WireReads.T19 : Bool × List (List Nat × List Nat) := (true, [([], []), ([], []), ([0, 1], [0, 1]), ([2], [2]), ([3, 2], [3]), ([4], [4]), ([5, 4, 4], [4, 5]), ([4], [4]), ([7, 6, 4], [4, 7]), ([6, 8, 4], [4, 6, 8]), ([4, 9], [4, 9]), ([10, 8], [10]), ([11], [11]), ([12, 11, 11], [11, 12]), ([11], [11]), ([14, 11], [11, 14]), ([13, 15, 11], [11, 13, 15]), ([11, 16], [11, 16]), ([17, 13], [17]), ([18], [18]), ([19, 18, 18], [18, 19]), ([18], [18]), ([21, 20, 18], [18, 21]), ([20, 22, 18], [18, 20, 22]), ([18, 23], [18, 23])])
def sawmilllaw05_WireReads.B19 : List Nat := [0, 0, 3, 7, 15, 31, 63, 31, 255, 511, 1023, 2047, 4095, 8191, 4095, 20479, 65535, 131071, 262143, 524287, 1048575, 524287, 4194303, 8388607, 16777215]
theorem sawmilllaw05_WireReads.tab19 : rtab .any (opsOf Try.f6 19) = sawmilllaw05_WireReads.T19 := by kernel_rfl
theorem sawmilllaw05_WireReads.bits19 : waitsOk sawmilllaw05_WireReads.T19.2 sawmilllaw05_WireReads.B19 = true := by kernel_rfl
def sawmilllaw05_WireReads.T21 : Bool × List (List Nat × List Nat) := (true, [([], []), ([0], [0]), ([], []), ([2, 1], [2]), ([1, 3], [1, 3]), ([4, 3], [4]), ([5], [5]), ([6, 5, 5], [5, 6]), ([5], [5]), ([8, 7, 5], [5, 8]), ([7, 9, 5], [5, 7, 9]), ([5, 10], [5, 10]), ([11, 9], [11]), ([12, 12], [12]), ([12, 13], [12, 13]), ([14, 13, 0, 1, 2, 3, 4, 5, 6, 7, 8, 9, 10, 11, 12, 13, 14], [14])])
def sawmilllaw05_WireReads.B21 : List Nat := [0, 1, 0, 7, 15, 31, 63, 127, 63, 511, 1023, 2047, 4095, 8191, 16383, 32767]
theorem sawmilllaw05_WireReads.tab21 : rtab .any (opsOf Try.f6 21) = sawmilllaw05_WireReads.T21 := by kernel_rfl
theorem sawmilllaw05_WireReads.bits21 : waitsOk sawmilllaw05_WireReads.T21.2 sawmilllaw05_WireReads.B21 = true := by kernel_rfl
abbrev Bo18_0 : Array Bool := #[false, false, false, false, false, false, false, false, false, false, false, false, false, false, false, false, false, false, false, false, false, false, false, false, false]
abbrev Bo18_1 : Array Bool := #[true, false, false, false, false, false, false, false, false, false, false, false, false, false, false, false, false, false, false, false, false, false, false, false, false]
abbrev Bo18_2 : Array Bool := #[true, true, false, false, false, false, false, false, false, false, false, false, false, false, false, false, false, false, false, false, false, false, false, false, false]
abbrev Bo18_3 : Array Bool := #[true, true, true, false, false, false, false, false, false, false, false, false, false, false, false, false, false, false, false, false, false, false, false, false, false]
abbrev Bo18_4 : Array Bool := #[true, true, true, true, false, false, false, false, false, false, false, false, false, false, false, false, false, false, false, false, false, false, false, false, false]
abbrev Bo18_5 : Array Bool := #[true, true, true, true, true, false, false, false, false, false, false, false, false, false, false, false, false, false, false, false, false, false, false, false, false]
abbrev Bo18_6 : Array Bool := #[true, true, true, true, true, true, false, false, false, false, false, false, false, false, false, false, false, false, false, false, false, false, false, false, false]
abbrev Bo18_7 : Array Bool := #[true, true, true, true, true, true, false, true, false, false, false, false, false, false, false, false, false, false, false, false, false, false, false, false, false]
abbrev Bo18_8 : Array Bool := #[true, true, true, true, true, true, true, true, false, false, false, false, false, false, false, false, false, false, false, false, false, false, false, false, false]
abbrev Bo18_9 : Array Bool := #[true, true, true, true, true, true, true, true, true, false, false, false, false, false, false, false, false, false, false, false, false, false, false, false, false]
abbrev Bo18_10 : Array Bool := #[true, true, true, true, true, true, true, true, true, true, false, false, false, false, false, false, false, false, false, false, false, false, false, false, false]
abbrev Bo18_11 : Array Bool := #[true, true, true, true, true, true, true, true, true, true, true, false, false, false, false, false, false, false, false, false, false, false, false, false, false]
abbrev Bo18_12 : Array Bool := #[true, true, true, true, true, true, true, true, true, true, true, true, false, false, false, false, false, false, false, false, false, false, false, false, false]
abbrev Bo18_13 : Array Bool := #[true, true, true, true, true, true, true, true, true, true, true, true, true, false, false, false, false, false, false, false, false, false, false, false, false]
abbrev Bo18_14 : Array Bool := #[true, true, true, true, true, true, true, true, true, true, true, true, true, false, true, false, false, false, false, false, false, false, false, false, false]
abbrev Bo18_15 : Array Bool := #[true, true, true, true, true, true, true, true, true, true, true, true, true, false, true, true, false, false, false, false, false, false, false, false, false]
abbrev Bo18_16 : Array Bool := #[true, true, true, true, true, true, true, true, true, true, true, true, true, true, true, true, false, false, false, false, false, false, false, false, false]
abbrev Bo18_17 : Array Bool := #[true, true, true, true, true, true, true, true, true, true, true, true, true, true, true, true, true, false, false, false, false, false, false, false, false]
abbrev Bo18_18 : Array Bool := #[true, true, true, true, true, true, true, true, true, true, true, true, true, true, true, true, true, true, false, false, false, false, false, false, false]
abbrev Bo18_19 : Array Bool := #[true, true, true, true, true, true, true, true, true, true, true, true, true, true, true, true, true, true, true, false, false, false, false, false, false]
abbrev Bo18_20 : Array Bool := #[true, true, true, true, true, true, true, true, true, true, true, true, true, true, true, true, true, true, true, true, false, false, false, false, false]
abbrev Bo18_21 : Array Bool := #[true, true, true, true, true, true, true, true, true, true, true, true, true, true, true, true, true, true, true, true, false, true, false, false, false]
abbrev Bo18_22 : Array Bool := #[true, true, true, true, true, true, true, true, true, true, true, true, true, true, true, true, true, true, true, true, true, true, false, false, false]
abbrev Bo18_23 : Array Bool := #[true, true, true, true, true, true, true, true, true, true, true, true, true, true, true, true, true, true, true, true, true, true, true, false, false]
abbrev Bo18_24 : Array Bool := #[true, true, true, true, true, true, true, true, true, true, true, true, true, true, true, true, true, true, true, true, true, true, true, true, false]
abbrev Bo18_25 : Array Bool := #[true, true, true, true, true, true, true, true, true, true, true, true, true, true, true, true, true, true, true, true, true, true, true, true, true]
abbrev Bo18_26 : Array Bool := #[true, true, true, true, true, true, true, true, true, true, true, true, true, true, true, true, true, true, true, true, true, false, false, false, false]
abbrev Bo18_27 : Array Bool := #[true, true, true, true, true, true, true, true, true, true, true, true, true, true, false, false, false, false, false, false, false, false, false, false, false]
abbrev Bo18_28 : Array Bool := #[true, true, true, true, true, true, true, true, true, true, true, true, true, true, true, false, false, false, false, false, false, false, false, false, false]
abbrev Bo18_29 : Array Bool := #[true, true, true, true, true, true, true, false, false, false, false, false, false, false, false, false, false, false, false, false, false, false, false, false, false]
abbrev Bo18_30 : Array Bool := #[false, false, false, false, false, false, false, false, false, false, false, false, false, false, false, false]
abbrev Bo18_31 : Array Bool := #[true, false, false, false, false, false, false, false, false, false, false, false, false, false, false, false]
abbrev Bo18_32 : Array Bool := #[true, false, true, false, false, false, false, false, false, false, false, false, false, false, false, false]
abbrev Bo18_33 : Array Bool := #[true, true, true, false, false, false, false, false, false, false, false, false, false, false, false, false]
abbrev Bo18_34 : Array Bool := #[true, true, true, true, false, false, false, false, false, false, false, false, false, false, false, false]
abbrev Bo18_35 : Array Bool := #[true, true, true, true, true, false, false, false, false, false, false, false, false, false, false, false]
abbrev Bo18_36 : Array Bool := #[true, true, true, true, true, true, false, false, false, false, false, false, false, false, false, false]
abbrev Bo18_37 : Array Bool := #[true, true, true, true, true, true, true, false, false, false, false, false, false, false, false, false]
abbrev Bo18_38 : Array Bool := #[true, true, true, true, true, true, true, false, true, false, false, false, false, false, false, false]
abbrev Bo18_39 : Array Bool := #[true, true, true, true, true, true, true, true, true, false, false, false, false, false, false, false]
abbrev Bo18_40 : Array Bool := #[true, true, true, true, true, true, true, true, true, true, false, false, false, false, false, false]
abbrev Bo18_41 : Array Bool := #[true, true, true, true, true, true, true, true, true, true, true, false, false, false, false, false]
abbrev Bo18_42 : Array Bool := #[true, true, true, true, true, true, true, true, true, true, true, true, false, false, false, false]
abbrev Bo18_43 : Array Bool := #[true, true, true, true, true, true, true, true, true, true, true, true, true, false, false, false]
abbrev Bo18_44 : Array Bool := #[true, true, true, true, true, true, true, true, true, true, true, true, true, true, false, false]
abbrev Bo18_45 : Array Bool := #[true, true, true, true, true, true, true, true, true, true, true, true, true, true, true, false]
abbrev Bo18_46 : Array Bool := #[true, true, true, true, true, true, true, true, true, true, true, true, true, true, true, true]
abbrev Bo18_47 : Array Bool := #[true, true, true, true, true, true, true, true, false, false, false, false, false, false, false, false]
end Go.Proofs.Ytpbekhkmeaaejaa.PAll
