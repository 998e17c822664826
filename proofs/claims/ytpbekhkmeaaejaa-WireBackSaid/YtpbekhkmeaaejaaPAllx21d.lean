import Derived.Test.YtpbekhkmeaaejaaPAllx0
import Derived.Test.YtpbekhkmeaaejaaPAllx3
import Derived.Test.YtpbekhkmeaaejaaPAllx5
import Derived.Test.YtpbekhkmeaaejaaPAllx7
import Derived.Test.YtpbekhkmeaaejaaPAllx12
import Derived.Test.YtpbekhkmeaaejaaPAllx17
import Derived.Test.YtpbekhkmeaaejaaPAllx19
import Derived.Test.YtpbekhkmeaaejaaPAllx20
import Derived.Test.YtpbekhkmeaaejaaPAllx12d
import Derived.Test.YtpbekhkmeaaejaaUp
-- Written by a changed copy of the kit's print program, run in this session (NOTES.md tells the change). Not trusted: Lean checks it.
namespace Go.Proofs.Ytpbekhkmeaaejaa.PAll
open Go.RowKit Go.Proofs.YtpbekhkmeaaejaaW.PrintWords Go.Proofs.YtpbekhkmeaaejaaW.PrintLast Go.Proofs.YtpbekhkmeaaejaaW.PrintMore
attribute [local go_sem] max2_int min2_int max_two min_two max_three min_three max_four min_four   -- for this text's walks alone
set_option linter.unusedVariables false
set_option linter.unusedSimpArgs false

/-! ### sawmilllaw05_WireBack: function 7 -/
mutual
def sawmilllaw05_WireBack.l0 : Nat → List (S45) → ByteArray → Int → Option (Bool)
  | 0, _, _, _ => none
  | k + 1, x0, x3, x4 => if x4 < (x0.length : Int) then (if 0 ≤ x4 then ((sawmilllaw05_small.f ((rd_T45 x0 x4).f0) ((rd_T45 x0 x4).f1) ((rd_T45 x0 x4).f2) ((rd_T45 x0 x4).f3) ((rd_T45 x0 x4).f4)).bind fun t422 => (if t422 = true then ((sawmilllaw05_write.f k ((rd_T45 x0 x4).f0) ((rd_T45 x0 x4).f1) ((rd_T45 x0 x4).f2) ((rd_T45 x0 x4).f3) ((rd_T45 x0 x4).f4)).bind fun t424 => (if x3.size + t424.size ≤ 9223372036854775807 then (sawmilllaw05_WireBack.l0 k x0 (x3 ++ t424) (wrap64 (x4 + 1))) else (none))) else ((sawmilllaw05_awake.f).bind fun t425 => (some t425)))) else (none)) else ((wire_NewReader.f x3).bind fun bt426 => (sawmilllaw05_WireBack.l1 k x0 0 bt426.1 bt426.2.1 bt426.2.2))
def sawmilllaw05_WireBack.l1 : Nat → List (S45) → Int → ByteArray → Int → Int → Option (Bool)
  | 0, _, _, _, _, _ => none
  | k + 1, x0, x6, x430000, x430001, x430002 => if x6 < (x0.length : Int) then (if 0 ≤ x6 then ((sawmilllaw05_exact.f k ((rd_T45 x0 x6).f0) ((rd_T45 x0 x6).f1) ((rd_T45 x0 x6).f2) ((rd_T45 x0 x6).f3) ((rd_T45 x0 x6).f4)).bind fun bt441 => ((sawmilllaw05_read.f k x430000 x430001 x430002 bt441.1 bt441.2.1 bt441.2.2.1 bt441.2.2.2).bind fun bt445 => (if ((rd_T45 x0 x6).f0) = 0 then (if (bt445.2.1 = ((rd_T45 x0 x6).f1)) then ((wire_Reader_Err.f bt445.2.2.2.2.2.1 bt445.2.2.2.2.2.2.1 bt445.2.2.2.2.2.2.2).bind fun bt456 => (if bt456.1 = 0 then (sawmilllaw05_WireBack.l1 k x0 (wrap64 (x6 + 1)) bt456.2.1 bt456.2.2.1 bt456.2.2.2) else (some false))) else (some false)) else (if ((rd_T45 x0 x6).f0) = 1 then (if (bt445.2.2.1 = ((rd_T45 x0 x6).f2)) then ((wire_Reader_Err.f bt445.2.2.2.2.2.1 bt445.2.2.2.2.2.2.1 bt445.2.2.2.2.2.2.2).bind fun bt460 => (if bt460.1 = 0 then (sawmilllaw05_WireBack.l1 k x0 (wrap64 (x6 + 1)) bt460.2.1 bt460.2.2.1 bt460.2.2.2) else (some false))) else (some false)) else (if ((rd_T45 x0 x6).f0) = 2 then (if (bt445.2.2.2.1.toList = ((rd_T45 x0 x6).f3).toList) then ((wire_Reader_Err.f bt445.2.2.2.2.2.1 bt445.2.2.2.2.2.2.1 bt445.2.2.2.2.2.2.2).bind fun bt464 => (if bt464.1 = 0 then (sawmilllaw05_WireBack.l1 k x0 (wrap64 (x6 + 1)) bt464.2.1 bt464.2.2.1 bt464.2.2.2) else (some false))) else (some false)) else ((sawmillref05_Same.f k bt445.2.2.2.2.1 ((rd_T45 x0 x6).f4)).bind fun t468 => (if t468 = true then ((wire_Reader_Err.f bt445.2.2.2.2.2.1 bt445.2.2.2.2.2.2.1 bt445.2.2.2.2.2.2.2).bind fun bt469 => (if bt469.1 = 0 then (sawmilllaw05_WireBack.l1 k x0 (wrap64 (x6 + 1)) bt469.2.1 bt469.2.2.1 bt469.2.2.2) else (some false))) else (some false)))))))) else (none)) else ((wire_Reader_End.f x430000 x430001 x430002).bind fun bt430 => (if bt430.1 = 0 then ((wire_Reader_Left.f bt430.2.1 bt430.2.2.1 bt430.2.2.2).bind fun bt434 => (if bt434.1 = 0 then ((sawmilllaw05_awake.f).bind fun t438 => (some t438)) else (some false))) else (some false)))
end
def sawmilllaw05_WireBack.f (k : Nat) (l0 : List (S45)) : Option (Bool) := if (l0.length : Int) > 40 then ((sawmilllaw05_awake.f).bind fun t420 => (some t420)) else (sawmilllaw05_WireBack.l0 k l0 (⟨#[]⟩ : ByteArray) 0)
theorem sawmilllaw05_WireBack.mono_l : ∀ k, (∀ y0 y1 y2, LeO (sawmilllaw05_WireBack.l0 k y0 y1 y2) (sawmilllaw05_WireBack.l0 (k + 1) y0 y1 y2)) ∧ (∀ y0 y1 y2 y3 y4, LeO (sawmilllaw05_WireBack.l1 k y0 y1 y2 y3 y4) (sawmilllaw05_WireBack.l1 (k + 1) y0 y1 y2 y3 y4))
  | 0 => ⟨fun _ _ _ r h => by simp [sawmilllaw05_WireBack.l0] at h, fun _ _ _ _ _ r h => by simp [sawmilllaw05_WireBack.l1] at h⟩
  | k + 1 => by
    obtain ⟨ih0, ih1⟩ := sawmilllaw05_WireBack.mono_l k
    refine ⟨?_, ?_⟩
    · intro y0 y1 y2
      unfold sawmilllaw05_WireBack.l0
      repeat' first
      | (with_reducible exact ih0 _ _ _)
      | (with_reducible exact ih1 _ _ _ _ _)
      | (with_reducible exact sawmilllaw05_exact.mono _ _ _ _ _ _)
      | (with_reducible exact sawmilllaw05_read.mono _ _ _ _ _ _ _ _)
      | (with_reducible exact sawmilllaw05_write.mono _ _ _ _ _ _)
      | (with_reducible exact sawmillref05_Same.mono _ _ _)
      | (with_reducible exact LeO.refl _)
      | (with_reducible exact LeO.none _)
      | (with_reducible refine LeO.ite ?_ ?_)
      | (with_reducible refine LeO.bind ?_ (fun _ => ?_))
      | exact ih0 _ _ _
      | exact ih1 _ _ _ _ _
      | exact sawmilllaw05_exact.mono _ _ _ _ _ _
      | exact sawmilllaw05_read.mono _ _ _ _ _ _ _ _
      | exact sawmilllaw05_write.mono _ _ _ _ _ _
      | exact sawmillref05_Same.mono _ _ _
      | exact LeO.none _
      | refine LeO.ite ?_ ?_
      | refine LeO.bind ?_ (fun _ => ?_)
    · intro y0 y1 y2 y3 y4
      unfold sawmilllaw05_WireBack.l1
      repeat' first
      | (with_reducible exact ih0 _ _ _)
      | (with_reducible exact ih1 _ _ _ _ _)
      | (with_reducible exact sawmilllaw05_exact.mono _ _ _ _ _ _)
      | (with_reducible exact sawmilllaw05_read.mono _ _ _ _ _ _ _ _)
      | (with_reducible exact sawmilllaw05_write.mono _ _ _ _ _ _)
      | (with_reducible exact sawmillref05_Same.mono _ _ _)
      | (with_reducible exact LeO.refl _)
      | (with_reducible exact LeO.none _)
      | (with_reducible refine LeO.ite ?_ ?_)
      | (with_reducible refine LeO.bind ?_ (fun _ => ?_))
      | exact ih0 _ _ _
      | exact ih1 _ _ _ _ _
      | exact sawmilllaw05_exact.mono _ _ _ _ _ _
      | exact sawmilllaw05_read.mono _ _ _ _ _ _ _ _
      | exact sawmilllaw05_write.mono _ _ _ _ _ _
      | exact sawmillref05_Same.mono _ _ _
      | exact LeO.none _
      | refine LeO.ite ?_ ?_
      | refine LeO.bind ?_ (fun _ => ?_)
theorem sawmilllaw05_WireBack.mono : ∀ a0 k, LeO (sawmilllaw05_WireBack.f k a0) (sawmilllaw05_WireBack.f (k + 1) a0) := by
  intro a0 k
  obtain ⟨ih0, ih1⟩ := sawmilllaw05_WireBack.mono_l k
  unfold sawmilllaw05_WireBack.f
  repeat' first
      | (with_reducible exact ih0 _ _ _)
      | (with_reducible exact ih1 _ _ _ _ _)
      | (with_reducible exact sawmilllaw05_exact.mono _ _ _ _ _ _)
      | (with_reducible exact sawmilllaw05_read.mono _ _ _ _ _ _ _ _)
      | (with_reducible exact sawmilllaw05_write.mono _ _ _ _ _ _)
      | (with_reducible exact sawmillref05_Same.mono _ _ _)
      | (with_reducible exact LeO.refl _)
      | (with_reducible exact LeO.none _)
      | (with_reducible refine LeO.ite ?_ ?_)
      | (with_reducible refine LeO.bind ?_ (fun _ => ?_))
      | exact ih0 _ _ _
      | exact ih1 _ _ _ _ _
      | exact sawmilllaw05_exact.mono _ _ _ _ _ _
      | exact sawmilllaw05_read.mono _ _ _ _ _ _ _ _
      | exact sawmilllaw05_write.mono _ _ _ _ _ _
      | exact sawmillref05_Same.mono _ _ _
      | exact LeO.none _
      | refine LeO.ite ?_ ?_
      | refine LeO.bind ?_ (fun _ => ?_)
end Go.Proofs.Ytpbekhkmeaaejaa.PAll
