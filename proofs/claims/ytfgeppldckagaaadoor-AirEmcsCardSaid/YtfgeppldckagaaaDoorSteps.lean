/- Clamps, and the climate of the next tick, as plain functions. -/
import Derived.Test.YtfgeppldckagaaaDoorPAllx3
import Derived.Test.YtfgeppldckagaaaDoorPAllx4
import Derived.Test.YtfgeppldckagaaaDoorPAllx7
import Derived.Test.YtfgeppldckagaaaDoorPAllx10
import Derived.Test.YtfgeppldckagaaaDoorPAllx13
import Derived.Test.YtfgeppldckagaaaDoorPAllx21
namespace Go.Proofs.YtfgeppldckagaaaDoor.Pure
open Go.RowKit Go.Proofs.YtfgeppldckagaaaDoor.PAll Go.Proofs.YtfgeppldckagaaaDoorW.PrintWords Go.Proofs.YtfgeppldckagaaaDoorW.PrintLast Go.Proofs.YtfgeppldckagaaaDoorW.PrintMore
def cl (a m : Int) : Int := max 0 (min a m)
theorem cl_bd (a m : Int) (h : 0 ≤ m) : 0 ≤ cl a m ∧ cl a m ≤ m := by unfold cl; omega
theorem cl_id (a m : Int) (h : 0 ≤ a) (h2 : a ≤ m) : cl a m = a := by unfold cl; omega
theorem mn_min (a b : Int) : mn a b = min a b := by unfold mn; split <;> omega
theorem mx_max (a b : Int) : mx a b = max a b := by unfold mx; split <;> omega
theorem clamp_f (a lo hi : Int) (h : lo ≤ hi) : units_Clamp.f a lo hi = some (max lo (min a hi)) := by
  unfold units_Clamp.f
  rw [if_neg (by omega), mn_min]
  by_cases h1 : a < lo
  · rw [if_pos h1]; congr 1; omega
  · rw [if_neg h1]; congr 1; omega
theorem clamped_f (a b : Int) : air_clamped.f a b = some (cl a 1200, cl b 400) := by
  unfold air_clamped.f
  rw [clamp_f _ _ _ (by decide), clamp_f _ _ _ (by decide)]
  rfl
theorem refclamped_f (a b : Int) : sawmillref35_Clamped.f a b = some (cl a 1200, cl b 400) := by
  unfold sawmillref35_Clamped.f cl
  rw [mn_min, mn_min, mx_max, mx_max]
def Valid (a b : Int) : Prop := 0 ≤ a ∧ a ≤ 1200 ∧ 0 ≤ b ∧ b ≤ 400
instance (a b : Int) : Decidable (Valid a b) := inferInstanceAs (Decidable (_ ∧ _))
theorem check_f (a b : Int) : air_Check.f a b = some (if Valid a b then 0 else 9) := by
  unfold air_Check.f
  rw [clamped_f, Option.bind_some]
  by_cases h : Valid a b
  · obtain ⟨h1, h2, h3, h4⟩ := h
    rw [cl_id a 1200 h1 h2, cl_id b 400 h3 h4, if_pos (show Valid a b from ⟨h1, h2, h3, h4⟩)]
    simp
  · rw [if_neg h, if_pos]
    simp only [Bool.or_eq_true, Bool.not_eq_true', beq_eq_false_iff_ne]
    unfold Valid at h
    unfold cl
    omega
theorem refcheck_f (a b : Int) : sawmillref35_Check.f a b = some (if Valid a b then 0 else 9) := by
  by_cases h : Valid a b
  · rw [if_pos h]
    obtain ⟨h1, h2, h3, h4⟩ := h
    unfold sawmillref35_Check.f
    rw [if_neg (by omega), if_neg (by omega), if_neg (by omega), if_neg (by omega)]
  · rw [if_neg h]
    unfold sawmillref35_Check.f
    unfold Valid at h
    repeat' split
    all_goals first | rfl | (exfalso; omega)
def toto (a b m : Int) : Int := max (a - m) (min b (a + m))
def heat (l : List Int) (t : Int) : Int := if 1 ∈ l then 200 else t
def vent (l : List Int) (t : Int) : Int := if 3 ∈ l then 100 else t
def nx (a0 a1 b0 b1 r : Int) (l : List Int) : Int × Int := (toto (cl a0 1200) (heat l (cl b0 1200)) (cl r 1200), toto (cl a1 400) (vent l (cl b1 400)) (cl r 1200))
theorem end_f (a0 a1 r g1 g2 : Int) : ((air_clamped.f a0 a1).bind fun bt170 => ((units_Clamp.f r 0 1200).bind fun t172 => ((units_Clamp.f g1 (wrap64 (bt170.1 - t172)) (wrap64 (bt170.1 + t172))).bind fun t174 => ((units_Clamp.f g2 (wrap64 (bt170.2 - t172)) (wrap64 (bt170.2 + t172))).bind fun t175 => (some (t174, t175)))))) =
    some (toto (cl a0 1200) g1 (cl r 1200), toto (cl a1 400) g2 (cl r 1200)) := by
  have b0 := cl_bd a0 1200 (by decide)
  have b1 := cl_bd a1 400 (by decide)
  have b2 := cl_bd r 1200 (by decide)
  rw [clamped_f, Option.bind_some, clamp_f _ _ _ (by decide), Option.bind_some]
  show ((units_Clamp.f g1 (wrap64 (cl a0 1200 - cl r 1200)) (wrap64 (cl a0 1200 + cl r 1200))).bind fun t174 => ((units_Clamp.f g2 (wrap64 (cl a1 400 - cl r 1200)) (wrap64 (cl a1 400 + cl r 1200))).bind fun t175 => some (t174, t175))) = _
  rw [c64 (by omega) (by omega), c64 (by omega) (by omega), c64 (by omega) (by omega), c64 (by omega) (by omega), clamp_f _ _ _ (by omega), Option.bind_some, clamp_f _ _ _ (by omega), Option.bind_some]
  rfl
theorem rd_cons (l : List Int) (i : Nat) (h : i < l.length) : l.drop i = rd l (i : Int) :: l.drop (i + 1) := by
  rw [List.drop_eq_getElem_cons h]
  unfold rd
  rw [Int.toNat_natCast, List.getD_eq_getElem?_getD, List.getElem?_eq_getElem h]
  rfl
theorem next_loop (l : List Int) (hl : l.length ≤ 1000) (a0 a1 r : Int) : ∀ d i : Nat, i + d = l.length → ∀ g1 g2 : Int,
    Ev (fun k => air_Next.l0 k r l (l.length : Int) (i : Int) a0 a1 g1 g2) (toto (cl a0 1200) (heat (l.drop i) g1) (cl r 1200), toto (cl a1 400) (vent (l.drop i) g2) (cl r 1200))
  | 0, i, hd, g1, g2 => by
    refine Ev.step (f := fun _ => _) (fun k => ?_) (Ev.now _)
    simp only [air_Next.l0]
    rw [if_neg (by omega), end_f, List.drop_eq_nil_of_le (by omega)]
    rfl
  | d + 1, i, hd, g1, g2 => by
    have ew : wrap64 ((i : Int) + 1) = ((i + 1 : Nat) : Int) := by rw [c64 (by omega) (by omega)]; rfl
    have q1 : (i : Int) < (l.length : Int) := by omega
    have q2 : (0 : Int) ≤ (i : Int) := by omega
    have hc := rd_cons l i (by omega)
    by_cases c1 : rd l (i : Int) = 1
    · have h := next_loop l hl a0 a1 r d (i + 1) (by omega) 200 g2
      refine Ev.step (fun k => ?_) (f := fun k => air_Next.l0 k r l (l.length : Int) ((i + 1 : Nat) : Int) a0 a1 200 g2) ?_
      · simp only [air_Next.l0, if_pos q1, if_pos q2, if_pos c1, ew]
      · have e1 : heat (l.drop i) g1 = heat (l.drop (i + 1)) 200 := by
          rw [hc, c1]; unfold heat; simp
        have e2 : vent (l.drop i) g2 = vent (l.drop (i + 1)) g2 := by
          rw [hc, c1]; unfold vent; simp
        rw [e1, e2]; exact h
    · by_cases c3 : rd l (i : Int) = 3
      · have h := next_loop l hl a0 a1 r d (i + 1) (by omega) g1 100
        refine Ev.step (fun k => ?_) (f := fun k => air_Next.l0 k r l (l.length : Int) ((i + 1 : Nat) : Int) a0 a1 g1 100) ?_
        · simp only [air_Next.l0, if_pos q1, if_pos q2, if_neg c1, if_pos c3, ew]
        · have e1 : heat (l.drop i) g1 = heat (l.drop (i + 1)) g1 := by
            rw [hc, c3]; unfold heat; simp
          have e2 : vent (l.drop i) g2 = vent (l.drop (i + 1)) 100 := by
            rw [hc, c3]; unfold vent; simp
          rw [e1, e2]; exact h
      · have h := next_loop l hl a0 a1 r d (i + 1) (by omega) g1 g2
        refine Ev.step (fun k => ?_) (f := fun k => air_Next.l0 k r l (l.length : Int) ((i + 1 : Nat) : Int) a0 a1 g1 g2) ?_
        · simp only [air_Next.l0, if_pos q1, if_pos q2, if_neg c1, if_neg c3, ew, ite_self]
        · have e1 : heat (l.drop i) g1 = heat (l.drop (i + 1)) g1 := by
            rw [hc]; unfold heat; simp [Ne.symm c1]
          have e2 : vent (l.drop i) g2 = vent (l.drop (i + 1)) g2 := by
            rw [hc]; unfold vent; simp [Ne.symm c3]
          rw [e1, e2]; exact h
theorem next_ev (a0 a1 b0 b1 r : Int) (l : List Int) (hl : l.length ≤ 1000) : Ev (fun k => air_Next.f k a0 a1 b0 b1 r l) (nx a0 a1 b0 b1 r l) := by
  unfold air_Next.f
  refine Ev.bind (a := (cl b0 1200, cl b1 400)) (by rw [clamped_f]; exact Ev.now _) ?_
  exact next_loop l hl a0 a1 r l.length 0 (by omega) _ _
end Go.Proofs.YtfgeppldckagaaaDoor.Pure
