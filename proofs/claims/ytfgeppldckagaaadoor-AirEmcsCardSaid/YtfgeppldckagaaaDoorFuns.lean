/- What the curve's functions compute, and the reference's: Check, At, Reach, Rising. -/
import Derived.Test.YtfgeppldckagaaaDoorPAllx0
import Derived.Test.YtfgeppldckagaaaDoorPAllx4
import Derived.Test.YtfgeppldckagaaaDoorPAllx6
import Derived.Test.YtfgeppldckagaaaDoorPAllx7
import Derived.Test.YtfgeppldckagaaaDoorPAllx13
import Derived.Test.YtfgeppldckagaaaDoorPAllx15
import Derived.Test.YtfgeppldckagaaaDoorOpens
namespace Go.Proofs.YtfgeppldckagaaaDoor.Pure
open Go.RowKit Go.Proofs.YtfgeppldckagaaaDoor.PAll Go.Proofs.YtfgeppldckagaaaDoorW.PrintWords Go.Proofs.YtfgeppldckagaaaDoorW.PrintLast
theorem atv_len {l : List S53} (ho : PtsOk l) (x : Int) (r : Nat) (hr : r ≤ l.length) (h1 : r < l.length → x ≤ (Pt l r).f0) (h2 : 0 < r → (Pt l (r - 1)).f0 < x) :
    (l.takeWhile fun p => decide (p.f0 < x)).length = r :=
  at_search ho x r hr (fun h => by have := h1 h; unfold Pt at this; simpa using this) (fun h => by have := h2 h; unfold Pt at this; simp; omega)
/-- On a segment, its ends included. -/
theorem atv_seg {l : List S53} (ho : PtsOk l) (m : Nat) (hm : m + 1 < l.length) (x : Int) (h1 : (Pt l m).f0 ≤ x) (h2 : x ≤ (Pt l (m + 1)).f0) :
    atv l x = (Pt l m).f1 + ((Pt l (m + 1)).f1 - (Pt l m).f1) * (x - (Pt l m).f0) / ((Pt l (m + 1)).f0 - (Pt l m).f0) := by
  have hasc := ho.asc m hm
  by_cases hx : (Pt l m).f0 < x
  · have hl := atv_len ho x (m + 1) (by omega) (fun _ => h2) (fun _ => by rw [Nat.add_sub_cancel]; exact hx)
    unfold atv
    simp only [hl]
    rw [if_neg (by omega), if_neg (by omega), getD_Pt, getD_Pt, Nat.add_sub_cancel]
  · have hxe : x = (Pt l m).f0 := by omega
    have hl := atv_len ho x m (by omega) (fun _ => by omega) (fun h => by
      have := ho.asc (m - 1) (by omega)
      rw [show m - 1 + 1 = m from by omega] at this
      omega)
    rw [hxe, Int.sub_self, Int.mul_zero, Int.zero_ediv, Int.add_zero]
    rw [hxe] at hl
    unfold atv
    simp only [hl]
    by_cases h0 : m = 0
    · rw [if_pos h0, getD_Pt, h0]
    · rw [if_neg h0, if_neg (by omega), getD_Pt, getD_Pt]
      have := ho.asc (m - 1) (by omega)
      rw [show m - 1 + 1 = m from by omega] at this
      rw [Int.mul_ediv_cancel _ (by omega)]
      omega
def InR (a : Int) : Prop := -1000000 ≤ a ∧ a ≤ 1000000
instance (a : Int) : Decidable (InR a) := inferInstanceAs (Decidable (_ ∧ _))
theorem small_f (a : Int) : sawmillref08_small.f a = some (decide (InR a)) := by
  unfold sawmillref08_small.f InR
  by_cases h : a ≥ -1000000
  · rw [if_pos h]; simp [h]
  · rw [if_neg h]; simp [h]
theorem inR_f (a : Int) : curve_inRange.f a = some (decide (InR a)) := inRange_f a
def Good (l : List S53) (j : Nat) : Prop := (InR (Pt l j).f0 ∧ InR (Pt l j).f1) ∧ (0 < j → (Pt l (j - 1)).f0 < (Pt l j).f0)
theorem chk_loop (l : List S53) (hl : l.length ≤ 16) : ∀ d i : Nat, i + d = l.length → ∃ v, Ev (fun k => curve_Check.l0 k l l (l.length : Int) (i : Int)) v ∧ Ev (fun k => sawmillref08_Check.l0 k l (i : Int)) v ∧ ((∀ j, i ≤ j → j < l.length → Good l j) → v = 0)
  | 0, i, hd => by
    refine ⟨0, Ev.step (f := fun _ => some 0) (fun k => ?_) (Ev.now _), Ev.step (f := fun _ => some 0) (fun k => ?_) (Ev.now _), fun _ => rfl⟩
    · simp only [curve_Check.l0]; rw [if_neg (by omega)]
    · simp only [sawmillref08_Check.l0]; rw [if_neg (by omega)]
  | d + 1, i, hd => by
    obtain ⟨v, h1, h2, h3⟩ := chk_loop l hl d (i + 1) (by omega)
    have ew : wrap64 ((i : Int) + 1) = ((i + 1 : Nat) : Int) := by rw [c64 (by omega) (by omega)]; rfl
    have hp : rd_T53 l (i : Int) = Pt l i := rfl
    have q1 : (i : Int) < (l.length : Int) := by omega
    have q2 : (0 : Int) ≤ (i : Int) := by omega
    by_cases c0 : InR (Pt l i).f0
    · by_cases c1 : InR (Pt l i).f1
      · by_cases hi : 0 < i
        · have ew2 : wrap64 ((i : Int) - 1) = ((i - 1 : Nat) : Int) := by rw [c64 (by omega) (by omega)]; omega
          have hp2 : rd_T53 l ((i - 1 : Nat) : Int) = Pt l (i - 1) := rfl
          have q3 : (i : Int) > 0 := by omega
          have q4 : (0 : Int) ≤ ((i - 1 : Nat) : Int) := by omega
          have q5 : ((i - 1 : Nat) : Int) < (l.length : Int) := by omega
          by_cases ha : (Pt l i).f0 ≤ (Pt l (i - 1)).f0
          · refine ⟨11, Ev.step (fun k => rfl) (Ev.step (f := fun _ => some 11) (fun k => ?_) (Ev.now _)), Ev.step (fun k => rfl) (Ev.step (f := fun _ => some 11) (fun k => ?_) (Ev.now _)), fun h => absurd ((h i (Nat.le_refl _) (by omega)).2 hi) (by omega)⟩
            · simp only [curve_Check.l0, if_pos q1, if_pos q2, hp, inR_f, Option.bind_some, c0, c1, decide_true, if_true, curve_Check.j1, Bool.not_true, Bool.false_eq_true, if_false, if_pos q3, ew2, if_pos q4, if_pos q5, hp2, if_pos ha]
            · simp only [sawmillref08_Check.l0, if_pos q1, if_pos q2, hp, small_f, Option.bind_some, c0, c1, decide_true, if_true, sawmillref08_Check.j1, Bool.not_true, Bool.false_eq_true, if_false, if_pos q3, ew2, if_pos q4, if_pos q5, hp2, if_pos ha]
          · refine ⟨v, Ev.step (fun k => rfl) (Ev.step (fun k => ?_) h1), Ev.step (fun k => rfl) (Ev.step (fun k => ?_) h2), fun h => h3 fun j hj => h j (by omega)⟩
            · simp only [curve_Check.l0, if_pos q1, if_pos q2, hp, inR_f, Option.bind_some, c0, c1, decide_true, if_true, curve_Check.j1, Bool.not_true, Bool.false_eq_true, if_false, if_pos q3, ew2, if_pos q4, if_pos q5, hp2, if_neg ha, ew]
            · simp only [sawmillref08_Check.l0, if_pos q1, if_pos q2, hp, small_f, Option.bind_some, c0, c1, decide_true, if_true, sawmillref08_Check.j1, Bool.not_true, Bool.false_eq_true, if_false, if_pos q3, ew2, if_pos q4, if_pos q5, hp2, if_neg ha, ew]
        · have q3 : ¬ (i : Int) > 0 := by omega
          refine ⟨v, Ev.step (fun k => rfl) (Ev.step (fun k => ?_) h1), Ev.step (fun k => rfl) (Ev.step (fun k => ?_) h2), fun h => h3 fun j hj => h j (by omega)⟩
          · simp only [curve_Check.l0, if_pos q1, if_pos q2, hp, inR_f, Option.bind_some, c0, c1, decide_true, if_true, curve_Check.j1, Bool.not_true, Bool.false_eq_true, if_false, if_neg q3, ew]
          · simp only [sawmillref08_Check.l0, if_pos q1, if_pos q2, hp, small_f, Option.bind_some, c0, c1, decide_true, if_true, sawmillref08_Check.j1, Bool.not_true, Bool.false_eq_true, if_false, if_neg q3, ew]
      · refine ⟨9, Ev.step (fun k => rfl) (Ev.step (f := fun _ => some 9) (fun k => ?_) (Ev.now _)), Ev.step (fun k => rfl) (Ev.step (f := fun _ => some 9) (fun k => ?_) (Ev.now _)), fun h => absurd (h i (Nat.le_refl _) (by omega)).1.2 c1⟩
        · simp only [curve_Check.l0, if_pos q1, if_pos q2, hp, inR_f, Option.bind_some, c0, c1, decide_true, decide_false, if_true, curve_Check.j1, Bool.not_false]
        · simp only [sawmillref08_Check.l0, if_pos q1, if_pos q2, hp, small_f, Option.bind_some, c0, c1, decide_true, decide_false, if_true, sawmillref08_Check.j1, Bool.not_false]
    · refine ⟨9, Ev.step (fun k => rfl) (Ev.step (f := fun _ => some 9) (fun k => ?_) (Ev.now _)), Ev.step (fun k => rfl) (Ev.step (f := fun _ => some 9) (fun k => ?_) (Ev.now _)), fun h => absurd (h i (Nat.le_refl _) (by omega)).1.1 c0⟩
      · simp only [curve_Check.l0, if_pos q1, if_pos q2, hp, inR_f, Option.bind_some, c0, decide_false, Bool.false_eq_true, if_false, if_true, curve_Check.j1]
      · simp only [sawmillref08_Check.l0, if_pos q1, if_pos q2, hp, small_f, Option.bind_some, c0, decide_false, Bool.false_eq_true, if_false, if_true, sawmillref08_Check.j1]
theorem chk_ev (l : List S53) : ∃ v, Ev (fun k => curve_Check.f k l) v ∧ Ev (fun k => sawmillref08_Check.f k l) v ∧ (v = 0 ↔ PtsOk l) := by
  by_cases h0 : l.length = 0
  · refine ⟨3, ?_, ?_, fun h => absurd h (by decide), fun h => absurd h.pos (by omega)⟩
    · unfold curve_Check.f; simp only [if_pos (show (l.length : Int) < 1 by omega)]; exact Ev.now _
    · unfold sawmillref08_Check.f; simp only [if_pos (show (l.length : Int) = 0 by omega)]; exact Ev.now _
  · by_cases h1 : l.length > 16
    · refine ⟨4, ?_, ?_, fun h => absurd h (by decide), fun h => absurd h.len (by omega)⟩
      · unfold curve_Check.f; simp only [if_neg (show ¬ (l.length : Int) < 1 by omega), if_pos (show (l.length : Int) > 16 by omega)]; exact Ev.now _
      · unfold sawmillref08_Check.f; simp only [if_neg (show ¬ (l.length : Int) = 0 by omega), if_pos (show (l.length : Int) > 16 by omega)]; exact Ev.now _
    · obtain ⟨v, e1, e2, e3⟩ := chk_loop l (by omega) l.length 0 (by omega)
      have e1' : Ev (fun k => curve_Check.f k l) v := by unfold curve_Check.f; simp only [if_neg (show ¬ (l.length : Int) < 1 by omega), if_neg (show ¬ (l.length : Int) > 16 by omega)]; exact e1
      refine ⟨v, e1', ?_, fun h => ?_, fun h => e3 fun j _ hj => ⟨h.rng j hj, fun h0 => ?_⟩⟩
      · unfold sawmillref08_Check.f; simp only [if_neg (show ¬ (l.length : Int) = 0 by omega), if_neg (show ¬ (l.length : Int) > 16 by omega)]; exact e2
      · obtain ⟨k, hk⟩ := e1'.rounds
        exact check_ok k l (by rw [← h]; exact hk)
      · have := h.asc (j - 1) (by omega)
        rwa [show j - 1 + 1 = j from by omega] at this
theorem at_ev (l : List S53) (x : Int) {v : Int} (h : Ev (fun k => curve_Check.f k l) v) : Ev (fun k => curve_At.f k l x) (if v = 0 then atv l x else 0) := by
  unfold curve_At.f
  exact Ev.bind h (Ev.now _)
theorem Pt_inR {l : List S53} (ho : PtsOk l) (i : Nat) (h : i < l.length) : InR (Pt l i).f0 ∧ InR (Pt l i).f1 := ho.rng i h
end Go.Proofs.YtfgeppldckagaaaDoor.Pure
