/- What the curve's functions compute, and the reference's: Check, At, Reach, Rising. -/
import Derived.Test.YtfgeppldckagaaaPAllx0
import Derived.Test.YtfgeppldckagaaaPAllx1
import Derived.Test.YtfgeppldckagaaaPAllx4
import Derived.Test.YtfgeppldckagaaaPAllx6
import Derived.Test.YtfgeppldckagaaaPAllx11
import Derived.Test.YtfgeppldckagaaaPAllx12
import Derived.Test.YtfgeppldckagaaaPAllx15
import Derived.Test.YtfgeppldckagaaaPAllx16
import Derived.Test.YtfgeppldckagaaaPAllx18
import Derived.Test.YtfgeppldckagaaaPAllx20
namespace Go.Proofs.Ytfgeppldckagaaa.Pure
open Go.RowKit Go.Proofs.Ytfgeppldckagaaa.PAll Go.Proofs.YtfgeppldckagaaaW.PrintWords Go.Proofs.YtfgeppldckagaaaW.PrintLast
def InR (a : Int) : Prop := -1000000 ≤ a ∧ a ≤ 1000000
instance (a : Int) : Decidable (InR a) := inferInstanceAs (Decidable (_ ∧ _))
theorem small_f (a : Int) : sawmillref08_small.f a = some (decide (InR a)) := by
  unfold sawmillref08_small.f InR
  by_cases h : a ≥ -1000000
  · rw [if_pos h]; simp [h]
  · rw [if_neg h]; simp [h]
theorem inR_f (a : Int) : curve_inRange.f a = some (decide (InR a)) := inRange_f a
def Good (l : List S36) (j : Nat) : Prop := (InR (Pt l j).f0 ∧ InR (Pt l j).f1) ∧ (0 < j → (Pt l (j - 1)).f0 < (Pt l j).f0)
theorem chk_loop (l : List S36) (hl : l.length ≤ 16) : ∀ d i : Nat, i + d = l.length → ∃ v, Ev (fun k => curve_Check.l0 k l l (l.length : Int) (i : Int)) v ∧ Ev (fun k => sawmillref08_Check.l0 k l (i : Int)) v ∧ ((∀ j, i ≤ j → j < l.length → Good l j) → v = 0)
  | 0, i, hd => by
    refine ⟨0, Ev.step (f := fun _ => some 0) (fun k => ?_) (Ev.now _), Ev.step (f := fun _ => some 0) (fun k => ?_) (Ev.now _), fun _ => rfl⟩
    · simp only [curve_Check.l0]; rw [if_neg (by omega)]
    · simp only [sawmillref08_Check.l0]; rw [if_neg (by omega)]
  | d + 1, i, hd => by
    obtain ⟨v, h1, h2, h3⟩ := chk_loop l hl d (i + 1) (by omega)
    have ew : wrap64 ((i : Int) + 1) = ((i + 1 : Nat) : Int) := by rw [c64 (by omega) (by omega)]; rfl
    have hp : rd_T36 l (i : Int) = Pt l i := rfl
    have q1 : (i : Int) < (l.length : Int) := by omega
    have q2 : (0 : Int) ≤ (i : Int) := by omega
    by_cases c0 : InR (Pt l i).f0
    · by_cases c1 : InR (Pt l i).f1
      · by_cases hi : 0 < i
        · have ew2 : wrap64 ((i : Int) - 1) = ((i - 1 : Nat) : Int) := by rw [c64 (by omega) (by omega)]; omega
          have hp2 : rd_T36 l ((i - 1 : Nat) : Int) = Pt l (i - 1) := rfl
          have q3 : (i : Int) > 0 := by omega
          have q4 : (0 : Int) ≤ ((i - 1 : Nat) : Int) := by omega
          have q5 : ((i - 1 : Nat) : Int) < (l.length : Int) := by omega
          by_cases ha : (Pt l i).f0 ≤ (Pt l (i - 1)).f0
          · refine ⟨11, Ev.step (fun k => rfl) (Ev.step (f := fun _ => some 11) (fun k => ?_) (Ev.now _)), Ev.step (fun k => rfl) (Ev.step (f := fun _ => some 11) (fun k => ?_) (Ev.now _)), fun h => absurd ((h i (Nat.le_refl _) (by omega)).2 hi) (by omega)⟩
            · simp only [curve_Check.l0, if_pos q1, if_pos q2, hp, inR_f, Option.bind_some, c0, c1, decide_true, if_true, curve_Check.j1, Bool.not_true, Bool.false_eq_true, if_false, if_pos q3, ew2, if_pos q4, if_pos q5, hp2, if_pos ha]
            · simp only [sawmillref08_Check.l0, if_pos q1, if_pos q2, hp, small_f, Option.bind_some, c0, c1, decide_true, if_true, sawmillref08_Check.j1, Bool.not_true, Bool.false_eq_true, if_false, if_pos q3, ew2, if_pos q4, if_pos q5, hp2, if_pos ha]
          · refine ⟨v, Ev.step (fun k => rfl) (Ev.step (fun k => ?_) h1), Ev.step (fun k => rfl) (Ev.step (fun k => ?_) h2), fun h => h3 fun j hj => h j (by omega)⟩
            · simp only [curve_Check.l0, if_pos q1, if_pos q2, hp, inR_f, Option.bind_some, c0, c1, decide_true, if_true, curve_Check.j1, Bool.not_true, Bool.false_eq_true, if_false, if_pos q3, ew2, if_pos q4, if_pos q5, hp2, if_neg ha, ew]
            · simp only [sawmillref08_Check.l0, if_pos q1, if_pos q2, hp, small_f, Option.bind_some, c0, c1, decide_true, if_true, sawmillref08_Check.j1, Bool.not_true, Bool.false_eq_true, if_false, if_pos q3, ew2, if_pos q4, if_pos q5, hp2, if_neg ha, ew]
        · have q3 : ¬ (i : Int) > 0 := by omega
          refine ⟨v, Ev.step (fun k => rfl) (Ev.step (fun k => ?_) h1), Ev.step (fun k => rfl) (Ev.step (fun k => ?_) h2), fun h => h3 fun j hj => h j (by omega)⟩
          · simp only [curve_Check.l0, if_pos q1, if_pos q2, hp, inR_f, Option.bind_some, c0, c1, decide_true, if_true, curve_Check.j1, Bool.not_true, Bool.false_eq_true, if_false, if_neg q3, ew]
          · simp only [sawmillref08_Check.l0, if_pos q1, if_pos q2, hp, small_f, Option.bind_some, c0, c1, decide_true, if_true, sawmillref08_Check.j1, Bool.not_true, Bool.false_eq_true, if_false, if_neg q3, ew]
      · refine ⟨9, Ev.step (fun k => rfl) (Ev.step (f := fun _ => some 9) (fun k => ?_) (Ev.now _)), Ev.step (fun k => rfl) (Ev.step (f := fun _ => some 9) (fun k => ?_) (Ev.now _)), fun h => absurd (h i (Nat.le_refl _) (by omega)).1.2 c1⟩
        · simp only [curve_Check.l0, if_pos q1, if_pos q2, hp, inR_f, Option.bind_some, c0, c1, decide_true, decide_false, if_true, curve_Check.j1, Bool.not_false]
        · simp only [sawmillref08_Check.l0, if_pos q1, if_pos q2, hp, small_f, Option.bind_some, c0, c1, decide_true, decide_false, if_true, sawmillref08_Check.j1, Bool.not_false]
    · refine ⟨9, Ev.step (fun k => rfl) (Ev.step (f := fun _ => some 9) (fun k => ?_) (Ev.now _)), Ev.step (fun k => rfl) (Ev.step (f := fun _ => some 9) (fun k => ?_) (Ev.now _)), fun h => absurd (h i (Nat.le_refl _) (by omega)).1.1 c0⟩
      · simp only [curve_Check.l0, if_pos q1, if_pos q2, hp, inR_f, Option.bind_some, c0, decide_false, Bool.false_eq_true, if_false, if_true, curve_Check.j1]
      · simp only [sawmillref08_Check.l0, if_pos q1, if_pos q2, hp, small_f, Option.bind_some, c0, decide_false, Bool.false_eq_true, if_false, if_true, sawmillref08_Check.j1]
theorem chk_ev (l : List S36) : ∃ v, Ev (fun k => curve_Check.f k l) v ∧ Ev (fun k => sawmillref08_Check.f k l) v ∧ (v = 0 ↔ PtsOk l) := by
  by_cases h0 : l.length = 0
  · refine ⟨3, ?_, ?_, fun h => absurd h (by decide), fun h => absurd h.pos (by omega)⟩
    · unfold curve_Check.f; simp only [if_pos (show (l.length : Int) < 1 by omega)]; exact Ev.now _
    · unfold sawmillref08_Check.f; simp only [if_pos (show (l.length : Int) = 0 by omega)]; exact Ev.now _
  · by_cases h1 : l.length > 16
    · refine ⟨4, ?_, ?_, fun h => absurd h (by decide), fun h => absurd h.len (by omega)⟩
      · unfold curve_Check.f; simp only [if_neg (show ¬ (l.length : Int) < 1 by omega), if_pos (show (l.length : Int) > 16 by omega)]; exact Ev.now _
      · unfold sawmillref08_Check.f; simp only [if_neg (show ¬ (l.length : Int) = 0 by omega), if_pos (show (l.length : Int) > 16 by omega)]; exact Ev.now _
    · obtain ⟨v, e1, e2, e3⟩ := chk_loop l (by omega) l.length 0 (by omega)
      have e1' : Ev (fun k => curve_Check.f k l) v := by unfold curve_Check.f; simp only [if_neg (show ¬ (l.length : Int) < 1 by omega), if_neg (show ¬ (l.length : Int) > 16 by omega)]; exact e1
      refine ⟨v, e1', ?_, fun h => ?_, fun h => e3 fun j _ hj => ⟨h.rng j hj, fun h0 => ?_⟩⟩
      · unfold sawmillref08_Check.f; simp only [if_neg (show ¬ (l.length : Int) = 0 by omega), if_neg (show ¬ (l.length : Int) > 16 by omega)]; exact e2
      · obtain ⟨k, hk⟩ := e1'.rounds
        exact check_ok k l (by rw [← h]; exact hk)
      · have := h.asc (j - 1) (by omega)
        rwa [show j - 1 + 1 = j from by omega] at this
theorem at_ev (l : List S36) (x : Int) {v : Int} (h : Ev (fun k => curve_Check.f k l) v) : Ev (fun k => curve_At.f k l x) (if v = 0 then atv l x else 0) := by
  unfold curve_At.f
  exact Ev.bind h (Ev.now _)
theorem reach_ev (l : List S36) (y : Int) {v : Int} (h : Ev (fun k => curve_Check.f k l) v) : Ev (fun k => curve_Reach.f k l y) (if v = 0 then reachv l y else (0, false)) := by
  unfold curve_Reach.f
  exact Ev.bind h (Ev.now _)
theorem rising_ev (l : List S36) {v : Int} (h : Ev (fun k => curve_Check.f k l) v) : Ev (fun k => curve_Rising.f k l) (decide (v = 0) && risesY l) := by
  unfold curve_Rising.f
  exact Ev.bind h (Ev.now _)
/-! ### the reference's numbers -/
theorem floor_f (a b : Int) (hb0 : 0 < b) (hb1 : b ≤ 4000000) (ha0 : -40000000000000 ≤ a) (ha1 : a ≤ 40000000000000) : sawmillref08_floor.f a b = some (a / b) := by
  unfold sawmillref08_floor.f
  rw [if_neg (by omega)]
  have hn := Int.natAbs_tdiv a b
  have e0 := Int.mul_tdiv_add_tmod a b
  have hq : (Int.tdiv a b).natAbs ≤ a.natAbs := by rw [hn]; exact Nat.div_le_self _ _
  generalize hqq : Int.tdiv a b = q at *
  have hq0 : -40000000000000 ≤ q := by omega
  have hq1 : q ≤ 40000000000000 := by omega
  rw [c64 (x := q) (by omega) (by omega)]
  have hr1 : (Int.tmod a b).natAbs < b.natAbs := by rw [Int.natAbs_tmod]; exact Nat.mod_lt _ (by omega)
  have hc : q * b = b * q := Int.mul_comm _ _
  rw [hc]
  have hbq : b * q = a - Int.tmod a b := by omega
  have hb2 : -80000000000000 ≤ b * q ∧ b * q ≤ 80000000000000 := by omega
  rw [c64 (x := b * q) (by omega) (by omega), c64 (x := q - 1) (by omega) (by omega)]
  by_cases h : b * q > a
  · rw [if_pos h]
    congr 1
    have : a / b = q - 1 := by
      have e1 : a = (b + (a - b * q)) + b * (q - 1) := by rw [Int.mul_sub, Int.mul_one]; omega
      rw [e1, Int.add_mul_ediv_left _ _ (by omega), Int.ediv_eq_zero_of_lt (by omega) (by omega)]; omega
    omega
  · rw [if_neg h]
    congr 1
    have e1 : a = (a - b * q) + b * q := by omega
    have : a / b = q := by
      rw [e1, Int.add_mul_ediv_left _ _ (by omega), Int.ediv_eq_zero_of_lt (by omega) (by omega)]; omega
    omega
theorem between_f (s a t b n : Int) (hs : InR s) (ha : InR a) (ht : InR t) (hb : InR b) (h1 : s < t) (h2 : s ≤ n) (h3 : n ≤ t) : sawmillref08_Between.f s a t b n = some (a + (b - a) * (n - s) / (t - s)) := by
  unfold InR at *
  unfold sawmillref08_Between.f
  rw [c64 (x := b - a) (by omega) (by omega), c64 (x := n - s) (by omega) (by omega), c64 (x := t - s) (by omega) (by omega)]
  obtain ⟨m1, m2⟩ := mul_bd (a := b - a) (n := n - s) (by omega) (by omega) (by omega) (by omega)
  rw [c64 (x := (b - a) * (n - s)) (by omega) (by omega), floor_f _ _ (by omega) (by omega) (by omega) (by omega), Option.bind_some]
  obtain ⟨j1, j2⟩ := between_bd (d := b - a) (n := n - s) (b := t - s) (by omega) (by omega) (by omega)
  rw [c64 (by omega) (by omega)]
theorem Pt_inR {l : List S36} (ho : PtsOk l) (i : Nat) (h : i < l.length) : InR (Pt l i).f0 ∧ InR (Pt l i).f1 := ho.rng i h
theorem refat_loop {l : List S36} (ho : PtsOk l) (x : Int) : ∀ d i : Nat, i + d = l.length → 0 < i → (Pt l (i - 1)).f0 < x → Ev (fun k => sawmillref08_At.l0 k l x (i : Int)) (atv l x)
  | 0, i, hd, hi, hx => by
    have hl := ho.len
    refine Ev.step (f := fun _ => some (atv l x)) (fun k => ?_) (Ev.now _)
    have ew2 : wrap64 ((l.length : Int) - 1) = ((l.length - 1 : Nat) : Int) := by rw [c64 (by omega) (by omega)]; omega
    simp only [sawmillref08_At.l0]
    rw [if_neg (by omega), ew2, if_pos (by omega), if_pos (by omega)]
    have := atv_len ho x l.length (Nat.le_refl _) (fun h => absurd h (Nat.lt_irrefl _)) (fun _ => by rwa [show l.length = i from by omega])
    unfold atv
    simp only [this]
    rw [if_neg (by omega), if_pos trivial, getD_Pt]; rfl
  | d + 1, i, hd, hi, hx => by
    have hl := ho.len
    have ew2 : wrap64 ((i : Int) - 1) = ((i - 1 : Nat) : Int) := by rw [c64 (by omega) (by omega)]; omega
    have ew : wrap64 ((i : Int) + 1) = ((i + 1 : Nat) : Int) := by rw [c64 (by omega) (by omega)]; rfl
    have hp : rd_T36 l (i : Int) = Pt l i := rfl
    have hp2 : rd_T36 l ((i - 1 : Nat) : Int) = Pt l (i - 1) := rfl
    have q1 : (i : Int) < (l.length : Int) := by omega
    have q2 : (0 : Int) ≤ (i : Int) := by omega
    have q4 : (0 : Int) ≤ ((i - 1 : Nat) : Int) := by omega
    have q5 : ((i - 1 : Nat) : Int) < (l.length : Int) := by omega
    have hasc := ho.asc (i - 1) (by omega)
    rw [show i - 1 + 1 = i from by omega] at hasc
    by_cases c : x ≤ (Pt l i).f0
    · refine Ev.step (f := fun _ => some (atv l x)) (fun k => ?_) (Ev.now _)
      have h1 := Pt_inR ho (i - 1) (by omega)
      have h2 := Pt_inR ho i (by omega)
      simp only [sawmillref08_At.l0, if_pos q1, if_pos q2, hp, if_pos c, ew2, if_pos q4, if_pos q5, hp2, between_f _ _ _ _ x h1.1 h1.2 h2.1 h2.2 hasc (by omega) c, Option.bind_some]
      rw [atv_seg ho (i - 1) (by omega) x (by omega) (by rw [show i - 1 + 1 = i from by omega]; exact c), show i - 1 + 1 = i from by omega]
    · refine Ev.step (fun k => ?_) (refat_loop ho x d (i + 1) (by omega) (by omega) (by rw [Nat.add_sub_cancel]; omega))
      simp only [sawmillref08_At.l0, if_pos q1, if_pos q2, hp, if_neg c, ew]
theorem refat_ev (l : List S36) (x : Int) {v : Int} (h : Ev (fun k => sawmillref08_Check.f k l) v) (hv : v = 0 ↔ PtsOk l) : Ev (fun k => sawmillref08_At.f k l x) (if v = 0 then atv l x else 0) := by
  unfold sawmillref08_At.f
  refine Ev.bind h ?_
  by_cases h0 : v = 0
  · have ho := hv.1 h0
    have hp : rd_T36 l 0 = Pt l 0 := rfl
    simp only [if_pos h0, if_pos (show (0 : Int) < (l.length : Int) by have := ho.pos; omega), hp]
    by_cases c : x ≤ (Pt l 0).f0
    · simp only [if_pos c]
      have := atv_len ho x 0 (Nat.zero_le _) (fun _ => c) (fun h => absurd h (Nat.lt_irrefl _))
      have e : atv l x = (Pt l 0).f1 := by unfold atv; simp only [this, if_true]; rw [getD_Pt]
      rw [e]; exact Ev.now _
    · simp only [if_neg c]
      exact refat_loop ho x (l.length - 1) 1 (by have := ho.pos; omega) (by omega) (by simpa using c)
  · simp only [if_neg h0]
    exact Ev.now _
theorem refreach_loop {l : List S36} (ho : PtsOk l) (y : Int) : ∀ d i : Nat, i + d = l.length → 0 < i → (∀ j, j < i → (Pt l j).f1 < y) → Ev (fun k => sawmillref08_Reach.l0 k l y (i : Int)) (reachv l y)
  | 0, i, hd, hi, hx => by
    have hl := ho.len
    refine Ev.step (f := fun _ => some (reachv l y)) (fun k => ?_) (Ev.now _)
    simp only [sawmillref08_Reach.l0]
    rw [if_neg (by omega)]
    have := reach_len (l := l) y l.length (Nat.le_refl _) (fun j hj => hx j (by omega)) (fun h => absurd h (Nat.lt_irrefl _))
    unfold reachv
    simp only [this, if_true]
  | d + 1, i, hd, hi, hx => by
    have hl := ho.len
    have ew2 : wrap64 ((i : Int) - 1) = ((i - 1 : Nat) : Int) := by rw [c64 (by omega) (by omega)]; omega
    have ew : wrap64 ((i : Int) + 1) = ((i + 1 : Nat) : Int) := by rw [c64 (by omega) (by omega)]; rfl
    have hp : rd_T36 l (i : Int) = Pt l i := rfl
    have hp2 : rd_T36 l ((i - 1 : Nat) : Int) = Pt l (i - 1) := rfl
    have q1 : (i : Int) < (l.length : Int) := by omega
    have q2 : (0 : Int) ≤ (i : Int) := by omega
    have q4 : (0 : Int) ≤ ((i - 1 : Nat) : Int) := by omega
    have q5 : ((i - 1 : Nat) : Int) < (l.length : Int) := by omega
    have hasc := ho.asc (i - 1) (by omega)
    rw [show i - 1 + 1 = i from by omega] at hasc
    have hx1 := hx (i - 1) (by omega)
    by_cases c : (Pt l i).f1 ≥ y
    · refine Ev.step (f := fun _ => some (reachv l y)) (fun k => ?_) (Ev.now _)
      obtain ⟨h1, h2⟩ := Pt_inR ho (i - 1) (by omega)
      obtain ⟨h3, h4⟩ := Pt_inR ho i (by omega)
      unfold InR at h1 h2 h3 h4
      have hlen := reach_len (l := l) y i (by omega) hx (fun _ => c)
      have e : reachv l y = ((Pt l (i - 1)).f0 - (-((y - (Pt l (i - 1)).f1) * ((Pt l i).f0 - (Pt l (i - 1)).f0))) / ((Pt l i).f1 - (Pt l (i - 1)).f1), true) := by
        unfold reachv
        simp only [hlen]
        rw [if_neg (by omega), if_neg (by omega), getD_Pt, getD_Pt]
      rw [e]
      have e3 : -(y - (Pt l (i - 1)).f1) * ((Pt l i).f0 - (Pt l (i - 1)).f0) = -((y - (Pt l (i - 1)).f1) * ((Pt l i).f0 - (Pt l (i - 1)).f0)) := Int.neg_mul _ _
      obtain ⟨m1, m2⟩ := mul_bd (a := y - (Pt l (i - 1)).f1) (n := (Pt l i).f0 - (Pt l (i - 1)).f0) (by omega) (by omega) (by omega) (by omega)
      simp only [sawmillref08_Reach.l0, if_pos q1, if_pos q2, hp, ew2, if_pos q4, if_pos q5, hp2, if_pos c]
      rw [c64 (x := y - (Pt l (i - 1)).f1) (by omega) (by omega), c64 (x := -(y - (Pt l (i - 1)).f1)) (by omega) (by omega), c64 (x := (Pt l i).f0 - (Pt l (i - 1)).f0) (by omega) (by omega), c64 (x := (Pt l i).f1 - (Pt l (i - 1)).f1) (by omega) (by omega), e3]
      generalize hP : (y - (Pt l (i - 1)).f1) * ((Pt l i).f0 - (Pt l (i - 1)).f0) = p at *
      rw [c64 (x := -p) (by omega) (by omega), floor_f _ _ (by omega) (by omega) (by omega) (by omega), Option.bind_some]
      have hdb : -4000000000000 ≤ -p / ((Pt l i).f1 - (Pt l (i - 1)).f1) ∧ -p / ((Pt l i).f1 - (Pt l (i - 1)).f1) ≤ 4000000000000 := by
        have e1 := Int.mul_ediv_add_emod (-p) ((Pt l i).f1 - (Pt l (i - 1)).f1)
        constructor
        · exact (Int.le_ediv_iff_mul_le (by omega)).2 (by
            have : (-4000000000000 : Int) * ((Pt l i).f1 - (Pt l (i - 1)).f1) ≤ -4000000000000 * 1 := Int.mul_le_mul_of_nonpos_left (by omega) (by omega)
            omega)
        · by_cases hp0 : 0 ≤ -p
          · have := Int.ediv_le_self ((Pt l i).f1 - (Pt l (i - 1)).f1) hp0; omega
          · have := Int.ediv_neg_of_neg_of_pos (a := -p) (b := (Pt l i).f1 - (Pt l (i - 1)).f1) (by omega) (by omega); omega
      rw [c64 (by omega) (by omega)]
    · refine Ev.step (fun k => ?_) (refreach_loop ho y d (i + 1) (by omega) (by omega) (fun j hj => by
        by_cases e : j = i
        · rw [e]; omega
        · exact hx j (by omega)))
      simp only [sawmillref08_Reach.l0, if_pos q1, if_pos q2, hp, ew2, if_pos q4, if_pos q5, if_neg c, ew]
theorem refreach_ev (l : List S36) (y : Int) {v : Int} (h : Ev (fun k => sawmillref08_Check.f k l) v) (hv : v = 0 ↔ PtsOk l) : Ev (fun k => sawmillref08_Reach.f k l y) (if v = 0 then reachv l y else (0, false)) := by
  unfold sawmillref08_Reach.f
  refine Ev.bind h ?_
  by_cases h0 : v = 0
  · have ho := hv.1 h0
    have hp : rd_T36 l 0 = Pt l 0 := rfl
    simp only [if_pos h0, if_pos (show (0 : Int) < (l.length : Int) by have := ho.pos; omega), hp]
    by_cases c : (Pt l 0).f1 ≥ y
    · simp only [if_pos c]
      have hl := reach_len (l := l) y 0 (Nat.zero_le _) (fun j h => absurd h (Nat.not_lt_zero _)) (fun _ => c)
      have e : reachv l y = ((Pt l 0).f0, true) := by
        unfold reachv; simp only [hl]; rw [if_neg (by have := ho.pos; omega), if_pos trivial, getD_Pt]
      rw [e]; exact Ev.now _
    · simp only [if_neg c]
      exact refreach_loop ho y (l.length - 1) 1 (by have := ho.pos; omega) (by omega) (fun j hj => by rw [show j = 0 from by omega]; omega)
  · simp only [if_neg h0]
    exact Ev.now _
theorem refrising_loop (l : List S36) (hl : l.length ≤ 100) {v : Int} (h : Ev (fun k => sawmillref08_Check.f k l) v) : ∀ d i : Nat, i + d = l.length → 0 < i → (∀ j, j + 1 < i → (Pt l j).f1 ≤ (Pt l (j + 1)).f1) → Ev (fun k => sawmillref08_Rising.l0 k l (i : Int)) (decide (v = 0) && risesY l)
  | 0, i, hd, hi, hx => by
    have hr : risesY l = true := (risesY_iff l).2 fun j hj => hx j (by omega)
    refine Ev.step (f := fun k => (sawmillref08_Check.f k l).bind fun t => some (t == 0)) (fun k => ?_) (Ev.bind h ?_)
    · simp only [sawmillref08_Rising.l0]; rw [if_neg (by omega)]
    · rw [hr, Bool.and_true, show (v == 0) = decide (v = 0) from by rfl]
      exact Ev.now _
  | d + 1, i, hd, hi, hx => by
    have ew2 : wrap64 ((i : Int) - 1) = ((i - 1 : Nat) : Int) := by rw [c64 (by omega) (by omega)]; omega
    have ew : wrap64 ((i : Int) + 1) = ((i + 1 : Nat) : Int) := by rw [c64 (by omega) (by omega)]; rfl
    have hp : rd_T36 l (i : Int) = Pt l i := rfl
    have hp2 : rd_T36 l ((i - 1 : Nat) : Int) = Pt l (i - 1) := rfl
    have q1 : (i : Int) < (l.length : Int) := by omega
    have q2 : (0 : Int) ≤ (i : Int) := by omega
    have q4 : (0 : Int) ≤ ((i - 1 : Nat) : Int) := by omega
    have q5 : ((i - 1 : Nat) : Int) < (l.length : Int) := by omega
    by_cases c : (Pt l i).f1 < (Pt l (i - 1)).f1
    · have hr : risesY l = false := by
        cases hb : risesY l with
        | false => rfl
        | true =>
          have := (risesY_iff l).1 hb (i - 1) (by omega)
          rw [show i - 1 + 1 = i from by omega] at this
          omega
      refine Ev.step (f := fun _ => some (decide (v = 0) && risesY l)) (fun k => ?_) (Ev.now _)
      simp only [sawmillref08_Rising.l0, if_pos q1, if_pos q2, hp, ew2, if_pos q4, if_pos q5, hp2, if_pos c, hr, Bool.and_false]
    · refine Ev.step (fun k => ?_) (refrising_loop l hl h d (i + 1) (by omega) (by omega) (fun j hj => by
        by_cases e : j + 1 = i
        · rw [e, show j = i - 1 from by omega]; omega
        · exact hx j (by omega)))
      simp only [sawmillref08_Rising.l0, if_pos q1, if_pos q2, hp, ew2, if_pos q4, if_pos q5, hp2, if_neg c, ew]
theorem refrising_ev (l : List S36) (hl : l.length ≤ 100) {v : Int} (h : Ev (fun k => sawmillref08_Check.f k l) v) : Ev (fun k => sawmillref08_Rising.f k l) (decide (v = 0) && risesY l) := by
  unfold sawmillref08_Rising.f
  by_cases h0 : l.length = 0
  · have hr : risesY l = true := (risesY_iff l).2 fun j hj => absurd hj (by omega)
    refine Ev.step (f := fun k => (sawmillref08_Check.f k l).bind fun t => some (t == 0)) (fun k => ?_) (Ev.bind h ?_)
    · simp only [sawmillref08_Rising.l0]; rw [if_neg (by omega)]
    · rw [hr, Bool.and_true, show (v == 0) = decide (v = 0) from by rfl]
      exact Ev.now _
  · exact refrising_loop l hl h (l.length - 1) 1 (by omega) (by omega) (fun j hj => absurd hj (by omega))
end Go.Proofs.Ytfgeppldckagaaa.Pure
