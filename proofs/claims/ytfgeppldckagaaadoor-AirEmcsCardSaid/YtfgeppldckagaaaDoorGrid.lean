/- What CheckGrid and Value compute, and the reference's. -/
import Derived.Test.YtfgeppldckagaaaDoorPAllx0
import Derived.Test.YtfgeppldckagaaaDoorPAllx4
import Derived.Test.YtfgeppldckagaaaDoorPAllx5
import Derived.Test.YtfgeppldckagaaaDoorPAllx7
import Derived.Test.YtfgeppldckagaaaDoorPAllx13
import Derived.Test.YtfgeppldckagaaaDoorPAllx14
import Derived.Test.YtfgeppldckagaaaDoorAtv
namespace Go.Proofs.YtfgeppldckagaaaDoor.Pure
open Go.RowKit Go.Proofs.YtfgeppldckagaaaDoor.PAll Go.Proofs.YtfgeppldckagaaaDoorW.PrintWords Go.Proofs.YtfgeppldckagaaaDoorW.PrintLast
def Ax (X : List Int) (i : Nat) : Int := rd X (i : Int)
def AxG (X : List Int) (j : Nat) : Prop := InR (Ax X j) ∧ (0 < j → Ax X (j - 1) < Ax X j)
theorem axis_loop (X : List Int) (hl : X.length ≤ 40) : ∀ d i : Nat, i + d = X.length → ∃ v, Ev (fun k => curve_scale.l0 k X X (X.length : Int) (i : Int)) v ∧ Ev (fun k => sawmillref08_numbers.l0 k X (i : Int)) v ∧ (v = 0 ↔ ∀ j, i ≤ j → j < X.length → AxG X j)
  | 0, i, hd => by
    refine ⟨0, Ev.step (f := fun _ => some 0) (fun k => ?_) (Ev.now _), Ev.step (f := fun _ => some 0) (fun k => ?_) (Ev.now _), ⟨fun _ j h1 h2 => absurd h1 (by omega), fun _ => rfl⟩⟩
    · simp only [curve_scale.l0]; rw [if_neg (by omega)]
    · simp only [sawmillref08_numbers.l0]; rw [if_neg (by omega)]
  | d + 1, i, hd => by
    obtain ⟨v, h1, h2, h3⟩ := axis_loop X hl d (i + 1) (by omega)
    have ew : wrap64 ((i : Int) + 1) = ((i + 1 : Nat) : Int) := by rw [c64 (by omega) (by omega)]; rfl
    have hp : rd X (i : Int) = Ax X i := rfl
    have q1 : (i : Int) < (X.length : Int) := by omega
    have q2 : (0 : Int) ≤ (i : Int) := by omega
    by_cases c0 : InR (Ax X i)
    · by_cases hi : 0 < i
      · have ew2 : wrap64 ((i : Int) - 1) = ((i - 1 : Nat) : Int) := by rw [c64 (by omega) (by omega)]; omega
        have hp2 : rd X ((i - 1 : Nat) : Int) = Ax X (i - 1) := rfl
        have q3 : (i : Int) > 0 := by omega
        have q4 : (0 : Int) ≤ ((i - 1 : Nat) : Int) := by omega
        have q5 : ((i - 1 : Nat) : Int) < (X.length : Int) := by omega
        by_cases ha : Ax X i ≤ Ax X (i - 1)
        · refine ⟨11, Ev.step (f := fun _ => some 11) (fun k => ?_) (Ev.now _), Ev.step (f := fun _ => some 11) (fun k => ?_) (Ev.now _), ⟨fun h => absurd h (by decide), fun h => absurd ((h i (Nat.le_refl _) (by omega)).2 hi) (by omega)⟩⟩
          · simp only [curve_scale.l0, if_pos q1, if_pos q2, hp, inR_f, Option.bind_some, c0, decide_true, if_true, if_pos q3, ew2, if_pos q4, if_pos q5, hp2, if_pos ha]
          · simp only [sawmillref08_numbers.l0, if_pos q1, if_pos q2, hp, small_f, Option.bind_some, c0, decide_true, if_true, if_pos q3, ew2, if_pos q4, if_pos q5, hp2, if_pos ha]
        · refine ⟨v, Ev.step (fun k => ?_) h1, Ev.step (fun k => ?_) h2, h3.trans ⟨fun h j a b => ?_, fun h j a b => h j (by omega) b⟩⟩
          · simp only [curve_scale.l0, if_pos q1, if_pos q2, hp, inR_f, Option.bind_some, c0, decide_true, if_true, if_pos q3, ew2, if_pos q4, if_pos q5, hp2, if_neg ha, ew]
          · simp only [sawmillref08_numbers.l0, if_pos q1, if_pos q2, hp, small_f, Option.bind_some, c0, decide_true, if_true, if_pos q3, ew2, if_pos q4, if_pos q5, hp2, if_neg ha, ew]
          · by_cases e : j = i
            · subst e; exact ⟨c0, fun _ => by omega⟩
            · exact h j (by omega) b
      · have q3 : ¬ (i : Int) > 0 := by omega
        refine ⟨v, Ev.step (fun k => ?_) h1, Ev.step (fun k => ?_) h2, h3.trans ⟨fun h j a b => ?_, fun h j a b => h j (by omega) b⟩⟩
        · simp only [curve_scale.l0, if_pos q1, if_pos q2, hp, inR_f, Option.bind_some, c0, decide_true, if_true, if_neg q3, ew]
        · simp only [sawmillref08_numbers.l0, if_pos q1, if_pos q2, hp, small_f, Option.bind_some, c0, decide_true, if_true, if_neg q3, ew]
        · by_cases e : j = i
          · subst e; exact ⟨c0, fun h => absurd h hi⟩
          · exact h j (by omega) b
    · refine ⟨9, Ev.step (f := fun _ => some 9) (fun k => ?_) (Ev.now _), Ev.step (f := fun _ => some 9) (fun k => ?_) (Ev.now _), ⟨fun h => absurd h (by decide), fun h => absurd (h i (Nat.le_refl _) (by omega)).1 c0⟩⟩
      · simp only [curve_scale.l0, if_pos q1, if_pos q2, hp, inR_f, Option.bind_some, c0, decide_false, Bool.false_eq_true, if_false]
      · simp only [sawmillref08_numbers.l0, if_pos q1, if_pos q2, hp, small_f, Option.bind_some, c0, decide_false, Bool.false_eq_true, if_false]
/-! ### the rows -/
def RowG (Y : List Int) (V : List (List Int)) (j : Nat) : Prop := (rd_L1 V (j : Int)).length = Y.length ∧ ∀ q, q < Y.length → InR (Ax (rd_L1 V (j : Int)) q)
theorem cells_loop (X Y : List Int) (V : List (List Int)) (hY : Y.length ≤ 40) (hV : V.length ≤ 40) (i : Nat) (hi : i < V.length) (hr : (rd_L1 V (i : Int)).length = Y.length) {w : Int} (h1 : Ev (fun k => curve_CheckGrid.l0 k V (V.length : Int) ((i + 1 : Nat) : Int) X Y V) w) (h2 : Ev (fun k => sawmillref08_CheckGrid.l0 k ((i + 1 : Nat) : Int) X Y V) w) :
    ∀ d q : Nat, q + d = Y.length → ∃ v, Ev (fun k => curve_CheckGrid.l1 k V (V.length : Int) (i : Int) (rd_L1 V (i : Int)) ((rd_L1 V (i : Int)).length : Int) (q : Int) X Y V) v ∧ Ev (fun k => sawmillref08_CheckGrid.l1 k (i : Int) (q : Int) X Y V) v ∧ (v = 0 ↔ w = 0 ∧ ∀ j, q ≤ j → j < Y.length → InR (Ax (rd_L1 V (i : Int)) j))
  | 0, q, hd => by
    have ew : wrap64 ((i : Int) + 1) = ((i + 1 : Nat) : Int) := by rw [c64 (by omega) (by omega)]; rfl
    refine ⟨w, Ev.step (fun k => ?_) h1, Ev.step (fun k => ?_) h2, ⟨fun h => ⟨h, fun j a b => absurd a (by omega)⟩, fun h => h.1⟩⟩
    · simp only [curve_CheckGrid.l1]; rw [if_neg (by omega), ew]
    · simp only [sawmillref08_CheckGrid.l1]; rw [if_pos (by omega), if_pos (by omega), if_neg (by omega), ew]
  | d + 1, q, hd => by
    obtain ⟨v, g1, g2, g3⟩ := cells_loop X Y V hY hV i hi hr h1 h2 d (q + 1) (by omega)
    have ew : wrap64 ((q : Int) + 1) = ((q + 1 : Nat) : Int) := by rw [c64 (by omega) (by omega)]; rfl
    have hp : rd (rd_L1 V (i : Int)) (q : Int) = Ax (rd_L1 V (i : Int)) q := rfl
    have q1 : (q : Int) < ((rd_L1 V (i : Int)).length : Int) := by omega
    have q2 : (0 : Int) ≤ (q : Int) := by omega
    have q3 : (0 : Int) ≤ (i : Int) := by omega
    have q4 : (i : Int) < (V.length : Int) := by omega
    by_cases c0 : InR (Ax (rd_L1 V (i : Int)) q)
    · refine ⟨v, Ev.step (fun k => ?_) g1, Ev.step (fun k => ?_) g2, g3.trans ⟨fun ⟨h0, h⟩ => ⟨h0, fun j a b => ?_⟩, fun ⟨h0, h⟩ => ⟨h0, fun j a b => h j (by omega) b⟩⟩⟩
      · simp only [curve_CheckGrid.l1, if_pos q1, if_pos q2, hp, inR_f, Option.bind_some, c0, decide_true, if_true, ew]
      · simp only [sawmillref08_CheckGrid.l1, if_pos q1, if_pos q2, if_pos q3, if_pos q4, hp, small_f, Option.bind_some, c0, decide_true, if_true, ew]
      · by_cases e : j = q
        · subst e; exact c0
        · exact h j (by omega) b
    · refine ⟨9, Ev.step (f := fun _ => some 9) (fun k => ?_) (Ev.now _), Ev.step (f := fun _ => some 9) (fun k => ?_) (Ev.now _), ⟨fun h => absurd h (by decide), fun h => absurd (h.2 q (Nat.le_refl _) (by omega)) c0⟩⟩
      · simp only [curve_CheckGrid.l1, if_pos q1, if_pos q2, hp, inR_f, Option.bind_some, c0, decide_false, Bool.false_eq_true, if_false]
      · simp only [sawmillref08_CheckGrid.l1, if_pos q1, if_pos q2, if_pos q3, if_pos q4, hp, small_f, Option.bind_some, c0, decide_false, Bool.false_eq_true, if_false]
theorem rows_loop (X Y : List Int) (V : List (List Int)) (hY : Y.length ≤ 40) (hV : V.length ≤ 40) : ∀ d i : Nat, i + d = V.length → ∃ v, Ev (fun k => curve_CheckGrid.l0 k V (V.length : Int) (i : Int) X Y V) v ∧ Ev (fun k => sawmillref08_CheckGrid.l0 k (i : Int) X Y V) v ∧ (v = 0 ↔ ∀ j, i ≤ j → j < V.length → RowG Y V j)
  | 0, i, hd => by
    refine ⟨0, Ev.step (f := fun _ => some 0) (fun k => ?_) (Ev.now _), Ev.step (f := fun _ => some 0) (fun k => ?_) (Ev.now _), ⟨fun _ j a b => absurd a (by omega), fun _ => rfl⟩⟩
    · simp only [curve_CheckGrid.l0]; rw [if_neg (by omega)]
    · simp only [sawmillref08_CheckGrid.l0]; rw [if_neg (by omega)]
  | d + 1, i, hd => by
    obtain ⟨w, g1, g2, g3⟩ := rows_loop X Y V hY hV d (i + 1) (by omega)
    have q1 : (i : Int) < (V.length : Int) := by omega
    have q2 : (0 : Int) ≤ (i : Int) := by omega
    by_cases c : (rd_L1 V (i : Int)).length = Y.length
    · obtain ⟨v, e1, e2, e3⟩ := cells_loop X Y V hY hV i (by omega) c g1 g2 Y.length 0 (by omega)
      have c' : ((rd_L1 V (i : Int)).length : Int) = (Y.length : Int) := by omega
      refine ⟨v, Ev.step (fun k => ?_) e1, Ev.step (fun k => ?_) e2, e3.trans ⟨fun ⟨h0, h⟩ j a b => ?_, fun h => ⟨g3.2 fun j a b => h j (by omega) b, fun j _ b => (h i (Nat.le_refl _) (by omega)).2 j b⟩⟩⟩
      · simp only [curve_CheckGrid.l0, if_pos q1, if_pos q2, if_pos c']; rfl
      · simp only [sawmillref08_CheckGrid.l0, if_pos q1, if_pos q2, if_pos c']; rfl
      · by_cases e : j = i
        · subst e; exact ⟨c, fun q hq => h q (Nat.zero_le _) hq⟩
        · exact g3.1 h0 j (by omega) b
    · have c' : ¬ ((rd_L1 V (i : Int)).length : Int) = (Y.length : Int) := by omega
      refine ⟨19, Ev.step (f := fun _ => some 19) (fun k => ?_) (Ev.now _), Ev.step (f := fun _ => some 19) (fun k => ?_) (Ev.now _), ⟨fun h => absurd h (by decide), fun h => absurd (h i (Nat.le_refl _) (by omega)).1 c⟩⟩
      · simp only [curve_CheckGrid.l0, if_pos q1, if_pos q2, if_neg c']
      · simp only [sawmillref08_CheckGrid.l0, if_pos q1, if_pos q2, if_neg c']
structure GridFine (X Y : List Int) (V : List (List Int)) : Prop where
  x0 : 0 < X.length
  x1 : X.length ≤ 16
  y0 : 0 < Y.length
  y1 : Y.length ≤ 16
  v : V.length = X.length
  ax : ∀ j, j < X.length → AxG X j
  ay : ∀ j, j < Y.length → AxG Y j
  r : ∀ j, j < V.length → RowG Y V j
theorem grid_ev (X Y : List Int) (V : List (List Int)) : ∃ v, Ev (fun k => curve_CheckGrid.f k X Y V) v ∧ Ev (fun k => sawmillref08_CheckGrid.f k X Y V) v ∧ (v = 0 ↔ GridFine X Y V) := by
  have j0 : (X.length = 0 ∨ Y.length = 0) → ∃ v, Ev (fun k => curve_CheckGrid.j0 k true X Y V) v ∧ Ev (fun k => sawmillref08_CheckGrid.j0 k true X Y V) v ∧ (v = 0 ↔ GridFine X Y V) := fun hh =>
    ⟨3, Ev.step (f := fun _ => some 3) (fun k => by simp only [curve_CheckGrid.j0, if_true]) (Ev.now _), Ev.step (f := fun _ => some 3) (fun k => by simp only [sawmillref08_CheckGrid.j0, if_true]) (Ev.now _), ⟨fun h => absurd h (by decide), fun h => by have := h.x0; have := h.y0; omega⟩⟩
  unfold curve_CheckGrid.f sawmillref08_CheckGrid.f
  by_cases c1 : (X.length : Int) = 0
  · simp only [if_pos c1]; exact j0 (.inl (by omega))
  · simp only [if_neg c1]
    by_cases c2 : (Y.length : Int) = 0
    · rw [show ((Y.length : Int) == 0) = true from beq_iff_eq.mpr c2]; exact j0 (.inr (by omega))
    · rw [show ((Y.length : Int) == 0) = false from beq_eq_false_iff_ne.mpr c2]
      have j1 : (X.length > 16 ∨ Y.length > 16) → ∃ v, Ev (fun k => curve_CheckGrid.j1 k true X Y V) v ∧ Ev (fun k => sawmillref08_CheckGrid.j1 k true X Y V) v ∧ (v = 0 ↔ GridFine X Y V) := fun hh =>
        ⟨4, Ev.step (f := fun _ => some 4) (fun k => by simp only [curve_CheckGrid.j1, if_true]) (Ev.now _), Ev.step (f := fun _ => some 4) (fun k => by simp only [sawmillref08_CheckGrid.j1, if_true]) (Ev.now _), ⟨fun h => absurd h (by decide), fun h => by have := h.x1; have := h.y1; omega⟩⟩
      have fin : ∃ v, Ev (fun k => if (X.length : Int) > 16 then curve_CheckGrid.j1 k true X Y V else curve_CheckGrid.j1 k (decide ((Y.length : Int) > 16)) X Y V) v ∧ Ev (fun k => if (X.length : Int) > 16 then sawmillref08_CheckGrid.j1 k true X Y V else sawmillref08_CheckGrid.j1 k (decide ((Y.length : Int) > 16)) X Y V) v ∧ (v = 0 ↔ GridFine X Y V) := by
        by_cases c3 : (X.length : Int) > 16
        · simp only [if_pos c3]; exact j1 (.inl (by omega))
        · simp only [if_neg c3]
          by_cases c4 : (Y.length : Int) > 16
          · rw [show decide ((Y.length : Int) > 16) = true from decide_eq_true c4]; exact j1 (.inr (by omega))
          · rw [show decide ((Y.length : Int) > 16) = false from decide_eq_false c4]
            have z1 : 0 < X.length := by clear j0 j1; omega
            have z2 : X.length ≤ 16 := by clear j0 j1; omega
            have z3 : 0 < Y.length := by clear j0 j1; omega
            have z4 : Y.length ≤ 16 := by clear j0 j1; omega
            obtain ⟨vx, x1, x2, x3⟩ := axis_loop X (by omega) X.length 0 (by omega)
            obtain ⟨vy, y1, y2, y3⟩ := axis_loop Y (by omega) Y.length 0 (by omega)
            have sx : Ev (fun k => curve_scale.f k X) vx := x1
            have sx2 : Ev (fun k => sawmillref08_numbers.f k X) vx := x2
            have sy : Ev (fun k => curve_scale.f k Y) vy := y1
            have sy2 : Ev (fun k => sawmillref08_numbers.f k Y) vy := y2
            by_cases c5 : vx = 0
            · by_cases c6 : vy = 0
              · by_cases c7 : (V.length : Int) = (X.length : Int)
                · obtain ⟨v, r1, r2, r3⟩ := rows_loop X Y V (by omega) (by omega) V.length 0 (by omega)
                  refine ⟨v, Ev.step (fun k => by simp only [curve_CheckGrid.j1, Bool.false_eq_true, if_false]; rfl) (Ev.bind sx ?_), Ev.step (fun k => by simp only [sawmillref08_CheckGrid.j1, Bool.false_eq_true, if_false]; rfl) (Ev.bind sx2 ?_), ?_⟩
                  · simp only [if_pos c5]; refine Ev.bind sy ?_; simp only [if_pos c6, if_pos c7]; exact r1
                  · simp only [if_pos c5]; refine Ev.bind sy2 ?_; simp only [if_pos c6, if_pos c7]; exact r2
                  · exact r3.trans ⟨fun h => ⟨z1, z2, z3, z4, Int.ofNat_inj.1 c7, fun j hj => x3.1 c5 j (Nat.zero_le _) hj, fun j hj => y3.1 c6 j (Nat.zero_le _) hj, fun j hj => h j (Nat.zero_le _) hj⟩, fun h j _ hj => h.r j hj⟩
                · refine ⟨19, Ev.step (fun k => by simp only [curve_CheckGrid.j1, Bool.false_eq_true, if_false]; rfl) (Ev.bind sx ?_), Ev.step (fun k => by simp only [sawmillref08_CheckGrid.j1, Bool.false_eq_true, if_false]; rfl) (Ev.bind sx2 ?_), ⟨fun h => absurd h (by decide), fun h => absurd h.v (by omega)⟩⟩
                  · simp only [if_pos c5]; refine Ev.bind sy ?_; simp only [if_pos c6, if_neg c7]; exact Ev.now _
                  · simp only [if_pos c5]; refine Ev.bind sy2 ?_; simp only [if_pos c6, if_neg c7]; exact Ev.now _
              · refine ⟨vy, Ev.step (fun k => by simp only [curve_CheckGrid.j1, Bool.false_eq_true, if_false]; rfl) (Ev.bind sx ?_), Ev.step (fun k => by simp only [sawmillref08_CheckGrid.j1, Bool.false_eq_true, if_false]; rfl) (Ev.bind sx2 ?_), ⟨fun h => absurd h c6, fun h => absurd (y3.2 fun j _ hj => h.ay j hj) c6⟩⟩
                · simp only [if_pos c5]; refine Ev.bind sy ?_; simp only [if_neg c6]; exact Ev.now _
                · simp only [if_pos c5]; refine Ev.bind sy2 ?_; simp only [if_neg c6]; exact Ev.now _
            · refine ⟨vx, Ev.step (fun k => by simp only [curve_CheckGrid.j1, Bool.false_eq_true, if_false]; rfl) (Ev.bind sx ?_), Ev.step (fun k => by simp only [sawmillref08_CheckGrid.j1, Bool.false_eq_true, if_false]; rfl) (Ev.bind sx2 ?_), ⟨fun h => absurd h c5, fun h => absurd (x3.2 fun j _ hj => h.ax j hj) c5⟩⟩
              · simp only [if_neg c5]; exact Ev.now _
              · simp only [if_neg c5]; exact Ev.now _
      obtain ⟨v, h1, h2, h3⟩ := fin
      exact ⟨v, Ev.step (fun k => by simp only [curve_CheckGrid.j0, Bool.false_eq_true, if_false]) h1, Ev.step (fun k => by simp only [sawmillref08_CheckGrid.j0, Bool.false_eq_true, if_false]) h2, h3⟩
end Go.Proofs.YtfgeppldckagaaaDoor.Pure
