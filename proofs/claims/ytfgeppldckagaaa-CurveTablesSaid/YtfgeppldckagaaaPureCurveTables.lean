/- A grid has its values at its numbers, and nowhere a value outside of the range of its values. -/
import Derived.Test.YtfgeppldckagaaaPAllx0
import Derived.Test.YtfgeppldckagaaaPAllx6
import Derived.Test.YtfgeppldckagaaaPAllx9
import Derived.Test.YtfgeppldckagaaaPAllx13
import Derived.Test.YtfgeppldckagaaaPAllx14
import Derived.Test.YtfgeppldckagaaaAwake
import Derived.Test.YtfgeppldckagaaaGval
namespace Go.Proofs.Ytfgeppldckagaaa.Pure
open Go.RowKit Go.Proofs.Ytfgeppldckagaaa.PAll Go.Proofs.YtfgeppldckagaaaW.PrintWords Go.Proofs.YtfgeppldckagaaaW.PrintLast
theorem aw_ev : Ev (fun k => (sawmilllaw08_awake.f k).bind fun t => some t) true := Ev.bind awake_ev (Ev.now _)
theorem mn_le (a b : Int) : mn a b ≤ a ∧ mn a b ≤ b := by unfold mn; split <;> omega
theorem mx_ge (a b : Int) : a ≤ mx a b ∧ b ≤ mx a b := by unfold mx; split <;> omega
/-- The value at the numbers of a grid. -/
theorem grid_at {X Y : List Int} {V : List (List Int)} (hg : GridFine X Y V) (i q : Nat) (hi : i < X.length) (hq : q < Y.length) : atv (rowsP Y (Ax Y q) X V) (Ax X i) = Ax (rd_L1 V (i : Int)) q := by
  have hl := rowsP_len Y (Ax Y q) X V hg.v.symm
  have hv := hg.v
  have h1 := atv_pt (rowsP_ok hg (Ax Y q)) i (by omega)
  rw [rowsP_Pt Y (Ax Y q) X V i hg.v.symm hi] at h1
  have hr := (hg.r i (by omega)).1
  have hml := mkpts_len Y _ hr.symm
  have h2 := atv_pt (row_ok hg i (by omega)) q (by omega)
  rw [mkpts_Pt Y _ q hr.symm hq] at h2
  exact h1.trans h2
theorem grid_bd {X Y : List Int} {V : List (List Int)} (hg : GridFine X Y V) (x y lo hi : Int) (h : ∀ i, i < X.length → ∀ q, q < Y.length → lo ≤ Ax (rd_L1 V (i : Int)) q ∧ Ax (rd_L1 V (i : Int)) q ≤ hi) : lo ≤ atv (rowsP Y y X V) x ∧ atv (rowsP Y y X V) x ≤ hi := by
  have hl := rowsP_len Y y X V hg.v.symm
  have hv := hg.v
  refine atv_bd (rowsP_ok hg y) x lo hi (fun i hi2 => ?_)
  rw [rowsP_Pt Y y X V i hg.v.symm (by omega)]
  have hr := (hg.r i (by omega)).1
  have hml := mkpts_len Y _ hr.symm
  refine atv_bd (row_ok hg i (by omega)) y lo hi (fun q hq => ?_)
  rw [mkpts_Pt Y _ q hr.symm (by omega)]
  exact h i (by omega) q (by omega)
/-- What has been seen of the values, up to a place. -/
def Seen (Y : List Int) (V : List (List Int)) (i q : Nat) (lo hi : Int) : Prop := ∀ a b, (a < i ∨ a = i ∧ b < q) → b < Y.length → lo ≤ Ax (rd_L1 V (a : Int)) b ∧ Ax (rd_L1 V (a : Int)) b ≤ hi
theorem tables_row {X Y : List Int} {V : List (List Int)} (hg : GridFine X Y V) (hval : ∀ x y, Ev (fun k => curve_Value.f k X Y V x y) (atv (rowsP Y y X V) x)) (x y : Int) (i : Nat) (hi : i < X.length)
    (next : ∀ lo hi', Seen Y V (i + 1) 0 lo hi' → Ev (fun k => sawmilllaw08_CurveTables.l0 k x y lo hi' ((i + 1 : Nat) : Int) X Y V) true) :
    ∀ d q : Nat, q + d = Y.length → ∀ lo hi', Seen Y V i q lo hi' → Ev (fun k => sawmilllaw08_CurveTables.l1 k x y lo hi' (i : Int) (q : Int) X Y V) true
  | 0, q, hd, lo, hi', hs => by
    have hx := hg.x1
    have ew : wrap64 ((i : Int) + 1) = ((i + 1 : Nat) : Int) := by rw [c64 (by omega) (by omega)]; rfl
    refine Ev.step (fun k => ?_) (next lo hi' (fun a b h1 h2 => hs a b (by omega) h2))
    simp only [sawmilllaw08_CurveTables.l1]
    rw [if_neg (by omega), ew]
  | d + 1, q, hd, lo, hi', hs => by
    have hx := hg.x1
    have hy := hg.y1
    have hv := hg.v
    have hr := (hg.r i (by omega)).1
    have ew : wrap64 ((q : Int) + 1) = ((q + 1 : Nat) : Int) := by rw [c64 (by omega) (by omega)]; rfl
    have p1 : rd X (i : Int) = Ax X i := rfl
    have p2 : rd Y (q : Int) = Ax Y q := rfl
    have p3 : rd (rd_L1 V (i : Int)) (q : Int) = Ax (rd_L1 V (i : Int)) q := rfl
    have m1 := mn_le lo (Ax (rd_L1 V (i : Int)) q)
    have m2 := mx_ge hi' (Ax (rd_L1 V (i : Int)) q)
    have ih := tables_row hg hval x y i hi next d (q + 1) (by omega) (mn lo (Ax (rd_L1 V (i : Int)) q)) (mx hi' (Ax (rd_L1 V (i : Int)) q)) (fun a b h1 h2 => by
      by_cases e : a = i ∧ b = q
      · obtain ⟨rfl, rfl⟩ := e; omega
      · have := hs a b (by omega) h2; omega)
    refine Ev.step (fun k => rfl) ?_
    simp only [sawmilllaw08_CurveTables.l1, if_pos (show (q : Int) < (Y.length : Int) by omega), if_pos (show (0 : Int) ≤ (i : Int) by omega), if_pos (show (i : Int) < (V.length : Int) by omega), if_pos (show (0 : Int) ≤ (q : Int) by omega), if_pos (show (q : Int) < ((rd_L1 V (i : Int)).length : Int) by omega), if_pos (show (i : Int) < (X.length : Int) by omega), p1, p2, p3, ew]
    refine Ev.bind (hval _ _) ?_
    simp only [if_pos (grid_at hg i q hi (by omega))]
    exact ih
theorem tables_loop {X Y : List Int} {V : List (List Int)} (hg : GridFine X Y V) (hval : ∀ x y, Ev (fun k => curve_Value.f k X Y V x y) (atv (rowsP Y y X V) x)) (x y : Int) :
    ∀ d i : Nat, i + d = X.length → ∀ lo hi, Seen Y V i 0 lo hi → Ev (fun k => sawmilllaw08_CurveTables.l0 k x y lo hi (i : Int) X Y V) true
  | 0, i, hd, lo, hi, hs => by
    have hb := grid_bd hg x y lo hi (fun a h1 b h2 => hs a b (by omega) h2)
    refine Ev.step (fun k => rfl) ?_
    simp only [sawmilllaw08_CurveTables.l0, if_neg (show ¬ (i : Int) < (X.length : Int) by omega)]
    refine Ev.bind (hval x y) ?_
    simp only [if_pos (show atv (rowsP Y y X V) x ≥ lo by omega), if_pos hb.2]
    exact aw_ev
  | d + 1, i, hd, lo, hi, hs => by
    refine Ev.step (fun k => ?_) (tables_row hg hval x y i (by omega) (fun lo' hi' h => tables_loop hg hval x y d (i + 1) (by omega) lo' hi' h) Y.length 0 (by omega) lo hi hs)
    simp only [sawmilllaw08_CurveTables.l0, if_pos (show (i : Int) < (X.length : Int) by omega)]
    rfl
theorem CurveTables : ∀ (x0 : S25) (a1 : Int) (a2 : Int), ((x0.f0.length * 8 ≤ 140737488351232 ∧ ∀ y ∈ x0.f0, (Lit.int .i64 y).wf = true) ∧ (x0.f1.length * 8 ≤ 140737488351232 ∧ ∀ y ∈ x0.f1, (Lit.int .i64 y).wf = true) ∧ (x0.f2.length * 24 ≤ 140737488351232 ∧ ∀ y ∈ x0.f2, (y.length * 8 ≤ 140737488351232 ∧ ∀ y' ∈ y, (Lit.int .i64 y').wf = true))) → (Lit.int .i64 a1).wf = true → (Lit.int .i64 a2).wf = true → ∃ k, sawmilllaw08_CurveTables.f k x0.f0 x0.f1 x0.f2 a1 a2 = some true := by
  intro g x y _ _ _
  refine Ev.rounds (r := true) ?_
  obtain ⟨X, Y, V⟩ := g
  show Ev (fun k => sawmilllaw08_CurveTables.f k X Y V x y) true
  unfold sawmilllaw08_CurveTables.f
  have hend : Ev (fun k => sawmilllaw08_CurveTables.j0 k x y true X Y V) true := Ev.step (fun k => rfl) (by simp only [sawmilllaw08_CurveTables.j0, if_true]; exact aw_ev)
  obtain ⟨b, hb⟩ := few_ev X Y V
  refine Ev.bind hb ?_
  cases b with
  | false => simp only [Bool.false_eq_true, if_false]; exact hend
  | true =>
    simp only [if_true]
    obtain ⟨v, e1, e2, e3⟩ := grid_ev X Y V
    refine Ev.bind e2 ?_
    by_cases h0 : v = 0
    · have hg := e3.1 h0
      have hx0 := hg.x0
      have hy0 := hg.y0
      have hv := hg.v
      have hr := (hg.r 0 (by omega)).1
      have hval : ∀ x y, Ev (fun k => curve_Value.f k X Y V x y) (atv (rowsP Y y X V) x) := fun x y => by
        have := value_ev x y e1 e3
        rwa [if_pos h0] at this
      subst h0
      refine Ev.step (fun k => rfl) ?_
      simp only [sawmilllaw08_CurveTables.j0, bne_self_eq_false, Bool.false_eq_true, if_false, if_pos (show (0 : Int) < (V.length : Int) by omega)]
      have hr' : (0 : Int) < ((rd_L1 V 0).length : Int) := by
        have e : rd_L1 V 0 = rd_L1 V ((0 : Nat) : Int) := rfl
        rw [e]; omega
      simp only [if_pos hr']
      exact tables_loop hg hval x y X.length 0 (by omega) _ _ (fun a b h _ => by omega)
    · rw [show (v != 0) = true from bne_iff_ne.mpr h0]; exact hend
end Go.Proofs.Ytfgeppldckagaaa.Pure
