/- What Value computes on a grid, and the reference's. -/
import Derived.Test.YtfgeppldckagaaaPAllx0
import Derived.Test.YtfgeppldckagaaaPAllx3
import Derived.Test.YtfgeppldckagaaaPAllx6
import Derived.Test.YtfgeppldckagaaaPAllx8
import Derived.Test.YtfgeppldckagaaaPAllx9
import Derived.Test.YtfgeppldckagaaaPAllx18
import Derived.Test.YtfgeppldckagaaaPAllx22
import Derived.Test.YtfgeppldckagaaaPAllx23
import Derived.Test.YtfgeppldckagaaaGrid
namespace Go.Proofs.Ytfgeppldckagaaa.Pure
open Go.RowKit Go.Proofs.Ytfgeppldckagaaa.PAll Go.Proofs.YtfgeppldckagaaaW.PrintWords Go.Proofs.YtfgeppldckagaaaW.PrintLast
theorem take_snoc (l : List S36) (i : Nat) (h : i < l.length) : l.take (i + 1) = l.take i ++ [Pt l i] := by
  rw [List.take_succ_eq_append_getElem h, Pt_get l i h]
theorem Ax_get (X : List Int) (i : Nat) : Ax X i = X.getD i 0 := by unfold Ax rd; rw [Int.toNat_natCast]
theorem rd_L1_get (V : List (List Int)) (i : Nat) : rd_L1 V (i : Int) = V.getD i [] := by unfold rd_L1; rw [Int.toNat_natCast]
theorem Pt_getD (l : List S36) (i : Nat) : Pt l i = l.getD i z36 := (getD_Pt l i).symm
theorem mkpts_Pt (Y R : List Int) (i : Nat) (h : Y.length = R.length) (hi : i < Y.length) : Pt (mkpts Y R) i = ⟨Ax Y i, Ax R i⟩ := by
  rw [Pt_getD, mkpts_get Y R i h hi, Ax_get, Ax_get]
theorem row_ok {X Y : List Int} {V : List (List Int)} (hg : GridFine X Y V) (i : Nat) (hi : i < V.length) : PtsOk (mkpts Y (rd_L1 V (i : Int))) := by
  obtain ⟨hr, hc⟩ := hg.r i hi
  have hl := mkpts_len Y _ hr.symm
  refine ⟨by rw [hl]; exact hg.y0, by rw [hl]; exact hg.y1, fun j hj => ?_, fun j hj => ?_⟩
  · rw [hl] at hj
    rw [mkpts_Pt Y _ j hr.symm hj]
    exact ⟨(hg.ay j hj).1, hc j hj⟩
  · rw [hl] at hj
    rw [mkpts_Pt Y _ j hr.symm (by omega), mkpts_Pt Y _ (j + 1) hr.symm hj]
    have := (hg.ay (j + 1) hj).2 (by omega)
    rwa [Nat.add_sub_cancel] at this
def rowsP (Y : List Int) (y : Int) : List Int → List (List Int) → List S36
  | x :: xs, r :: rs => ⟨x, atv (mkpts Y r) y⟩ :: rowsP Y y xs rs
  | _, _ => []
theorem rowsP_len (Y : List Int) (y : Int) : ∀ (X : List Int) (V : List (List Int)), X.length = V.length → (rowsP Y y X V).length = X.length
  | [], [], _ => rfl
  | _ :: X, _ :: V, h => by simp only [rowsP, List.length_cons]; rw [rowsP_len Y y X V (by simpa using h)]
theorem rowsP_get (Y : List Int) (y : Int) : ∀ (X : List Int) (V : List (List Int)) (i : Nat), X.length = V.length → i < X.length → (rowsP Y y X V).getD i z36 = ⟨X.getD i 0, atv (mkpts Y (V.getD i [])) y⟩
  | [], [], _, _, h => absurd h (Nat.not_lt_zero _)
  | _ :: _, _ :: _, 0, _, _ => rfl
  | _ :: X, _ :: V, i + 1, h, hi => rowsP_get Y y X V i (by simpa using h) (by simpa using hi)
theorem rowsP_Pt (Y : List Int) (y : Int) (X : List Int) (V : List (List Int)) (i : Nat) (h : X.length = V.length) (hi : i < X.length) : Pt (rowsP Y y X V) i = ⟨Ax X i, atv (mkpts Y (rd_L1 V (i : Int))) y⟩ := by
  rw [Pt_getD, rowsP_get Y y X V i h hi, Ax_get, rd_L1_get]
theorem rowsP_ok {X Y : List Int} {V : List (List Int)} (hg : GridFine X Y V) (y : Int) : PtsOk (rowsP Y y X V) := by
  have hl := rowsP_len Y y X V hg.v.symm
  refine ⟨by rw [hl]; exact hg.x0, by rw [hl]; exact hg.x1, fun j hj => ?_, fun j hj => ?_⟩
  · rw [hl] at hj
    rw [rowsP_Pt Y y X V j hg.v.symm hj]
    have ho := row_ok hg j (by rw [hg.v]; exact hj)
    exact ⟨(hg.ax j hj).1, atv_bd ho y (-1000000) 1000000 (fun i hi => (ho.rng i hi).2)⟩
  · rw [hl] at hj
    rw [rowsP_Pt Y y X V j hg.v.symm (by omega), rowsP_Pt Y y X V (j + 1) hg.v.symm hj]
    have := (hg.ax (j + 1) hj).2 (by omega)
    rwa [Nat.add_sub_cancel] at this
theorem at_ok {l : List S36} (ho : PtsOk l) (x : Int) : Ev (fun k => curve_At.f k l x) (atv l x) := by
  obtain ⟨v, e1, _, e3⟩ := chk_ev l
  have := at_ev l x e1
  rwa [if_pos (e3.2 ho)] at this
theorem refat_ok {l : List S36} (ho : PtsOk l) (x : Int) : Ev (fun k => sawmillref08_At.f k l x) (atv l x) := by
  obtain ⟨v, _, e2, e3⟩ := chk_ev l
  have := refat_ev l x e2 e3
  rwa [if_pos (e3.2 ho)] at this
theorem rowsv_ev (Y : List Int) (y : Int) : ∀ (X : List Int) (V : List (List Int)), (∀ i, i < V.length → PtsOk (mkpts Y (V.getD i []))) → Ev (fun k => rowsv k Y y X V) (rowsP Y y X V)
  | [], _, _ => by unfold rowsv rowsP; exact Ev.now _
  | _ :: _, [], _ => by unfold rowsv rowsP; exact Ev.now _
  | x :: X, r :: V, h => by
    have h0 : PtsOk (mkpts Y r) := h 0 (by simp)
    have ih := rowsv_ev Y y X V (fun i hi => h (i + 1) (by simpa using hi))
    simp only [rowsv, rowsP]
    exact Ev.bind (at_ok h0 y) (Ev.bind ih (Ev.now _))
theorem value_ev {X Y : List Int} {V : List (List Int)} (x y : Int) {v : Int} (e : Ev (fun k => curve_CheckGrid.f k X Y V) v) (hv : v = 0 ↔ GridFine X Y V) : Ev (fun k => curve_Value.f k X Y V x y) (if v = 0 then atv (rowsP Y y X V) x else 0) := by
  unfold curve_Value.f
  refine Ev.bind e ?_
  by_cases h0 : v = 0
  · have hg := hv.1 h0
    simp only [if_pos h0]
    exact Ev.bind (rowsv_ev Y y X V (fun i hi => by have := row_ok hg i hi; rwa [rd_L1_get] at this)) (at_ok (rowsP_ok hg y) x)
  · simp only [if_neg h0]; exact Ev.now _
theorem refrow_loop {X Y : List Int} {V : List (List Int)} (hg : GridFine X Y V) (i : Nat) (hi : i < V.length) : ∀ d q : Nat, q + d = Y.length → Ev (fun k => sawmillref08_Row.l0 k (i : Int) ((mkpts Y (rd_L1 V (i : Int))).take q) (q : Int) X Y V) (mkpts Y (rd_L1 V (i : Int)))
  | 0, q, hd => by
    obtain ⟨hr, hc⟩ := hg.r i hi
    have hl := mkpts_len Y _ hr.symm
    refine Ev.step (f := fun _ => some (mkpts Y (rd_L1 V (i : Int)))) (fun k => ?_) (Ev.now _)
    simp only [sawmillref08_Row.l0]
    rw [if_neg (by omega), List.take_of_length_le (by omega)]
  | d + 1, q, hd => by
    obtain ⟨hr, hc⟩ := hg.r i hi
    have hl := mkpts_len Y _ hr.symm
    have hy := hg.y1
    have ih := refrow_loop hg i hi d (q + 1) (by omega)
    refine Ev.step (fun k => ?_) ih
    simp only [sawmillref08_Row.l0]
    have hlt : ((mkpts Y (rd_L1 V (i : Int))).take q).length < 8796093022208 := by rw [List.length_take]; omega
    rw [if_pos (by omega), if_pos (by omega), if_pos (by omega), if_pos (by omega), if_pos (by omega), if_pos hlt, c64 (x := (q : Int) + 1) (by omega) (by omega), take_snoc _ q (by omega), mkpts_Pt Y _ q hr.symm (by omega)]
    rfl
theorem refvalue_loop {X Y : List Int} {V : List (List Int)} (hg : GridFine X Y V) (x y : Int) : ∀ d i : Nat, i + d = X.length → Ev (fun k => sawmillref08_Value.l0 k x y ((rowsP Y y X V).take i) (i : Int) X Y V) (atv (rowsP Y y X V) x)
  | 0, i, hd => by
    have hl := rowsP_len Y y X V hg.v.symm
    refine Ev.step (f := fun k => (sawmillref08_At.f k (rowsP Y y X V) x).bind fun t => some t) (fun k => ?_) (Ev.bind (refat_ok (rowsP_ok hg y) x) (Ev.now _))
    simp only [sawmillref08_Value.l0]
    rw [if_neg (by omega), List.take_of_length_le (by omega)]
  | d + 1, i, hd => by
    have hl := rowsP_len Y y X V hg.v.symm
    have hx := hg.x1
    have hv := hg.v
    have ih := refvalue_loop hg x y d (i + 1) (by omega)
    have ew : wrap64 ((i : Int) + 1) = ((i + 1 : Nat) : Int) := by rw [c64 (by omega) (by omega)]; rfl
    refine Ev.step (fun k => rfl) ?_
    have hlt : ((rowsP Y y X V).take i).length < 8796093022208 := by rw [List.length_take]; omega
    simp only [sawmillref08_Value.l0, if_pos (show (i : Int) < (X.length : Int) by omega), if_pos (show (0 : Int) ≤ (i : Int) by omega), if_pos hlt, ew]
    have hrow : Ev (fun k => sawmillref08_Row.f k X Y V (i : Int)) (mkpts Y (rd_L1 V (i : Int))) := refrow_loop hg i (by omega) Y.length 0 (by omega)
    refine Ev.bind hrow (Ev.bind (refat_ok (row_ok hg i (by omega)) y) ?_)
    rw [take_snoc _ i (by omega), rowsP_Pt Y y X V i hg.v.symm (by omega)] at ih
    exact ih
theorem refvalue_ev {X Y : List Int} {V : List (List Int)} (x y : Int) {v : Int} (e : Ev (fun k => sawmillref08_CheckGrid.f k X Y V) v) (hv : v = 0 ↔ GridFine X Y V) : Ev (fun k => sawmillref08_Value.f k X Y V x y) (if v = 0 then atv (rowsP Y y X V) x else 0) := by
  unfold sawmillref08_Value.f
  refine Ev.bind e ?_
  by_cases h0 : v = 0
  · simp only [if_pos h0]
    exact refvalue_loop (hv.1 h0) x y X.length 0 (by omega)
  · simp only [if_neg h0]; exact Ev.now _
end Go.Proofs.Ytfgeppldckagaaa.Pure
