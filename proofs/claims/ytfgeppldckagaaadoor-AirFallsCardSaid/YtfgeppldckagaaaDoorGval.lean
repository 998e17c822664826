/- What Value computes on a grid, and the reference's. -/
import Derived.Test.YtfgeppldckagaaaDoorPAllx0
import Derived.Test.YtfgeppldckagaaaDoorPAllx5
import Derived.Test.YtfgeppldckagaaaDoorPAllx7
import Derived.Test.YtfgeppldckagaaaDoorPAllx8
import Derived.Test.YtfgeppldckagaaaDoorGrid
namespace Go.Proofs.YtfgeppldckagaaaDoor.Pure
open Go.RowKit Go.Proofs.YtfgeppldckagaaaDoor.PAll Go.Proofs.YtfgeppldckagaaaDoorW.PrintWords Go.Proofs.YtfgeppldckagaaaDoorW.PrintLast
theorem take_snoc (l : List S53) (i : Nat) (h : i < l.length) : l.take (i + 1) = l.take i ++ [Pt l i] := by
  rw [List.take_succ_eq_append_getElem h, Pt_get l i h]
theorem Ax_get (X : List Int) (i : Nat) : Ax X i = X.getD i 0 := by unfold Ax rd; rw [Int.toNat_natCast]
theorem rd_L1_get (V : List (List Int)) (i : Nat) : rd_L1 V (i : Int) = V.getD i [] := by unfold rd_L1; rw [Int.toNat_natCast]
theorem Pt_getD (l : List S53) (i : Nat) : Pt l i = l.getD i z53 := (getD_Pt l i).symm
theorem mkpts_Pt (Y R : List Int) (i : Nat) (h : Y.length = R.length) (hi : i < Y.length) : Pt (mkpts Y R) i = ⟨Ax Y i, Ax R i⟩ := by
  rw [Pt_getD, mkpts_get Y R i h hi, Ax_get, Ax_get]
theorem row_ok {X Y : List Int} {V : List (List Int)} (hg : GridFine X Y V) (i : Nat) (hi : i < V.length) : PtsOk (mkpts Y (rd_L1 V (i : Int))) := by
  obtain ⟨hr, hc⟩ := hg.r i hi
  have hl := mkpts_len Y _ hr.symm
  refine ⟨by rw [hl]; exact hg.y0, by rw [hl]; exact hg.y1, fun j hj => ?_, fun j hj => ?_⟩
  · rw [hl] at hj
    rw [mkpts_Pt Y _ j hr.symm hj]
    exact ⟨(hg.ay j hj).1, hc j hj⟩
  · rw [hl] at hj
    rw [mkpts_Pt Y _ j hr.symm (by omega), mkpts_Pt Y _ (j + 1) hr.symm hj]
    have := (hg.ay (j + 1) hj).2 (by omega)
    rwa [Nat.add_sub_cancel] at this
def rowsP (Y : List Int) (y : Int) : List Int → List (List Int) → List S53
  | x :: xs, r :: rs => ⟨x, atv (mkpts Y r) y⟩ :: rowsP Y y xs rs
  | _, _ => []
theorem rowsP_len (Y : List Int) (y : Int) : ∀ (X : List Int) (V : List (List Int)), X.length = V.length → (rowsP Y y X V).length = X.length
  | [], [], _ => rfl
  | _ :: X, _ :: V, h => by simp only [rowsP, List.length_cons]; rw [rowsP_len Y y X V (by simpa using h)]
theorem rowsP_get (Y : List Int) (y : Int) : ∀ (X : List Int) (V : List (List Int)) (i : Nat), X.length = V.length → i < X.length → (rowsP Y y X V).getD i z53 = ⟨X.getD i 0, atv (mkpts Y (V.getD i [])) y⟩
  | [], [], _, _, h => absurd h (Nat.not_lt_zero _)
  | _ :: _, _ :: _, 0, _, _ => rfl
  | _ :: X, _ :: V, i + 1, h, hi => rowsP_get Y y X V i (by simpa using h) (by simpa using hi)
theorem rowsP_Pt (Y : List Int) (y : Int) (X : List Int) (V : List (List Int)) (i : Nat) (h : X.length = V.length) (hi : i < X.length) : Pt (rowsP Y y X V) i = ⟨Ax X i, atv (mkpts Y (rd_L1 V (i : Int))) y⟩ := by
  rw [Pt_getD, rowsP_get Y y X V i h hi, Ax_get, rd_L1_get]
theorem rowsP_ok {X Y : List Int} {V : List (List Int)} (hg : GridFine X Y V) (y : Int) : PtsOk (rowsP Y y X V) := by
  have hl := rowsP_len Y y X V hg.v.symm
  refine ⟨by rw [hl]; exact hg.x0, by rw [hl]; exact hg.x1, fun j hj => ?_, fun j hj => ?_⟩
  · rw [hl] at hj
    rw [rowsP_Pt Y y X V j hg.v.symm hj]
    have ho := row_ok hg j (by rw [hg.v]; exact hj)
    exact ⟨(hg.ax j hj).1, atv_bd ho y (-1000000) 1000000 (fun i hi => (ho.rng i hi).2)⟩
  · rw [hl] at hj
    rw [rowsP_Pt Y y X V j hg.v.symm (by omega), rowsP_Pt Y y X V (j + 1) hg.v.symm hj]
    have := (hg.ax (j + 1) hj).2 (by omega)
    rwa [Nat.add_sub_cancel] at this
theorem at_ok {l : List S53} (ho : PtsOk l) (x : Int) : Ev (fun k => curve_At.f k l x) (atv l x) := by
  obtain ⟨v, e1, _, e3⟩ := chk_ev l
  have := at_ev l x e1
  rwa [if_pos (e3.2 ho)] at this
theorem rowsv_ev (Y : List Int) (y : Int) : ∀ (X : List Int) (V : List (List Int)), (∀ i, i < V.length → PtsOk (mkpts Y (V.getD i []))) → Ev (fun k => rowsv k Y y X V) (rowsP Y y X V)
  | [], _, _ => by unfold rowsv rowsP; exact Ev.now _
  | _ :: _, [], _ => by unfold rowsv rowsP; exact Ev.now _
  | x :: X, r :: V, h => by
    have h0 : PtsOk (mkpts Y r) := h 0 (by simp)
    have ih := rowsv_ev Y y X V (fun i hi => h (i + 1) (by simpa using hi))
    simp only [rowsv, rowsP]
    exact Ev.bind (at_ok h0 y) (Ev.bind ih (Ev.now _))
theorem value_ev {X Y : List Int} {V : List (List Int)} (x y : Int) {v : Int} (e : Ev (fun k => curve_CheckGrid.f k X Y V) v) (hv : v = 0 ↔ GridFine X Y V) : Ev (fun k => curve_Value.f k X Y V x y) (if v = 0 then atv (rowsP Y y X V) x else 0) := by
  unfold curve_Value.f
  refine Ev.bind e ?_
  by_cases h0 : v = 0
  · have hg := hv.1 h0
    simp only [if_pos h0]
    exact Ev.bind (rowsv_ev Y y X V (fun i hi => by have := row_ok hg i hi; rwa [rd_L1_get] at this)) (at_ok (rowsP_ok hg y) x)
  · simp only [if_neg h0]; exact Ev.now _
end Go.Proofs.YtfgeppldckagaaaDoor.Pure
