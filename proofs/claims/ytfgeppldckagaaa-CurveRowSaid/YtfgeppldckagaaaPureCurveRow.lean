/- A grid with one row is a curve along Y, and one with one column is a curve along X. -/
import Derived.Test.YtfgeppldckagaaaPAllx0
import Derived.Test.YtfgeppldckagaaaPAllx6
import Derived.Test.YtfgeppldckagaaaPAllx9
import Derived.Test.YtfgeppldckagaaaPAllx13
import Derived.Test.YtfgeppldckagaaaPAllx15
import Derived.Test.YtfgeppldckagaaaPAllx27d
import Derived.Test.YtfgeppldckagaaaAwake
import Derived.Test.YtfgeppldckagaaaGval
namespace Go.Proofs.Ytfgeppldckagaaa.Pure
open Go.RowKit Go.Proofs.Ytfgeppldckagaaa.PAll Go.Proofs.YtfgeppldckagaaaW.PrintWords Go.Proofs.YtfgeppldckagaaaW.PrintLast
theorem aw_ev : Ev (fun k => (sawmilllaw08_awake.f k).bind fun t => some t) true := Ev.bind awake_ev (Ev.now _)
def xsOf (l : List S36) : List Int := l.map fun p => p.f0
def ysOf (l : List S36) : List Int := l.map fun p => p.f1
def cols (l : List Int) : List (List Int) := l.map fun y => [y]
theorem Ax_xs (l : List S36) (i : Nat) (h : i < l.length) : Ax (xsOf l) i = (Pt l i).f0 := by
  rw [Ax_get, Pt_get l i h, List.getD_eq_getElem?_getD, xsOf, List.getElem?_map, List.getElem?_eq_getElem h]; rfl
theorem Ax_ys (l : List S36) (i : Nat) (h : i < l.length) : Ax (ysOf l) i = (Pt l i).f1 := by
  rw [Ax_get, Pt_get l i h, List.getD_eq_getElem?_getD, ysOf, List.getElem?_map, List.getElem?_eq_getElem h]; rfl
theorem rd_cols (l : List S36) (i : Nat) (h : i < l.length) : rd_L1 (cols (ysOf l)) (i : Int) = [(Pt l i).f1] := by
  rw [rd_L1_get, Pt_get l i h, List.getD_eq_getElem?_getD, cols, ysOf, List.getElem?_map, List.getElem?_map, List.getElem?_eq_getElem h]; rfl
theorem mkpts_of : ∀ l : List S36, mkpts (xsOf l) (ysOf l) = l
  | [] => rfl
  | p :: l => by
    have ih := mkpts_of l
    simp only [xsOf, ysOf, List.map_cons, mkpts] at ih ⊢
    rw [ih]
theorem single_at (a b x : Int) : atv [⟨a, b⟩] x = b := by
  unfold atv
  by_cases h : a < x
  · have e : (List.takeWhile (fun p : S36 => decide (p.f0 < x)) [⟨a, b⟩]).length = 1 := by simp [h]
    rw [e]; rfl
  · have e : (List.takeWhile (fun p : S36 => decide (p.f0 < x)) [⟨a, b⟩]).length = 0 := by simp [h]
    rw [e]; rfl
theorem rowsP_cols (n : Int) : ∀ l : List S36, rowsP [n] n (xsOf l) (cols (ysOf l)) = l
  | [] => rfl
  | p :: l => by
    have ih := rowsP_cols n l
    simp only [xsOf, ysOf, cols, List.map_cons, rowsP, mkpts] at ih ⊢
    rw [single_at, ih]
theorem axOk_xs {l : List S36} (ho : PtsOk l) (j : Nat) (hj : j < (xsOf l).length) : AxG (xsOf l) j := by
  have hl : (xsOf l).length = l.length := by simp [xsOf]
  rw [hl] at hj
  refine ⟨by rw [Ax_xs l j hj]; exact (ho.rng j hj).1, fun h0 => ?_⟩
  rw [Ax_xs l j hj, Ax_xs l (j - 1) (by omega)]
  have := ho.asc (j - 1) (by omega)
  rwa [show j - 1 + 1 = j from by omega] at this
theorem axOk_one {n : Int} (hn : InR n) (j : Nat) (hj : j < [n].length) : AxG [n] j := by
  have : j = 0 := by simpa using hj
  subst this
  exact ⟨hn, fun h => absurd h (Nat.lt_irrefl _)⟩
theorem fine_row {l : List S36} (ho : PtsOk l) {n : Int} (hn : InR n) : GridFine [n] (xsOf l) [ysOf l] := by
  have hl : (xsOf l).length = l.length := by simp [xsOf]
  have hl2 : (ysOf l).length = l.length := by simp [ysOf]
  refine ⟨by simp, by simp, by rw [hl]; exact ho.pos, by rw [hl]; exact ho.len, rfl, axOk_one hn, axOk_xs ho, fun j hj => ?_⟩
  have : j = 0 := by simpa using hj
  subst this
  have e : rd_L1 [ysOf l] ((0 : Nat) : Int) = ysOf l := rfl
  refine ⟨by rw [e, hl, hl2], fun q hq => ?_⟩
  rw [hl] at hq
  rw [e, Ax_ys l q hq]
  exact (ho.rng q hq).2
theorem fine_col {l : List S36} (ho : PtsOk l) {n : Int} (hn : InR n) : GridFine (xsOf l) [n] (cols (ysOf l)) := by
  have hl : (xsOf l).length = l.length := by simp [xsOf]
  have hl2 : (cols (ysOf l)).length = l.length := by simp [cols, ysOf]
  refine ⟨by rw [hl]; exact ho.pos, by rw [hl]; exact ho.len, by simp, by simp, by rw [hl, hl2], axOk_xs ho, axOk_one hn, fun j hj => ?_⟩
  rw [hl2] at hj
  rw [RowG, rd_cols l j hj]
  refine ⟨rfl, fun q hq => ?_⟩
  have : q = 0 := by simpa using hq
  subst this
  exact (ho.rng j hj).2
theorem take_map {α : Type} (f : S36 → α) (l : List S36) (i : Nat) (h : i < l.length) : (l.map f).take (i + 1) = (l.map f).take i ++ [f (Pt l i)] := by
  rw [List.take_succ_eq_append_getElem (by simpa using h), List.getElem_map, Pt_get l i h]
theorem row_loop {l : List S36} (ho : PtsOk l) {n : Int} (hn : InR n) (x : Int) : ∀ d i : Nat, i + d = l.length →
    Ev (fun k => sawmilllaw08_CurveRow.l0 k l n x (i : Int) [n] ((xsOf l).take i) [(ysOf l).take i] ((xsOf l).take i) [n] (cols ((ysOf l).take i))) true
  | 0, i, hd => by
    have hl : (xsOf l).length = l.length := by simp [xsOf]
    have hl2 : (ysOf l).length = l.length := by simp [ysOf]
    obtain ⟨v, e1, _, e3⟩ := chk_ev l
    have hv : v = 0 := e3.2 ho
    obtain ⟨a, a1, _, a3⟩ := grid_ev [n] (xsOf l) [ysOf l]
    have ha : a = 0 := a3.2 (fine_row ho hn)
    obtain ⟨b, b1, _, b3⟩ := grid_ev (xsOf l) [n] (cols (ysOf l))
    have hb : b = 0 := b3.2 (fine_col ho hn)
    subst ha hb
    have va := value_ev n x a1 a3
    have vb := value_ev x n b1 b3
    rw [if_pos rfl] at va vb
    have ea : atv (rowsP (xsOf l) x [n] [ysOf l]) n = atv l x := by
      simp only [rowsP, mkpts_of]; exact single_at _ _ _
    have eb : atv (rowsP [n] n (xsOf l) (cols (ysOf l))) x = atv l x := by rw [rowsP_cols]
    rw [ea] at va
    rw [eb] at vb
    rw [List.take_of_length_le (by omega), List.take_of_length_le (by omega)]
    refine Ev.step (fun k => rfl) ?_
    simp only [sawmilllaw08_CurveRow.l0, if_neg (show ¬ (i : Int) < (l.length : Int) by omega)]
    refine Ev.bind (at_ok ho x) (Ev.bind a1 ?_)
    simp only [if_true]
    refine Ev.bind b1 ?_
    simp only [if_true]
    refine Ev.bind va ?_
    simp only [if_true]
    refine Ev.bind vb ?_
    simp only [if_true]
    exact aw_ev
  | d + 1, i, hd => by
    have h16 := ho.len
    have ih := row_loop ho hn x d (i + 1) (by omega)
    have ew : wrap64 ((i : Int) + 1) = ((i + 1 : Nat) : Int) := by rw [c64 (by omega) (by omega)]; rfl
    have hp : rd_T36 l (i : Int) = Pt l i := rfl
    have t1 : (xsOf l).take (i + 1) = (xsOf l).take i ++ [(Pt l i).f0] := take_map _ l i (by omega)
    have t2 : (ysOf l).take (i + 1) = (ysOf l).take i ++ [(Pt l i).f1] := take_map _ l i (by omega)
    have t3 : cols ((ysOf l).take i ++ [(Pt l i).f1]) = cols ((ysOf l).take i) ++ [[(Pt l i).f1]] := by simp [cols]
    rw [t1, t2, t3] at ih
    have r0 : rd_L1 [(ysOf l).take i] 0 = (ysOf l).take i := rfl
    have s0 : [(ysOf l).take i].set (0 : Int).toNat ((ysOf l).take i ++ [(Pt l i).f1]) = [(ysOf l).take i ++ [(Pt l i).f1]] := rfl
    have b1 : ((xsOf l).take i).length < 17592186044416 := by rw [List.length_take]; omega
    have b2 : ((ysOf l).take i).length < 17592186044416 := by rw [List.length_take]; omega
    have b3 : (cols ((ysOf l).take i)).length < 5864062014805 := by rw [cols, List.length_map, List.length_take]; omega
    have b4 : (0 : Int) < ([(ysOf l).take i].length : Int) := by simp
    refine Ev.step (fun k => ?_) ih
    simp only [sawmilllaw08_CurveRow.l0, if_pos (show (i : Int) < (l.length : Int) by omega), if_pos (show (0 : Int) ≤ (i : Int) by omega), r0, if_pos b1, if_pos b2, if_pos b3, if_pos b4, hp, ew, s0]
theorem CurveRow : ∀ (l0 : List (S36)) (a1 : Int) (a2 : Int), (l0.length * 16 ≤ 140737488351232 ∧ ∀ y ∈ l0, ((Lit.int .i64 y.f0).wf = true ∧ (Lit.int .i64 y.f1).wf = true)) → (Lit.int .i64 a1).wf = true → (Lit.int .i64 a2).wf = true → ∃ k, sawmilllaw08_CurveRow.f k l0 a1 a2 = some true := by
  intro l n x _ _ _
  refine Ev.rounds (r := true) ?_
  unfold sawmilllaw08_CurveRow.f sawmilllaw08_small.f
  simp only [Option.bind_some]
  have hend : Ev (fun k => sawmilllaw08_CurveRow.j0 k l n x true) true := Ev.step (fun k => rfl) (by simp only [sawmilllaw08_CurveRow.j0, if_true]; exact aw_ev)
  by_cases c : (l.length : Int) ≤ 100
  · simp only [decide_eq_true_eq, if_pos c]
    obtain ⟨v, e1, e2, e3⟩ := chk_ev l
    refine Ev.bind e1 ?_
    by_cases h0 : v = 0
    · have ho := e3.1 h0
      simp only [if_pos h0]
      by_cases c1 : n < -1000000
      · simp only [if_pos c1]; exact hend
      · by_cases c2 : n > 1000000
        · simp only [if_neg c1, decide_eq_true c2]; exact hend
        · simp only [if_neg c1, decide_eq_false c2]
          refine Ev.step (fun k => by simp only [sawmilllaw08_CurveRow.j0, Bool.false_eq_true, if_false]; rfl) (row_loop ho (show InR n from ⟨by omega, by omega⟩) x l.length 0 (by omega))
    · simp only [if_neg h0]; exact hend
  · simp only [decide_eq_true_eq, if_neg c]
    exact hend
end Go.Proofs.Ytfgeppldckagaaa.Pure
