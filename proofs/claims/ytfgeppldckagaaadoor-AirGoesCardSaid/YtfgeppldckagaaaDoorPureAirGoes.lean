/- The next climate is valid, lies between the present one and that to which it goes, and is not farther away than the ramp; the order and the number of faults do not matter. -/
import Derived.Test.YtfgeppldckagaaaDoorPAllx0
import Derived.Test.YtfgeppldckagaaaDoorPAllx4
import Derived.Test.YtfgeppldckagaaaDoorPAllx7
import Derived.Test.YtfgeppldckagaaaDoorPAllx10
import Derived.Test.YtfgeppldckagaaaDoorPAllx11
import Derived.Test.YtfgeppldckagaaaDoorPAllx25
import Derived.Test.YtfgeppldckagaaaDoorPAllx26
import Derived.Test.YtfgeppldckagaaaDoorAwake
import Derived.Test.YtfgeppldckagaaaDoorSteps
namespace Go.Proofs.YtfgeppldckagaaaDoor.Pure
open Go.RowKit Go.Proofs.YtfgeppldckagaaaDoor.PAll Go.Proofs.YtfgeppldckagaaaDoorW.PrintWords Go.Proofs.YtfgeppldckagaaaDoorW.PrintLast Go.Proofs.YtfgeppldckagaaaDoorW.PrintMore
theorem nx_valid (a0 a1 t0 t1 r : Int) (l : List Int) (hc : Valid a0 a1) (ht : Valid t0 t1) (h0 : 0 ≤ r) (h1 : r ≤ 1200) : nx a0 a1 t0 t1 r l = (toto a0 (heat l t0) r, toto a1 (vent l t1) r) := by
  obtain ⟨a, b, c, d⟩ := hc
  obtain ⟨e, f, g, h⟩ := ht
  unfold nx
  rw [cl_id a0 1200 a b, cl_id a1 400 c d, cl_id t0 1200 e f, cl_id t1 400 g h, cl_id r 1200 h0 h1]
theorem goal_valid (l : List Int) (t0 t1 : Int) (ht : Valid t0 t1) : Valid (heat l t0) (vent l t1) := by
  unfold Valid heat vent at *
  split <;> split <;> omega
theorem lies_f (a g r : Int) (h0 : 0 ≤ r) (ha : 0 ≤ a) (ha2 : a ≤ 1200) (hg : 0 ≤ g) (hg2 : g ≤ 1200) : sawmilllaw35_between.f (toto a g r) a g r = some true := by
  have h : toto a g r = max (a - r) (min g (a + r)) := rfl
  generalize toto a g r = n at *
  unfold sawmilllaw35_between.f
  rw [mn_min, mx_max, if_pos (by omega), if_pos (by omega), c64 (by omega) (by omega), if_pos (by omega), c64 (by omega) (by omega)]
  congr 1
  exact decide_eq_true (by omega)
theorem toto_ok (c0 c1 t0 t1 r : Int) (h : 0 ≤ r) (hc : Valid c0 c1) (ht : Valid t0 t1) : Valid (toto c0 t0 r) (toto c1 t1 r) := by
  unfold Valid toto at *
  omega
theorem goes_loop (a0 a1 t0 t1 r : Int) (l : List Int) (hl : l.length ≤ 100) (hc : Valid a0 a1) (ht : Valid t0 t1) (h0 : 0 ≤ r) (h1 : r ≤ 1200) : ∀ i : Nat, i ≤ l.length → ∀ x4 : List Int, x4.length = 2 * (l.length - i) → (∀ q, q ∈ x4 ↔ q ∈ l.drop i) →
    Ev (fun k => sawmilllaw35_AirGoes.l0 k x4 ((i : Int) - 1) a0 a1 t0 t1 r l (heat (l.drop i) t0) (vent (l.drop i) t1)) true
  | 0, _, x4, hx, hm => by
    have hm1 : ∀ q, q ∈ x4 ↔ q ∈ l := fun q => by simpa using hm q
    have he : nx a0 a1 t0 t1 r x4 = nx a0 a1 t0 t1 r l := by
      unfold nx heat vent
      simp only [hm1]
    have hv := toto_ok
    rw [List.drop_zero]
    refine Ev.step (f := fun k => ((air_Next.f k a0 a1 t0 t1 r l).bind fun bt401 => ((air_Next.f k a0 a1 t0 t1 r x4).bind fun bt404 => (if (!(bt401.1 == bt404.1) || (!(bt401.2 == bt404.2))) = true then (sawmilllaw35_AirGoes.j2 k true a0 a1 t0 t1 r l (heat l t0) (vent l t1) bt401.1 bt401.2) else ((air_Check.f bt401.1 bt401.2).bind fun t406 => (sawmilllaw35_AirGoes.j2 k (t406 != 0) a0 a1 t0 t1 r l (heat l t0) (vent l t1) bt401.1 bt401.2)))))) (fun k => ?_) ?_
    · simp only [sawmilllaw35_AirGoes.l0]
      rw [if_neg (by omega)]
    · refine Ev.bind (next_ev a0 a1 t0 t1 r l (by omega)) (Ev.bind (next_ev a0 a1 t0 t1 r x4 (by omega)) ?_)
      rw [he, nx_valid a0 a1 t0 t1 r l hc ht h0 h1]
      simp only [beq_self_eq_true, Bool.not_true, Bool.or_self, Bool.false_eq_true, if_false]
      have hg := goal_valid l t0 t1 ht
      obtain ⟨v1, v2, v3, v4⟩ := hc
      obtain ⟨w1, w2, w3, w4⟩ := hg
      refine Ev.bind (a := 0) (by rw [check_f, if_pos (hv _ _ _ _ _ h0 ⟨v1, v2, v3, v4⟩ ⟨w1, w2, w3, w4⟩)]; exact Ev.now _) ?_
      refine Ev.step (f := fun k => ((sawmilllaw35_between.f (toto a0 (heat l t0) r) a0 (heat l t0) r).bind fun t407 => (if t407 = true then ((sawmilllaw35_between.f (toto a1 (vent l t1) r) a1 (vent l t1) r).bind fun t408 => (if t408 = true then ((sawmilllaw35_awake.f k).bind fun t409 => (some t409)) else (some false))) else (some false)))) (fun k => ?_) ?_
      · simp only [sawmilllaw35_AirGoes.j2, bne_self_eq_false, Bool.false_eq_true, if_false]
      · refine Ev.bind (a := true) (by rw [lies_f a0 _ r h0 v1 v2 w1 w2]; exact Ev.now _) ?_
        simp only [if_true]
        refine Ev.bind (a := true) (by rw [lies_f a1 _ r h0 v3 (by omega) w3 (by omega)]; exact Ev.now _) ?_
        simp only [if_true]
        exact aw_ev
  | i + 1, hi, x4, hx, hm => by
    have hd := rd_cons l i (by omega)
    have ew : wrap64 ((((i + 1 : Nat) : Int) - 1) - 1) = (i : Int) - 1 := by rw [c64 (by omega) (by omega)]; omega
    have e0 : ((i + 1 : Nat) : Int) - 1 = (i : Int) := by omega
    rw [e0] at ew ⊢
    have q1 : (i : Int) ≥ 0 := by omega
    have q2 : (0 : Int) ≤ (i : Int) := by omega
    have q3 : (i : Int) < (l.length : Int) := by omega
    have hm2 : ∀ q, q ∈ x4 ++ [rd l (i : Int), rd l (i : Int)] ↔ q ∈ l.drop i := fun q => by
      rw [hd, List.mem_append, hm q]
      simp only [List.mem_cons, List.not_mem_nil, or_false, or_self]
      exact Or.comm
    have hx2 : (x4 ++ [rd l (i : Int), rd l (i : Int)]).length = 2 * (l.length - i) := by
      rw [List.length_append, hx]
      simp only [List.length_cons, List.length_nil]
      omega
    have q4 : x4.length + ([rd l (i : Int), rd l (i : Int)] : List Int).length < 17592186044416 := by
      rw [hx]
      simp only [List.length_cons, List.length_nil]
      omega
    have h := goes_loop a0 a1 t0 t1 r l hl hc ht h0 h1 i (by omega) _ hx2 hm2
    refine Ev.step (fun k => ?_) h
    by_cases c1 : rd l (i : Int) = 1
    · have c3 : ¬ rd l (i : Int) = 3 := by omega
      have e1 : heat (l.drop i) t0 = 200 := by rw [hd, c1]; unfold heat; simp
      have e2 : vent (l.drop i) t1 = vent (l.drop (i + 1)) t1 := by rw [hd, c1]; unfold vent; simp
      rw [e1, e2]
      simp only [sawmilllaw35_AirGoes.l0, if_pos q1, if_pos q3, if_pos c1, if_neg c3, air_Outside.f, Option.bind_some, if_pos q4, ew]
    · by_cases c3 : rd l (i : Int) = 3
      · have e1 : heat (l.drop i) t0 = heat (l.drop (i + 1)) t0 := by rw [hd, c3]; unfold heat; simp
        have e2 : vent (l.drop i) t1 = 100 := by rw [hd, c3]; unfold vent; simp
        rw [e1, e2]
        simp only [sawmilllaw35_AirGoes.l0, if_pos q1, if_pos q3, if_neg c1, if_pos c3, air_Outside.f, Option.bind_some, if_pos q4, ew]
      · have e1 : heat (l.drop i) t0 = heat (l.drop (i + 1)) t0 := by rw [hd]; unfold heat; simp [Ne.symm c1]
        have e2 : vent (l.drop i) t1 = vent (l.drop (i + 1)) t1 := by rw [hd]; unfold vent; simp [Ne.symm c3]
        rw [e1, e2]
        simp only [sawmilllaw35_AirGoes.l0, if_pos q1, if_pos q3, if_neg c1, if_neg c3, Option.bind_some, if_pos q4, ew]
theorem goes_true (a0 a1 b0 b1 r : Int) (l : List Int) : Ev (fun k => sawmilllaw35_AirGoes.j0 k true a0 a1 b0 b1 r l) true := Ev.step (fun k => by simp only [sawmilllaw35_AirGoes.j0, if_true]) aw_ev
theorem AirGoes : ∀ (x0 : S36), (((Lit.int .i64 x0.f0.f0).wf = true ∧ (Lit.int .i64 x0.f0.f1).wf = true) ∧ ((Lit.int .i64 x0.f1.f0).wf = true ∧ (Lit.int .i64 x0.f1.f1).wf = true) ∧ (Lit.int .i64 x0.f2).wf = true ∧ (x0.f3.length * 8 ≤ 140737488351232 ∧ ∀ y ∈ x0.f3, (Lit.int .i64 y).wf = true)) → ∃ k, sawmilllaw35_AirGoes.f k x0.f0.f0 x0.f0.f1 x0.f1.f0 x0.f1.f1 x0.f2 x0.f3 = some true := by
  intro x _
  refine Ev.rounds (r := true) ?_
  obtain ⟨⟨a0, a1⟩, ⟨b0, b1⟩, r, l⟩ := x
  show Ev (fun k => sawmilllaw35_AirGoes.f k a0 a1 b0 b1 r l) true
  unfold sawmilllaw35_AirGoes.f
  by_cases hl : (l.length : Int) > 100
  · simp only [if_pos hl]; exact goes_true ..
  · simp only [if_neg hl]
    refine Ev.bind (a := if Valid a0 a1 then 0 else 9) (by rw [refcheck_f]; exact Ev.now _) ?_
    by_cases hc : Valid a0 a1
    · simp only [if_pos hc, if_true]
      refine Ev.bind (a := if Valid b0 b1 then 0 else 9) (by rw [refcheck_f]; exact Ev.now _) ?_
      by_cases ht : Valid b0 b1
      · simp only [if_pos ht, if_true]
        by_cases h0 : r < 0
        · simp only [if_pos h0]; exact goes_true ..
        · simp only [if_neg h0]
          by_cases h1 : r > 1200
          · simp only [h1, decide_true]; exact goes_true ..
          · simp only [h1, decide_false]
            have h := goes_loop a0 a1 b0 b1 r l (by omega) hc ht (by omega) (by omega) l.length (Nat.le_refl _) [] (by simp) (fun q => by simp)
            rw [List.drop_eq_nil_of_le (Nat.le_refl _)] at h
            refine Ev.step (fun k => ?_) h
            simp only [sawmilllaw35_AirGoes.j0, Bool.false_eq_true, if_false]
            rw [c64 (by omega) (by omega)]
            rfl
      · simp only [if_neg ht, show ¬ ((9 : Int) = 0) by decide, if_false]; exact goes_true ..
    · simp only [if_neg hc, show ¬ ((9 : Int) = 0) by decide, if_false]; exact goes_true ..
end Go.Proofs.YtfgeppldckagaaaDoor.Pure
