/- Without faults the target is reached after as many ticks as the greater distance needs, not earlier, and it is kept. -/
import Derived.Test.YtfgeppldckagaaaDoorPAllx0
import Derived.Test.YtfgeppldckagaaaDoorPAllx7
import Derived.Test.YtfgeppldckagaaaDoorPAllx10
import Derived.Test.YtfgeppldckagaaaDoorPAllx11
import Derived.Test.YtfgeppldckagaaaDoorPAllx27
import Derived.Test.YtfgeppldckagaaaDoorAwake
import Derived.Test.YtfgeppldckagaaaDoorSteps
namespace Go.Proofs.YtfgeppldckagaaaDoor.Pure
open Go.RowKit Go.Proofs.YtfgeppldckagaaaDoor.PAll Go.Proofs.YtfgeppldckagaaaDoorW.PrintWords Go.Proofs.YtfgeppldckagaaaDoorW.PrintLast Go.Proofs.YtfgeppldckagaaaDoorW.PrintMore
def far (c0 c1 t0 t1 : Int) : Int := max (max (c0 - t0) (t0 - c0)) (max (c1 - t1) (t1 - c1))
theorem nx_free (c0 c1 t0 t1 r : Int) (hc : Valid c0 c1) (ht : Valid t0 t1) (h0 : 0 ≤ r) (h1 : r ≤ 1200) : nx c0 c1 t0 t1 r [] = (toto c0 t0 r, toto c1 t1 r) := by
  obtain ⟨a, b, c, d⟩ := hc
  obtain ⟨e, f, g, h⟩ := ht
  unfold nx heat vent
  rw [cl_id c0 1200 a b, cl_id c1 400 c d, cl_id t0 1200 e f, cl_id t1 400 g h, cl_id r 1200 h0 h1]
  simp
theorem toto_far (c0 c1 t0 t1 r : Int) (h : 0 ≤ r) : far (toto c0 t0 r) (toto c1 t1 r) t0 t1 = max 0 (far c0 c1 t0 t1 - r) := by
  unfold far toto
  omega
theorem toto_valid (c0 c1 t0 t1 r : Int) (h : 0 ≤ r) (hc : Valid c0 c1) (ht : Valid t0 t1) : Valid (toto c0 t0 r) (toto c1 t1 r) := by
  unfold Valid toto at *
  omega
theorem ticks_ev (t0 t1 r : Int) (ht : Valid t0 t1) (h0 : 10 ≤ r) (h1 : r ≤ 1200) : ∀ n i : Nat, i + n ≤ 5000 → ∀ c0 c1 : Int, Valid c0 c1 → far c0 c1 t0 t1 ≤ (n : Int) * r → (0 < n → ((n : Int) - 1) * r < far c0 c1 t0 t1) →
    Ev (fun k => sawmilllaw35_AirReaches.l0 k r ((i + n : Nat) : Int) (i : Int) t0 t1 c0 c1) true
  | 0, i, hi, c0, c1, hc, hd, _ => by
    have e0 : c0 = t0 := by unfold far at hd; omega
    have e1 : c1 = t1 := by unfold far at hd; omega
    subst e0
    subst e1
    refine Ev.step (f := fun k => ((air_Next.f k c0 c1 c0 c1 r ([] : List Int)).bind fun bt418 => (if (bt418.1 == c0 && (bt418.2 == c1)) = true then ((sawmilllaw35_awake.f k).bind fun t420 => (some t420)) else (some false)))) (fun k => ?_) ?_
    · simp only [sawmilllaw35_AirReaches.l0]
      rw [if_neg (by omega)]
      simp only [beq_self_eq_true, Bool.and_self, if_true]
    · refine Ev.bind (next_ev c0 c1 c0 c1 r [] (by simp)) ?_
      rw [nx_free c0 c1 c0 c1 r hc hc (by omega) h1]
      have e0 : toto c0 c0 r = c0 := by unfold toto; omega
      have e1 : toto c1 c1 r = c1 := by unfold toto; omega
      rw [e0, e1]
      simp only [beq_self_eq_true, Bool.and_self, if_true]
      exact aw_ev
  | n + 1, i, hi, c0, c1, hc, hd, hn => by
    have ew : wrap64 ((i : Int) + 1) = ((i + 1 : Nat) : Int) := by rw [c64 (by omega) (by omega)]; rfl
    have hp : 0 ≤ (n : Int) * r := Int.mul_nonneg (by omega) (by omega)
    have e2 : (((n + 1 : Nat) : Int) - 1) * r = (n : Int) * r := by congr 1; omega
    have hn2 := hn (by omega)
    rw [e2] at hn2
    have e3 : ((n + 1 : Nat) : Int) * r = (n : Int) * r + r := by rw [Int.natCast_add, Int.add_mul]; simp
    rw [e3] at hd
    have e4 : ((n : Int) - 1) * r = (n : Int) * r - r := by rw [Int.sub_mul]; simp
    have hne : ¬ (c0 == t0 && (c1 == t1)) = true := by
      intro h
      simp only [Bool.and_eq_true, beq_iff_eq] at h
      obtain ⟨h5, h6⟩ := h
      rw [h5, h6] at hn2
      unfold far at hn2
      omega
    have hf := toto_far c0 c1 t0 t1 r (by omega)
    have h := ticks_ev t0 t1 r ht h0 h1 n (i + 1) (by omega) (toto c0 t0 r) (toto c1 t1 r) (toto_valid c0 c1 t0 t1 r (by omega) hc ht) (by rw [hf]; omega) (fun hn3 => by
      rw [hf, e4]
      have e5 : 0 ≤ ((n : Int) - 1) * r := Int.mul_nonneg (by omega) (by omega)
      omega)
    refine Ev.step (f := fun k => ((air_Next.f k c0 c1 t0 t1 r ([] : List Int)).bind fun bt416 => (sawmilllaw35_AirReaches.l0 k r ((i + (n + 1) : Nat) : Int) ((i + 1 : Nat) : Int) t0 t1 bt416.1 bt416.2))) (fun k => ?_) ?_
    · simp only [sawmilllaw35_AirReaches.l0]
      rw [if_pos (by omega), if_neg hne, ew]
    · refine Ev.bind (next_ev c0 c1 t0 t1 r [] (by simp)) ?_
      rw [nx_free c0 c1 t0 t1 r hc ht (by omega) h1]
      rw [show i + (n + 1) = i + 1 + n from by omega]
      exact h
theorem j0_true (r a b t u : Int) : Ev (fun k => sawmilllaw35_AirReaches.j0 k r true a b t u) true := Ev.step (fun k => by simp only [sawmilllaw35_AirReaches.j0, if_true]) aw_ev
theorem AirReaches : ∀ (x0 : S30) (x1 : S30) (a2 : Int), ((Lit.int .i64 x0.f0).wf = true ∧ (Lit.int .i64 x0.f1).wf = true) → ((Lit.int .i64 x1.f0).wf = true ∧ (Lit.int .i64 x1.f1).wf = true) → (Lit.int .i64 a2).wf = true → ∃ k, sawmilllaw35_AirReaches.f k x0.f0 x0.f1 x1.f0 x1.f1 a2 = some true := by
  intro x y r _ _ _
  refine Ev.rounds (r := true) ?_
  obtain ⟨a, b⟩ := x
  obtain ⟨t, u⟩ := y
  show Ev (fun k => sawmilllaw35_AirReaches.f k a b t u r) true
  unfold sawmilllaw35_AirReaches.f
  refine Ev.bind (a := if Valid a b then 0 else 9) (by rw [refcheck_f]; exact Ev.now _) ?_
  by_cases hc : Valid a b
  · simp only [if_pos hc, if_true]
    refine Ev.bind (a := if Valid t u then 0 else 9) (by rw [refcheck_f]; exact Ev.now _) ?_
    by_cases ht : Valid t u
    · simp only [if_pos ht, if_true]
      by_cases h0 : r < 10
      · simp only [if_pos h0]; exact j0_true ..
      · simp only [if_neg h0]
        by_cases h1 : r > 1200
        · simp only [h1, decide_true]; exact j0_true ..
        · simp only [h1, decide_false]
          have hva := hc
          have hvt := ht
          obtain ⟨v1, v2, v3, v4⟩ := hc
          obtain ⟨w1, w2, w3, w4⟩ := ht
          have hq0 := Int.ediv_nonneg (show 0 ≤ far a b t u + r - 1 by unfold far; omega) (show 0 ≤ r by omega)
          have hq1 := Int.ediv_le_self r (show 0 ≤ far a b t u + r - 1 by unfold far; omega)
          have hq2 := Int.mul_ediv_add_emod (far a b t u + r - 1) r
          have hq3 := Int.emod_nonneg (far a b t u + r - 1) (show r ≠ 0 by omega)
          have hq4 := Int.emod_lt_of_pos (far a b t u + r - 1) (show 0 < r by omega)
          have hff : mx (mx (mx (wrap64 (a - t)) (wrap64 (t - a))) (wrap64 (b - u))) (wrap64 (u - b)) = far a b t u := by
            rw [c64 (by omega) (by omega), c64 (by omega) (by omega), c64 (by omega) (by omega), c64 (by omega) (by omega), mx_max, mx_max, mx_max]
            unfold far
            omega
          have hfb : 0 ≤ far a b t u ∧ far a b t u ≤ 1200 := by unfold far; omega
          generalize hqq : (far a b t u + r - 1) / r = q at *
          generalize hmm : (far a b t u + r - 1) % r = m at *
          refine Ev.step (f := fun k => sawmilllaw35_AirReaches.l0 k r ((0 + q.toNat : Nat) : Int) ((0 : Nat) : Int) t u a b) (fun k => ?_) ?_
          · simp only [sawmilllaw35_AirReaches.j0, Bool.false_eq_true, if_false]
            rw [if_neg (by omega), hff, c64 (x := far a b t u + r) (by omega) (by omega), c64 (x := far a b t u + r - 1) (by omega) (by omega), Int.tdiv_eq_ediv_of_nonneg (by omega), hqq, c64 (by omega) (by omega)]
            congr 1
            omega
          · have e : ((q.toNat : Nat) : Int) = q := by omega
            have e6 : (q - 1) * r = r * q - r := by rw [Int.sub_mul, Int.mul_comm]; simp
            refine ticks_ev t u r hvt (by omega) (by omega) q.toNat 0 (by omega) a b hva ?_ (fun _ => ?_)
            · rw [e, Int.mul_comm]; omega
            · rw [e, e6]; omega
    · simp only [if_neg ht, show ¬ ((9 : Int) = 0) by decide, if_false]; exact j0_true ..
  · simp only [if_neg hc, show ¬ ((9 : Int) = 0) by decide, if_false]; exact j0_true ..
end Go.Proofs.YtfgeppldckagaaaDoor.Pure
