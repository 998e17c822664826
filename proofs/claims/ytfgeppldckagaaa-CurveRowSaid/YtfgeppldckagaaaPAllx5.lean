-- Written by a changed copy of the kit's print program, run in this session (NOTES.md tells the change). Not trusted: Lean checks it.
import Derived.Test.YtfgeppldckagaaaPAllx0
namespace Go.Proofs.Ytfgeppldckagaaa.PAll
open Go.RowKit Go.Proofs.YtfgeppldckagaaaW.PrintWords Go.Proofs.YtfgeppldckagaaaW.PrintLast Go.Proofs.YtfgeppldckagaaaW.PrintMore
attribute [local go_sem] max2_int min2_int max_two min_two max_three min_three max_four min_four   -- for this text's walks alone
set_option linter.unusedVariables false
set_option linter.unusedSimpArgs false

/-! ### curve_rise: function 31 -/
def curve_rise.f (a0 : Int) (a1 : Int) (a2 : Int) : Option (Int) := if (wrap64 (a0 * a1)) < 0 then (if a2 = 0 then (none) else (some (wrap64 (-(wrap64 (Int.tdiv (wrap64 ((wrap64 ((wrap64 (-(wrap64 (a0 * a1)))) + a2)) - 1)) a2)))))) else (if a2 = 0 then (none) else (some (wrap64 (Int.tdiv (wrap64 (a0 * a1)) a2))))
set_option maxHeartbeats 8000000 in
set_option maxRecDepth 100000 in
theorem curve_rise.calls (a0 : Int) (a1 : Int) (a2 : Int) (r : Int) (w : World) (h : curve_rise.f a0 a1 a2 = some r) :
    Calls Try.prog 31 #[.int .i64 a0, .int .i64 a1, .int .i64 a2] w fun e w' => e = .returned (.int .i64 r) ∧ Drawn0 w w' := by
  have H : (if (wrap64 (a0 * a1)) < 0 then (if a2 = 0 then (none) else (some (wrap64 (-(wrap64 (Int.tdiv (wrap64 ((wrap64 ((wrap64 (-(wrap64 (a0 * a1)))) + a2)) - 1)) a2)))))) else (if a2 = 0 then (none) else (some (wrap64 (Int.tdiv (wrap64 (a0 * a1)) a2))))) = some r := h
  clear h
  by_cases c4 : (wrap64 (a0 * a1)) < 0
  · rw [if_pos c4] at H
    have c4b0 : decide ((wrap64 (a0 * a1)) < 0) = true := decide_eq_true c4
    clear c4
    by_cases c5 : a2 = 0
    · rw [if_pos c5] at H
      exact absurd H (by simp)
    · rw [if_neg c5] at H
      have c5b0 : (a2 == 0) = false := beq_eq_false_iff_ne.mpr c5
      have c5b1 : (a2 != 0) = true := bne_iff_ne.mpr c5
      obtain rfl := Option.some.inj H
      go_enter Try.func31, Try.ntmps31
      go_wp2
      go_ret
      exact ⟨by first | rfl | (simp; done) | (simp [*]; done), by repeat (first | exact Drawn0.refl _ | apply Drawn0.step)⟩
  · rw [if_neg c4] at H
    have c4b0 : decide ((wrap64 (a0 * a1)) < 0) = false := decide_eq_false c4
    clear c4
    by_cases c6 : a2 = 0
    · rw [if_pos c6] at H
      exact absurd H (by simp)
    · rw [if_neg c6] at H
      have c6b0 : (a2 == 0) = false := beq_eq_false_iff_ne.mpr c6
      have c6b1 : (a2 != 0) = true := bne_iff_ne.mpr c6
      obtain rfl := Option.some.inj H
      go_enter Try.func31, Try.ntmps31
      go_wp2
      go_ret
      exact ⟨by first | rfl | (simp; done) | (simp [*]; done), by repeat (first | exact Drawn0.refl _ | apply Drawn0.step)⟩

end Go.Proofs.Ytfgeppldckagaaa.PAll
