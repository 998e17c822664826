/- The law DiskSteps. -/
import Derived.Test.YtkgdppjlbjmjoaaDiskJ
namespace Go.Proofs.Ytkgdppjlbjmjoaa.Dk
open Go.RowKit Go.Proofs.Ytkgdppjlbjmjoaa.PAll Go.Proofs.YtkgdppjlbjmjoaaW.PrintWords Go.Proofs.YtkgdppjlbjmjoaaW.PrintLast Go.Proofs.YtkgdppjlbjmjoaaW.PrintMore
set_option linter.unusedVariables false
set_option linter.unusedSimpArgs false
set_option maxHeartbeats 2000000 in
theorem DiskSteps_out (v : Bool) (b n : Int) (hx : v = false ∨ b < 1 ∨ b > 8 ∨ n < 0 ∨ n > 100) (A : Option Addr) (c : Nat) (l : List S42) (w : World)
    (hsh : Calls Try.prog 16 #[.slice A l.length c] w fun e w' => e = .returned (.bool v) ∧ Drawn0 w w') : Calls Try.prog 7 #[.int .i64 b, .int .i64 n, .slice A l.length c] w fun e w' => e = .returned (.bool true) ∧ Below w.heap.size w w' := by
  have HSH := Lib.hid hsh
  clear hsh
  by_cases c0 : v = false
  · subst c0
    go_enter Try.func7, Try.ntmps7
    go_wp2_with (first | (go_at_call 16; (with_reducible refine HSH.out.mono ?_); rintro e w1 ⟨rfl, ⟨nd, rfl⟩⟩) | (go_at_call 11; (with_reducible refine (awake_calls _).mono ?_); rintro e wz ⟨rfl, hbz⟩))
    go_ret
    exact ⟨rfl, below_step (pw_below_drewN (Below.refl _ _) _) hbz⟩
  · obtain rfl : v = true := by simpa using c0
    by_cases c1 : b < 1
    · go_enter Try.func7, Try.ntmps7
      go_wp2_with (first | (go_at_call 16; (with_reducible refine HSH.out.mono ?_); rintro e w1 ⟨rfl, ⟨nd, rfl⟩⟩) | (go_at_call 11; (with_reducible refine (awake_calls _).mono ?_); rintro e wz ⟨rfl, hbz⟩))
      go_ret
      exact ⟨rfl, below_step (pw_below_drewN (Below.refl _ _) _) hbz⟩
    · by_cases c2 : b > 8
      · go_enter Try.func7, Try.ntmps7
        go_wp2_with (first | (go_at_call 16; (with_reducible refine HSH.out.mono ?_); rintro e w1 ⟨rfl, ⟨nd, rfl⟩⟩) | (go_at_call 11; (with_reducible refine (awake_calls _).mono ?_); rintro e wz ⟨rfl, hbz⟩))
        go_ret
        exact ⟨rfl, below_step (pw_below_drewN (Below.refl _ _) _) hbz⟩
      · by_cases c3 : n < 0
        · go_enter Try.func7, Try.ntmps7
          go_wp2_with (first | (go_at_call 16; (with_reducible refine HSH.out.mono ?_); rintro e w1 ⟨rfl, ⟨nd, rfl⟩⟩) | (go_at_call 11; (with_reducible refine (awake_calls _).mono ?_); rintro e wz ⟨rfl, hbz⟩))
          go_ret
          exact ⟨rfl, below_step (pw_below_drewN (Below.refl _ _) _) hbz⟩
        · by_cases c4 : n > 100
          · go_enter Try.func7, Try.ntmps7
            go_wp2_with (first | (go_at_call 16; (with_reducible refine HSH.out.mono ?_); rintro e w1 ⟨rfl, ⟨nd, rfl⟩⟩) | (go_at_call 11; (with_reducible refine (awake_calls _).mono ?_); rintro e wz ⟨rfl, hbz⟩))
            go_ret
            exact ⟨rfl, below_step (pw_below_drewN (Below.refl _ _) _) hbz⟩
          · rcases hx with h | h | h | h | h
            · cases h
            · exact absurd h c1
            · exact absurd h c2
            · exact absurd h c3
            · exact absurd h c4
theorem DiskSteps_calls (b n : Int) (A : Option Addr) (c : Nat) (l : List S42) (w : World) (hr : Kd.C k42 w A l.length l) (hc : l.length ≤ c) : Calls Try.prog 7 #[.int .i64 b, .int .i64 n, .slice A l.length c] w fun e w' => e = .returned (.bool true) ∧ Below w.heap.size w w' := by
  obtain ⟨v, h1, hsh⟩ := short_at A c l w hr hc
  by_cases hx : v = false ∨ b < 1 ∨ b > 8 ∨ n < 0 ∨ n > 100
  · exact DiskSteps_out v b n hx A c l w hsh
  · have hv : v = true := by
      cases v
      · exact absurd (Or.inl rfl) hx
      · rfl
    subst hv
    have k1 : ¬ b < 1 := fun h => hx (Or.inr (Or.inl h))
    have k2 : ¬ b > 8 := fun h => hx (Or.inr (Or.inr (Or.inl h)))
    have k3 : ¬ n < 0 := fun h => hx (Or.inr (Or.inr (Or.inr (Or.inl h))))
    have k4 : ¬ n > 100 := fun h => hx (Or.inr (Or.inr (Or.inr (Or.inr h))))
    obtain ⟨m, rfl⟩ : ∃ m : Nat, b = (m : Int) := ⟨b.toNat, by omega⟩
    exact DiskSteps_main m (by omega) (by omega) n (by omega) (by omega) A c l w hr hc (h1 rfl).1 hsh
end Go.Proofs.Ytkgdppjlbjmjoaa.Dk
