/- Disk: DiskFlushed's call -/
import Derived.Test.YtkgdppjlbjmjoaaDiskN
namespace Go.Proofs.Ytkgdppjlbjmjoaa.Dk
open Go.RowKit Go.Proofs.Ytkgdppjlbjmjoaa.PAll Go.Proofs.YtkgdppjlbjmjoaaW.PrintWords Go.Proofs.YtkgdppjlbjmjoaaW.PrintLast Go.Proofs.YtkgdppjlbjmjoaaW.PrintMore
set_option linter.unusedVariables false
set_option linter.unusedSimpArgs false
theorem u64_nonneg {m : Int} (h : (Lit.int .u64 m).wf = true) : 0 ≤ m := by
  simp only [Lit.wf, Bool.and_eq_true, decide_eq_true_eq] at h
  have e : IntKind.u64.min = 0 := by decide
  rw [e] at h
  exact h.1
set_option maxHeartbeats 2000000 in
theorem DiskFlushed_out (v : Bool) (b : Int) (m : Int) (hx : v = false ∨ b < 1 ∨ b > 8) (A : Option Addr) (c : Nat) (l : List S42) (w : World)
    (hsh : Calls Try.prog 16 #[.slice A l.length c] w fun e w' => e = .returned (.bool v) ∧ Drawn0 w w') : Calls Try.prog 5 #[.int .i64 b, .slice A l.length c, .int .u64 m] w fun e w' => e = .returned (.bool true) ∧ Below w.heap.size w w' := by
  have HSH := Lib.hid hsh
  clear hsh
  by_cases c0 : v = false
  · subst c0
    go_enter Try.func5, Try.ntmps5
    go_wp2_with (first | (go_at_call 16; (with_reducible refine HSH.out.mono ?_); rintro e w1 ⟨rfl, ⟨nd, rfl⟩⟩) | (go_at_call 11; (with_reducible refine (awake_calls _).mono ?_); rintro e wz ⟨rfl, hbz⟩))
    go_ret
    exact ⟨rfl, below_step (pw_below_drewN (Below.refl _ _) _) hbz⟩
  · obtain rfl : v = true := by simpa using c0
    by_cases c1 : b < 1
    · go_enter Try.func5, Try.ntmps5
      go_wp2_with (first | (go_at_call 16; (with_reducible refine HSH.out.mono ?_); rintro e w1 ⟨rfl, ⟨nd, rfl⟩⟩) | (go_at_call 11; (with_reducible refine (awake_calls _).mono ?_); rintro e wz ⟨rfl, hbz⟩))
      go_ret
      exact ⟨rfl, below_step (pw_below_drewN (Below.refl _ _) _) hbz⟩
    · by_cases c2 : b > 8
      · go_enter Try.func5, Try.ntmps5
        go_wp2_with (first | (go_at_call 16; (with_reducible refine HSH.out.mono ?_); rintro e w1 ⟨rfl, ⟨nd, rfl⟩⟩) | (go_at_call 11; (with_reducible refine (awake_calls _).mono ?_); rintro e wz ⟨rfl, hbz⟩))
        go_ret
        exact ⟨rfl, below_step (pw_below_drewN (Below.refl _ _) _) hbz⟩
      · rcases hx with h | h | h
        · cases h
        · exact absurd h c1
        · exact absurd h c2
theorem DiskFlushed_calls (b : Int) (A : Option Addr) (c : Nat) (l : List S42) (m : Int) (w : World) (hr : Kd.C k42 w A l.length l) (hc : l.length ≤ c) (_ : (Lit.int .i64 b).wf = true) (g : l.length * 40 ≤ 140737488351232 ∧ ∀ y ∈ l, ((Lit.int .i64 y.f0).wf = true ∧ (Lit.int .i64 y.f1).wf = true ∧ y.f2.size ≤ 140737488351232 ∧ (Lit.int .u64 y.f3).wf = true)) (g2 : (Lit.int .u64 m).wf = true) : Calls Try.prog 5 #[.int .i64 b, .slice A l.length c, .int .u64 m] w fun e w' => e = .returned (.bool true) ∧ Below w.heap.size w w' := by
  obtain ⟨v, h1, hsh⟩ := short_at A c l w hr hc
  by_cases hx : v = false ∨ b < 1 ∨ b > 8
  · exact DiskFlushed_out v b m hx A c l w hsh
  · have hv : v = true := by
      cases v
      · exact absurd (Or.inl rfl) hx
      · rfl
    subst hv
    have k1 : ¬ b < 1 := fun h => hx (Or.inr (Or.inl h))
    have k2 : ¬ b > 8 := fun h => hx (Or.inr (Or.inr h))
    obtain ⟨n, rfl⟩ : ∃ n : Nat, b = (n : Int) := ⟨b.toNat, by omega⟩
    exact DiskFlushed_main n (by omega) (by omega) A c l m w hr hc (h1 rfl).1 (fun o ho => u64_nonneg (g.2 o ho).2.2.2) (u64_nonneg g2) hsh
end Go.Proofs.Ytkgdppjlbjmjoaa.Dk
