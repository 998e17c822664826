/- The disk's methods: DiskH. -/
import Derived.Test.YtkgdppjlbjmjoaaDiskG
namespace Go.Proofs.Ytkgdppjlbjmjoaa.Dk
open Go.RowKit Go.Proofs.Ytkgdppjlbjmjoaa.PAll Go.Proofs.YtkgdppjlbjmjoaaW.PrintWords Go.Proofs.YtkgdppjlbjmjoaaW.PrintLast Go.Proofs.YtkgdppjlbjmjoaaW.PrintMore
set_option linter.unusedVariables false
set_option linter.unusedSimpArgs false
set_option maxHeartbeats 2000000 in
theorem DiskNil_calls (n : Int) (s : ByteArray) (m : Int) (w : World) : Calls Try.prog 8 #[.int .i64 n, .string s, .int .u64 m] w fun e w' => e = .returned (.bool true) ∧ Below w.heap.size w w' := by
  have HW := Lib.hid (awake_calls w)
  have hnt : noText.toList = [] := by decide +kernel
  go_enter Try.func8, Try.ntmps8
  go_wp2_with (first | (go_at_call 12; (with_reducible refine (Read_nil n _).mono ?_); rintro e w1 ⟨rfl, hw⟩; subst hw) | (go_at_call 26; (with_reducible refine (Write_nil n s _).mono ?_); rintro e w1 ⟨rfl, hw⟩; subst hw) | (go_at_call 21; (with_reducible refine (Flush_nil _).mono ?_); rintro e w1 ⟨rfl, hw⟩; subst hw) | (go_at_call 27; (with_reducible refine (Arm_nil n m _).mono ?_); rintro e w1 ⟨rfl, hw⟩; subst hw) | (go_at_call 24; (with_reducible refine (Crash_nil m _).mono ?_); rintro e w1 ⟨rfl, hw⟩; subst hw) | (go_at_call 25; (with_reducible refine (Recover_nil _).mono ?_); rintro e w1 ⟨rfl, hw⟩; subst hw) | (go_at_call 13; (with_reducible refine (Blocks_nil _).mono ?_); rintro e w1 ⟨rfl, hw⟩; subst hw) | (go_at_call 14; (with_reducible refine (Pending_nil _).mono ?_); rintro e w1 ⟨rfl, hw⟩; subst hw) | (go_at_call 15; (with_reducible refine (Down_nil _).mono ?_); rintro e w1 ⟨rfl, hw⟩; subst hw) | (go_at_call 11; (with_reducible refine HW.out.mono ?_); rintro e w1 ⟨rfl, hb⟩))
  go_ret
  exact ⟨rfl, hb⟩
end Go.Proofs.Ytkgdppjlbjmjoaa.Dk
