/- The disk's methods: DiskG. -/
import Derived.Test.YtkgdppjlbjmjoaaDiskF
namespace Go.Proofs.Ytkgdppjlbjmjoaa.Dk
open Go.RowKit Go.Proofs.Ytkgdppjlbjmjoaa.PAll Go.Proofs.YtkgdppjlbjmjoaaW.PrintWords Go.Proofs.YtkgdppjlbjmjoaaW.PrintLast Go.Proofs.YtkgdppjlbjmjoaaW.PrintMore
set_option linter.unusedVariables false
set_option linter.unusedSimpArgs false
def W0 : DS := newD 4
def W1 : DS := (writeD W0 1 ⟨#[97]⟩).2
def W2 : DS := (flushD W1).2
def W3 : DS := (writeD W2 1 ⟨#[98]⟩).2
def W4 : DS := (writeD W3 2 ⟨#[99]⟩).2
def W5 : DS := (hitD W4 2).2
def W6 : DS := (wakeD W5).2
def W7 : DS := (armD W6 1 0).2
def W8 : DS := (writeD W7 0 ⟨#[120]⟩).2
def W9 : DS := (flushD W8).2
def W10 : DS := (writeD W9 4 ⟨#[120]⟩).2
theorem awake_states : ∃ A0 A1 A2 A3 A4 A5 A6 A7 A8 A9 A10 : DS, newD 4 = A0 ∧ (writeD A0 1 ⟨#[97]⟩ = (0, A1)) ∧ (A0.pend.length < 1000000) ∧ (flushD A1 = (0, A2)) ∧ (writeD A2 1 ⟨#[98]⟩ = (0, A3)) ∧ (A2.pend.length < 1000000) ∧ (writeD A3 2 ⟨#[99]⟩ = (0, A4)) ∧ (A3.pend.length < 1000000) ∧ (A4.pend.length = 2) ∧ (readD A4 1 = (⟨#[98]⟩, 0)) ∧ (hitD A4 2 = (0, A5)) ∧ (A5.down = true) ∧ (wakeD A5 = (0, A6)) ∧ (readD A6 1 = (⟨#[97]⟩, 0)) ∧ (readD A6 2 = (⟨#[99]⟩, 0)) ∧ (armD A6 1 0 = (0, A7)) ∧ (writeD A7 0 ⟨#[120]⟩ = (0, A8)) ∧ (A7.pend.length < 1000000) ∧ (flushD A8 = (17, A9)) ∧ (A9.dur.length = 4) ∧ (writeD A9 4 ⟨#[120]⟩ = (17, A10)) ∧ (A9.pend.length < 1000000) :=
  ⟨W0, W1, W2, W3, W4, W5, W6, W7, W8, W9, W10, rfl, rfl, by decide +kernel, rfl, rfl, by decide +kernel, rfl, by decide +kernel, by decide +kernel, by decide +kernel, rfl, by decide +kernel, rfl, by decide +kernel, by decide +kernel, rfl, rfl, by decide +kernel, rfl, by decide +kernel, rfl, by decide +kernel⟩
theorem New4 (w : World) : Calls Try.prog 9 #[.int .i64 4] w fun e w' => ∃ g, e = .returned (.tuple #[.pointer (some ⟨g, 0, none⟩), .int .i64 0]) ∧ At w' g (w.heap.size) (w.heap.size + 1) (newD 4) ∧ w.heap.size + 2 = g ∧ w'.heap.size = g + 1 ∧ Below w.heap.size w w' := New_at 4 (by decide) (by decide) w
set_option maxHeartbeats 2000000 in
set_option maxRecDepth 100000 in
theorem awake_calls (w : World) : Calls Try.prog 11 #[] w fun e w' => e = .returned (.bool true) ∧ Below w.heap.size w w' := by
  obtain ⟨A0, A1, A2, A3, A4, A5, A6, A7, A8, A9, A10, h0, e0, q0, e1, e2, q2, e3, q3, u14, r4_1, e4, u15, e5, r6_1, r6_2, e6, e7, q7, e8, u13, e9, q9⟩ := awake_states
  have E := Lib.hid h0
  clear h0
  have E0 := Lib.hid e0
  clear e0
  have Q0 := Lib.hid q0
  clear q0
  have E1 := Lib.hid e1
  clear e1
  have E2 := Lib.hid e2
  clear e2
  have Q2 := Lib.hid q2
  clear q2
  have E3 := Lib.hid e3
  clear e3
  have Q3 := Lib.hid q3
  clear q3
  have U14 := Lib.hid u14
  clear u14
  have R4_1 := Lib.hid r4_1
  clear r4_1
  have E4 := Lib.hid e4
  clear e4
  have U15 := Lib.hid u15
  clear u15
  have E5 := Lib.hid e5
  clear e5
  have R6_1 := Lib.hid r6_1
  clear r6_1
  have R6_2 := Lib.hid r6_2
  clear r6_2
  have E6 := Lib.hid e6
  clear e6
  have E7 := Lib.hid e7
  clear e7
  have Q7 := Lib.hid q7
  clear q7
  have E8 := Lib.hid e8
  clear e8
  have U13 := Lib.hid u13
  clear u13
  have E9 := Lib.hid e9
  clear e9
  have Q9 := Lib.hid q9
  clear q9
  go_enter Try.func11, Try.ntmps11
  go_wp2_with (first | (go_at_call 9; refine (New4 _).mono ?_; rintro e w1 ⟨g, rfl, hA, hg, hs, hb⟩; rw [E.out] at hA; have HA := Lib.hid hA; have HB := Lib.hid hb; have HT := Lib.hid (Turn.refl (fun k => k = g ∨ k = w.heap.size ∨ k = w.heap.size + 1) w1); have hgn : w.heap.size ≤ g := (by omega); clear hA hg hs hb) | (go_at_call 26; (with_reducible refine (Write_at (d := A0) 1 ⟨#[97]⟩ Q0.out HA.out).mono ?_); rw [E0.out]; rintro e w1 ⟨rfl, hA, tT⟩; replace HA := Lib.hid (show At _ _ _ _ A1 from hA); replace HT := Lib.hid (HT.out.trans tT); clear hA tT) | (go_at_call 21; (with_reducible refine (Flush_at (d := A1)  HA.out).mono ?_); rw [E1.out]; rintro e w2 ⟨rfl, hA, tT⟩; replace HA := Lib.hid (show At _ _ _ _ A2 from hA); replace HT := Lib.hid (HT.out.trans tT); clear hA tT) | (go_at_call 26; (with_reducible refine (Write_at (d := A2) 1 ⟨#[98]⟩ Q2.out HA.out).mono ?_); rw [E2.out]; rintro e w3 ⟨rfl, hA, tT⟩; replace HA := Lib.hid (show At _ _ _ _ A3 from hA); replace HT := Lib.hid (HT.out.trans tT); clear hA tT) | (go_at_call 26; (with_reducible refine (Write_at (d := A3) 2 ⟨#[99]⟩ Q3.out HA.out).mono ?_); rw [E3.out]; rintro e w4 ⟨rfl, hA, tT⟩; replace HA := Lib.hid (show At _ _ _ _ A4 from hA); replace HT := Lib.hid (HT.out.trans tT); clear hA tT) | (go_at_call 14; (with_reducible refine (Pending_at (d := A4) HA.out).mono ?_); rw [U14.out]; rintro e wz ⟨rfl, hw⟩; subst hw) | (go_at_call 12; (with_reducible refine (Read_at (d := A4) 1 HA.out).mono ?_); rw [R4_1.out]; rintro e wz ⟨rfl, hw⟩; subst hw) | (go_at_call 24; (with_reducible refine (Crash_at (d := A4) 2 (by decide) HA.out).mono ?_); rw [E4.out]; rintro e w5 ⟨rfl, hA, tT⟩; replace HA := Lib.hid (show At _ _ _ _ A5 from hA); replace HT := Lib.hid (HT.out.trans tT); clear hA tT) | (go_at_call 15; (with_reducible refine (Down_at (d := A5) HA.out).mono ?_); rw [U15.out]; rintro e wz ⟨rfl, hw⟩; subst hw) | (go_at_call 25; (with_reducible refine (Recover_at (d := A5)  HA.out).mono ?_); rw [E5.out]; rintro e w6 ⟨rfl, hA, tT⟩; replace HA := Lib.hid (show At _ _ _ _ A6 from hA); replace HT := Lib.hid (HT.out.trans tT); clear hA tT) | (go_at_call 12; (with_reducible refine (Read_at (d := A6) 1 HA.out).mono ?_); rw [R6_1.out]; rintro e wz ⟨rfl, hw⟩; subst hw) | (go_at_call 12; (with_reducible refine (Read_at (d := A6) 2 HA.out).mono ?_); rw [R6_2.out]; rintro e wz ⟨rfl, hw⟩; subst hw) | (go_at_call 27; (with_reducible refine (Arm_at (d := A6) 1 0 (by decide) HA.out).mono ?_); rw [E6.out]; rintro e w7 ⟨rfl, hA, tT⟩; replace HA := Lib.hid (show At _ _ _ _ A7 from hA); replace HT := Lib.hid (HT.out.trans tT); clear hA tT) | (go_at_call 26; (with_reducible refine (Write_at (d := A7) 0 ⟨#[120]⟩ Q7.out HA.out).mono ?_); rw [E7.out]; rintro e w8 ⟨rfl, hA, tT⟩; replace HA := Lib.hid (show At _ _ _ _ A8 from hA); replace HT := Lib.hid (HT.out.trans tT); clear hA tT) | (go_at_call 21; (with_reducible refine (Flush_at (d := A8)  HA.out).mono ?_); rw [E8.out]; rintro e w9 ⟨rfl, hA, tT⟩; replace HA := Lib.hid (show At _ _ _ _ A9 from hA); replace HT := Lib.hid (HT.out.trans tT); clear hA tT) | (go_at_call 13; (with_reducible refine (Blocks_at (d := A9) HA.out).mono ?_); rw [U13.out]; rintro e wz ⟨rfl, hw⟩; subst hw) | (go_at_call 26; (with_reducible refine (Write_at (d := A9) 4 ⟨#[120]⟩ Q9.out HA.out).mono ?_); rw [E9.out]; rintro e w10 ⟨rfl, hA, tT⟩; replace HA := Lib.hid (show At _ _ _ _ A10 from hA); replace HT := Lib.hid (HT.out.trans tT); clear hA tT))
  go_ret
  exact ⟨rfl, HT.out.below HB.out (by rintro k (rfl | rfl | rfl) <;> omega)⟩
end Go.Proofs.Ytkgdppjlbjmjoaa.Dk
