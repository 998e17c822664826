/- The disk's methods: DiskI. -/
import Derived.Test.YtkgdppjlbjmjoaaDiskH
import Derived.Test.YtkgdppjlbjmjoaaPAllx1
namespace Go.Proofs.Ytkgdppjlbjmjoaa.Dk
open Go.RowKit Go.Proofs.Ytkgdppjlbjmjoaa.PAll Go.Proofs.YtkgdppjlbjmjoaaW.PrintWords Go.Proofs.YtkgdppjlbjmjoaaW.PrintLast Go.Proofs.YtkgdppjlbjmjoaaW.PrintMore
set_option linter.unusedVariables false
set_option linter.unusedSimpArgs false
theorem At.below {w w1 : World} {g gd gm : Nat} {d : DS} (h : At w g gd gm d) (hb : Below w.heap.size w w1) : At w1 g gd gm d := ⟨h.k.kept (Turn.of_below (S := fun _ => False) hb) (fun h => h) (fun h => h) (fun h => h), h.o⟩
theorem seek_nil (n : Int) (m : Nat) (hm : m = 0) : seek [] n m = none := by subst hm; rfl
theorem readNew (b : Nat) (n : Int) : readD (newD b) n = (noText, if n < 0 ∨ n ≥ (b : Int) then 9 else 0) := by
  unfold readD
  have e : ((newD b).dur.length : Int) = b := by simp [newD]
  rw [e]
  rw [if_neg (show ¬ (newD b).down = true by simp [newD])]
  split
  · rfl
  · have : readT (newD b).dur (newD b).pend n = noText := by
      show ((none : Option ByteArray).getD ((List.replicate b noText).getD n.toNat noText)) = noText
      simp only [Option.getD_none, List.getD_eq_getElem?_getD, List.getElem?_replicate]
      split <;> rfl
    rw [this]
set_option maxHeartbeats 2000000 in
theorem DiskNew_in (b : Nat) (h1 : 1 ≤ b) (h2 : b ≤ 4096) (n : Int) (w : World) : Calls Try.prog 3 #[.int .i64 (b : Int), .int .i64 n] w fun e w' => e = .returned (.bool true) ∧ Below w.heap.size w w' := by
  have hnt : noText.toList = [] := by decide +kernel
  have hrf : sawmillref56_New.f (b : Int) = some (List.replicate b noText, [], false, false, 0, 0, 0) := by
    unfold sawmillref56_New.f
    rw [if_neg (by omega), if_neg (by omega), if_pos (by omega), if_pos (by omega)]
    simp [noText]
  have HRF := Lib.hid hrf
  have HRN := Lib.hid (readNew b n)
  clear hrf
  go_enter Try.func3, Try.ntmps3
  go_wp2_with (first | (go_at_call 9; (with_reducible refine (New_at b h1 h2 _).mono ?_); rintro e w1 ⟨g, rfl, hA, hg, hs, hb⟩; have HA := Lib.hid hA; have HB := Lib.hid hb; clear hA hg hs hb) | (go_at_call 10; (with_reducible refine (sawmillref56_New.calls (b : Int) _ _ _ _ _ _ _ _ HRF.out).mono ?_); rintro e w2 ⟨v0, v1, rfl, hr0, hr1, hb⟩; obtain ⟨X0, c0, e0⟩ := Kd.R_slice hr0; obtain ⟨X1, c1, e1⟩ := Kd.R_slice hr1; subst e0; subst e1; replace HA := Lib.hid (HA.out.below hb); replace HB := Lib.hid (below_step HB.out hb); clear hr0 hr1 hb))
  have hba := below_alloc (Below.refl w2.heap.size w2) (.cells #[.slice X0 b c0, .slice X1 0 c1, .bool false, .bool false, .int .i64 0, .int .u64 0] 30)
  replace HA := Lib.hid (HA.out.below hba)
  replace HB := Lib.hid (below_step HB.out hba)
  clear hba
  generalize w2.alloc (.cells #[.slice X0 b c0, .slice X1 0 c1, .bool false, .bool false, .int .i64 0, .int .u64 0] 30) = w3 at *
  have HR := Lib.hid (Read_at n HA.out)
  have hR := HR.out
  rw [HRN.out] at hR
  have HBL := Lib.hid (Blocks_at HA.out)
  have hBL := HBL.out
  rw [show (newD b).dur.length = b by simp [newD]] at hBL
  have HPE := Lib.hid (Pending_at HA.out)
  have HDO := Lib.hid (Down_at HA.out)
  have HAW := Lib.hid (awake_calls w3)
  have fin : ∀ (x : Int) (hx : x = if n < 0 ∨ n ≥ (b : Int) then 9 else 0), True := fun _ _ => trivial
  clear fin
  rcases (show n < 0 ∨ (0 ≤ n ∧ n < (b : Int)) ∨ (0 ≤ n ∧ (b : Int) ≤ n) by omega) with hn | ⟨hn, hn2⟩ | ⟨hn, hn2⟩
  · rw [if_pos (by omega)] at hR
    replace HR := Lib.hid hR
    replace HBL := Lib.hid hBL
    clear hR hBL
    go_wp2_with (first | (go_at_call 12; (with_reducible refine HR.out.mono ?_); rintro e wz ⟨rfl, hw⟩; subst hw) | (go_at_call 13; (with_reducible refine HBL.out.mono ?_); rintro e wz ⟨rfl, hw⟩; subst hw) | (go_at_call 14; (with_reducible refine HPE.out.mono ?_); rintro e wz ⟨rfl, hw⟩; subst hw) | (go_at_call 15; (with_reducible refine HDO.out.mono ?_); rintro e wz ⟨rfl, hw⟩; subst hw) | (go_at_call 11; (with_reducible refine HAW.out.mono ?_); rintro e wz ⟨rfl, hbz⟩))
    go_ret
    exact ⟨rfl, below_step HB.out hbz⟩
  · rw [if_neg (by omega)] at hR
    replace HR := Lib.hid hR
    replace HBL := Lib.hid hBL
    clear hR hBL
    go_wp2_with (first | (go_at_call 12; (with_reducible refine HR.out.mono ?_); rintro e wz ⟨rfl, hw⟩; subst hw) | (go_at_call 13; (with_reducible refine HBL.out.mono ?_); rintro e wz ⟨rfl, hw⟩; subst hw) | (go_at_call 14; (with_reducible refine HPE.out.mono ?_); rintro e wz ⟨rfl, hw⟩; subst hw) | (go_at_call 15; (with_reducible refine HDO.out.mono ?_); rintro e wz ⟨rfl, hw⟩; subst hw) | (go_at_call 11; (with_reducible refine HAW.out.mono ?_); rintro e wz ⟨rfl, hbz⟩))
    go_ret
    exact ⟨rfl, below_step HB.out hbz⟩
  · have hn3 : ¬ n < (b : Int) := by omega
    rw [if_pos (by omega)] at hR
    replace HR := Lib.hid hR
    replace HBL := Lib.hid hBL
    clear hR hBL
    go_wp2_with (first | (go_at_call 12; (with_reducible refine HR.out.mono ?_); rintro e wz ⟨rfl, hw⟩; subst hw) | (go_at_call 13; (with_reducible refine HBL.out.mono ?_); rintro e wz ⟨rfl, hw⟩; subst hw) | (go_at_call 14; (with_reducible refine HPE.out.mono ?_); rintro e wz ⟨rfl, hw⟩; subst hw) | (go_at_call 15; (with_reducible refine HDO.out.mono ?_); rintro e wz ⟨rfl, hw⟩; subst hw) | (go_at_call 11; (with_reducible refine HAW.out.mono ?_); rintro e wz ⟨rfl, hbz⟩))
    go_ret
    exact ⟨by show Ending.returned (Value.bool (!decide (n < (b : Int)))) = _; rw [decide_eq_false (show ¬ n < (b : Int) by omega)]; rfl, below_step HB.out hbz⟩

theorem DiskNew_out (b : Int) (hb : b < 1 ∨ b > 4096) (n : Int) (w : World) : Calls Try.prog 3 #[.int .i64 b, .int .i64 n] w fun e w' => e = .returned (.bool true) ∧ Below w.heap.size w w' := by
  have hrf : sawmillref56_New.f b = some ([], [], false, false, 0, 0, 9) := by
    unfold sawmillref56_New.f
    rcases hb with hb | hb
    · rw [if_pos hb]
    · rw [if_neg (by omega), if_pos hb]
  have HRF := Lib.hid hrf
  have HN := Lib.hid (New_out b hb w)
  clear hrf
  go_enter Try.func3, Try.ntmps3
  go_wp2_with (first | (go_at_call 9; (with_reducible refine HN.out.mono ?_); rintro e w1 ⟨rfl, hw⟩; subst hw) | (go_at_call 10; (with_reducible refine (sawmillref56_New.calls b _ _ _ _ _ _ _ _ HRF.out).mono ?_); rintro e w2 ⟨v0, v1, rfl, hr0, hr1, hb⟩; obtain ⟨X0, c0, e0⟩ := Kd.R_slice hr0; obtain ⟨X1, c1, e1⟩ := Kd.R_slice hr1; subst e0; subst e1; have HB := Lib.hid hb; clear hr0 hr1 hb) | (go_at_call 11; (with_reducible refine (awake_calls _).mono ?_); rintro e wz ⟨rfl, hbz⟩))
  go_ret
  exact ⟨rfl, below_step (below_alloc HB.out _) hbz⟩
theorem DiskNew_calls (b n : Int) (w : World) : Calls Try.prog 3 #[.int .i64 b, .int .i64 n] w fun e w' => e = .returned (.bool true) ∧ Below w.heap.size w w' := by
  by_cases hb : b < 1 ∨ b > 4096
  · exact DiskNew_out b hb n w
  · obtain ⟨m, rfl⟩ : ∃ m : Nat, b = (m : Int) := ⟨b.toNat, by omega⟩
    exact DiskNew_in m (by omega) (by omega) n w
end Go.Proofs.Ytkgdppjlbjmjoaa.Dk
