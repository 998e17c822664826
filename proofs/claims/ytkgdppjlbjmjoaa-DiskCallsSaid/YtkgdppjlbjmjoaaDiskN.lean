/- Disk: flushed -/
import Derived.Test.YtkgdppjlbjmjoaaDiskM
import Derived.Test.YtkgdppjlbjmjoaaPAllx8
namespace Go.Proofs.Ytkgdppjlbjmjoaa.Dk
open Go.RowKit Go.Proofs.Ytkgdppjlbjmjoaa.PAll Go.Proofs.YtkgdppjlbjmjoaaW.PrintWords Go.Proofs.YtkgdppjlbjmjoaaW.PrintLast Go.Proofs.YtkgdppjlbjmjoaaW.PrintMore
set_option linter.unusedVariables false
set_option linter.unusedSimpArgs false
theorem same_loop (l : List ByteArray) (hl : l.length ≤ 5000) : ∀ d i : Nat, i + d = l.length → Ev (fun k => sawmilllaw56_same.l0 k l l (i : Int)) true
  | 0, i, hd => Ev.step (f := fun _ => some true) (fun k => by simp only [sawmilllaw56_same.l0]; rw [if_neg (by omega)]) (Ev.now _)
  | d + 1, i, hd => by
    have ew : wrap64 ((i : Int) + 1) = ((i + 1 : Nat) : Int) := by unfold wrap64; omega
    have q1 : (i : Int) < (l.length : Int) := by omega
    have q2 : (0 : Int) ≤ (i : Int) := by omega
    refine Ev.step (fun k => ?_) (same_loop l hl d (i + 1) (by omega))
    simp only [sawmilllaw56_same.l0, if_pos q1, if_pos q2, if_true, ew]
theorem same_at {w : World} {b1 b2 : Nat} {ok1 ok2 : Nat → Prop} {u v : Value} {L : List ByteArray} (hl : L.length ≤ 5000) (hu : Kd.R Kd.string 9 w b1 ok1 u L) (hv : Kd.R Kd.string 9 w b2 ok2 v L) : Calls Try.prog 22 #[u, v] w fun e w' => e = .returned (.bool true) ∧ Below w.heap.size w w' := by
  obtain ⟨A, c, rfl⟩ := Kd.R_slice hu
  obtain ⟨A', c', rfl⟩ := Kd.R_slice hv
  have h3 : Ev (fun k => sawmilllaw56_same.f k L L) true := by
    unfold sawmilllaw56_same.f
    simp only [if_true]
    exact same_loop L hl L.length 0 (by omega)
  obtain ⟨k, hk⟩ := h3.rounds
  exact (sawmilllaw56_same.calls k A c L A' c' L true w (Kd.R_reads' hu).2.2 (Kd.R_reads' hu).2.1 (Kd.R_reads' hv).2.2 (Kd.R_reads' hv).2.1 hk).mono fun e w' ⟨he, ⟨nd, hw⟩⟩ => by
    subst hw
    exact ⟨he, pw_below_drewN (Below.refl _ _) _⟩
/-! ### what flushing and crashing leave -/
theorem settle_reads (dur : List ByteArray) (pend : List Wr) (n : Nat) (hn : n < dur.length) (hin : ∀ x ∈ pend, 0 ≤ x.block ∧ x.block < dur.length) : ∀ k, k ≤ pend.length → (settleK (fun _ => true) pend k dur).getD n noText = (seek pend n k).getD (dur.getD n noText)
  | 0, _ => rfl
  | k + 1, hk => by
    have ih := settle_reads dur pend n hn hin k (by omega)
    have hx := hin (pend.getD k ⟨0, noText⟩) (by rw [List.getD_eq_getElem?_getD, List.getElem?_eq_getElem (by omega)]; exact List.getElem_mem _)
    have hlen := settleK_len (fun _ => true) pend dur k
    show ((settleK (fun _ => true) pend k dur).set (pend.getD k ⟨0, noText⟩).block.toNat (pend.getD k ⟨0, noText⟩).text).getD n noText = (if (pend.getD k ⟨0, noText⟩).block = (n : Int) then some (pend.getD k ⟨0, noText⟩).text else seek pend n k).getD (dur.getD n noText)
    generalize pend.getD k ⟨0, noText⟩ = x at *
    by_cases hb : x.block = (n : Int)
    · rw [if_pos hb, hb, Int.toNat_natCast, List.getD_eq_getElem?_getD, List.getElem?_set_self (by omega)]
      rfl
    · rw [if_neg hb, ← ih, List.getD_eq_getElem?_getD, List.getElem?_set_ne (by omega), ← List.getD_eq_getElem?_getD]
theorem cont_of {d d' : DS} (hl : d'.dur.length = d.dur.length) (h : ∀ n : Nat, n < d.dur.length → (readD d' (n : Int)).1 = (readD d (n : Int)).1) : contD d' = contD d := by
  unfold contD
  rw [hl]
  exact List.map_congr_left fun n hn => h n (by have := List.mem_range.1 hn; omega)
theorem read_in {d : DS} (hd : d.down = false) (n : Nat) (hn : n < d.dur.length) : readD d (n : Int) = (readT d.dur d.pend n, 0) := by
  unfold readD
  rw [if_neg (by rw [hd]; decide), if_neg (by omega)]
theorem cont_all {d : DS} (ho : DOk d) (hd : d.down = false) : contD (allD d) = contD d := by
  have hl : (allD d).dur.length = d.dur.length := settleK_len _ _ _ _
  refine cont_of hl fun n hn => ?_
  rw [read_in hd n hn, read_in (d := allD d) hd n (by rw [hl]; exact hn)]
  show (seek [] n 0).getD ((settleK (fun _ => true) d.pend d.pend.length d.dur).getD (n : Int).toNat noText) = (seek d.pend n d.pend.length).getD (d.dur.getD (n : Int).toNat noText)
  rw [Int.toNat_natCast]
  exact settle_reads d.dur d.pend n hn ho.rng _ (Nat.le_refl _)
theorem cont_step {d : DS} (h : (stepD d).2 = false) : contD (stepD d).1 = contD d := by
  unfold stepD at h ⊢
  split
  · rename_i h1
    rw [if_pos h1] at h
    split
    · rename_i h2; rw [if_pos h2] at h; cases h
    · rfl
  · rfl
theorem step_down {d : DS} (h : (stepD d).2 = false) : (stepD d).1.down = d.down := by
  unfold stepD at h ⊢
  split
  · rename_i h1
    rw [if_pos h1] at h
    split
    · rename_i h2; rw [if_pos h2] at h; cases h
    · rfl
  · rfl
theorem step_hit {d : DS} (h : (stepD d).2 = true) : (stepD d).1.down = true := by
  unfold stepD at h ⊢
  split
  · rename_i h1
    rw [if_pos h1] at h
    split
    · rfl
    · rename_i h2; rw [if_neg h2] at h; cases h
  · rename_i h1; rw [if_neg h1] at h; cases h
theorem wake_down (d : DS) : (wakeD d).2.down = false := by
  unfold wakeD
  split
  · rfl
  · rename_i h
    exact Bool.eq_false_iff.2 h
/-- A flush, a crash and a recovery. -/
theorem flushed {d : DS} (ho : DOk d) (hd : d.down = false) (m : Int) : (∃ d1, flushD d = (17, d1) ∧ d1.down = true) ∨ ∃ d1 d2 d3, flushD d = (0, d1) ∧ d1.pend.length = 0 ∧ contD d1 = contD d ∧ hitD d1 m = (0, d2) ∧ d2.pend.length = 0 ∧ wakeD d2 = (0, d3) ∧ contD d3 = contD d := by
  have e : flushD d = if (stepD d).2 = true then (17, (stepD d).1) else (0, allD (stepD d).1) := by unfold flushD; rw [if_neg (by rw [hd]; decide)]
  cases h : (stepD d).2 with
  | true => exact Or.inl ⟨_, by rw [e, if_pos h], step_hit h⟩
  | false =>
    have h1 : (stepD d).1.down = false := (step_down h).trans hd
    have c1 : contD (allD (stepD d).1) = contD d := (cont_all (stepD_ok ho) h1).trans (cont_step h)
    refine Or.inr ⟨allD (stepD d).1, crashD (allD (stepD d).1) m, (wakeD (crashD (allD (stepD d).1) m)).2, by rw [e, if_neg (by rw [h]; decide)], rfl, c1, ?_, rfl, ?_, ?_⟩
    · unfold hitD; rw [if_neg (by show ¬ (stepD d).1.down = true; rw [h1]; decide)]
    · unfold wakeD; rw [if_pos (show (crashD (allD (stepD d).1) m).down = true from rfl)]
    · refine Eq.trans ?_ c1
      refine cont_of rfl fun n hn => ?_
      rw [read_in (d := allD (stepD d).1) h1 n hn, read_in (d := (wakeD (crashD (allD (stepD d).1) m)).2) (wake_down _) n hn]
      rfl
set_option maxHeartbeats 4000000 in
set_option maxRecDepth 100000 in
theorem DiskFlushed_main (b : Nat) (h1 : 1 ≤ b) (h2 : b ≤ 8) (A : Option Addr) (c : Nat) (l : List S42) (m : Int) (w : World) (hr : Kd.C k42 w A l.length l) (hc : l.length ≤ c) (hl : l.length ≤ 80) (hm : ∀ o ∈ l, 0 ≤ o.f3) (hm0 : 0 ≤ m)
    (hsh : Calls Try.prog 16 #[.slice A l.length c] w fun e w' => e = .returned (.bool true) ∧ Drawn0 w w') : Calls Try.prog 5 #[.int .i64 (b : Int), .slice A l.length c, .int .u64 m] w fun e w' => e = .returned (.bool true) ∧ Below w.heap.size w w' := by
  have hb1 : ¬ ((b : Int) < 1) := by omega
  have hb8 : ¬ ((b : Int) > 8) := by omega
  have HSH := Lib.hid (show Calls Try.prog 16 #[.slice A l.length c] w (fun e w' => e = .returned (.bool true) ∧ Below w.heap.size w w') from hsh.mono fun e w' ⟨he, ⟨nd, hw⟩⟩ => by subst hw; exact ⟨he, pw_below_drewN (Below.refl _ _) _⟩)
  have HR := Lib.hid hr
  have HC := Lib.hid hc
  have HM := Lib.hid hm
  clear hsh hr hc hm
  go_enter Try.func5, Try.ntmps5
  go_wp2_with (first | (go_at_call 16; (with_reducible refine HSH.out.mono ?_); rintro e w1 ⟨rfl, hb⟩; have HB1 := Lib.hid hb; clear hb) | (go_at_call 20; (with_reducible refine (play_at b h1 h2 A c l _ (Kd.C_below HR.out HB1.out) HC.out hl HM.out).mono ?_); rintro e w2 ⟨g, gd, gm, v, rfl, hA, hv, hS, hb⟩; have HA := Lib.hid hA; have HV := Lib.hid hv; have HB := Lib.hid (below_step HB1.out hb); have HS : Hid (∀ k, (k = g ∨ k = gd ∨ k = gm) → w.heap.size ≤ k) := Lib.hid (fun k hk => Nat.le_trans HB1.out.size (hS k hk)); clear hA hv hS hb))
  have hpd : (playD b l).down = false := wake_down _
  have hpo := HA.out.o
  have hfl := flushed hpo hpd m
  have hcl : (contD (playD b l)).length ≤ 5000 := by unfold contD; rw [List.length_map, List.length_range]; omega
  have HCL := Lib.hid hcl
  generalize contD (playD b l) = L at *
  generalize playD b l = P at *
  clear hpd hpo hcl
  rcases hfl with ⟨d1, hf, hd1⟩ | ⟨d1, d2, d3, hf, hp1, hk1, hh, hp2, hw, hk3⟩
  · have HFL := Lib.hid (Flush_at HA.out)
    rw [hf] at HFL
    have HDN := Lib.hid hd1
    clear hf hd1
    go_wp2_with (first | (go_at_call 21; (with_reducible refine HFL.out.mono ?_); rintro e w3 ⟨rfl, hA, tT⟩; have HA1 := Lib.hid (show At w3 g gd gm d1 from hA); have HB1 := Lib.hid (tT.below HB.out HS.out); clear hA tT) | (go_at_call 15; (with_reducible refine (Down_is HA1.out HDN.out).mono ?_); rintro e wz ⟨rfl, hw⟩; subst hw) | (go_at_call 11; (with_reducible refine (awake_calls _).mono ?_); rintro e wz ⟨rfl, hbz⟩))
    go_ret
    exact ⟨rfl, below_step HB1.out hbz⟩
  · have HF := Lib.hid hf
    have HP1 := Lib.hid hp1
    have HK1 := Lib.hid hk1
    have HH := Lib.hid hh
    have HP2 := Lib.hid hp2
    have HW := Lib.hid hw
    have HK3 := Lib.hid hk3
    clear hf hp1 hk1 hh hp2 hw hk3
    go_wp2_with (first | (go_at_call 21; (with_reducible refine (Flush_at (d := P)  HA.out).mono ?_); rw [HF.out]; rintro e w3 ⟨rfl, hA, tT⟩; replace HA := Lib.hid (show At w3 g gd gm d1 from hA); replace HB := Lib.hid (tT.below HB.out HS.out); replace HV := Lib.hid (tT.row HV.out (fun _ hk => hk)); clear hA tT) | (go_at_call 14; (with_reducible refine (Pending_at (d := d1) HA.out).mono ?_); rw [HP1.out]; rintro e wz ⟨rfl, hw⟩; subst hw) | (go_at_call 23; (with_reducible refine (contents_at (d := d1) HA.out).mono ?_); rw [HK1.out]; rintro e w4 ⟨u, rfl, hu, hb⟩; have HU := Lib.hid hu; replace HA := Lib.hid (HA.out.below hb); replace HV := Lib.hid (Kd.R_below HV.out hb); replace HB := Lib.hid (below_step HB.out hb); clear hu hb) | (go_at_call 22; (with_reducible refine (same_at HCL.out HU.out HV.out).mono ?_); rintro e w5 ⟨rfl, hb⟩; clear HU; replace HA := Lib.hid (HA.out.below hb); replace HV := Lib.hid (Kd.R_below HV.out hb); replace HB := Lib.hid (below_step HB.out hb); clear hb) | (go_at_call 24; (with_reducible refine (Crash_at (d := d1) m hm0 HA.out).mono ?_); rw [HH.out]; rintro e w3 ⟨rfl, hA, tT⟩; replace HA := Lib.hid (show At w3 g gd gm d2 from hA); replace HB := Lib.hid (tT.below HB.out HS.out); replace HV := Lib.hid (tT.row HV.out (fun _ hk => hk)); clear hA tT) | (go_at_call 14; (with_reducible refine (Pending_at (d := d2) HA.out).mono ?_); rw [HP2.out]; rintro e wz ⟨rfl, hw⟩; subst hw) | (go_at_call 25; (with_reducible refine (Recover_at (d := d2)  HA.out).mono ?_); rw [HW.out]; rintro e w3 ⟨rfl, hA, tT⟩; replace HA := Lib.hid (show At w3 g gd gm d3 from hA); replace HB := Lib.hid (tT.below HB.out HS.out); replace HV := Lib.hid (tT.row HV.out (fun _ hk => hk)); clear hA tT) | (go_at_call 23; (with_reducible refine (contents_at (d := d3) HA.out).mono ?_); rw [HK3.out]; rintro e w4 ⟨u, rfl, hu, hb⟩; have HU := Lib.hid hu; replace HA := Lib.hid (HA.out.below hb); replace HV := Lib.hid (Kd.R_below HV.out hb); replace HB := Lib.hid (below_step HB.out hb); clear hu hb) | (go_at_call 11; (with_reducible refine (awake_calls _).mono ?_); rintro e wz ⟨rfl, hbz⟩))
    go_ret
    exact ⟨rfl, below_step HB.out hbz⟩
end Go.Proofs.Ytkgdppjlbjmjoaa.Dk
