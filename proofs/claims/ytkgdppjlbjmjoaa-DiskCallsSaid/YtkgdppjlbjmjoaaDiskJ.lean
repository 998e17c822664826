/- The disk's methods: DiskJ. -/
import Derived.Test.YtkgdppjlbjmjoaaDiskI
namespace Go.Proofs.Ytkgdppjlbjmjoaa.Dk
open Go.RowKit Go.Proofs.Ytkgdppjlbjmjoaa.PAll Go.Proofs.YtkgdppjlbjmjoaaW.PrintWords Go.Proofs.YtkgdppjlbjmjoaaW.PrintLast Go.Proofs.YtkgdppjlbjmjoaaW.PrintMore
set_option linter.unusedVariables false
set_option linter.unusedSimpArgs false
theorem At.drew {w : World} {g gd gm : Nat} {d : DS} (h : At w g gd gm d) : At w.drew g gd gm d := ⟨h.k.drew, h.o⟩
theorem Turn.none {S : Nat → Prop} {w : World} (n : Nat) : Turn S w (w.drewN n) := Turn.of_below (pw_below_drewN (Below.refl _ _) n)
theorem New_ex (n : Nat) (h1 : 1 ≤ n) (h2 : n ≤ 4096) (w : World) : Calls Try.prog 9 #[.int .i64 (n : Int)] w fun e w' => ∃ g gd gm, e = .returned (.tuple #[.pointer (some ⟨g, 0, none⟩), .int .i64 0]) ∧ At w' g gd gm (newD n) ∧ (∀ k, (k = g ∨ k = gd ∨ k = gm) → w.heap.size ≤ k) ∧ (∀ k, (k = g ∨ k = gd ∨ k = gm) → k < w'.heap.size) ∧ Below w.heap.size w w' :=
  (New_at n h1 h2 w).mono fun e w' ⟨g, he, hA, hg, hs, hb⟩ => ⟨g, _, _, he, hA, by rintro k (rfl | rfl | rfl) <;> omega, by rintro k (rfl | rfl | rfl) <;> omega, hb⟩
theorem Down_is {w : World} {g gd gm : Nat} {d : DS} {b : Bool} (h : At w g gd gm d) (hb : d.down = b) : Calls Try.prog 15 #[.pointer (some ⟨g, 0, none⟩)] w fun e w' => e = .returned (.bool b) ∧ w' = w := by
  subst hb
  exact Down_at h
/-- Whether the calls are few and short. -/
theorem short_loop (l : List S42) (hl : l.length ≤ 80) : ∀ d i : Nat, i + d = l.length → ∃ v, Ev (fun k => sawmilllaw56_short.l0 k l (i : Int)) v ∧ (v = true → ∀ j, i ≤ j → j < l.length → (rd_T42 l (j : Int)).f2.size ≤ 100)
  | 0, i, hd => ⟨true, Ev.step (f := fun _ => some true) (fun k => by simp only [sawmilllaw56_short.l0]; rw [if_neg (by omega)]) (Ev.now _), fun _ j h1 h2 => by omega⟩
  | d + 1, i, hd => by
    have ew : wrap64 ((i : Int) + 1) = ((i + 1 : Nat) : Int) := by unfold wrap64; omega
    have q1 : (i : Int) < (l.length : Int) := by omega
    have q2 : (0 : Int) ≤ (i : Int) := by omega
    by_cases c : ((rd_T42 l (i : Int)).f2.size : Int) > 100
    · exact ⟨false, Ev.step (f := fun _ => some false) (fun k => by simp only [sawmilllaw56_short.l0, if_pos q1, if_pos q2, if_pos c]) (Ev.now _), fun h => by cases h⟩
    · obtain ⟨v, h1, h2⟩ := short_loop l hl d (i + 1) (by omega)
      refine ⟨v, Ev.step (fun k => by simp only [sawmilllaw56_short.l0, if_pos q1, if_pos q2, if_neg c, ew]) h1, fun hv j a b => ?_⟩
      by_cases e : j = i
      · subst e; omega
      · exact h2 hv j (by omega) b
theorem short_at (A : Option Addr) (c : Nat) (l : List S42) (w : World) (hr : Kd.C k42 w A l.length l) (hc : l.length ≤ c) : ∃ v : Bool, (v = true → l.length ≤ 80 ∧ ∀ j, j < l.length → (rd_T42 l (j : Int)).f2.size ≤ 100) ∧ Calls Try.prog 16 #[.slice A l.length c] w fun e w' => e = .returned (.bool v) ∧ Drawn0 w w' := by
  by_cases hl : l.length ≤ 80
  · obtain ⟨v, h1, h2⟩ := short_loop l hl l.length 0 (by omega)
    have h3 : Ev (fun k => sawmilllaw56_short.f k l) v := by
      unfold sawmilllaw56_short.f
      simp only [if_neg (show ¬ (l.length : Int) > 80 by omega)]
      exact h1
    obtain ⟨k, hk⟩ := h3.rounds
    exact ⟨v, fun hv => ⟨hl, fun j hj => h2 hv j (Nat.zero_le _) hj⟩, sawmilllaw56_short.calls k A c l v w hr hc hk⟩
  · exact ⟨false, fun h => (by cases h), sawmilllaw56_short.calls 1 A c l false w hr hc (by unfold sawmilllaw56_short.f; rw [if_pos (by omega)])⟩
def armed0 (b : Nat) (n : Int) : DS := ⟨List.replicate b noText, [], false, true, n, 0⟩
theorem arm_new (b : Nat) (n : Int) (h0 : 0 ≤ n) (h1 : n ≤ 100) : armD (newD b) n 0 = (0, armed0 b n) := by
  unfold armD
  rw [if_neg (show ¬ (newD b).down = true by simp [newD]), if_neg (by omega)]
  rfl
theorem step_cases {d : DS} {n : Int} {made i : Nat} (ho : DOk d) (hdn : d.down = false) (har : d.armed = true) (hst : d.steps + made = n) (hpd : d.pend.length ≤ i) :
    ((stepD d).2 = true ∧ n = (made : Int) ∧ (stepD d).1.down = true) ∨ ((stepD d).2 = false ∧ (stepD d).1.down = false ∧ (stepD d).1.armed = true ∧ (0 ≤ (stepD d).1.steps ∧ (stepD d).1.steps + ((made : Int) + 1) = n) ∧ (stepD d).1.pend.length ≤ i) := by
  have h0 := ho.s0
  unfold stepD
  rw [if_pos har]
  by_cases h : d.steps = 0
  · rw [if_pos h]
    exact Or.inl ⟨rfl, by omega, rfl⟩
  · rw [if_neg h]
    refine Or.inr ⟨rfl, hdn, har, ⟨?_, ?_⟩, hpd⟩
    · show 0 ≤ d.steps - 1
      omega
    · show d.steps - 1 + ((made : Int) + 1) = n
      omega
/-- What a step leaves: it crashed, it was made, or it was refused. -/
def StepRes (n : Int) (made i : Nat) (f : Int) (d' : DS) : Prop :=
  (f = 17 ∧ n = (made : Int) ∧ d'.down = true) ∨ (f = 0 ∧ d'.down = false ∧ d'.armed = true ∧ (0 ≤ d'.steps ∧ d'.steps + ((made : Int) + 1) = n) ∧ d'.pend.length ≤ i + 1) ∨ (f = 9 ∧ d'.down = false ∧ d'.armed = true ∧ (0 ≤ d'.steps ∧ d'.steps + (made : Int) = n) ∧ d'.pend.length ≤ i + 1) ∨ (f = 4 ∧ d'.down = false ∧ d'.armed = true ∧ (0 ≤ d'.steps ∧ d'.steps + (made : Int) = n) ∧ d'.pend.length ≤ i + 1)
theorem flush_cases {d : DS} {n : Int} {made i : Nat} (ho : DOk d) (hdn : d.down = false) (har : d.armed = true) (hst : d.steps + made = n) (hpd : d.pend.length ≤ i) : StepRes n made i (flushD d).1 (flushD d).2 := by
  have hd2 : ¬ d.down = true := by rw [hdn]; decide
  have e : flushD d = if (stepD d).2 = true then (17, (stepD d).1) else (0, allD (stepD d).1) := by unfold flushD; rw [if_neg hd2]
  rw [e]
  rcases step_cases ho hdn har hst hpd with ⟨h1, h2, h3⟩ | ⟨h1, h2, h3, h4, h5⟩
  · rw [if_pos h1]; exact Or.inl ⟨rfl, h2, h3⟩
  · rw [if_neg (by rw [h1]; decide)]; exact Or.inr (Or.inl ⟨rfl, h2, h3, h4, Nat.zero_le _⟩)
theorem write_cases {d : DS} {n : Int} {made i : Nat} (N : Int) (s : ByteArray) (ho : DOk d) (hdn : d.down = false) (har : d.armed = true) (hst : d.steps + made = n) (hpd : d.pend.length ≤ i) : StepRes n made i (writeD d N s).1 (writeD d N s).2 := by
  have hd2 : ¬ d.down = true := by rw [hdn]; decide
  have h0 := ho.s0
  unfold writeD
  rw [if_neg hd2]
  by_cases hn : N < 0 ∨ N ≥ (d.dur.length : Int)
  · rw [if_pos hn]; exact Or.inr (Or.inr (Or.inl ⟨rfl, hdn, har, ⟨h0, hst⟩, by show d.pend.length ≤ _; omega⟩))
  · rw [if_neg hn]
    by_cases hs : s.size > 64
    · rw [if_pos hs]; exact Or.inr (Or.inr (Or.inr ⟨rfl, hdn, har, ⟨h0, hst⟩, by show d.pend.length ≤ _; omega⟩))
    · rw [if_neg hs]
      rcases step_cases ho hdn har hst hpd with ⟨h1, h2, h3⟩ | ⟨h1, h2, h3, h4, h5⟩
      · rw [if_pos h1]; exact Or.inl ⟨rfl, h2, h3⟩
      · rw [if_neg (by rw [h1]; decide)]; exact Or.inr (Or.inl ⟨rfl, h2, h3, h4, by show ((stepD d).1.pend ++ [_]).length ≤ _; rw [List.length_append, List.length_singleton]; omega⟩)
set_option maxHeartbeats 4000000 in
set_option maxRecDepth 100000 in
theorem DiskSteps_main (b : Nat) (h1 : 1 ≤ b) (h2 : b ≤ 8) (n : Int) (hn0 : 0 ≤ n) (hn1 : n ≤ 100) (A : Option Addr) (c : Nat) (l : List S42) (w : World) (hr : Kd.C k42 w A l.length l) (hc : l.length ≤ c) (hl : l.length ≤ 80)
    (hsh : Calls Try.prog 16 #[.slice A l.length c] w fun e w' => e = .returned (.bool true) ∧ Drawn0 w w') : Calls Try.prog 7 #[.int .i64 (b : Int), .int .i64 n, .slice A l.length c] w fun e w' => e = .returned (.bool true) ∧ Below w.heap.size w w' := by
  have HSH := Lib.hid hsh
  have HR := Lib.hid hr
  have HC := Lib.hid hc
  have HAR := Lib.hid (arm_new b n hn0 hn1)
  have hb1 : ¬ ((b : Int) < 1) := by omega
  have hb8 : ¬ ((b : Int) > 8) := by omega
  have hnn : ¬ (n < 0) := by omega
  have hnh : ¬ (n > 100) := by omega
  clear hsh hr hc
  go_enter Try.func7, Try.ntmps7
  go_wp2_with (first | (go_at_call 16; (with_reducible refine HSH.out.mono ?_); rintro e w1 ⟨rfl, ⟨nd, rfl⟩⟩) | (go_at_call 9; (with_reducible refine (New_ex b h1 (by omega) _).mono ?_); rintro e w2 ⟨g, gd, gm, rfl, hA, hS, _, hb⟩; have HA := Lib.hid hA; have HB : Hid (Below w.heap.size w w2) := Lib.hid (below_step (pw_below_drewN (Below.refl _ _) _) hb); have HS : Hid (∀ k, (k = g ∨ k = gd ∨ k = gm) → w.heap.size ≤ k) := Lib.hid hS; clear hA hS hb) | (go_at_call 27; (with_reducible refine (Arm_at n 0 (by decide) HA.out).mono ?_); rw [HAR.out]; rintro e w3 ⟨rfl, hA, tT⟩; replace HA := Lib.hid (show At _ _ _ _ (armed0 b n) from hA); replace HB := Lib.hid (tT.below HB.out HS.out); clear hA tT))
  go_loopw [9, 10] (fun a c2 wr => ∃ made i : Nat, i ≤ l.length ∧ a = .int .i64 (made : Int) ∧ c2 = .int .i64 (i : Int) ∧ ∃ d : DS, Hid (At wr g gd gm d) ∧ Hid (Below w.heap.size w wr) ∧ Hid (∀ k, (k = g ∨ k = gd ∨ k = gm) → w.heap.size ≤ k) ∧ Hid (d.down = false ∧ d.armed = true ∧ d.steps + (made : Int) = n ∧ d.pend.length ≤ i)) (fun _ c2 _ => l.length - (intOf c2).toNat)
  case atStart => exact ⟨0, 0, Nat.zero_le _, rfl, rfl, armed0 b n, HA, HB, HS, Lib.hid ⟨rfl, rfl, by show n + ((0 : Nat) : Int) = n; omega, Nat.zero_le _⟩⟩
  case round =>
    clear HA HB HS
    obtain ⟨made, i, hi, rfl, rfl, d, HA, HB, HS, HI⟩ := hrel
    by_cases hlt : i < l.length
    · have hi9 : i < 100 := by omega
      have hstp := HI.out.2.2.1
      have hs0 := HA.out.o.s0
      have hm9 : (made : Int) ≤ 100 := by omega
      have hp6 : d.pend.length < 1000000 := by have := HI.out.2.2.2; omega
      clear hs0 hstp
      have q1 : (i : Int) < (l.length : Int) := by omega
      have p1 : (0 : Int) ≤ (i : Int) := by omega
      obtain ⟨ad, e1, hx0, hx1, hx2, hx3⟩ := at_T42 (Kd.C_below HR.out HB.out) (i : Int) p1 q1
      cases e1
      have hcells : ∀ W' : World, Below w.heap.size w W' → W'.cell? ⟨(ad.add (i * 4)).block, (ad.add (i * 4)).off + 1, none⟩ = some (.int .i64 (rd_T42 l (i : Int)).f1) ∧ W'.cell? ⟨(ad.add (i * 4)).block, (ad.add (i * 4)).off + 2, none⟩ = some (.string (rd_T42 l (i : Int)).f2) := fun W' hb => by
        obtain ⟨ad', e', y0, y1, y2, y3⟩ := at_T42 (Kd.C_below HR.out hb) (i : Int) p1 q1
        injection e' with e'
        subst e'
        simp only [Int.toNat_natCast] at y1 y2
        exact ⟨y1, y2⟩
      simp only [Int.toNat_natCast] at hx0 hx1 hx2 hx3
      generalize rd_T42 l (i : Int) = o at *
      by_cases hk : o.f0 = 1
      · have hres := flush_cases HA.out.o HI.out.1 HI.out.2.1 HI.out.2.2.1 HI.out.2.2.2
        have HF := Lib.hid (Flush_at HA.out)
        generalize flushD d = x at *
        obtain ⟨f, d'⟩ := x
        simp only at hres
        have hk2 : ¬ o.f0 ≠ 1 := by simp [hk]
        rcases hres with ⟨rfl, hmn, hdn⟩ | ⟨rfl, hdn, har, hst, hpd⟩ | ⟨rfl, hdn, har, hst, hpd⟩ | ⟨rfl, hdn, har, hst, hpd⟩
        · subst hmn
          have HDN := Lib.hid hdn
          go_wp2_with (first | (go_at_call 12; (with_reducible refine (Read_at _ HA.out).mono ?_); rintro e wz ⟨rfl, hw⟩; subst hw) | (go_at_call 21; (with_reducible refine HF.out.mono ?_); rintro e w1 ⟨rfl, hA, tT⟩; have HA1 := Lib.hid hA; have HB1 := Lib.hid (tT.below HB.out HS.out); clear hA tT) | (go_at_call 15; (with_reducible refine (Down_is HA1.out HDN.out).mono ?_); rintro e wz ⟨rfl, hw⟩; subst hw) | (go_at_call 11; (with_reducible refine (awake_calls _).mono ?_); rintro e wz ⟨rfl, hbz⟩))
          go_ret
          exact ⟨rfl, below_step HB1.out hbz⟩
        · have HDN := Lib.hid hdn
          have hs0 := hst.1
          have hgt : ¬ ((made : Int) + 1 > n) := by omega
          go_wp2_with (first | (go_at_call 12; (with_reducible refine (Read_at _ HA.out).mono ?_); rintro e wz ⟨rfl, hw⟩; subst hw) | (go_at_call 21; (with_reducible refine HF.out.mono ?_); rintro e w1 ⟨rfl, hA, tT⟩; have HA1 := Lib.hid hA; have HB1 := Lib.hid (tT.below HB.out HS.out); clear hA tT) | (go_at_call 15; (with_reducible refine (Down_is HA1.out HDN.out).mono ?_); rintro e wz ⟨rfl, hw⟩; subst hw) | (go_at_call 11; (with_reducible refine (awake_calls _).mono ?_); rintro e wz ⟨rfl, hbz⟩))
          go_roundw
          case rel => exact ⟨made + 1, i + 1, by omega, by go_num, by go_num, d', HA1, HB1, HS, Lib.hid ⟨hdn, har, by omega, by omega⟩⟩
          case measure => simp [intOf]; omega
        · have HDN := Lib.hid hdn
          have hgt : ¬ ((made : Int) > n) := by omega
          go_wp2_with (first | (go_at_call 12; (with_reducible refine (Read_at _ HA.out).mono ?_); rintro e wz ⟨rfl, hw⟩; subst hw) | (go_at_call 21; (with_reducible refine HF.out.mono ?_); rintro e w1 ⟨rfl, hA, tT⟩; have HA1 := Lib.hid hA; have HB1 := Lib.hid (tT.below HB.out HS.out); clear hA tT) | (go_at_call 15; (with_reducible refine (Down_is HA1.out HDN.out).mono ?_); rintro e wz ⟨rfl, hw⟩; subst hw) | (go_at_call 11; (with_reducible refine (awake_calls _).mono ?_); rintro e wz ⟨rfl, hbz⟩))
          go_roundw
          case rel => exact ⟨made, i + 1, by omega, rfl, by go_num, d', HA1, HB1, HS, Lib.hid ⟨hdn, har, by omega, by omega⟩⟩
          case measure => simp [intOf]; omega
        · have HDN := Lib.hid hdn
          have hgt : ¬ ((made : Int) > n) := by omega
          go_wp2_with (first | (go_at_call 12; (with_reducible refine (Read_at _ HA.out).mono ?_); rintro e wz ⟨rfl, hw⟩; subst hw) | (go_at_call 21; (with_reducible refine HF.out.mono ?_); rintro e w1 ⟨rfl, hA, tT⟩; have HA1 := Lib.hid hA; have HB1 := Lib.hid (tT.below HB.out HS.out); clear hA tT) | (go_at_call 15; (with_reducible refine (Down_is HA1.out HDN.out).mono ?_); rintro e wz ⟨rfl, hw⟩; subst hw) | (go_at_call 11; (with_reducible refine (awake_calls _).mono ?_); rintro e wz ⟨rfl, hbz⟩))
          go_roundw
          case rel => exact ⟨made, i + 1, by omega, rfl, by go_num, d', HA1, HB1, HS, Lib.hid ⟨hdn, har, by omega, by omega⟩⟩
          case measure => simp [intOf]; omega
      · have hres := write_cases o.f1 o.f2 HA.out.o HI.out.1 HI.out.2.1 HI.out.2.2.1 HI.out.2.2.2
        have HF := Lib.hid (Write_at o.f1 o.f2 hp6 HA.out.drew)
        have HBd : Hid (Below w.heap.size w wr.drew) := Lib.hid ⟨HB.out.os, HB.out.tape, HB.out.output, HB.out.size, HB.out.block⟩
        generalize writeD d o.f1 o.f2 = x at *
        obtain ⟨f, d'⟩ := x
        simp only at hres
        rcases hres with ⟨rfl, hmn, hdn⟩ | ⟨rfl, hdn, har, hst, hpd⟩ | ⟨rfl, hdn, har, hst, hpd⟩ | ⟨rfl, hdn, har, hst, hpd⟩
        · subst hmn
          have HDN := Lib.hid hdn
          go_wp2_with (first | (go_at_call 12; (with_reducible refine (Read_at _ HA.out).mono ?_); rintro e wz ⟨rfl, hw⟩; subst hw))
          go_region_held3 (fun w' => w'.cell? ⟨(ad.add (i * 4)).block, (ad.add (i * 4)).off + 1, none⟩ = some (.int .i64 o.f1) ∧ w'.cell? ⟨(ad.add (i * 4)).block, (ad.add (i * 4)).off + 2, none⟩ = some (.string o.f2)) (first | exact hcells _ HB.out | exact hcells _ HBd.out | exact hcells _ HB1.out) (first | (go_at_call 26; (with_reducible refine HF.out.mono ?_); rintro e w1 ⟨rfl, hA, tT⟩; have HA1 := Lib.hid hA; have HB1 := Lib.hid (tT.below HBd.out HS.out); clear hA tT))
          go_wp2_with (first | (go_at_call 15; (with_reducible refine (Down_is HA1.out HDN.out).mono ?_); rintro e wz ⟨rfl, hw⟩; subst hw) | (go_at_call 11; (with_reducible refine (awake_calls _).mono ?_); rintro e wz ⟨rfl, hbz⟩))
          go_ret
          exact ⟨rfl, below_step HB1.out hbz⟩
        · have HDN := Lib.hid hdn
          have hs0 := hst.1
          have hgt : ¬ ((made : Int) + 1 > n) := by omega
          go_wp2_with (first | (go_at_call 12; (with_reducible refine (Read_at _ HA.out).mono ?_); rintro e wz ⟨rfl, hw⟩; subst hw))
          go_region_held3 (fun w' => w'.cell? ⟨(ad.add (i * 4)).block, (ad.add (i * 4)).off + 1, none⟩ = some (.int .i64 o.f1) ∧ w'.cell? ⟨(ad.add (i * 4)).block, (ad.add (i * 4)).off + 2, none⟩ = some (.string o.f2)) (first | exact hcells _ HB.out | exact hcells _ HBd.out | exact hcells _ HB1.out) (first | (go_at_call 26; (with_reducible refine HF.out.mono ?_); rintro e w1 ⟨rfl, hA, tT⟩; have HA1 := Lib.hid hA; have HB1 := Lib.hid (tT.below HBd.out HS.out); clear hA tT))
          go_wp2_with (first | (go_at_call 15; (with_reducible refine (Down_is HA1.out HDN.out).mono ?_); rintro e wz ⟨rfl, hw⟩; subst hw) | (go_at_call 11; (with_reducible refine (awake_calls _).mono ?_); rintro e wz ⟨rfl, hbz⟩))
          go_roundw
          case rel => exact ⟨made + 1, i + 1, by omega, by go_num, by go_num, d', HA1, HB1, HS, Lib.hid ⟨hdn, har, by omega, by omega⟩⟩
          case measure => simp [intOf]; omega
        · have HDN := Lib.hid hdn
          have hgt : ¬ ((made : Int) > n) := by omega
          go_wp2_with (first | (go_at_call 12; (with_reducible refine (Read_at _ HA.out).mono ?_); rintro e wz ⟨rfl, hw⟩; subst hw))
          go_region_held3 (fun w' => w'.cell? ⟨(ad.add (i * 4)).block, (ad.add (i * 4)).off + 1, none⟩ = some (.int .i64 o.f1) ∧ w'.cell? ⟨(ad.add (i * 4)).block, (ad.add (i * 4)).off + 2, none⟩ = some (.string o.f2)) (first | exact hcells _ HB.out | exact hcells _ HBd.out | exact hcells _ HB1.out) (first | (go_at_call 26; (with_reducible refine HF.out.mono ?_); rintro e w1 ⟨rfl, hA, tT⟩; have HA1 := Lib.hid hA; have HB1 := Lib.hid (tT.below HBd.out HS.out); clear hA tT))
          go_wp2_with (first | (go_at_call 15; (with_reducible refine (Down_is HA1.out HDN.out).mono ?_); rintro e wz ⟨rfl, hw⟩; subst hw) | (go_at_call 11; (with_reducible refine (awake_calls _).mono ?_); rintro e wz ⟨rfl, hbz⟩))
          go_roundw
          case rel => exact ⟨made, i + 1, by omega, rfl, by go_num, d', HA1, HB1, HS, Lib.hid ⟨hdn, har, by omega, by omega⟩⟩
          case measure => simp [intOf]; omega
        · have HDN := Lib.hid hdn
          have hgt : ¬ ((made : Int) > n) := by omega
          go_wp2_with (first | (go_at_call 12; (with_reducible refine (Read_at _ HA.out).mono ?_); rintro e wz ⟨rfl, hw⟩; subst hw))
          go_region_held3 (fun w' => w'.cell? ⟨(ad.add (i * 4)).block, (ad.add (i * 4)).off + 1, none⟩ = some (.int .i64 o.f1) ∧ w'.cell? ⟨(ad.add (i * 4)).block, (ad.add (i * 4)).off + 2, none⟩ = some (.string o.f2)) (first | exact hcells _ HB.out | exact hcells _ HBd.out | exact hcells _ HB1.out) (first | (go_at_call 26; (with_reducible refine HF.out.mono ?_); rintro e w1 ⟨rfl, hA, tT⟩; have HA1 := Lib.hid hA; have HB1 := Lib.hid (tT.below HBd.out HS.out); clear hA tT))
          go_wp2_with (first | (go_at_call 15; (with_reducible refine (Down_is HA1.out HDN.out).mono ?_); rintro e wz ⟨rfl, hw⟩; subst hw) | (go_at_call 11; (with_reducible refine (awake_calls _).mono ?_); rintro e wz ⟨rfl, hbz⟩))
          go_roundw
          case rel => exact ⟨made, i + 1, by omega, rfl, by go_num, d', HA1, HB1, HS, Lib.hid ⟨hdn, har, by omega, by omega⟩⟩
          case measure => simp [intOf]; omega
    · go_wp2_with (first | (go_at_call 11; (with_reducible refine (awake_calls _).mono ?_); rintro e wz ⟨rfl, hbz⟩))
      go_ret
      exact ⟨rfl, below_step HB.out hbz⟩
end Go.Proofs.Ytkgdppjlbjmjoaa.Dk
