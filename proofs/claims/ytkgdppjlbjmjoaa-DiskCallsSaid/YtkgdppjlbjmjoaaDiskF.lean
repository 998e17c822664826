/- The disk's methods: DiskF. -/
import Derived.Test.YtkgdppjlbjmjoaaDiskE
namespace Go.Proofs.Ytkgdppjlbjmjoaa.Dk
open Go.RowKit Go.Proofs.Ytkgdppjlbjmjoaa.PAll Go.Proofs.YtkgdppjlbjmjoaaW.PrintWords Go.Proofs.YtkgdppjlbjmjoaaW.PrintLast Go.Proofs.YtkgdppjlbjmjoaaW.PrintMore
set_option linter.unusedVariables false
set_option linter.unusedSimpArgs false
section
variable {g gd gm : Nat} {d : DS} {w : World}
theorem Write_out (n : Int) (s : ByteArray) (hd : d.down = false) (hn : n < 0 ∨ n ≥ (d.dur.length : Int)) (h : At w g gd gm d) : Calls Try.prog 26 #[.pointer (some ⟨g, 0, none⟩), .int .i64 n, .string s] w fun e w' => e = .returned (.int .i64 9) ∧ w' = w := by
  have H := Lib.hid h
  have HD := Lib.hid hd
  have hc : w.cell? ⟨g, 0, none⟩ = some (.slice (some ⟨gd, 0, none⟩) d.dur.length d.dur.length) := (blk_cell h.k.c 0).trans rfl
  clear h hd
  rcases hn with hn | hn
  · go_enter Try.func26, Try.ntmps26
    go_wp2_with (first | (go_at_call 28; refine (state_calls H.out.k).mono ?_; rintro e w1 ⟨rfl, hw1⟩; subst hw1; rw [HD.out]))
    go_ret
    exact ⟨rfl, rfl⟩
  · have hn2 : ¬ n < 0 := by omega
    go_enter Try.func26, Try.ntmps26
    go_wp2_with (first | (go_at_call 28; refine (state_calls H.out.k).mono ?_; rintro e w1 ⟨rfl, hw1⟩; subst hw1; rw [HD.out]))
    go_ret
    exact ⟨rfl, rfl⟩
theorem Write_long (n : Nat) (s : ByteArray) (hd : d.down = false) (hn : n < d.dur.length) (hs : s.size > 64) (h : At w g gd gm d) : Calls Try.prog 26 #[.pointer (some ⟨g, 0, none⟩), .int .i64 (n : Int), .string s] w fun e w' => e = .returned (.int .i64 4) ∧ w' = w := by
  have H := Lib.hid h
  have HD := Lib.hid hd
  have hc : w.cell? ⟨g, 0, none⟩ = some (.slice (some ⟨gd, 0, none⟩) d.dur.length d.dur.length) := (blk_cell h.k.c 0).trans rfl
  clear h hd
  go_enter Try.func26, Try.ntmps26
  go_wp2_with (first | (go_at_call 28; refine (state_calls H.out.k).mono ?_; rintro e w1 ⟨rfl, hw1⟩; subst hw1; rw [HD.out]))
  go_ret
  exact ⟨rfl, rfl⟩
theorem Write_nil (n : Int) (s : ByteArray) (w : World) : Calls Try.prog 26 #[.pointer none, .int .i64 n, .string s] w fun e w' => e = .returned (.int .i64 1) ∧ w' = w := by
  go_enter Try.func26, Try.ntmps26
  go_wp2_with (first | (go_at_call 28; refine (state_nil _).mono ?_; rintro e w1 ⟨rfl, rfl⟩))
  go_ret
  exact ⟨rfl, rfl⟩
theorem Write_at (n : Int) (s : ByteArray) (hp : d.pend.length < 1000000) (h : At w g gd gm d) : Calls Try.prog 26 #[.pointer (some ⟨g, 0, none⟩), .int .i64 n, .string s] w fun e w' => e = .returned (.int .i64 (writeD d n s).1) ∧ At w' g gd gm (writeD d n s).2 ∧ Turn (fun k => k = g ∨ k = gd ∨ k = gm) w w' := by
  cases hd : d.down with
  | true =>
    have e : writeD d n s = (17, d) := by unfold writeD; rw [if_pos hd]
    rw [e]
    exact (Write_down n s hd h).mono fun e w' ⟨he, hw⟩ => by subst hw; exact ⟨he, h, Turn.refl _ _⟩
  | false =>
    have hd2 : ¬ d.down = true := by rw [hd]; decide
    by_cases hn : n < 0 ∨ n ≥ (d.dur.length : Int)
    · have e : writeD d n s = (9, d) := by unfold writeD; rw [if_neg hd2, if_pos hn]
      rw [e]
      exact (Write_out n s hd hn h).mono fun e w' ⟨he, hw⟩ => by subst hw; exact ⟨he, h, Turn.refl _ _⟩
    · obtain ⟨m, rfl⟩ : ∃ m : Nat, n = (m : Int) := ⟨n.toNat, by omega⟩
      by_cases hs : s.size > 64
      · have e : writeD d (m : Int) s = (4, d) := by unfold writeD; rw [if_neg hd2, if_neg hn, if_pos hs]
        rw [e]
        exact (Write_long m s hd (by omega) hs h).mono fun e w' ⟨he, hw⟩ => by subst hw; exact ⟨he, h, Turn.refl _ _⟩
      · exact Write_ok m s hd (by omega) (by omega) hp h
theorem Flush_nil (w : World) : Calls Try.prog 21 #[.pointer none] w fun e w' => e = .returned (.int .i64 1) ∧ w' = w := by
  go_enter Try.func21, Try.ntmps21
  go_wp2_with (first | (go_at_call 28; refine (state_nil _).mono ?_; rintro e w1 ⟨rfl, rfl⟩))
  go_ret
  exact ⟨rfl, rfl⟩
theorem Flush_at (h : At w g gd gm d) : Calls Try.prog 21 #[.pointer (some ⟨g, 0, none⟩)] w fun e w' => e = .returned (.int .i64 (flushD d).1) ∧ At w' g gd gm (flushD d).2 ∧ Turn (fun k => k = g ∨ k = gd ∨ k = gm) w w' := by
  have H := Lib.hid h
  cases hd : d.down with
  | true =>
    have e : flushD d = (17, d) := by unfold flushD; rw [if_pos hd]
    rw [e]
    have HD := Lib.hid hd
    clear h hd e
    go_enter Try.func21, Try.ntmps21
    go_wp2_with (first | (go_at_call 28; refine (state_calls H.out.k).mono ?_; rintro e w1 ⟨rfl, hw1⟩; subst hw1; rw [HD.out]))
    go_ret
    exact ⟨rfl, H.out, Turn.refl _ _⟩
  | false =>
    have hd2 : ¬ d.down = true := by rw [hd]; decide
    have e : flushD d = if (stepD d).2 = true then (17, (stepD d).1) else (0, allD (stepD d).1) := by unfold flushD; rw [if_neg hd2]
    rw [e]
    have HS := Lib.hid (step_at h)
    have HD := Lib.hid hd
    generalize stepD d = x at *
    obtain ⟨d1, b⟩ := x
    clear h hd hd2 e
    go_enter Try.func21, Try.ntmps21
    cases b with
    | true =>
      go_wp2_with (first | (go_at_call 28; refine (state_calls H.out.k).mono ?_; rintro e w1 ⟨rfl, hw1⟩; subst hw1; rw [HD.out]) | (go_at_call 34; refine HS.out.mono ?_; rintro e w1 ⟨rfl, h1, t1⟩))
      go_ret
      exact ⟨rfl, h1, t1⟩
    | false =>
      go_wp2_with (first | (go_at_call 28; refine (state_calls H.out.k).mono ?_; rintro e w1 ⟨rfl, hw1⟩; subst hw1; rw [HD.out]) | (go_at_call 34; refine HS.out.mono ?_; rintro e w1 ⟨rfl, h1, t1⟩; have H1 := Lib.hid h1; have T1 := Lib.hid t1; clear h1 t1) | (go_at_call 35; refine (settle_all (fun _ => true) H1.out.o.pl H1.out.o.rng H1.out.k (fun i W _ _ => all_calls i W)).mono ?_; rintro e w2 ⟨rfl, h2, t2⟩))
      go_ret
      exact ⟨rfl, ⟨h2, allD_ok H1.out.o⟩, T1.out.trans t2⟩
theorem Arm_nil (n m : Int) (w : World) : Calls Try.prog 27 #[.pointer none, .int .i64 n, .int .u64 m] w fun e w' => e = .returned (.int .i64 1) ∧ w' = w := by
  go_enter Try.func27, Try.ntmps27
  go_wp2_with (first | (go_at_call 28; refine (state_nil _).mono ?_; rintro e w1 ⟨rfl, rfl⟩))
  go_ret
  exact ⟨rfl, rfl⟩
theorem Arm_at (n m : Int) (hm : 0 ≤ m) (h : At w g gd gm d) : Calls Try.prog 27 #[.pointer (some ⟨g, 0, none⟩), .int .i64 n, .int .u64 m] w fun e w' => e = .returned (.int .i64 (armD d n m).1) ∧ At w' g gd gm (armD d n m).2 ∧ Turn (fun k => k = g ∨ k = gd ∨ k = gm) w w' := by
  have H := Lib.hid h
  have hc3 : w.cell? ⟨g, 3, none⟩ = some (.bool d.armed) := (blk_cell h.k.c 3).trans rfl
  have hc4 : w.cell? ⟨g, 4, none⟩ = some (.int .i64 d.steps) := (blk_cell h.k.c 4).trans rfl
  have hc5 : w.cell? ⟨g, 5, none⟩ = some (.int .u64 d.mask) := (blk_cell h.k.c 5).trans rfl
  have hf3 := blk_frozen h.k.c 3
  have hf4 := blk_frozen h.k.c 4
  have hf5 := blk_frozen h.k.c 5
  cases hd : d.down with
  | true =>
    have e : armD d n m = (17, d) := by unfold armD; rw [if_pos hd]
    rw [e]
    have HD := Lib.hid hd
    clear h hd e hm
    go_enter Try.func27, Try.ntmps27
    go_wp2_with (first | (go_at_call 28; refine (state_calls H.out.k).mono ?_; rintro e w1 ⟨rfl, hw1⟩; subst hw1; rw [HD.out]))
    go_ret
    exact ⟨rfl, H.out, Turn.refl _ _⟩
  | false =>
    have hd2 : ¬ d.down = true := by rw [hd]; decide
    have HD := Lib.hid hd
    by_cases hn : n < 0 ∨ n > 1099511627776
    · have e : armD d n m = (9, d) := by unfold armD; rw [if_neg hd2, if_pos hn]
      rw [e]
      clear h hd hd2 e hm
      rcases hn with hn | hn
      · go_enter Try.func27, Try.ntmps27
        go_wp2_with (first | (go_at_call 28; refine (state_calls H.out.k).mono ?_; rintro e w1 ⟨rfl, hw1⟩; subst hw1; rw [HD.out]))
        go_ret
        exact ⟨rfl, H.out, Turn.refl _ _⟩
      · have hn2 : ¬ n < 0 := by omega
        go_enter Try.func27, Try.ntmps27
        go_wp2_with (first | (go_at_call 28; refine (state_calls H.out.k).mono ?_; rintro e w1 ⟨rfl, hw1⟩; subst hw1; rw [HD.out]))
        go_ret
        exact ⟨rfl, H.out, Turn.refl _ _⟩
    · have e : armD d n m = (0, ⟨d.dur, d.pend, d.down, true, n, m⟩) := by unfold armD; rw [if_neg hd2, if_neg hn]
      rw [e]
      have hn1 : ¬ n < 0 := fun h => hn (Or.inl h)
      have hn2 : ¬ n > 1099511627776 := fun h => hn (Or.inr h)
      have HO : DOk ⟨d.dur, d.pend, d.down, true, n, m⟩ := ⟨h.o.l1, h.o.l2, h.o.pl, h.o.rng, by show 0 ≤ n; omega, by show n ≤ _; omega, hm⟩
      clear h hd hd2 e hm hn
      go_enter Try.func27, Try.ntmps27
      go_wp2_with (first | (go_at_call 28; refine (state_calls H.out.k).mono ?_; rintro e w1 ⟨rfl, hw1⟩; subst hw1; rw [HD.out]))
      go_ret
      exact ⟨rfl, ⟨((H.out.k.set 3 (.bool true) rfl).set 4 (.int .i64 n) rfl).set 5 (.int .u64 m) rfl, HO⟩, Turn.set (Turn.set (Turn.set (Turn.refl _ _) (Or.inl rfl) _) (Or.inl rfl) _) (Or.inl rfl) _⟩
theorem Crash_nil (m : Int) (w : World) : Calls Try.prog 24 #[.pointer none, .int .u64 m] w fun e w' => e = .returned (.int .i64 1) ∧ w' = w := by
  go_enter Try.func24, Try.ntmps24
  go_wp2_with (first | (go_at_call 28; refine (state_nil _).mono ?_; rintro e w1 ⟨rfl, rfl⟩))
  go_ret
  exact ⟨rfl, rfl⟩
theorem Crash_at (m : Int) (hm : 0 ≤ m) (h : At w g gd gm d) : Calls Try.prog 24 #[.pointer (some ⟨g, 0, none⟩), .int .u64 m] w fun e w' => e = .returned (.int .i64 (hitD d m).1) ∧ At w' g gd gm (hitD d m).2 ∧ Turn (fun k => k = g ∨ k = gd ∨ k = gm) w w' := by
  have H := Lib.hid h
  cases hd : d.down with
  | true =>
    have e : hitD d m = (17, d) := by unfold hitD; rw [if_pos hd]
    rw [e]
    have HD := Lib.hid hd
    clear h hd e
    go_enter Try.func24, Try.ntmps24
    go_wp2_with (first | (go_at_call 28; refine (state_calls H.out.k).mono ?_; rintro e w1 ⟨rfl, hw1⟩; subst hw1; rw [HD.out]))
    go_ret
    exact ⟨rfl, H.out, Turn.refl _ _⟩
  | false =>
    have hd2 : ¬ d.down = true := by rw [hd]; decide
    have e : hitD d m = (0, crashD d m) := by unfold hitD; rw [if_neg hd2]
    rw [e]
    have HD := Lib.hid hd
    have HC := Lib.hid (crash_calls m hm h.o.pl h.o.rng h.k)
    have HO := Lib.hid (crashD_ok h.o m)
    clear h hd hd2 e
    go_enter Try.func24, Try.ntmps24
    go_wp2_with (first | (go_at_call 28; refine (state_calls H.out.k).mono ?_; rintro e w1 ⟨rfl, hw1⟩; subst hw1; rw [HD.out]) | (go_at_call 37; refine HC.out.mono ?_; rintro e w1 ⟨rfl, h1, t1⟩))
    go_ret
    exact ⟨rfl, ⟨h1, HO.out⟩, t1⟩
theorem Recover_at (h : At w g gd gm d) : Calls Try.prog 25 #[.pointer (some ⟨g, 0, none⟩)] w fun e w' => e = .returned (.int .i64 (wakeD d).1) ∧ At w' g gd gm (wakeD d).2 ∧ Turn (fun k => k = g ∨ k = gd ∨ k = gm) w w' := by
  obtain ⟨dur, pend, down, armed, steps, mask⟩ := d
  obtain ⟨k, o⟩ := h
  have HO : DOk ⟨dur, pend, false, armed, steps, mask⟩ := ⟨o.l1, o.l2, o.pl, o.rng, o.s0, o.s1, o.m0⟩
  cases down with
  | true => exact (Recover_calls k).mono fun e w' ⟨he, h1, t1⟩ => ⟨he, ⟨h1, HO⟩, t1.mono (fun _ _ e => Or.inl e)⟩
  | false => exact (Recover_calls k).mono fun e w' ⟨he, h1, t1⟩ => ⟨he, ⟨h1, HO⟩, t1.mono (fun _ _ e => Or.inl e)⟩
theorem Blocks_at (h : At w g gd gm d) : Calls Try.prog 13 #[.pointer (some ⟨g, 0, none⟩)] w fun e w' => e = .returned (.int .i64 d.dur.length) ∧ w' = w := Blocks_calls h.k
theorem Pending_at (h : At w g gd gm d) : Calls Try.prog 14 #[.pointer (some ⟨g, 0, none⟩)] w fun e w' => e = .returned (.int .i64 d.pend.length) ∧ w' = w := Pending_calls h.k
theorem Down_at (h : At w g gd gm d) : Calls Try.prog 15 #[.pointer (some ⟨g, 0, none⟩)] w fun e w' => e = .returned (.bool d.down) ∧ w' = w := Down_calls h.k
def newD (n : Nat) : DS := ⟨List.replicate n noText, [], false, false, 0, 0⟩
theorem newD_ok (n : Nat) (h1 : 1 ≤ n) (h2 : n ≤ 4096) : DOk (newD n) := ⟨by simpa [newD] using h1, by simpa [newD] using h2, by simp [newD], fun x hx => (by cases hx), by simp [newD], by simp [newD], by simp [newD]⟩
theorem New_out (n : Int) (hn : n < 1 ∨ n > 4096) (w : World) : Calls Try.prog 9 #[.int .i64 n] w fun e w' => e = .returned (.tuple #[.pointer none, .int .i64 9]) ∧ w' = w := by
  rcases hn with hn | hn
  · go_enter Try.func9, Try.ntmps9
    go_wp2
    go_ret2
    exact ⟨rfl, rfl⟩
  · have hn2 : ¬ n < 1 := by omega
    go_enter Try.func9, Try.ntmps9
    go_wp2
    go_ret2
    exact ⟨rfl, rfl⟩
theorem made_texts (n : Nat) : madeCells (Value.string ⟨#[]⟩).cells (n * 1) = ((List.replicate n noText).map Value.string).toArray := by
  apply Array.ext
  · simp [size_madeCells]
  · intro i h1 h2
    simp [madeCells, Value.cells, Nat.mod_one, noText]
theorem make_run (n : Nat) (hn : n ≤ 4096) (w : World) : (Instr.makeSlice 26 (.int .i64 (n : Int)) (.int .i64 (n : Int))).run Try.prog w = .ok (.slice (some ⟨w.heap.size, 0, none⟩) n n) (w.alloc (.cells ((List.replicate n noText).map Value.string).toArray 9)) := by
  obtain ⟨i, hi, hz, hs, hb⟩ := info_parts info9
  have h := run_make (P := Try.prog) w 26 9 i _ Try.underlying26 hi hz .i64 .i64 (n : Int) (n : Int) (by omega) (by omega) (by rw [hb]; omega) (by omega)
  rw [hs] at h
  simp only [Int.toNat_natCast] at h
  rw [made_texts] at h
  exact h
theorem New_at (n : Nat) (h1 : 1 ≤ n) (h2 : n ≤ 4096) (w : World) : Calls Try.prog 9 #[.int .i64 (n : Int)] w fun e w' => ∃ g, e = .returned (.tuple #[.pointer (some ⟨g, 0, none⟩), .int .i64 0]) ∧ At w' g (w.heap.size) (w.heap.size + 1) (newD n) ∧ w.heap.size + 2 = g ∧ w'.heap.size = g + 1 ∧ Below w.heap.size w w' := by
  have hmk := make_run n h2 w
  have hmm : ∀ W : World, (Instr.makeMap 57 none).run Try.prog W = .ok (.map (some W.heap.size)) (W.alloc (.map #[] 0)) := fun W => run_makeMap 57 W
  go_enter Try.func9, Try.ntmps9
  go_wp2
  have hx : Array.replicate n (Value.string noText) = ((newD n).dur.map Value.string).toArray := by simp [newD]
  rw [hx]
  have hs2 : ((w.alloc (.cells ((newD n).dur.map Value.string).toArray 9)).alloc (.map #[] 0)).heap.size = w.heap.size + 1 + 1 := by simp
  have hs1 : (w.alloc (.cells ((newD n).dur.map Value.string).toArray 9)).heap.size = w.heap.size + 1 := by simp
  have b3 := blk_new ((w.alloc (.cells ((newD n).dur.map Value.string).toArray 9)).alloc (.map #[] 0)) (.cells (dcs w.heap.size (w.heap.size + 1) n false false 0 0) 59)
  rw [hs2] at b3
  have b2 := (PMap.made (w.alloc (.cells ((newD n).dur.map Value.string).toArray 9)))
  rw [hs1] at b2
  have b1 := blk_new w (.cells ((newD n).dur.map Value.string).toArray 9)
  have hlen : (newD n).dur.length = n := by simp [newD]
  have K : DK (((w.alloc (.cells ((newD n).dur.map Value.string).toArray 9)).alloc (.map #[] 0)).alloc (.cells (dcs w.heap.size (w.heap.size + 1) n false false 0 0) 59)) (w.heap.size + 1 + 1) w.heap.size (w.heap.size + 1) 0 (newD n).dur [] false false 0 0 := by
    refine ⟨by rw [hlen]; exact b3, blk_alloc (blk_alloc b1 _) _, b2.kept ?_⟩
    obtain ⟨es, c, hm⟩ := b2.blk
    exact (blk_alloc hm _).trans hm.symm
  have HB := below_alloc (below_alloc (below_alloc (Below.refl w.heap.size w) (.cells ((newD n).dur.map Value.string).toArray 9)) (.map #[] 0)) (.cells (dcs w.heap.size (w.heap.size + 1) n false false 0 0) 59)
  go_ret2
  exact ⟨w.heap.size + 1 + 1, rfl, ⟨K, newD_ok n h1 h2⟩, rfl, by simp, HB⟩
end
end Go.Proofs.Ytkgdppjlbjmjoaa.Dk
