/- The disk's methods: DiskD. -/
import Derived.Test.YtkgdppjlbjmjoaaDiskC
namespace Go.Proofs.Ytkgdppjlbjmjoaa.Dk
open Go.RowKit Go.Proofs.Ytkgdppjlbjmjoaa.PAll Go.Proofs.YtkgdppjlbjmjoaaW.PrintWords Go.Proofs.YtkgdppjlbjmjoaaW.PrintLast Go.Proofs.YtkgdppjlbjmjoaaW.PrintMore
set_option linter.unusedVariables false
set_option linter.unusedSimpArgs false
def bit (mask : Int) (i : Nat) : Bool := bits BinOp.and IntKind.u64 (mask / 2 ^ (i % 64)) 1 == 1
theorem bit_calls (mb : Nat) (mask : Int) (i : Nat) (hi : i < 1000000) (W : World) (hm0 : 0 ≤ mask) (hc : W.cell? ⟨mb, 0, none⟩ = some (.int .u64 mask)) :
    Calls Try.prog 41 #[.int .i64 (i : Int), .pointer (some ⟨mb, 0, none⟩)] W fun e W' => e = .returned (.bool (bit mask i)) ∧ W' = W := by
  go_enter Try.func41, Try.ntmps41
  go_wp2
  go_ret
  exact ⟨rfl, rfl⟩
theorem all_calls (i : Nat) (W : World) : Calls Try.prog 36 #[.int .i64 (i : Int)] W fun e W' => e = .returned (.bool true) ∧ W' = W := by
  go_enter Try.func36, Try.ntmps36
  go_wp2
  go_ret
  exact ⟨rfl, rfl⟩
section
variable {g gd gm : Nat} {dur : List ByteArray} {pend : List Wr} {down armed : Bool} {steps mask : Int} {w : World}
theorem crash_calls (m : Int) (hm0 : 0 ≤ m) (hp : pend.length ≤ 1000000) (hin : ∀ x ∈ pend, 0 ≤ x.block ∧ x.block < dur.length) (h : DK w g gd gm 0 dur pend down armed steps mask) :
    Calls Try.prog 37 #[.pointer (some ⟨g, 0, none⟩), .int .u64 m] w fun e w' => e = .returned (.tuple #[]) ∧ DK w' g gd gm 0 (settleK (bit m) pend pend.length dur) [] true false steps mask ∧ Turn (fun k => k = g ∨ k = gd ∨ k = gm) w w' := by
  have hb := below_alloc (Below.refl w.heap.size w) (.cells #[.int .u64 m] 28)
  have HT := Lib.hid (Turn.of_below (S := fun k => k = g ∨ k = gd ∨ k = gm) hb)
  have H := Lib.hid (h.kept (Turn.of_below (S := fun _ => False) hb) (fun h => h) (fun h => h) (fun h => h))
  have hgl := blk_lt h.c
  have hdl := blk_lt h.d
  obtain ⟨es, c, hmm⟩ := h.m.blk
  have hml := blk_lt hmm
  have hn := blk_new w (.cells #[.int .u64 m] 28)
  have hk : ∀ (i : Nat) (W : World), i < pend.length → Turn (fun k => k = g ∨ k = gd ∨ k = gm) (w.alloc (.cells #[.int .u64 m] 28)) W → Calls Try.prog 41 #[.int .i64 (i : Int), .pointer (some ⟨w.heap.size, 0, none⟩)] W fun e W' => e = .returned (.bool (bit m i)) ∧ W' = W := fun i W hi hT =>
    bit_calls w.heap.size m i (by omega) W hm0 ((blk_cell (hT.blk hn (by omega)) 0).trans rfl)
  have HS := Lib.hid (settle_mask w.heap.size (bit m) hp hin H.out hk)
  clear h hk hn hmm hp hin hb
  go_enter Try.func37, Try.ntmps37
  go_wp2_with (first | (go_at_call 35; refine HS.out.mono ?_; rintro e w1 ⟨rfl, h1, t1⟩; have H1 := Lib.hid h1; have T1 := Lib.hid t1; have hc2 : w1.cell? ⟨g, 2, none⟩ = some (.bool down) := (blk_cell h1.c 2).trans rfl; have hf2 := blk_frozen h1.c 2; have hc3 : w1.cell? ⟨g, 3, none⟩ = some (.bool armed) := (blk_cell h1.c 3).trans rfl; have hf3 := blk_frozen h1.c 3; clear h1 t1))
  go_end0
  exact ⟨rfl, (H1.out.set 2 (.bool true) rfl).set 3 (.bool false) rfl, Turn.set (Turn.set (HT.out.trans T1.out) (Or.inl rfl) _) (Or.inl rfl) _⟩
theorem step_idle (h : DK w g gd gm 0 dur pend down false steps mask) : Calls Try.prog 34 #[.pointer (some ⟨g, 0, none⟩)] w fun e w' => e = .returned (.bool false) ∧ w' = w := by
  have hc3 : w.cell? ⟨g, 3, none⟩ = some (.bool false) := (blk_cell h.c 3).trans rfl
  clear h
  go_enter Try.func34, Try.ntmps34
  go_wp2
  go_ret
  exact ⟨rfl, rfl⟩
theorem step_crash (hm0 : 0 ≤ mask) (hp : pend.length ≤ 1000000) (hin : ∀ x ∈ pend, 0 ≤ x.block ∧ x.block < dur.length) (h : DK w g gd gm 0 dur pend down true 0 mask) :
    Calls Try.prog 34 #[.pointer (some ⟨g, 0, none⟩)] w fun e w' => e = .returned (.bool true) ∧ DK w' g gd gm 0 (settleK (bit mask) pend pend.length dur) [] true false 0 mask ∧ Turn (fun k => k = g ∨ k = gd ∨ k = gm) w w' := by
  have hc3 : w.cell? ⟨g, 3, none⟩ = some (.bool true) := (blk_cell h.c 3).trans rfl
  have hc4 : w.cell? ⟨g, 4, none⟩ = some (.int .i64 0) := (blk_cell h.c 4).trans rfl
  have hc5 : w.cell? ⟨g, 5, none⟩ = some (.int .u64 mask) := (blk_cell h.c 5).trans rfl
  have HS := Lib.hid (crash_calls mask hm0 hp hin h)
  clear h hp hin
  go_enter Try.func34, Try.ntmps34
  go_wp2_with (first | (go_at_call 37; refine HS.out.mono ?_; rintro e w1 ⟨rfl, h1, t1⟩))
  go_ret
  exact ⟨rfl, h1, t1⟩
theorem step_count (hs0 : 0 < steps) (hs1 : steps ≤ 1099511627776) (h : DK w g gd gm 0 dur pend down true steps mask) :
    Calls Try.prog 34 #[.pointer (some ⟨g, 0, none⟩)] w fun e w' => e = .returned (.bool false) ∧ DK w' g gd gm 0 dur pend down true (steps - 1) mask ∧ Turn (fun k => k = g ∨ k = gd ∨ k = gm) w w' := by
  have hc3 : w.cell? ⟨g, 3, none⟩ = some (.bool true) := (blk_cell h.c 3).trans rfl
  have hc4 : w.cell? ⟨g, 4, none⟩ = some (.int .i64 steps) := (blk_cell h.c 4).trans rfl
  have hf4 := blk_frozen h.c 4
  have hne : ¬ steps = 0 := by omega
  have H := Lib.hid h
  clear h
  go_enter Try.func34, Try.ntmps34
  go_wp2
  go_ret
  exact ⟨rfl, H.out.set 4 _ rfl, Turn.set (Turn.refl _ _) (Or.inl rfl) _⟩
end
end Go.Proofs.Ytkgdppjlbjmjoaa.Dk
