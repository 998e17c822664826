/- A call, and the contents. -/
import Derived.Test.YtkgdppjlbjmjoaaDiskK
namespace Go.Proofs.Ytkgdppjlbjmjoaa.Dk
open Go.RowKit Go.Proofs.Ytkgdppjlbjmjoaa.PAll Go.Proofs.YtkgdppjlbjmjoaaW.PrintWords Go.Proofs.YtkgdppjlbjmjoaaW.PrintLast Go.Proofs.YtkgdppjlbjmjoaaW.PrintMore
set_option linter.unusedVariables false
set_option linter.unusedSimpArgs false
theorem Turn.row {S : Nat → Prop} {w w1 : World} {α : Type} {d : Kd α} {e base : Nat} {ok : Nat → Prop} {v : Value} {xs : List α} (ht : Turn S w w1) (h : d.R e w base ok v xs) (hs : ∀ k, ok k → ¬ S k) : d.R e w1 base ok v xs := Kd.R_step h (fun k hk hl => ht.block k hl (hs k hk))
def doD (d : DS) (f0 f1 : Int) (s : ByteArray) (m : Int) : Int × DS := if f0 = 0 then writeD d f1 s else if f0 = 1 then flushD d else if f0 = 2 then armD d f1 m else if f0 = 3 then hitD d m else wakeD d
theorem do_at {w : World} {g gd gm : Nat} {d : DS} (f0 f1 : Int) (s : ByteArray) (m : Int) (hp : d.pend.length < 1000000) (hm : 0 ≤ m) (h : At w g gd gm d) : Calls Try.prog 18 #[.pointer (some ⟨g, 0, none⟩), .agg #[.int .i64 f0, .int .i64 f1, .string s, .int .u64 m]] w fun e w' => e = .returned (.int .i64 (doD d f0 f1 s m).1) ∧ At w' g gd gm (doD d f0 f1 s m).2 ∧ Turn (fun k => k = g ∨ k = gd ∨ k = gm) w w' := by
  have hb := below_alloc (Below.refl w.heap.size w) (.cells #[.int .i64 f0, .int .i64 f1, .string s, .int .u64 m] 42)
  have hn := blk_new w (.cells #[.int .i64 f0, .int .i64 f1, .string s, .int .u64 m] 42)
  have h2 := h.below hb
  have HT := Lib.hid (Turn.of_below (S := fun k => k = g ∨ k = gd ∨ k = gm) hb)
  have x0 : (w.alloc (.cells #[.int .i64 f0, .int .i64 f1, .string s, .int .u64 m] 42)).cell? ⟨w.heap.size, 0, none⟩ = some (.int .i64 f0) := (blk_cell hn 0).trans rfl
  have x1 : (w.alloc (.cells #[.int .i64 f0, .int .i64 f1, .string s, .int .u64 m] 42)).cell? ⟨w.heap.size, 1, none⟩ = some (.int .i64 f1) := (blk_cell hn 1).trans rfl
  have x2 : (w.alloc (.cells #[.int .i64 f0, .int .i64 f1, .string s, .int .u64 m] 42)).cell? ⟨w.heap.size, 2, none⟩ = some (.string s) := (blk_cell hn 2).trans rfl
  have x3 : (w.alloc (.cells #[.int .i64 f0, .int .i64 f1, .string s, .int .u64 m] 42)).cell? ⟨w.heap.size, 3, none⟩ = some (.int .u64 m) := (blk_cell hn 3).trans rfl
  have HW := Lib.hid (Write_at f1 s hp h2)
  have HF := Lib.hid (Flush_at h2)
  have HM := Lib.hid (Arm_at f1 m hm h2)
  have HC := Lib.hid (Crash_at m hm h2)
  have HR := Lib.hid (Recover_at h2)
  clear hn hb h h2
  unfold doD
  by_cases c0 : f0 = 0
  · rw [if_pos c0]
    subst c0
    go_enter Try.func18, Try.ntmps18
    go_wp2_with (first | (go_at_call 26; (with_reducible refine HW.out.mono ?_); rintro e w1 ⟨rfl, hA, tT⟩) | (go_at_call 21; (with_reducible refine HF.out.mono ?_); rintro e w1 ⟨rfl, hA, tT⟩) | (go_at_call 27; (with_reducible refine HM.out.mono ?_); rintro e w1 ⟨rfl, hA, tT⟩) | (go_at_call 24; (with_reducible refine HC.out.mono ?_); rintro e w1 ⟨rfl, hA, tT⟩) | (go_at_call 25; (with_reducible refine HR.out.mono ?_); rintro e w1 ⟨rfl, hA, tT⟩))
    go_ret
    exact ⟨rfl, hA, HT.out.trans tT⟩
  · rw [if_neg c0]
    by_cases c1 : f0 = 1
    · rw [if_pos c1]
      subst c1
      go_enter Try.func18, Try.ntmps18
      go_wp2_with (first | (go_at_call 26; (with_reducible refine HW.out.mono ?_); rintro e w1 ⟨rfl, hA, tT⟩) | (go_at_call 21; (with_reducible refine HF.out.mono ?_); rintro e w1 ⟨rfl, hA, tT⟩) | (go_at_call 27; (with_reducible refine HM.out.mono ?_); rintro e w1 ⟨rfl, hA, tT⟩) | (go_at_call 24; (with_reducible refine HC.out.mono ?_); rintro e w1 ⟨rfl, hA, tT⟩) | (go_at_call 25; (with_reducible refine HR.out.mono ?_); rintro e w1 ⟨rfl, hA, tT⟩))
      go_ret
      exact ⟨rfl, hA, HT.out.trans tT⟩
    · rw [if_neg c1]
      by_cases c2 : f0 = 2
      · rw [if_pos c2]
        subst c2
        go_enter Try.func18, Try.ntmps18
        go_wp2_with (first | (go_at_call 26; (with_reducible refine HW.out.mono ?_); rintro e w1 ⟨rfl, hA, tT⟩) | (go_at_call 21; (with_reducible refine HF.out.mono ?_); rintro e w1 ⟨rfl, hA, tT⟩) | (go_at_call 27; (with_reducible refine HM.out.mono ?_); rintro e w1 ⟨rfl, hA, tT⟩) | (go_at_call 24; (with_reducible refine HC.out.mono ?_); rintro e w1 ⟨rfl, hA, tT⟩) | (go_at_call 25; (with_reducible refine HR.out.mono ?_); rintro e w1 ⟨rfl, hA, tT⟩))
        go_ret
        exact ⟨rfl, hA, HT.out.trans tT⟩
      · rw [if_neg c2]
        by_cases c3 : f0 = 3
        · rw [if_pos c3]
          subst c3
          go_enter Try.func18, Try.ntmps18
          go_wp2_with (first | (go_at_call 26; (with_reducible refine HW.out.mono ?_); rintro e w1 ⟨rfl, hA, tT⟩) | (go_at_call 21; (with_reducible refine HF.out.mono ?_); rintro e w1 ⟨rfl, hA, tT⟩) | (go_at_call 27; (with_reducible refine HM.out.mono ?_); rintro e w1 ⟨rfl, hA, tT⟩) | (go_at_call 24; (with_reducible refine HC.out.mono ?_); rintro e w1 ⟨rfl, hA, tT⟩) | (go_at_call 25; (with_reducible refine HR.out.mono ?_); rintro e w1 ⟨rfl, hA, tT⟩))
          go_ret
          exact ⟨rfl, hA, HT.out.trans tT⟩
        · rw [if_neg c3]
          go_enter Try.func18, Try.ntmps18
          go_wp2_with (first | (go_at_call 26; (with_reducible refine HW.out.mono ?_); rintro e w1 ⟨rfl, hA, tT⟩) | (go_at_call 21; (with_reducible refine HF.out.mono ?_); rintro e w1 ⟨rfl, hA, tT⟩) | (go_at_call 27; (with_reducible refine HM.out.mono ?_); rintro e w1 ⟨rfl, hA, tT⟩) | (go_at_call 24; (with_reducible refine HC.out.mono ?_); rintro e w1 ⟨rfl, hA, tT⟩) | (go_at_call 25; (with_reducible refine HR.out.mono ?_); rintro e w1 ⟨rfl, hA, tT⟩))
          go_ret
          exact ⟨rfl, hA, HT.out.trans tT⟩
/-- What the blocks read as, at most eight of them. -/
def contD (d : DS) : List ByteArray := (List.range (min d.dur.length 8)).map fun n : Nat => (readD d (n : Int)).1
theorem At.lt {w : World} {g gd gm : Nat} {d : DS} (h : At w g gd gm d) : ∀ k, (k = g ∨ k = gd ∨ k = gm) → k < w.heap.size := by
  obtain ⟨es, c, hm⟩ := h.k.m.blk
  rintro k (rfl | rfl | rfl)
  · exact blk_lt h.k.c
  · exact blk_lt h.k.d
  · exact blk_lt hm
set_option maxHeartbeats 1000000 in
theorem contents_at {w : World} {g gd gm : Nat} {d : DS} (h : At w g gd gm d) : Calls Try.prog 23 #[.pointer (some ⟨g, 0, none⟩)] w fun e w' => ∃ v, e = .returned v ∧ Kd.R Kd.string 9 w' w.heap.size (fun k => w.heap.size ≤ k) v (contD d) ∧ Below w.heap.size w w' := by
  have H := Lib.hid h
  have hl2 := h.o.l2
  clear h
  go_enter Try.func23, Try.ntmps23
  go_wp2
  go_loopw [3, 4] (fun v a wr => ∃ n : Nat, n ≤ min d.dur.length 8 ∧ a = .int .i64 (n : Int) ∧ Hid (Kd.R Kd.string 9 wr w.heap.size (fun k => w.heap.size ≤ k) v ((List.range n).map fun n : Nat => (readD d (n : Int)).1)) ∧ Hid (Below w.heap.size w wr)) (fun _ a _ => 8 - (intOf a).toNat)
  case atStart => exact ⟨0, Nat.zero_le _, rfl, Lib.hid (Kd.R_nil _ _ _ _ _), Lib.hid (Below.refl _ _)⟩
  case round =>
    obtain ⟨n, hn, rfl, HR, HB⟩ := hrel
    have HA := Lib.hid (H.out.below HB.out)
    by_cases hlt : n < min d.dur.length 8
    · have h1 : (n : Int) < (d.dur.length : Int) := by omega
      have h8 : (n : Int) < 8 := by omega
      have hs : ((List.range n).map fun n : Nat => (readD d (n : Int)).1) ++ [(readD d (n : Int)).1] = (List.range (n + 1)).map fun n : Nat => (readD d (n : Int)).1 := by rw [List.range_succ, List.map_append]; rfl
      have hlen : ((List.range n).map fun n : Nat => (readD d (n : Int)).1).length = n := by simp
      generalize ((List.range n).map fun n : Nat => (readD d (n : Int)).1) = L at *
      have HRD := Lib.hid (Read_at (n : Int) HA.out)
      generalize readD d (n : Int) = rd at *
      obtain ⟨s, f⟩ := rd
      obtain ⟨A3, c3, e3⟩ := Kd.R_slice HR.out
      subst e3
      rw [hlen] at HR ⊢
      go_wp2_with (first | (go_at_call 13; (with_reducible refine (Blocks_at HA.out).mono ?_); rintro e wz ⟨rfl, hw⟩; subst hw) | (go_at_call 12; (with_reducible refine HRD.out.mono ?_); rintro e wz ⟨rfl, hw⟩; subst hw) | ((with_reducible refine gate_builtin (b := .append) (xs := #[.tmp 23, .tmp 25]) rfl ?_); at_builtin; refine Kd.R_append Kd.string (w0 := w) w.heap.size rfl (.tmp 23) (.tmp 25) 26 9 (.string ⟨#[]⟩) 16 rfl Try.underlying26 info9 rfl (by decide) (by omega) (.slice A3 n c3) L s [.string s] (fun k => w.heap.size ≤ k) (fun _ => False) rfl rfl ?aP (fun _ hk => hk.elim) (fun k hk => Nat.le_trans HB.out.size hk) ?aO ?aB ?aS ?aL ?_; (case aP => exact rfl); (case aO => exact HR.out); (case aB => exact HB.out); (case aS => exact HB.out.size); (case aL => rw [hlen]; omega); intro vn w6 ho hb hg hat; have HO := Lib.hid ho; have HB6 := Lib.hid hb; clear ho hb hg hat))
      go_roundw
      case rel => exact ⟨n + 1, by omega, by go_num, Lib.hid (by rw [← hs]; exact HO.out), HB6⟩
      case measure => simp [intOf]; omega
    · have hR := HR.out
      obtain ⟨A3, c3, e3⟩ := Kd.R_slice hR
      have hnn : n = min d.dur.length 8 := by omega
      have hR2 : Hid (Kd.R Kd.string 9 wr w.heap.size (fun k => w.heap.size ≤ k) u3 (contD d)) := Lib.hid (by unfold contD; rw [← hnn]; exact hR)
      clear hR e3
      by_cases h1 : (n : Int) < (d.dur.length : Int)
      · have h8 : ¬ (n : Int) < 8 := by omega
        go_wp2_with (first | (go_at_call 13; (with_reducible refine (Blocks_at HA.out).mono ?_); rintro e wz ⟨rfl, hw⟩; subst hw))
        go_ret
        exact ⟨_, rfl, hR2.out, HB.out⟩
      · go_wp2_with (first | (go_at_call 13; (with_reducible refine (Blocks_at HA.out).mono ?_); rintro e wz ⟨rfl, hw⟩; subst hw))
        go_ret
        exact ⟨_, rfl, hR2.out, HB.out⟩
end Go.Proofs.Ytkgdppjlbjmjoaa.Dk
